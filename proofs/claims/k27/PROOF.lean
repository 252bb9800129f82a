import PyProof.Rows.All
import Wide.All
import OpenK.AllK
import Wide.FinOn
import HandS.ForMost
import HandS.IsInst
import HandS.Star
import HandS.TupAny
import HandS.Deep
import HandS.Exc
import HandS.Lambda
import HandS.TryOnly
import HandS.Iter
import HandS.Steps
import HandS.Style
import HandS.TupMul
import HandS.DictComp
import HandS.Conv
import HandS.Zip
import PyProof.Rows.NestShow
import KE.KRevSl
import PyProof.Rows.StrMeet
import KE.KExcSuper
import KE.KSuper
import HandS.ExcIs
import KE.KExcIs
import HandS.Nested
import KE.KDflt
import HandS.EndTab
import HandS.SortKw
import HandS.NestedK
import KE.SortKeyHeap
import HandS.Defaults
import HandS.Flow
import PySem.Challenge.RW_modulesmeet_k27_types_refused
set_option Elab.async false
set_option linter.all false
set_option autoImplicit false
set_option maxRecDepth 100000
set_option maxHeartbeats 4000000
/-! DL1: plain data and a store over the hand layer: what stands for what, and what is kept. -/
namespace DL
open PySem PySem.Spec PyProof.Rows L2

abbrev D := PyData
/-- an error: its class, its fields -/
structure Ex where
  cls : Str
  fs : List (Str × D)
/-- a value: plain data that nobody changes, or a place of the store; the script; an error that was caught -/
inductive W where
  | d (x : D)
  | r (n : Nat)
  | s (ns : List Int)
  | e (x : Ex)
/-- what stands at a place of the store: a list, a dict that may change; an instance of an own class; a tuple of what may change; nothing more -/
inductive Ob where
  | lst (ws : List W)
  | dct (kvs : List (Key × W))
  | obj (c : Str) (fs : List (Str × W))
  | tup (ws : List W)
  | tab (P : Addr) (q : Str)
  | dfz (kvs : List (Key × W))
  | dead
def Ob.live : Ob → Bool
  | .dead => false
  | _ => true
/-- .. that is not frozen while it is walked -/
def Ob.hard : Ob → Bool
  | .dead => false
  | .dfz _ => false
  | .tab _ _ => false
  | _ => true
theorem Ob.hard_live {o : Ob} (h : o.hard = true) : o.live = true := by cases o <;> first | rfl | cases h
abbrev Sto := List Ob
inductive Res (α : Type) where
  | ok (a : α) (S : Sto)
  | ex (x : Ex) (S : Sto)
  | no
abbrev M (α : Type) := Sto → Res α
def pr {α : Type} (a : α) : M α := fun S => .ok a S
def bd {α β : Type} (m : M α) (f : α → M β) : M β := fun S => match m S with
  | .ok a S' => f a S'
  | .ex x S' => .ex x S'
  | .no => .no
def no {α : Type} : M α := fun _ => .no
def Gives {α : Type} (x : Res α) (P : α → Sto → Prop) (E : Ex → Sto → Prop) : Prop := match x with
  | .ok a S => P a S
  | .ex x S => E x S
  | .no => False
theorem gives_bd {α β : Type} {m : M α} {f : α → M β} {S : Sto} {P : β → Sto → Prop} {E : Ex → Sto → Prop} (h : Gives (bd m f S) P E) : Gives (m S) (fun a S' => Gives (f a S') P E) E := by
  unfold bd at h
  cases e : m S with
  | ok a S' => rw [e] at h; exact h
  | ex x S' => rw [e] at h; exact h
  | no => rw [e] at h; exact h
theorem gives_imp {α : Type} {x : Res α} {P P' : α → Sto → Prop} {E E' : Ex → Sto → Prop} (h : Gives x P E) (hp : ∀ a S, P a S → P' a S) (he : ∀ a S, E a S → E' a S) : Gives x P' E' := by
  cases x with
  | ok a S => exact hp _ _ h
  | ex x S => exact he _ _ h
  | no => exact h

/-! ### what stands for what -/
def SqLw (K : PySem.W.Frag) (a : Addr) (xs : List V) : Prop :=
  ∃ (o : Obj) (its : Array Value) (n : Nat), K.lookup a = some o ∧ o.cls = .type "list" ∧ o.dict = none ∧ o.data = .seq its n ∧ its.size ≤ sizeLine ∧ Vals xs its.toList
def SqTw (K : PySem.W.Frag) (a : Addr) (xs : List V) : Prop :=
  ∃ (o : Obj) (its : Array Value) (n : Nat), K.lookup a = some o ∧ o.cls = .type "tuple" ∧ o.data = .seq its n ∧ its.size ≤ sizeLine ∧ Vals xs its.toList
def QF (K : PySem.W.Frag) (H : Hp) (L : Addr → Prop) (a : Addr) (xs : List V) : Prop := (Rd H a (.lst xs) ∧ ¬ L a) ∨ SqLw K a xs
def QL (K : PySem.W.Frag) (H : Hp) (L : Addr → Prop) (a : Addr) (xs : List V) : Prop := H a = some (.lst xs) ∧ ¬ L a
def QT (K : PySem.W.Frag) (H : Hp) (L : Addr → Prop) (a : Addr) (xs : List V) : Prop := (Rd H a (.tup xs) ∧ ¬ L a) ∨ SqTw K a xs
theorem QF.sq {K : PySem.W.Frag} {H : Hp} {L : Addr → Prop} {a : Addr} {xs : List V} (h : QF K H L a xs) : SqL K H a xs := h.elim (fun h => .inl h.1) .inr
theorem QL.sq {K : PySem.W.Frag} {H : Hp} {L : Addr → Prop} {a : Addr} {xs : List V} (h : QL K H L a xs) : SqL K H a xs := .inl (.inl h.1)
theorem QT.sq {K : PySem.W.Frag} {H : Hp} {L : Addr → Prop} {a : Addr} {xs : List V} (h : QT K H L a xs) : SqT K H a xs := h.elim (fun h => .inl h.1) .inr
/-- a dict of so many that nobody changes -/
def QDn (H : Hp) (L : Addr → Prop) (a : Addr) (n : Nat) : Prop := (∃ kus, H a = some (.dK kus) ∧ kus.length = n) ∧ ¬ L a
theorem QDn.nil {H : Hp} {L : Addr → Prop} {a : Addr} (h : H a = some (.dK [])) (l : ¬ L a) : QDn H L a 0 := ⟨⟨_, h, rfl⟩, l⟩
theorem QDn.nil' {H : Hp} {L : Addr → Prop} {a : Addr} (h : QDn H L a 0) : H a = some (.dK []) := by
  obtain ⟨⟨kus, e, n⟩, _⟩ := h
  rw [List.length_eq_zero_iff.mp n] at e
  exact e
/-! no dict lies within -/
mutual
def nd : D → Bool
  | .list ds => ndA ds
  | .tuple ds => ndA ds
  | .dict _ => false
  | _ => true
def ndA : List D → Bool
  | [] => true
  | d :: ds => nd d && ndA ds
end
abbrev okS (x : Str) : Bool := PyData.strOk x
mutual
inductive Rp (K : PySem.W.Frag) (H : Hp) (L : Addr → Prop) : V → D → Prop
  | non : Rp K H L .non .none
  | bl (b : Bool) : Rp K H L (.bl b) (.bool b)
  | int (i : Int) : Rp K H L (.int i) (.int i)
  | str (x : Str) (h : okS x = true) : Rp K H L (.str x) (.str x)
  | lst {a : Addr} {xs : List V} {ds : List D} : QL K H L a xs → RpA K H L xs ds → Rp K H L (.ref a) (.list ds)
  | tup {a : Addr} {xs : List V} {ds : List D} : QT K H L a xs → RpA K H L xs ds → Rp K H L (.ref a) (.tuple ds)
  | dct {a : Addr} {kvs : List (D × D)} : QDn H L a kvs.length → Rp K H L (.ref a) (.dict kvs)
inductive RpA (K : PySem.W.Frag) (H : Hp) (L : Addr → Prop) : List V → List D → Prop
  | nil : RpA K H L [] []
  | cons {v : V} {vs : List V} {d : D} {ds : List D} : Rp K H L v d → RpA K H L vs ds → RpA K H L (v :: vs) (d :: ds)
end
section
variable {K : PySem.W.Frag} {H H' : Hp} {L L' : Addr → Prop}
theorem QF.ext {a : Addr} {xs : List V} (h : QF K H L a xs) (hs : ∀ a o, H a = some o → ¬ L a → H' a = some o) (hn : ∀ a, L' a → L a ∨ H a = none) : QF K H' L' a xs := by
  rcases h with ⟨h, l⟩ | h
  · refine .inl ⟨?_, fun q => ?_⟩
    · rcases h with h | ⟨o, h⟩
      · exact .inl (hs _ _ h l)
      · exact .inr ⟨o, hs _ _ h l⟩
    · rcases hn a q with q | q
      · exact l q
      · rcases h with h | ⟨o, h⟩
        · rw [h] at q; cases q
        · rw [h] at q; cases q
  · exact .inr h
theorem QL.ext {a : Addr} {xs : List V} (h : QL K H L a xs) (hs : ∀ a o, H a = some o → ¬ L a → H' a = some o) (hn : ∀ a, L' a → L a ∨ H a = none) : QL K H' L' a xs := by
  obtain ⟨h, l⟩ := h
  refine ⟨hs _ _ h l, fun q => ?_⟩
  rcases hn a q with q | q
  · exact l q
  · rw [h] at q; cases q
theorem QDn.ext {a : Addr} {n : Nat} (h : QDn H L a n) (hs : ∀ a o, H a = some o → ¬ L a → H' a = some o) (hn : ∀ a, L' a → L a ∨ H a = none) : QDn H' L' a n := by
  obtain ⟨⟨kus, h, e⟩, l⟩ := h
  refine ⟨⟨kus, hs _ _ h l, e⟩, fun q => ?_⟩
  rcases hn a q with q | q
  · exact l q
  · rw [h] at q; cases q
theorem QT.ext {a : Addr} {xs : List V} (h : QT K H L a xs) (hs : ∀ a o, H a = some o → ¬ L a → H' a = some o) (hn : ∀ a, L' a → L a ∨ H a = none) : QT K H' L' a xs := by
  rcases h with ⟨h, l⟩ | h
  · refine .inl ⟨?_, fun q => ?_⟩
    · rcases h with h | ⟨o, h⟩
      · exact .inl (hs _ _ h l)
      · exact .inr ⟨o, hs _ _ h l⟩
    · rcases hn a q with q | q
      · exact l q
      · rcases h with h | ⟨o, h⟩
        · rw [h] at q; cases q
        · rw [h] at q; cases q
  · exact .inr h
mutual
theorem Rp.ext (hs : ∀ a o, H a = some o → ¬ L a → H' a = some o) (hn : ∀ a, L' a → L a ∨ H a = none) : ∀ (d : D) (v : V), Rp K H L v d → Rp K H' L' v d
  | .none, _, h => by cases h; exact .non
  | .bool b, _, h => by cases h; exact .bl b
  | .int i, _, h => by cases h; exact .int i
  | .str x, _, h => by cases h with | str _ o => exact .str x o
  | .list ds, _, h => by cases h with | lst q r => exact .lst (q.ext hs hn) (RpA.ext hs hn ds _ r)
  | .tuple ds, _, h => by cases h with | tup q r => exact .tup (q.ext hs hn) (RpA.ext hs hn ds _ r)
  | .dict _, _, h => by cases h with | dct q => exact .dct (q.ext hs hn)
theorem RpA.ext (hs : ∀ a o, H a = some o → ¬ L a → H' a = some o) (hn : ∀ a, L' a → L a ∨ H a = none) : ∀ (ds : List D) (vs : List V), RpA K H L vs ds → RpA K H' L' vs ds
  | [], _, h => by cases h; exact .nil
  | d :: ds, _, h => by cases h with | cons a b => exact .cons (Rp.ext hs hn d _ a) (RpA.ext hs hn ds _ b)
end
mutual
theorem Rp.dp : ∀ (d : D) (v : V), nd d = true → Rp K H L v d → Dp K H v d
  | .none, _, _, h => by cases h; exact .non
  | .bool b, _, _, h => by cases h; exact .bl b
  | .int i, _, _, h => by cases h; exact .int i
  | .str x, _, _, h => by cases h; exact .str x
  | .list ds, _, n, h => by cases h with | lst q r => exact .lst q.sq (RpA.dp ds _ (by simpa only [nd] using n) r)
  | .tuple ds, _, n, h => by cases h with | tup q r => exact .tup q.sq (RpA.dp ds _ (by simpa only [nd] using n) r)
  | .dict _, _, n, h => by simp [nd] at n
theorem RpA.dp : ∀ (ds : List D) (vs : List V), ndA ds = true → RpA K H L vs ds → DpAll K H vs ds
  | [], _, _, h => by cases h; exact .nil
  | d :: ds, _, n, h => by
    simp only [ndA, Bool.and_eq_true] at n
    cases h with | cons a b => exact .cons (Rp.dp d _ n.1 a) (RpA.dp ds _ n.2 b)
end
mutual
theorem Rp.lay : ∀ (d : D) (v : V), nd d = true → Rp K H L v d → d.canLay0 = true
  | .none, _, _, h => by simp only [PyData.canLay0]
  | .bool b, _, _, h => by simp only [PyData.canLay0]
  | .int i, _, _, h => by simp only [PyData.canLay0]
  | .str x, _, _, h => by cases h with | str _ o => simpa only [PyData.canLay0] using o
  | .list ds, _, n, h => by cases h with | lst q r => simpa only [PyData.canLay0] using RpA.lay ds _ (by simpa only [nd] using n) r
  | .tuple ds, _, n, h => by cases h with | tup q r => simpa only [PyData.canLay0] using RpA.lay ds _ (by simpa only [nd] using n) r
  | .dict _, _, n, h => by simp [nd] at n
theorem RpA.lay : ∀ (ds : List D) (vs : List V), ndA ds = true → RpA K H L vs ds → PyData.canLayAll0 ds = true
  | [], _, _, h => by simp only [PyData.canLayAll0]
  | d :: ds, _, n, h => by
    simp only [ndA, Bool.and_eq_true] at n
    cases h with
    | cons a b =>
      simp only [PyData.canLayAll0, Bool.and_eq_true]
      exact ⟨Rp.lay d _ n.1 a, RpA.lay ds _ n.2 b⟩
end
theorem RpA.length : ∀ {ds : List D} {vs : List V}, RpA K H L vs ds → vs.length = ds.length
  | [], _, h => by cases h; rfl
  | d :: ds, _, h => by cases h with | cons a b => simp [RpA.length b]
end

/-! ### errors and tables of code objects -/
/-- x stands as an error of that class with that dict -/
def FlX (K : PySem.W.Frag) (H : Hp) (L : Addr → Prop) (x : Ex) (cls : Value) (d : Option Addr) : Prop := ∃ (C dd : Addr) (fs : List (Str × V)), PySem.W.nsIn K mainGlobals x.cls = some (some (.ref C)) ∧ cls = .ref C ∧ d = some dd ∧ H dd = some (.xd fs) ∧ ¬ L dd ∧
  ∀ p ∈ x.fs, ∃ v, fs.lookup p.1 = some v ∧ Rp K H L v p.2
/-- an exception's object at a -/
def excAt (a : Addr) (cls : Value) (d : Option Addr) : HO := .ext fun h => ∃ oe, h.get? a = some oe ∧ Zc cls d oe ∧ ∃ vs, oe.data = .fields vs
def RX (K : PySem.W.Frag) (H : Hp) (L : Addr → Prop) (x : Ex) (a : Addr) : Prop := ∃ cls d, FlX K H L x cls d ∧ H a = some (excAt a cls d) ∧ ¬ L a
/-- a table of code objects, all of the name q -/
def RT (H : Hp) (L : Addr → Prop) (q : Str) (o : HO) : Prop := ∃ ps : Array Value, o = .tbl ps ∧ TriplesOk ps.toList ∧ ∀ (pos : Pos) (cv : Value), codeAmong pos ps.toList = some cv → ∃ c, cv = .ref c ∧ H c = some (LamX.CodeO c q) ∧ ¬ L c
section
variable {K : PySem.W.Frag} {H H' : Hp} {L L' : Addr → Prop}
theorem notL {a : Addr} {o : HO} (h : H a = some o) (l : ¬ L a) (hn : ∀ a, L' a → L a ∨ H a = none) : ¬ L' a := fun q => by
  rcases hn a q with q | q
  · exact l q
  · rw [h] at q; cases q
theorem FlX.ext {x : Ex} {cls : Value} {d : Option Addr} (h : FlX K H L x cls d) (hs : ∀ a o, H a = some o → ¬ L a → H' a = some o) (hn : ∀ a, L' a → L a ∨ H a = none) : FlX K H' L' x cls d := by
  obtain ⟨C, dd, fs, h1, h2, h3, h4, h5, h6⟩ := h
  exact ⟨C, dd, fs, h1, h2, h3, hs _ _ h4 h5, notL h4 h5 hn, fun p hp => let ⟨v, q1, q2⟩ := h6 p hp; ⟨v, q1, Rp.ext hs hn _ _ q2⟩⟩
theorem RX.ext {x : Ex} {a : Addr} (h : RX K H L x a) (hs : ∀ a o, H a = some o → ¬ L a → H' a = some o) (hn : ∀ a, L' a → L a ∨ H a = none) : RX K H' L' x a := by
  obtain ⟨cls, d, h1, h2, h3⟩ := h
  exact ⟨cls, d, h1.ext hs hn, hs _ _ h2 h3, notL h2 h3 hn⟩
theorem RT.ext {q : Str} {o : HO} (h : RT H L q o) (hs : ∀ a o, H a = some o → ¬ L a → H' a = some o) (hn : ∀ a, L' a → L a ∨ H a = none) : RT H' L' q o := by
  obtain ⟨ps, h1, h2, h3⟩ := h
  exact ⟨ps, h1, h2, fun pos cv hc => let ⟨c, q1, q2, q3⟩ := h3 pos cv hc; ⟨c, q1, hs _ _ q2 q3, notL q2 q3 hn⟩⟩
end
/-! ### the store -/
/-- where the places of the store stand; what else nobody may speak of (a list that is being made) -/
structure Pl where
  adr : List Addr
  grd : Addr → Prop
def Pl.add (ρ : Pl) (p : Addr) : Pl := ⟨ρ.adr ++ [p], ρ.grd⟩
def Pl.guard (ρ : Pl) (p : Addr) : Pl := ⟨ρ.adr, fun a => ρ.grd a ∨ a = p⟩
def Liv (S : Sto) (ρ : Pl) (a : Addr) : Prop := ∃ (n : Nat) (o : Ob), S[n]? = some o ∧ o.live = true ∧ ρ.adr[n]? = some a
def Live (S : Sto) (ρ : Pl) (a : Addr) : Prop := Liv S ρ a ∨ ρ.grd a
def RW (K : PySem.W.Frag) (ρ : Pl) (H : Hp) (L : Addr → Prop) : W → V → Prop
  | .d x, v => Rp K H L v x
  | .r n, v => ∃ a, ρ.adr[n]? = some a ∧ v = .ref a
  | .s ns, v => ∃ a, v = .ref a ∧ QF K H L a (ns.map V.int)
  | .e x, v => ∃ a, v = .ref a ∧ RX K H L x a
abbrev RWs (K : PySem.W.Frag) (ρ : Pl) (H : Hp) (L : Addr → Prop) : List W → List V → Prop := Paired (RW K ρ H L)
def okK : Key → Bool
  | .inl _ => true
  | .inr x => okS x
def RO (K : PySem.W.Frag) (ρ : Pl) (H : Hp) (L : Addr → Prop) (p : Addr) : Ob → HO → Prop
  | .lst ws, o => ∃ vs, o = .lst vs ∧ RWs K ρ H L ws vs
  | .dct kvs, o => ∃ kus, o = .dK kus ∧ Paired (fun (p : Key × W) (q : Key × V) => p.1 = q.1 ∧ okK p.1 = true ∧ RW K ρ H L p.2 q.2) kvs kus
  | .obj c fs, o => ∃ (C dx : Addr) (us : List (Str × V)), PySem.W.nsIn K mainGlobals c = some (some (.ref C)) ∧ o = .ins C dx us ∧ Paired (fun (p : Str × W) (q : Str × V) => p.1 = q.1 ∧ RW K ρ H L p.2 q.2) fs us
  | .tup ws, o => ∃ vs, o = .tup vs ∧ RWs K ρ H L ws vs
  | .tab P q, o => p = P ∧ RT H L q o
  | .dfz kvs, o => ∃ ob kus, o = .frz ob (.dK kus) ∧ Paired (fun (p : Key × W) (q : Key × V) => p.1 = q.1 ∧ okK p.1 = true ∧ RW K ρ H L p.2 q.2) kvs kus
  | .dead, _ => True
theorem RO.tr {K : PySem.W.Frag} {ρ ρ' : Pl} {H H' : Hp} {L L' : Addr → Prop} {p : Addr} {o : Ob} {ho : HO} (h : RO K ρ H L p o ho) (key : ∀ w v, RW K ρ H L w v → RW K ρ' H' L' w v) (kt : ∀ q, RT H L q ho → RT H' L' q ho) : RO K ρ' H' L' p o ho := by
  cases o with
  | lst ws => obtain ⟨vs, h1, h2⟩ := h; exact ⟨vs, h1, Paired.mapP h2 key⟩
  | dct kvs => obtain ⟨kus, h1, h2⟩ := h; exact ⟨kus, h1, Paired.mapP h2 fun _ _ q => ⟨q.1, q.2.1, key _ _ q.2.2⟩⟩
  | obj c fs => obtain ⟨C, dx, us, h0, h1, h2⟩ := h; exact ⟨C, dx, us, h0, h1, Paired.mapP h2 fun _ _ q => ⟨q.1, key _ _ q.2⟩⟩
  | tup ws => obtain ⟨vs, h1, h2⟩ := h; exact ⟨vs, h1, Paired.mapP h2 key⟩
  | tab P q => exact ⟨h.1, kt q h.2⟩
  | dfz kvs => obtain ⟨ob, kus, h1, h2⟩ := h; exact ⟨ob, kus, h1, Paired.mapP h2 fun _ _ q => ⟨q.1, q.2.1, key _ _ q.2.2⟩⟩
  | dead => trivial
structure Rel (K : PySem.W.Frag) (S : Sto) (ρ : Pl) (H : Hp) : Prop where
  len : ρ.adr.length = S.length
  gt : ∀ a : Addr, ρ.grd a → ∃ o, H a = some o
  dj : ∀ a : Addr, ρ.grd a → ¬ Liv S ρ a
  ob : ∀ (n : Nat) (o : Ob), S[n]? = some o → o.live = true → ∃ a ho, ρ.adr[n]? = some a ∧ H a = some ho ∧ RO K ρ H (Live S ρ) a o ho
  inj : ∀ (n m : Nat) (a : Addr) (o u : Ob), S[n]? = some o → o.live = true → S[m]? = some u → u.live = true → ρ.adr[n]? = some a → ρ.adr[m]? = some a → n = m
/-- what is kept -/
structure Ext (S : Sto) (ρ : Pl) (H : Hp) (S' : Sto) (ρ' : Pl) (H' : Hp) : Prop where
  pre : ∀ (n : Nat) (a : Addr), ρ.adr[n]? = some a → ρ'.adr[n]? = some a
  stab : ∀ (a : Addr) (o : HO), H a = some o → ¬ Liv S ρ a → H' a = some o
  newl : ∀ a : Addr, Liv S' ρ' a → Liv S ρ a ∨ H a = none
  grd : ρ'.grd = ρ.grd
  fz : ∀ (a : Addr) (o : Obj) (u : HO), H a = some (.frz o u) → H' a = some (.frz o u)
theorem Ext.refl {S : Sto} {ρ : Pl} {H : Hp} : Ext S ρ H S ρ H := ⟨fun _ _ h => h, fun _ _ h _ => h, fun _ h => .inl h, rfl, fun _ _ _ h => h⟩
theorem Ext.trans {S S1 S2 : Sto} {ρ ρ1 ρ2 : Pl} {H H1 H2 : Hp} (a : Ext S ρ H S1 ρ1 H1) (b : Ext S1 ρ1 H1 S2 ρ2 H2) : Ext S ρ H S2 ρ2 H2 := by
  refine ⟨fun n x h => b.pre _ _ (a.pre _ _ h), fun x o h l => b.stab x o (a.stab x o h l) fun q => ?_, fun x q => ?_, b.grd.trans a.grd, fun x o u h => b.fz x o u (a.fz x o u h)⟩
  · rcases a.newl x q with q | q
    · exact l q
    · rw [h] at q; cases q
  · rcases b.newl x q with q | q
    · exact a.newl x q
    · cases e : H x with
      | none => exact .inr rfl
      | some o =>
        by_cases l : Liv S ρ x
        · exact .inl l
        · rw [a.stab x o e l] at q; cases q
/-- .. where a list that is being made may be guarded besides -/
structure Ext0 (S : Sto) (ρ : Pl) (H : Hp) (S' : Sto) (ρ' : Pl) (H' : Hp) : Prop where
  pre : ∀ (n : Nat) (a : Addr), ρ.adr[n]? = some a → ρ'.adr[n]? = some a
  stab : ∀ (a : Addr) (o : HO), H a = some o → ¬ Liv S ρ a → H' a = some o
  newl : ∀ a : Addr, Liv S' ρ' a → Liv S ρ a ∨ H a = none
  newg : ∀ a : Addr, ρ'.grd a → ρ.grd a ∨ H a = none
  fz : ∀ (a : Addr) (o : Obj) (u : HO), H a = some (.frz o u) → H' a = some (.frz o u)
theorem Ext.to0 {S S' : Sto} {ρ ρ' : Pl} {H H' : Hp} (e : Ext S ρ H S' ρ' H') : Ext0 S ρ H S' ρ' H' := ⟨e.pre, e.stab, e.newl, fun a q => .inl (e.grd ▸ q), e.fz⟩
theorem Ext0.trans {S S1 S2 : Sto} {ρ ρ1 ρ2 : Pl} {H H1 H2 : Hp} (a : Ext0 S ρ H S1 ρ1 H1) (b : Ext S1 ρ1 H1 S2 ρ2 H2) : Ext0 S ρ H S2 ρ2 H2 := by
  refine ⟨fun n x h => b.pre _ _ (a.pre _ _ h), fun x o h l => b.stab x o (a.stab x o h l) fun q => ?_, fun x q => ?_, fun x q => a.newg x (b.grd ▸ q), fun x o u h => b.fz x o u (a.fz x o u h)⟩
  · rcases a.newl x q with q | q
    · exact l q
    · rw [h] at q; cases q
  · rcases b.newl x q with q | q
    · exact a.newl x q
    · cases e : H x with
      | none => exact .inr rfl
      | some o =>
        by_cases l : Liv S ρ x
        · exact .inl l
        · rw [a.stab x o e l] at q; cases q
section
variable {K : PySem.W.Frag} {S S' : Sto} {ρ ρ' : Pl} {H H' : Hp}
theorem Ext0.stabL (e : Ext0 S ρ H S' ρ' H') (a : Addr) (o : HO) (h : H a = some o) (l : ¬ Live S ρ a) : H' a = some o := e.stab a o h fun q => l (.inl q)
theorem Ext0.newL (e : Ext0 S ρ H S' ρ' H') (a : Addr) (h : Live S' ρ' a) : Live S ρ a ∨ H a = none := by
  rcases h with h | h
  · rcases e.newl a h with q | q
    · exact .inl (.inl q)
    · exact .inr q
  · rcases e.newg a h with q | q
    · exact .inl (.inr q)
    · exact .inr q
theorem RW.ext0 {w : W} {v : V} (h : RW K ρ H (Live S ρ) w v) (e : Ext0 S ρ H S' ρ' H') : RW K ρ' H' (Live S' ρ') w v := by
  cases w with
  | d x => exact Rp.ext e.stabL e.newL x v h
  | r n => obtain ⟨a, h1, h2⟩ := h; exact ⟨a, e.pre _ _ h1, h2⟩
  | s ns => obtain ⟨a, h1, h2⟩ := h; exact ⟨a, h1, h2.ext e.stabL e.newL⟩
  | e x => obtain ⟨a, h1, h2⟩ := h; exact ⟨a, h1, h2.ext e.stabL e.newL⟩
theorem Ext.stabL (e : Ext S ρ H S' ρ' H') (a : Addr) (o : HO) (h : H a = some o) (l : ¬ Live S ρ a) : H' a = some o := e.stab a o h fun q => l (.inl q)
theorem Ext.newL (e : Ext S ρ H S' ρ' H') (a : Addr) (h : Live S' ρ' a) : Live S ρ a ∨ H a = none := by
  rcases h with h | h
  · rcases e.newl a h with q | q
    · exact .inl (.inl q)
    · exact .inr q
  · rw [e.grd] at h
    exact .inl (.inr h)
theorem RW.ext {w : W} {v : V} (h : RW K ρ H (Live S ρ) w v) (e : Ext S ρ H S' ρ' H') : RW K ρ' H' (Live S' ρ') w v := by
  cases w with
  | d x => exact Rp.ext e.stabL e.newL x v h
  | r n => obtain ⟨a, h1, h2⟩ := h; exact ⟨a, e.pre _ _ h1, h2⟩
  | s ns => obtain ⟨a, h1, h2⟩ := h; exact ⟨a, h1, h2.ext e.stabL e.newL⟩
  | e x => obtain ⟨a, h1, h2⟩ := h; exact ⟨a, h1, h2.ext e.stabL e.newL⟩
theorem RWs.ext {ws : List W} {vs : List V} (h : RWs K ρ H (Live S ρ) ws vs) (e : Ext S ρ H S' ρ' H') : RWs K ρ' H' (Live S' ρ') ws vs := Paired.mapP h fun _ _ q => q.ext e
theorem RO.ext {p : Addr} {o : Ob} {ho : HO} (h : RO K ρ H (Live S ρ) p o ho) (e : Ext S ρ H S' ρ' H') : RO K ρ' H' (Live S' ρ') p o ho := by
  exact h.tr (fun _ _ q => q.ext e) fun _ q => RT.ext q e.stabL e.newL
theorem Rel.tracked (R : Rel K S ρ H) {a : Addr} (l : Live S ρ a) : ∃ o, H a = some o := by
  rcases l with l | l
  case inr => exact R.gt a l
  obtain ⟨n, o, h1, h2, h3⟩ := l
  obtain ⟨a', ho, q1, q2, _⟩ := R.ob n o h1 h2
  rw [h3] at q1; cases q1
  exact ⟨_, q2⟩
theorem Rel.notLive (R : Rel K S ρ H) {p : Addr} (hp : H p = none) : ¬ Live S ρ p := fun l => by
  obtain ⟨o, h⟩ := R.tracked l
  rw [hp] at h; cases h
/-- something new that nobody changes -/
theorem Ext.frz {p : Addr} {o : HO} (hp : H p = none) : Ext S ρ H S ρ (upd H p o) :=
  ⟨fun _ _ h => h, fun a u h _ => by rw [upd_ne (ne_of_none h hp)]; exact h, fun _ h => .inl h, rfl, fun a o u h => by rw [upd_ne (ne_of_none h hp)]; exact h⟩
theorem Rel.frz (R : Rel K S ρ H) {p : Addr} {o : HO} (hp : H p = none) : Rel K S ρ (upd H p o) :=
  ⟨R.len, fun a h => by
    obtain ⟨u, q⟩ := R.gt a h
    exact ⟨u, by rw [upd_ne (ne_of_none q hp)]; exact q⟩, R.dj, fun n u h1 h2 => by
    obtain ⟨a, ho, q1, q2, q3⟩ := R.ob n u h1 h2
    exact ⟨a, ho, q1, by rw [upd_ne (ne_of_none q2 hp)]; exact q2, q3.ext (Ext.frz hp)⟩, R.inj⟩
/-- a new place of the store -/
theorem Ext.new (R : Rel K S ρ H) {p : Addr} {o : Ob} {ho : HO} (hp : H p = none) : Ext S ρ H (S ++ [o]) (ρ.add p) (upd H p ho) := by
  refine ⟨fun n a h => ?_, fun a u h _ => by rw [upd_ne (ne_of_none h hp)]; exact h, fun a ⟨n, u, h1, h2, h3⟩ => ?_, rfl, fun a ob u h => by rw [upd_ne (ne_of_none h hp)]; exact h⟩
  · have hl : n < ρ.adr.length := (List.getElem?_eq_some_iff.mp h).1
    show (ρ.adr ++ [p])[n]? = some a
    rw [List.getElem?_append_left hl]; exact h
  · have h3 : (ρ.adr ++ [p])[n]? = some a := h3
    by_cases hn : n < S.length
    · rw [List.getElem?_append_left hn] at h1
      rw [List.getElem?_append_left (by rw [R.len]; exact hn)] at h3
      exact .inl ⟨n, u, h1, h2, h3⟩
    · rw [List.getElem?_append_right (by rw [R.len]; omega)] at h3
      have : n - ρ.adr.length = 0 := by
        cases e : n - ρ.adr.length with
        | zero => rfl
        | succ k => rw [e] at h3; simp at h3
      rw [this] at h3
      simp at h3
      subst h3
      exact .inr hp
theorem Rel.new (R : Rel K S ρ H) {p : Addr} {o : Ob} {ho : HO} (hp : H p = none) (hr : RO K ρ H (Live S ρ) p o ho) : Rel K (S ++ [o]) (ρ.add p) (upd H p ho) := by
  have e : Ext S ρ H (S ++ [o]) (ρ.add p) (upd H p ho) := Ext.new R hp
  refine ⟨by simp [Pl.add, R.len], fun a h => ?_, fun a h q => ?_, fun n u h1 h2 => ?_, fun n m a u u' h1 h2 h3 h4 h5 h6 => ?_⟩
  · obtain ⟨u, q⟩ := R.gt a h
    exact ⟨u, by rw [upd_ne (ne_of_none q hp)]; exact q⟩
  · rcases e.newl a q with q | q
    · exact R.dj a h q
    · obtain ⟨u, z⟩ := R.gt a h
      rw [z] at q; cases q
  · by_cases hn : n < S.length
    · rw [List.getElem?_append_left hn] at h1
      obtain ⟨a, hu, q1, q2, q3⟩ := R.ob n u h1 h2
      exact ⟨a, hu, e.pre _ _ q1, by rw [upd_ne (ne_of_none q2 hp)]; exact q2, q3.ext e⟩
    · rw [List.getElem?_append_right (by omega)] at h1
      have hz : n - S.length = 0 := by
        cases e : n - S.length with
        | zero => rfl
        | succ k => rw [e] at h1; simp at h1
      rw [hz] at h1
      simp at h1
      subst h1
      refine ⟨p, ho, ?_, upd_same, hr.ext e⟩
      show (ρ.adr ++ [p])[n]? = some p
      rw [List.getElem?_append_right (by rw [R.len]; omega), R.len, hz]; rfl
  · have key : ∀ (n : Nat) (a : Addr) (u : Ob), (S ++ [o])[n]? = some u → u.live = true → (ρ.adr ++ [p])[n]? = some a → (n < S.length ∧ S[n]? = some u ∧ ρ.adr[n]? = some a ∧ a ≠ p) ∨ (n = S.length ∧ a = p) := fun n a u h1 h2 h3 => by
      by_cases hn : n < S.length
      · rw [List.getElem?_append_left hn] at h1
        rw [List.getElem?_append_left (by rw [R.len]; exact hn)] at h3
        refine .inl ⟨hn, h1, h3, fun z => ?_⟩
        subst z
        exact R.notLive hp (.inl ⟨n, u, h1, h2, h3⟩)
      · have hl := (List.getElem?_eq_some_iff.mp h1).1
        simp at hl
        have hz : n = S.length := by omega
        subst hz
        rw [List.getElem?_append_right (by rw [R.len]; omega), R.len] at h3
        simp at h3
        exact .inr ⟨rfl, h3.symm⟩
    rcases key n a u h1 h2 h5 with ⟨k1, k2, k3, k4⟩ | ⟨k1, k2⟩
    · rcases key m a u' h3 h4 h6 with ⟨l1, l2, l3, l4⟩ | ⟨l1, l2⟩
      · exact R.inj n m a u u' k2 h2 l2 h4 k3 l3
      · exact absurd l2 k4
    · rcases key m a u' h3 h4 h6 with ⟨l1, l2, l3, l4⟩ | ⟨l1, l2⟩
      · exact absurd k2 l4
      · rw [k1, l1]
theorem live_set {n : Nat} {o u : Ob} (h : S[n]? = some o) (hl : o.live = true) {a : Addr} (q : Liv (S.set n u) ρ a) : Liv S ρ a := by
  obtain ⟨m, w, h1, h2, h3⟩ := q
  by_cases e : n = m
  · subst e; exact ⟨n, o, h, hl, h3⟩
  · rw [List.getElem?_set_ne e] at h1
    exact ⟨m, w, h1, h2, h3⟩
/-- a place is written -/
theorem Rel.nofrz (R : Rel K S ρ H) {n : Nat} {a : Addr} {o : Ob} (h : S[n]? = some o) (hh : o.hard = true) (ha : ρ.adr[n]? = some a) (ob : Obj) (u : HO) : H a ≠ some (.frz ob u) := fun z => by
  obtain ⟨a', ho, k1, k2, k3⟩ := R.ob n o h (Ob.hard_live hh)
  rw [ha] at k1
  cases k1
  rw [k2] at z
  cases z
  cases o with
  | lst ws => obtain ⟨vs, e, _⟩ := k3; cases e
  | dct kvs => obtain ⟨kus, e, _⟩ := k3; cases e
  | obj c fs => obtain ⟨C, dx, us, _, e, _⟩ := k3; cases e
  | tup ws => obtain ⟨vs, e, _⟩ := k3; cases e
  | tab P q => cases hh
  | dfz kvs => cases hh
  | dead => cases hh
theorem Ext.put (R : Rel K S ρ H) {n : Nat} {a : Addr} {o u : Ob} {hu : HO} (h : S[n]? = some o) (hh : o.hard = true) (ha : ρ.adr[n]? = some a) : Ext S ρ H (S.set n u) ρ (upd H a hu) := by
  have hl := Ob.hard_live hh
  refine ⟨fun _ _ h => h, fun b x q l => ?_, fun b q => .inl (live_set h hl q), rfl, fun b ob v q => by rw [upd_ne (fun z => R.nofrz h hh ha ob v (by rw [← z]; exact q))]; exact q⟩
  have : b ≠ a := fun z => l ⟨n, o, h, hl, z ▸ ha⟩
  rw [upd_ne this]; exact q
theorem Rel.put (R : Rel K S ρ H) {n : Nat} {a : Addr} {o u : Ob} {hu : HO} (h : S[n]? = some o) (hh : o.hard = true) (ha : ρ.adr[n]? = some a) (hr : RO K ρ H (Live S ρ) a u hu) : Rel K (S.set n u) ρ (upd H a hu) := by
  have e : Ext S ρ H (S.set n u) ρ (upd H a hu) := Ext.put R h hh ha
  have hl := Ob.hard_live hh
  have hn : n < S.length := (List.getElem?_eq_some_iff.mp h).1
  refine ⟨by simp [R.len], fun b q => ?_, fun b q z => R.dj b q (live_set h hl z), fun m w h1 h2 => ?_, fun m k b w w' h1 h2 h3 h4 h5 h6 => ?_⟩
  · by_cases eb : b = a
    · subst eb; exact ⟨_, upd_same⟩
    · rw [upd_ne eb]; exact R.gt b q
  · by_cases em : n = m
    · subst em
      rw [List.getElem?_set_self hn] at h1
      cases h1
      exact ⟨a, hu, ha, upd_same, hr.ext e⟩
    · rw [List.getElem?_set_ne em] at h1
      obtain ⟨b, hb, q1, q2, q3⟩ := R.ob m w h1 h2
      refine ⟨b, hb, q1, ?_, q3.ext e⟩
      have : b ≠ a := fun z => em (R.inj n m a o w h hl h1 h2 ha (z ▸ q1))
      rw [upd_ne this]; exact q2
  · have key : ∀ (m : Nat) (w : Ob), (S.set n u)[m]? = some w → w.live = true → ∃ w', S[m]? = some w' ∧ w'.live = true := fun m w h1 h2 => by
      by_cases em : n = m
      · subst em; exact ⟨o, h, hl⟩
      · rw [List.getElem?_set_ne em] at h1; exact ⟨w, h1, h2⟩
    obtain ⟨x, x1, x2⟩ := key m w h1 h2
    obtain ⟨y, y1, y2⟩ := key k w' h3 h4
    exact R.inj m k b x y x1 x2 y1 y2 h5 h6
/-- a place is given up: what stood there is changed no more -/
theorem Ext.kill {n : Nat} {o : Ob} (h : S[n]? = some o) (hl : o.live = true) : Ext S ρ H (S.set n .dead) ρ H :=
  ⟨fun _ _ h => h, fun _ _ q _ => q, fun _ q => .inl (live_set h hl q), rfl, fun _ _ _ q => q⟩
theorem Rel.kill (R : Rel K S ρ H) {n : Nat} {o : Ob} (h : S[n]? = some o) (hl : o.live = true) : Rel K (S.set n .dead) ρ H := by
  have e : Ext S ρ H (S.set n .dead) ρ H := Ext.kill h hl
  have hn : n < S.length := (List.getElem?_eq_some_iff.mp h).1
  have key : ∀ (m : Nat) (w : Ob), (S.set n .dead)[m]? = some w → w.live = true → n ≠ m ∧ S[m]? = some w := fun m w h1 h2 => by
    by_cases em : n = m
    · subst em
      rw [List.getElem?_set_self hn] at h1
      cases h1; cases h2
    · rw [List.getElem?_set_ne em] at h1; exact ⟨em, h1⟩
  refine ⟨by simp [R.len], R.gt, fun b q z => R.dj b q (live_set h hl z), fun m w h1 h2 => ?_, fun m k b w w' h1 h2 h3 h4 h5 h6 => ?_⟩
  · obtain ⟨_, q⟩ := key m w h1 h2
    obtain ⟨b, hb, q1, q2, q3⟩ := R.ob m w q h2
    exact ⟨b, hb, q1, q2, q3.ext e⟩
  · exact R.inj m k b w w' (key m w h1 h2).2 h2 (key k w' h3 h4).2 h4 h5 h6
theorem Rel.dead_not (R : Rel K S ρ H) {n : Nat} {a : Addr} {o : Ob} (h : S[n]? = some o) (hl : o.live = true) (ha : ρ.adr[n]? = some a) : ¬ Liv (S.set n .dead) ρ a := by
  rintro ⟨m, w, h1, h2, h3⟩
  have hn : n < S.length := (List.getElem?_eq_some_iff.mp h).1
  by_cases em : n = m
  · subst em
    rw [List.getElem?_set_self hn] at h1
    cases h1; cases h2
  · rw [List.getElem?_set_ne em] at h1
    exact em (R.inj n m a o w h hl h1 h2 ha h3)
theorem Rel.dead_notL (R : Rel K S ρ H) {n : Nat} {a : Addr} {o : Ob} (h : S[n]? = some o) (hl : o.live = true) (ha : ρ.adr[n]? = some a) : ¬ Live (S.set n .dead) ρ a := fun q => q.elim (R.dead_not h hl ha) fun q => R.dj a q ⟨n, o, h, hl, ha⟩
/-- a list that is being made is guarded -/
theorem Rel.guard (R : Rel K S ρ H) {p : Addr} {o : HO} (hp : H p = none) : Rel K S (ρ.guard p) (upd H p o) := by
  have R' := R.frz (o := o) hp
  have up : ∀ a, Live S (ρ.guard p) a → Live S ρ a ∨ H a = none := fun a q => by
    rcases q with q | q | q
    · exact .inl (.inl q)
    · exact .inl (.inr q)
    · exact .inr (q ▸ hp)
  have st : ∀ a u, H a = some u → ¬ Live S ρ a → upd H p o a = some u := fun a u h _ => by rw [upd_ne (ne_of_none h hp)]; exact h
  refine ⟨R.len, fun a q => ?_, fun a q z => ?_, fun n u h1 h2 => ?_, R.inj⟩
  · rcases q with q | q
    · exact R'.gt a q
    · exact ⟨o, q ▸ upd_same⟩
  · rcases q with q | q
    · exact R.dj a q z
    · exact R.notLive hp (.inl (q ▸ z))
  · obtain ⟨a, ho, q1, q2, q3⟩ := R.ob n u h1 h2
    refine ⟨a, ho, q1, by rw [upd_ne (ne_of_none q2 hp)]; exact q2, ?_⟩
    have key : ∀ w v, RW K ρ H (Live S ρ) w v → RW K (ρ.guard p) (upd H p o) (Live S (ρ.guard p)) w v := fun w v z => by
      cases w with
      | d x => exact Rp.ext st up x v z
      | r k => exact z
      | s ns => obtain ⟨a, h1, h2⟩ := z; exact ⟨a, h1, h2.ext st up⟩
      | e x => obtain ⟨a, h1, h2⟩ := z; exact ⟨a, h1, h2.ext st up⟩
    exact q3.tr key fun _ q => RT.ext q st up
theorem RW.guard {p : Addr} {o : HO} (hp : H p = none) {w : W} {v : V} (z : RW K ρ H (Live S ρ) w v) : RW K (ρ.guard p) (upd H p o) (Live S (ρ.guard p)) w v := by
  cases w with
  | d x =>
    refine Rp.ext (fun a u h _ => by rw [upd_ne (ne_of_none h hp)]; exact h) (fun a q => ?_) x v z
    rcases q with q | q | q
    · exact .inl (.inl q)
    · exact .inl (.inr q)
    · exact .inr (q ▸ hp)
  | r k => exact z
  | s ns =>
    obtain ⟨b, h1, h2⟩ := z
    refine ⟨b, h1, h2.ext (fun a u h _ => by rw [upd_ne (ne_of_none h hp)]; exact h) (fun a q => ?_)⟩
    rcases q with q | q | q
    · exact .inl (.inl q)
    · exact .inl (.inr q)
    · exact .inr (q ▸ hp)
  | e x =>
    obtain ⟨b, h1, h2⟩ := z
    refine ⟨b, h1, h2.ext (fun a u h _ => by rw [upd_ne (ne_of_none h hp)]; exact h) (fun a q => ?_)⟩
    rcases q with q | q | q
    · exact .inl (.inl q)
    · exact .inl (.inr q)
    · exact .inr (q ▸ hp)
theorem Ext0.guard {p : Addr} {o : HO} (hp : H p = none) : Ext0 S ρ H S (ρ.guard p) (upd H p o) :=
  ⟨fun _ _ h => h, fun a u h _ => by rw [upd_ne (ne_of_none h hp)]; exact h, fun _ h => .inl h, fun a q => q.elim .inl fun z => .inr (z ▸ hp), fun a o u h => by rw [upd_ne (ne_of_none h hp)]; exact h⟩
/-- what is guarded is written -/
theorem RW.gput (R : Rel K S ρ H) {p : Addr} {o : HO} (g : ρ.grd p) {w : W} {v : V} (z : RW K ρ H (Live S ρ) w v) : RW K ρ (upd H p o) (Live S ρ) w v := by
  cases w with
  | d x => exact Rp.ext (fun a u h l => by rw [upd_ne (show a ≠ p from fun e => l (.inr (by rw [e]; exact g)))]; exact h) (fun a q => .inl q) x v z
  | r k => exact z
  | s ns =>
    obtain ⟨b, h1, h2⟩ := z
    exact ⟨b, h1, h2.ext (fun a u h l => by rw [upd_ne (show a ≠ p from fun e => l (.inr (by rw [e]; exact g)))]; exact h) (fun a q => .inl q)⟩
  | e x =>
    obtain ⟨b, h1, h2⟩ := z
    exact ⟨b, h1, h2.ext (fun a u h l => by rw [upd_ne (show a ≠ p from fun e => l (.inr (by rw [e]; exact g)))]; exact h) (fun a q => .inl q)⟩
theorem Rel.gput (R : Rel K S ρ H) {p : Addr} {o : HO} (g : ρ.grd p) : Rel K S ρ (upd H p o) := by
  refine ⟨R.len, fun a q => ?_, R.dj, fun n u h1 h2 => ?_, R.inj⟩
  · by_cases e : a = p
    · exact ⟨o, e ▸ upd_same⟩
    · rw [upd_ne e]; exact R.gt a q
  · obtain ⟨a, ho, q1, q2, q3⟩ := R.ob n u h1 h2
    have ne : a ≠ p := fun e => R.dj p g (e ▸ ⟨n, u, h1, h2, q1⟩)
    refine ⟨a, ho, q1, by rw [upd_ne ne]; exact q2, ?_⟩
    exact q3.tr (fun _ _ z => RW.gput R g z) fun _ q => RT.ext q (fun a u h l => by rw [upd_ne (show a ≠ p from fun e => l (.inr (by rw [e]; exact g)))]; exact h) (fun a q => .inl q)
/-- fewer are guarded -/
theorem RW.ung {g : Addr → Prop} (hg : ∀ a, g a → ρ.grd a) {w : W} {v : V} (z : RW K ρ H (Live S ρ) w v) : RW K ⟨ρ.adr, g⟩ H (Live S ⟨ρ.adr, g⟩) w v := by
  cases w with
  | d x => exact Rp.ext (fun a u h l => h) (fun a q => .inl (q.elim (fun q => .inl q) fun q => .inr (hg a q))) x v z
  | r k => exact z
  | s ns =>
    obtain ⟨b, h1, h2⟩ := z
    exact ⟨b, h1, h2.ext (fun a u h l => h) (fun a q => .inl (q.elim (fun q => .inl q) fun q => .inr (hg a q)))⟩
  | e x =>
    obtain ⟨b, h1, h2⟩ := z
    exact ⟨b, h1, h2.ext (fun a u h l => h) (fun a q => .inl (q.elim (fun q => .inl q) fun q => .inr (hg a q)))⟩
theorem Rel.ung {g : Addr → Prop} (R : Rel K S ρ H) (hg : ∀ a, g a → ρ.grd a) : Rel K S ⟨ρ.adr, g⟩ H := by
  refine ⟨R.len, fun a q => R.gt a (hg a q), fun a q z => R.dj a (hg a q) z, fun n u h1 h2 => ?_, R.inj⟩
  obtain ⟨a, ho, q1, q2, q3⟩ := R.ob n u h1 h2
  refine ⟨a, ho, q1, q2, ?_⟩
  exact q3.tr (fun _ _ z => RW.ung hg z) fun _ q => RT.ext q (fun a u h l => h) (fun a q => .inl (q.elim (fun q => .inl q) fun q => .inr (hg a q)))
end
end DL
/-! DL2: readings by plain functions: expressions, tests, arguments, statements; how they are put together. -/
namespace DL
open PySem PySem.Spec PyProof.Rows L2

abbrev RR (α β : Type) := Pl → Hp → (Addr → Prop) → α → β → Prop
def Stb {α β : Type} (R : RR α β) : Prop := ∀ (S : Sto) (ρ : Pl) (H : Hp) (S' : Sto) (ρ' : Pl) (H' : Hp) (a : α) (b : β), R ρ H (Live S ρ) a b → Ext S ρ H S' ρ' H' → R ρ' H' (Live S' ρ') a b
def rP {α β α' β' : Type} (R : RR α β) (R' : RR α' β') : RR (α × α') (β × β') := fun ρ H L p q => R ρ H L p.1 q.1 ∧ R' ρ H L p.2 q.2
def rE {α : Type} : RR α α := fun _ _ _ a b => a = b
theorem Stb.p {α β α' β' : Type} {R : RR α β} {R' : RR α' β'} (h : Stb R) (h' : Stb R') : Stb (rP R R') := fun _ _ _ _ _ _ _ _ q e => ⟨h _ _ _ _ _ _ _ _ q.1 e, h' _ _ _ _ _ _ _ _ q.2 e⟩
theorem Stb.e {α : Type} : Stb (rE (α := α)) := fun _ _ _ _ _ _ _ _ q _ => q
theorem Stb.w {K : PySem.W.Frag} : Stb (RW K) := fun _ _ _ _ _ _ _ _ q e => q.ext e
theorem Stb.ws {K : PySem.W.Frag} : Stb (RWs K) := fun _ _ _ _ _ _ _ _ q e => q.ext e
abbrev Env := List (Option W)
def REnv (K : PySem.W.Frag) : RR Env L2.St := fun ρ H L δ σ => δ.length = σ.length ∧ ∀ (i : Nat) (w : W), δ[i]? = some (some w) → ∃ v, σ[i]? = some (some v) ∧ RW K ρ H L w v
theorem Stb.env {K : PySem.W.Frag} : Stb (REnv K) := fun _ _ _ _ _ _ _ _ q e => ⟨q.1, fun i w h => let ⟨v, h1, h2⟩ := q.2 i w h; ⟨v, h1, h2.ext e⟩⟩
/-- what is wanted of an error -/
abbrev XZ := Ex → Sto → Pl → Hp → Prop
abbrev ZF : XZ := fun _ _ _ _ => False
/-- from a (b its likeness) the run of m a ends in what is wanted -/
def tH (K : PySem.W.Frag) (Z : XZ) {A B α β : Type} (RA : RR A B) (Rα : RR α β) (m : A → M α) (b : B) (H : Hp) (Q : β → Hp → Prop) : Prop :=
  ∃ (a : A) (S : Sto) (ρ : Pl), Rel K S ρ H ∧ RA ρ H (Live S ρ) a b ∧
    Gives (m a S) (fun r S' => ∀ (ρ' : Pl) (H' : Hp) (v : β), Ext S ρ H S' ρ' H' → Rel K S' ρ' H' → Rα ρ' H' (Live S' ρ') r v → Q v H')
      (fun x S' => ∀ (ρ' : Pl) (H' : Hp), Ext S ρ H S' ρ' H' → Rel K S' ρ' H' → Z x S' ρ' H')
section
variable {K : PySem.W.Frag} {Z : XZ} {A B A' B' α β γ γ' : Type} {RA : RR A B} {RA' : RR A' B'} {Rα : RR α β} {Rγ : RR γ γ'}
theorem tH.mono {m : A → M α} {b : B} {H : Hp} {Q Q' : β → Hp → Prop} (h : tH K Z RA Rα m b H Q) (hq : ∀ v H', Q v H' → Q' v H') : tH K Z RA Rα m b H Q' := by
  obtain ⟨a, S, ρ, r, ra, g⟩ := h
  exact ⟨a, S, ρ, r, ra, gives_imp g (fun _ _ q ρ' H' v e r' x => hq _ _ (q ρ' H' v e r' x)) fun _ _ q => q⟩
theorem tH.map {m : A' → M α} {f : A → A'} {g : B → B'} {b : B} {H : Hp} {Q : β → Hp → Prop} (h : tH K Z RA Rα (fun a => m (f a)) b H Q) (hp : ∀ ρ H L a b, RA ρ H L a b → RA' ρ H L (f a) (g b)) : tH K Z RA' Rα m (g b) H Q := by
  obtain ⟨a, S, ρ, r, ra, gv⟩ := h
  exact ⟨f a, S, ρ, r, hp _ _ _ _ _ ra, gv⟩
theorem tH.bind {f : A → M α} {g : A → α → M γ} {b : B} {H : Hp} {Q : γ' → Hp → Prop} (h : tH K Z RA Rγ (fun a => bd (f a) (g a)) b H Q) (st : Stb RA) :
    tH K Z RA Rα f b H fun v H1 => tH K Z (rP RA Rα) Rγ (fun p => g p.1 p.2) (b, v) H1 Q := by
  obtain ⟨a, S, ρ, r, ra, gv⟩ := h
  refine ⟨a, S, ρ, r, ra, gives_imp (gives_bd gv) (fun w S1 q ρ1 H1 v e1 r1 x1 => ?_) fun _ _ q => q⟩
  refine ⟨(a, w), S1, ρ1, r1, ⟨st _ _ _ _ _ _ _ _ ra e1, x1⟩, gives_imp q (fun c S2 q2 ρ2 H2 z e2 r2 x2 => ?_) fun x S2 q2 ρ2 H2 e2 r2 => ?_⟩
  · exact q2 ρ2 H2 z (e1.trans e2) r2 x2
  · exact q2 ρ2 H2 (e1.trans e2) r2
theorem tH.pure {f : A → α} {b : B} {H : Hp} {Q : β → Hp → Prop} (h : tH K Z RA Rα (fun a => pr (f a)) b H Q) {v : β} (hv : ∀ ρ H L a, RA ρ H L a b → Rα ρ H L (f a) v) : Q v H := by
  obtain ⟨a, S, ρ, r, ra, gv⟩ := h
  exact gv ρ H v Ext.refl r (hv _ _ _ _ ra)
end
abbrev tE (K : PySem.W.Frag) (Z : XZ) (f : Env → M W) : TE := fun σ H Q => tH K Z (REnv K) (RW K) f σ H Q
abbrev tT (K : PySem.W.Frag) (Z : XZ) (f : Env → M Bool) : TT := fun σ H Q => tH K Z (REnv K) rE f σ H Q
abbrev tA (K : PySem.W.Frag) (Z : XZ) (f : Env → M (List W)) : TA := fun σ H Q => tH K Z (REnv K) (RWs K) f σ H Q
theorem _root_.L2.PE.imp {X : Cx} {e : Expr} {t t' : TE} (h : PE X e t) (hi : ∀ σ H Q, t' σ H Q → t σ H Q) : PE X e t' := ⟨fun pins s σ H Q I q => h.run pins s σ H Q I (hi _ _ _ q)⟩
theorem _root_.L2.PT.imp {X : Cx} {e : Expr} {t t' : TT} (h : PT X e t) (hi : ∀ σ H Q, t' σ H Q → t σ H Q) : PT X e t' := ⟨fun pins s σ H Q I q => h.run pins s σ H Q I (hi _ _ _ q)⟩
theorem _root_.L2.PW.imp {X : Cx} {e : Expr} {t t' : TT} (h : PW X e t) (hi : ∀ σ H Q, t' σ H Q → t σ H Q) : PW X e t' := ⟨fun w pins s σ H Q I q => h.run w pins s σ H Q I (hi _ _ _ q)⟩
theorem _root_.L2.PA.imp {X : Cx} {e : List Expr} {t t' : TA} (h : PA X e t) (hi : ∀ σ H Q, t' σ H Q → t σ H Q) : PA X e t' := ⟨fun pos pins s σ H Q I q => h.run pos pins s σ H Q I (hi _ _ _ q)⟩
theorem _root_.L2.PTs.imp {X : Cx} {e : List Expr} {t t' : TT} (h : PTs X e t) (hi : ∀ σ H Q, t' σ H Q → t σ H Q) : PTs X e t' := ⟨fun pins s σ H Q I q => h.run pins s σ H Q I (hi _ _ _ q)⟩
theorem _root_.L2.PS.imp {X : Cx} {e : Stmt} {t t' : TS} (h : PS X e t) (hi : ∀ D σ H, t' D σ H → t D σ H) : PS X e t' := ⟨fun pins s σ H D I q => h.run pins s σ H D I (hi _ _ _ q)⟩
theorem _root_.L2.PSs.imp {X : Cx} {e : List Stmt} {t t' : TS} (h : PSs X e t) (hi : ∀ D σ H, t' D σ H → t D σ H) : PSs X e t' := ⟨fun pins s σ H D I q => h.run pins s σ H D I (hi _ _ _ q)⟩

/-! ### names and constants -/
def varM (i : Nat) (δ : Env) : M W := fun S => match δ[i]? with
  | some (some w) => .ok w S
  | _ => .no
abbrev cM (x : D) (_ : Env) : M W := pr (.d x)
section
variable {X : Cx} {Z : XZ} {pos : Pos}
theorem dvar {i : Nat} {x : Str} (hN : X.N[i]? = some x := by rfl) (hv : Vis X.env.scope x := by first | exact Or.inl rfl | exact Or.inr (Or.inl rfl) | exact Or.inr (Or.inr rfl)) (hd : (x == ("__debug__" : Str)) = false := by decide)
    (hcd : (x == ("__classdict__" : Str)) = false := by decide) : PE X (.Name x pos) (tE X.K Z (varM i)) := by
  refine (pe_var hN hv hd hcd).imp fun σ H Q h => ?_
  obtain ⟨δ, S, ρ, r, ra, g⟩ := h
  unfold varM at g
  split at g
  · rename_i w e
    obtain ⟨v, h1, h2⟩ := ra.2 i w e
    exact ⟨v, h1, g ρ H v Ext.refl r h2⟩
  · exact g.elim
theorem dC {e : Expr} {v : V} {x : D} (h : PE X e (tC v)) (hx : ∀ H L, Rp X.K H L v x) : PE X e (tE X.K Z (cM x)) :=
  h.imp fun σ H Q q => tH.pure q fun _ _ _ _ _ => hx _ _
theorem dint {i j} : PE X (.Constant (.int i) j pos) (tE X.K Z (cM (.int i))) := dC pe_int fun _ _ => .int i
theorem dbl {i j} : PE X (.Constant (.bool i) j pos) (tE X.K Z (cM (.bool i))) := dC pe_bl fun _ _ => .bl i
theorem dnon {j} : PE X (.Constant .none j pos) (tE X.K Z (cM .none)) := dC pe_non fun _ _ => .non
theorem dstr {x j} (h : okS x = true := by decide +kernel) : PE X (.Constant (.str x) j pos) (tE X.K Z (cM (.str x))) := dC pe_str fun _ _ => .str x h
/-- what is written at the top -/
theorem dglob {x : Str} {v : V} {u : Value} {d : D} (hg : Gl X x) (hm : X.mg x = some u) (r : RelV v u) (hx : ∀ H L, Rp X.K H L v d) (hd : (x == ("__debug__" : Str)) = false := by decide) : PE X (.Name x pos) (tE X.K Z (cM d)) :=
  dC (pe_glob hg hm r hd) hx
end

/-! ### operators by their rule -/
def r2M (K : PySem.W.Frag) (Z : XZ) (fo : W → W → M W) : R2 := fun x y H Q => tH K Z (rP (RW K) (RW K)) (RW K) (fun p => fo p.1 p.2) (x, y) H Q
def r1M (K : PySem.W.Frag) (Z : XZ) (fo : W → M W) : V → Hp → VK → Prop := fun x H Q => tH K Z (RW K) (RW K) fo x H Q
def rcM (K : PySem.W.Frag) (Z : XZ) (fo : List W → M W) : List V → Hp → VK → Prop := fun xs H Q => tH K Z (RWs K) (RW K) fo xs H Q
abbrev binM (fa fb : Env → M W) (fo : W → W → M W) : Env → M W := fun δ => bd (fa δ) fun x => bd (fb δ) fun y => fo x y
section
variable {X : Cx} {Z : XZ} {pos : Pos} {a b c : Expr} {fa fb fc : Env → M W}
theorem tE.two {σ : L2.St} {H : Hp} {Q : VK} {fo : W → W → M W} (h : tE X.K Z (binM fa fb fo) σ H Q) : tOp (r2M X.K Z fo) (tE X.K Z fa) (tE X.K Z fb) σ H Q := by
  refine (tH.bind (Rα := RW X.K) (f := fa) (g := fun δ x => bd (fb δ) fun y => fo x y) h Stb.env).mono fun x H1 h1 => ?_
  have h2 := tH.bind (Rα := RW X.K) (f := fun p : Env × W => fb p.1) (g := fun p y => fo p.2 y) h1 (Stb.env.p Stb.w)
  refine (tH.map (RA' := REnv X.K) (m := fb) (f := Prod.fst) (g := Prod.fst) h2 fun _ _ _ _ _ q => q.1).mono fun y H2 h3 => ?_
  exact tH.map (RA' := rP (RW X.K) (RW X.K)) (m := fun p : W × W => fo p.1 p.2) (f := fun q : (Env × W) × W => (q.1.2, q.2)) (g := fun q : (L2.St × V) × V => (q.1.2, q.2)) h3 fun _ _ _ _ _ q => ⟨q.1.2, q.2⟩
theorem dop {op : Operator} {fo : W → W → M W} (ho : OpR X (binaryOp op) (r2M X.K Z fo)) (ha : PE X a (tE X.K Z fa)) (hb : PE X b (tE X.K Z fb)) : PE X (.BinOp a op b pos) (tE X.K Z (binM fa fb fo)) :=
  (pe_op ho ha hb).imp fun _ _ _ h => tE.two h
theorem dcmp {op : CmpOp} {fo : W → W → M W} (ho : OpR X (compareOp op) (r2M X.K Z fo)) (ha : PE X a (tE X.K Z fa)) (hb : PE X b (tE X.K Z fb)) (hm : behindInMarks op b = false := by rfl) : PE X (.Compare a [op] [b] pos) (tE X.K Z (binM fa fb fo)) :=
  (pe_cmpR ho ha hb hm).imp fun _ _ _ h => tE.two h
def boolOf (w : W) : M Bool := match w with
  | .d (.bool b) => pr b
  | _ => no
/-- a < b < c -/
abbrev chainM (fa fb fc : Env → M W) (fo fo' : W → W → M W) : Env → M W := fun δ => bd (fa δ) fun x => bd (fb δ) fun y => bd (fo x y) fun z => bd (boolOf z) fun k => if k = true then bd (fc δ) fun w => fo' y w else pr (.d (.bool false))
theorem boolOf_gives {w : W} {S : Sto} {P : Bool → Sto → Prop} {E : Ex → Sto → Prop} (h : Gives (boolOf w S) P E) : ∃ b, w = .d (.bool b) ∧ P b S := by
  unfold boolOf at h
  split at h
  · exact ⟨_, rfl, h⟩
  · exact h.elim
theorem tE.chain {σ : L2.St} {H : Hp} {Q : VK} {fo fo' : W → W → M W} (h : tE X.K Z (chainM fa fb fc fo fo') σ H Q) : tChain (r2M X.K Z fo) (r2M X.K Z fo') (tE X.K Z fa) (tE X.K Z fb) (tE X.K Z fc) σ H Q := by
  refine (tH.bind (Rα := RW X.K) (f := fa) (g := fun δ x => bd (fb δ) fun y => bd (fo x y) fun z => bd (boolOf z) fun k => if k = true then bd (fc δ) fun w => fo' y w else pr (.d (.bool false))) h Stb.env).mono fun x H1 h1 => ?_
  have h2 := tH.bind (Rα := RW X.K) (f := fun p : Env × W => fb p.1) (g := fun p y => bd (fo p.2 y) fun z => bd (boolOf z) fun k => if k = true then bd (fc p.1) fun w => fo' y w else pr (.d (.bool false))) h1 (Stb.env.p Stb.w)
  refine (tH.map (RA' := REnv X.K) (m := fb) (f := Prod.fst) (g := Prod.fst) h2 fun _ _ _ _ _ q => q.1).mono fun y H2 h3 => ?_
  have h4 := tH.bind (Rα := RW X.K) (f := fun q : (Env × W) × W => fo q.1.2 q.2) (g := fun q z => bd (boolOf z) fun k => if k = true then bd (fc q.1.1) fun w => fo' q.2 w else pr (.d (.bool false))) h3 ((Stb.env.p Stb.w).p Stb.w)
  refine tH.mono (tH.map (RA' := rP (RW X.K) (RW X.K)) (m := fun p : W × W => fo p.1 p.2) (f := fun q : (Env × W) × W => (q.1.2, q.2)) (g := fun q : (L2.St × V) × V => (q.1.2, q.2)) h4 fun _ _ _ _ _ q => ⟨q.1.2, q.2⟩) fun z H3 h5 => ?_
  obtain ⟨⟨⟨⟨δ, w1⟩, w2⟩, w3⟩, S, ρ, r, ⟨⟨⟨r0, r1⟩, r2⟩, r3⟩, g⟩ := h5
  obtain ⟨k, e, g⟩ := boolOf_gives (gives_bd g)
  change w3 = _ at e
  subst e
  have hz : z = .bl k := by cases r3; rfl
  refine ⟨k, hz, ?_⟩
  cases k with
  | true =>
    rw [if_pos rfl]
    rw [if_pos rfl] at g
    have h6 : tH X.K Z (rP (REnv X.K) (RW X.K)) (RW X.K) (fun p : Env × W => bd (fc p.1) fun w => fo' p.2 w) (σ, y) H3 Q := ⟨(δ, w2), S, ρ, r, ⟨r0, r2⟩, g⟩
    have h7 := tH.bind (Rα := RW X.K) (f := fun p : Env × W => fc p.1) (g := fun p w => fo' p.2 w) h6 (Stb.env.p Stb.w)
    refine (tH.map (RA' := REnv X.K) (m := fc) (f := Prod.fst) (g := Prod.fst) h7 fun _ _ _ _ _ q => q.1).mono fun w H4 h8 => ?_
    exact tH.map (RA' := rP (RW X.K) (RW X.K)) (m := fun p : W × W => fo' p.1 p.2) (f := fun q : (Env × W) × W => (q.1.2, q.2)) (g := fun q : (L2.St × V) × V => (q.1.2, q.2)) h8 fun _ _ _ _ _ q => ⟨q.1.2, q.2⟩
  | false =>
    rw [if_neg Bool.false_ne_true]
    rw [if_neg Bool.false_ne_true] at g
    exact g ρ H3 (.bl false) Ext.refl r (.bl false)
theorem dchain {op op' : CmpOp} {fo fo' : W → W → M W} (ho : OpR X (compareOp op) (r2M X.K Z fo)) (ho' : OpR X (compareOp op') (r2M X.K Z fo')) (ha : PE X a (tE X.K Z fa)) (hb : PE X b (tE X.K Z fb)) (hc : PE X c (tE X.K Z fc)) (hm : lastMarks [op, op'] [b, c] = false := by with_unfolding_all rfl) :
    PE X (.Compare a [op, op'] [b, c] pos) (tE X.K Z (chainM fa fb fc fo fo')) := (pe_chain ho ho' ha hb hc hm).imp fun σ H Q h => tE.chain h
theorem dun {op : UnaryOp} {fo : W → M W} (ho : UnR X (unaryOp op) (r1M X.K Z fo)) (ha : PE X a (tE X.K Z fa)) : PE X (.UnaryOp op a pos) (tE X.K Z fun δ => bd (fa δ) fo) := by
  refine (pe_un ho ha).imp fun σ H Q h => ?_
  refine (tH.bind (Rα := RW X.K) (f := fa) (g := fun _ x => fo x) h Stb.env).mono fun x H1 h1 => ?_
  exact tH.map (RA' := RW X.K) (m := fo) (f := Prod.snd) (g := Prod.snd) h1 fun _ _ _ _ _ q => q.2

/-! ### arguments, displays -/
abbrev nilM : Env → M (List W) := fun _ => pr []
abbrev consM (fa : Env → M W) (fr : Env → M (List W)) : Env → M (List W) := fun δ => bd (fa δ) fun x => bd (fr δ) fun xs => pr (x :: xs)
variable {es : List Expr} {fr : Env → M (List W)}
theorem danil : PA X [] (tA X.K Z nilM) := pa_nil.imp fun σ H Q h => tH.pure h fun _ _ _ _ _ => .nil
theorem dacons (ha : PE X a (tE X.K Z fa)) (hr : PA X es (tA X.K Z fr)) (hs : starEach (a :: es) X.env = (false, eval a X.env) :: starEach es X.env := by rfl) : PA X (a :: es) (tA X.K Z (consM fa fr)) := by
  refine (pa_cons ha hr hs).imp fun σ H Q h => ?_
  refine (tH.bind (Rα := RW X.K) (f := fa) (g := fun δ x => bd (fr δ) fun xs => pr (x :: xs)) h Stb.env).mono fun x H1 h1 => ?_
  have h2 := tH.bind (Rα := RWs X.K) (f := fun p : Env × W => fr p.1) (g := fun p xs => pr (p.2 :: xs)) h1 (Stb.env.p Stb.w)
  refine (tH.map (RA' := REnv X.K) (m := fr) (f := Prod.fst) (g := Prod.fst) h2 fun _ _ _ _ _ q => q.1).mono fun xs H2 h3 => ?_
  exact tH.pure h3 fun _ _ _ _ q => .cons q.1.2 q.2
/-- plain data of all -/
def allD : List W → Option (List D)
  | [] => some []
  | .d x :: ws => (allD ws).map (x :: ·)
  | .r _ :: _ => none
  | .s _ :: _ => none
  | .e _ :: _ => none
theorem allD_rep {K : PySem.W.Frag} {ρ : Pl} {H : Hp} {L : Addr → Prop} : ∀ {ws : List W} {vs : List V} {ds : List D}, allD ws = some ds → RWs K ρ H L ws vs → RpA K H L vs ds
  | [], _, ds, h, r => by cases r; simp [allD] at h; subst h; exact .nil
  | .d x :: ws, _, ds, h, r => by
    cases r with
    | cons a b =>
      simp only [allD, Option.map_eq_some_iff] at h
      obtain ⟨es, h1, h2⟩ := h
      subst h2
      exact .cons a (allD_rep h1 b)
  | .r _ :: _, _, ds, h, r => by simp [allD] at h
  | .s _ :: _, _, ds, h, r => by simp [allD] at h
  | .e _ :: _, _, ds, h, r => by simp [allD] at h
theorem allD_map : ∀ ds : List D, allD (ds.map .d) = some ds
  | [] => rfl
  | d :: ds => by simp [allD, allD_map ds]
/-- a new list or tuple that nobody changes -/
def lstM (ws : List W) : M W := fun S => if ws.length ≤ sizeLine then (match allD ws with | some ds => .ok (.d (.list ds)) S | none => .no) else .no
def tupM (ws : List W) : M W := fun S => if ws.length ≤ sizeLine then (match allD ws with | some ds => .ok (.d (.tuple ds)) S | none => .no) else .no
/-- a new list that may change -/
def newM (ws : List W) : M W := fun S => if ws.length ≤ sizeLine then .ok (.r S.length) (S ++ [.lst ws]) else .no
theorem lstM_new {K : PySem.W.Frag} {ρ : Pl} {H : Hp} {S : Sto} {ws : List W} {vs : List V} {P : W → Sto → Prop} {E : Ex → Sto → Prop} (g : Gives (lstM ws S) P E) (R : Rel K S ρ H) (rv : RWs K ρ H (Live S ρ) ws vs) :
    ∃ ds, vs.length ≤ sizeLine ∧ P (.d (.list ds)) S ∧ ∀ p, H p = none → RW K ρ (upd H p (.lst vs)) (Live S ρ) (.d (.list ds)) (.ref p) := by
  unfold lstM at g
  split at g
  · rename_i hl
    split at g
    · rename_i ds e
      refine ⟨ds, by rw [← Paired.length rv]; exact hl, g, fun p hp => ?_⟩
      have ex : Ext S ρ H S ρ (upd H p (.lst vs)) := Ext.frz hp
      exact .lst ⟨upd_same, R.notLive hp⟩ (RpA.ext ex.stabL ex.newL _ _ (allD_rep e rv))
    · exact g.elim
  · exact g.elim
theorem tupM_new {K : PySem.W.Frag} {ρ : Pl} {H : Hp} {S : Sto} {ws : List W} {vs : List V} {P : W → Sto → Prop} {E : Ex → Sto → Prop} (g : Gives (tupM ws S) P E) (R : Rel K S ρ H) (rv : RWs K ρ H (Live S ρ) ws vs) :
    ∃ ds, vs.length ≤ sizeLine ∧ P (.d (.tuple ds)) S ∧ ∀ p, H p = none → RW K ρ (upd H p (.tup vs)) (Live S ρ) (.d (.tuple ds)) (.ref p) := by
  unfold tupM at g
  split at g
  · rename_i hl
    split at g
    · rename_i ds e
      refine ⟨ds, by rw [← Paired.length rv]; exact hl, g, fun p hp => ?_⟩
      have ex : Ext S ρ H S ρ (upd H p (.tup vs)) := Ext.frz hp
      exact .tup (.inl ⟨.inl upd_same, R.notLive hp⟩) (RpA.ext ex.stabL ex.newL _ _ (allD_rep e rv))
    · exact g.elim
  · exact g.elim
theorem newM_new {K : PySem.W.Frag} {ρ : Pl} {H : Hp} {S : Sto} {ws : List W} {vs : List V} {P : W → Sto → Prop} {E : Ex → Sto → Prop} (g : Gives (newM ws S) P E) (R : Rel K S ρ H) (rv : RWs K ρ H (Live S ρ) ws vs) :
    vs.length ≤ sizeLine ∧ P (.r S.length) (S ++ [.lst ws]) ∧ ∀ p, H p = none → Ext S ρ H (S ++ [.lst ws]) (ρ.add p) (upd H p (.lst vs)) ∧ Rel K (S ++ [.lst ws]) (ρ.add p) (upd H p (.lst vs)) ∧
      RW K (ρ.add p) (upd H p (.lst vs)) (Live (S ++ [.lst ws]) (ρ.add p)) (.r S.length) (.ref p) := by
  unfold newM at g
  split at g
  · rename_i hl
    refine ⟨by rw [← Paired.length rv]; exact hl, g, fun p hp => ⟨Ext.new R hp, Rel.new R hp ⟨vs, rfl, rv⟩, p, ?_, rfl⟩⟩
    show (ρ.adr ++ [p])[S.length]? = some p
    rw [← R.len, List.getElem?_append_right (Nat.le_refl _)]
    simp
  · exact g.elim
theorem dlst (h : PA X es (tA X.K Z fr)) : PE X (.List es pos) (tE X.K Z fun δ => bd (fr δ) lstM) := by
  refine (pe_lst h).imp fun σ H Q q => ?_
  refine (tH.bind (Rα := RWs X.K) (f := fr) (g := fun _ xs => lstM xs) q Stb.env).mono fun xs H1 h1 => ?_
  obtain ⟨⟨δ, ws⟩, S, ρ, r, ⟨_, rv⟩, g⟩ := h1
  obtain ⟨ds, hl, g, hn⟩ := lstM_new g r rv
  exact ⟨hl, fun p hp => g ρ _ _ (Ext.frz hp) (r.frz hp) (hn p hp)⟩
theorem dtup {x1} (h : PA X es (tA X.K Z fr)) : PE X (.Tuple es x1 pos) (tE X.K Z fun δ => bd (fr δ) tupM) := by
  refine (pe_tup h).imp fun σ H Q q => ?_
  refine (tH.bind (Rα := RWs X.K) (f := fr) (g := fun _ xs => tupM xs) q Stb.env).mono fun xs H1 h1 => ?_
  obtain ⟨⟨δ, ws⟩, S, ρ, r, ⟨_, rv⟩, g⟩ := h1
  obtain ⟨ds, hl, g, hn⟩ := tupM_new g r rv
  exact ⟨hl, fun p hp => g ρ _ _ (Ext.frz hp) (r.frz hp) (hn p hp)⟩
theorem dnew (h : PA X es (tA X.K Z fr)) : PE X (.List es pos) (tE X.K Z fun δ => bd (fr δ) newM) := by
  refine (pe_lst h).imp fun σ H Q q => ?_
  refine (tH.bind (Rα := RWs X.K) (f := fr) (g := fun _ xs => newM xs) q Stb.env).mono fun xs H1 h1 => ?_
  obtain ⟨⟨δ, ws⟩, S, ρ, r, ⟨_, rv⟩, g⟩ := h1
  obtain ⟨hl, g, hn⟩ := newM_new g r rv
  refine ⟨hl, fun p hp => ?_⟩
  obtain ⟨e1, e2, e3⟩ := hn p hp
  exact g _ _ _ e1 e2 e3
end
end DL
/-! DL3: tests, and | or | not, choices, calls, subscripts, statements, loops. -/
namespace DL
open PySem PySem.Spec PyProof.Rows L2
section
variable {X : Cx} {Z : XZ} {pos : Pos} {a b c : Expr} {fa fb fc : Env → M W} {ga gb : Env → M Bool} {rest : List Expr}
/-! ### tests -/
abbrev valT (f : Env → M W) : Env → M Bool := fun δ => bd (f δ) boolOf
abbrev andT (f g : Env → M Bool) : Env → M Bool := fun δ => bd (f δ) fun k => if k = true then g δ else pr false
abbrev orT (f g : Env → M Bool) : Env → M Bool := fun δ => bd (f δ) fun k => if k = true then pr true else g δ
abbrev notT (f : Env → M Bool) : Env → M Bool := fun δ => bd (f δ) fun k => pr (!k)
theorem tT.val {σ : L2.St} {H : Hp} {Q : Bool → Hp → Prop} (h : tT X.K Z (valT fa) σ H Q) : tB (tE X.K Z fa) σ H Q := by
  refine (tH.bind (Rα := RW X.K) (f := fa) (g := fun _ x => boolOf x) h Stb.env).mono fun x H1 h1 => ?_
  obtain ⟨⟨δ, w⟩, S, ρ, r, ⟨r0, r1⟩, g⟩ := h1
  obtain ⟨k, e, g⟩ := boolOf_gives g
  change w = _ at e
  subst e
  cases r1
  exact ⟨k, rfl, g ρ H1 k Ext.refl r rfl⟩
theorem dt_val {e : Expr} (h : PE X e (tE X.K Z fa)) (he : ∀ whole, isTrue e X.env whole = (do let v ← whole; standAt e.pos; holding [v] (truthy v)) := by intro _; rfl) : PT X e (tT X.K Z (valT fa)) :=
  (pt_val h he).imp fun _ _ _ q => tT.val q
theorem dt_cmp {op : CmpOp} {fo : W → W → M W} (ho : OpR X (compareOp op) (r2M X.K Z fo)) (ha : PE X a (tE X.K Z fa)) (hb : PE X b (tE X.K Z fb)) (hm : behindInMarks op b = false := by rfl) :
    PT X (.Compare a [op] [b] pos) (tT X.K Z (valT (binM fa fb fo))) :=
  (pt_cmpR ho ha hb hm).imp fun σ H Q q => by
    have h1 := tT.val q
    unfold tB at h1
    unfold tTest
    exact tE.two h1
theorem dw_and1 (h : PT X a (tT X.K Z ga)) : PW X (.BoolOp .And [a] pos) (tT X.K Z ga) := pw_and1 h
theorem dw_or1 (h : PT X a (tT X.K Z ga)) : PW X (.BoolOp .Or [a] pos) (tT X.K Z ga) := pw_or1 h
theorem tT.and {σ : L2.St} {H : Hp} {Q : Bool → Hp → Prop} (h : tT X.K Z (andT ga gb) σ H Q) : tAnd (tT X.K Z ga) (tT X.K Z gb) σ H Q := by
  refine (tH.bind (Rα := rE) (f := ga) (g := fun δ k => if k = true then gb δ else pr false) h Stb.env).mono fun k H1 h1 => ?_
  obtain ⟨⟨δ, w⟩, S, ρ, r, ⟨r0, r1⟩, g⟩ := h1
  cases r1
  cases k with
  | true =>
    rw [if_pos rfl]
    exact ⟨δ, S, ρ, r, r0, g⟩
  | false =>
    rw [if_neg Bool.false_ne_true]
    exact g ρ H1 false Ext.refl r rfl
theorem tT.or {σ : L2.St} {H : Hp} {Q : Bool → Hp → Prop} (h : tT X.K Z (orT ga gb) σ H Q) : tOr (tT X.K Z ga) (tT X.K Z gb) σ H Q := by
  refine (tH.bind (Rα := rE) (f := ga) (g := fun δ k => if k = true then pr true else gb δ) h Stb.env).mono fun k H1 h1 => ?_
  obtain ⟨⟨δ, w⟩, S, ρ, r, ⟨r0, r1⟩, g⟩ := h1
  cases r1
  cases k with
  | true =>
    rw [if_pos rfl]
    exact g ρ H1 true Ext.refl r rfl
  | false =>
    rw [if_neg Bool.false_ne_true]
    exact ⟨δ, S, ρ, r, r0, g⟩
theorem dw_and (ha : PT X a (tT X.K Z ga)) (hb : PW X (.BoolOp .And (b :: rest) pos) (tT X.K Z gb)) : PW X (.BoolOp .And (a :: b :: rest) pos) (tT X.K Z (andT ga gb)) := (pw_and ha hb).imp fun _ _ _ h => tT.and h
theorem dw_or (ha : PT X a (tT X.K Z ga)) (hb : PW X (.BoolOp .Or (b :: rest) pos) (tT X.K Z gb)) : PW X (.BoolOp .Or (a :: b :: rest) pos) (tT X.K Z (orT ga gb)) := (pw_or ha hb).imp fun _ _ _ h => tT.or h
theorem dt_bool (h : PW X a (tT X.K Z ga)) : PT X a (tT X.K Z ga) := h.pt
theorem dt_not (h : PT X a (tT X.K Z ga)) : PT X (.UnaryOp .Not a pos) (tT X.K Z (notT ga)) := by
  refine (pt_not h).imp fun σ H Q q => ?_
  refine (tH.bind (Rα := rE) (f := ga) (g := fun _ k => pr (!k)) q Stb.env).mono fun k H1 h1 => ?_
  exact tH.pure h1 fun _ _ _ p q => by
    have := q.2
    show (!p.2) = !k
    rw [show p.2 = k from this]
/-! ### .. as values -/
abbrev andV (f g : Env → M W) : Env → M W := fun δ => bd (f δ) fun x => bd (boolOf x) fun k => if k = true then g δ else pr (.d (.bool false))
abbrev orV (f g : Env → M W) : Env → M W := fun δ => bd (f δ) fun x => bd (boolOf x) fun k => if k = true then pr (.d (.bool true)) else g δ
abbrev notV (f : Env → M W) : Env → M W := fun δ => bd (f δ) fun x => bd (boolOf x) fun k => pr (.d (.bool !k))
theorem dv_one {op} (h : PE X a (tE X.K Z fa)) : PE X (.BoolOp op [a] pos) (tE X.K Z fa) := pe_one h
theorem dv_and (ha : PE X a (tE X.K Z fa)) (hb : PE X (.BoolOp .And (b :: rest) pos) (tE X.K Z fb)) : PE X (.BoolOp .And (a :: b :: rest) pos) (tE X.K Z (andV fa fb)) := by
  refine (pe_and ha hb).imp fun σ H Q h => ?_
  refine (tH.bind (Rα := RW X.K) (f := fa) (g := fun δ x => bd (boolOf x) fun k => if k = true then fb δ else pr (.d (.bool false))) h Stb.env).mono fun x H1 h1 => ?_
  obtain ⟨⟨δ, w⟩, S, ρ, r, ⟨r0, r1⟩, g⟩ := h1
  obtain ⟨k, e, g⟩ := boolOf_gives (gives_bd g)
  change w = _ at e
  subst e
  cases r1
  refine ⟨k, rfl, ?_⟩
  cases k with
  | true => rw [if_pos rfl]; exact ⟨δ, S, ρ, r, r0, g⟩
  | false => rw [if_neg Bool.false_ne_true]; exact g ρ H1 (.bl false) Ext.refl r (.bl false)
theorem dv_or (ha : PE X a (tE X.K Z fa)) (hb : PE X (.BoolOp .Or (b :: rest) pos) (tE X.K Z fb)) : PE X (.BoolOp .Or (a :: b :: rest) pos) (tE X.K Z (orV fa fb)) := by
  refine (pe_or ha hb).imp fun σ H Q h => ?_
  refine (tH.bind (Rα := RW X.K) (f := fa) (g := fun δ x => bd (boolOf x) fun k => if k = true then pr (.d (.bool true)) else fb δ) h Stb.env).mono fun x H1 h1 => ?_
  obtain ⟨⟨δ, w⟩, S, ρ, r, ⟨r0, r1⟩, g⟩ := h1
  obtain ⟨k, e, g⟩ := boolOf_gives (gives_bd g)
  change w = _ at e
  subst e
  cases r1
  refine ⟨k, rfl, ?_⟩
  cases k with
  | true => rw [if_pos rfl]; exact g ρ H1 (.bl true) Ext.refl r (.bl true)
  | false => rw [if_neg Bool.false_ne_true]; exact ⟨δ, S, ρ, r, r0, g⟩
theorem dv_not (ha : PE X a (tE X.K Z fa)) : PE X (.UnaryOp .Not a pos) (tE X.K Z (notV fa)) := by
  refine (pe_not ha).imp fun σ H Q h => ?_
  refine (tH.bind (Rα := RW X.K) (f := fa) (g := fun δ x => bd (boolOf x) fun k => pr (W.d (.bool !k))) h Stb.env).mono fun x H1 h1 => ?_
  obtain ⟨⟨δ, w⟩, S, ρ, r, ⟨r0, r1⟩, g⟩ := h1
  obtain ⟨k, e, g⟩ := boolOf_gives (gives_bd g)
  change w = _ at e
  subst e
  cases r1
  exact ⟨k, rfl, g ρ H1 (.bl !k) Ext.refl r (.bl _)⟩
abbrev ifV (t : Env → M Bool) (f g : Env → M W) : Env → M W := fun δ => bd (t δ) fun k => if k = true then f δ else g δ
theorem dif (hc : PT X c (tT X.K Z ga)) (ha : PE X a (tE X.K Z fa)) (hb : PE X b (tE X.K Z fb)) : PE X (.IfExp c a b pos) (tE X.K Z (ifV ga fa fb)) := by
  refine (pe_ifExp hc ha hb).imp fun σ H Q h => ?_
  refine (tH.bind (Rα := rE) (f := ga) (g := fun δ k => if k = true then fa δ else fb δ) h Stb.env).mono fun k H1 h1 => ?_
  obtain ⟨⟨δ, w⟩, S, ρ, r, ⟨r0, r1⟩, g⟩ := h1
  cases r1
  cases k with
  | true => rw [if_pos rfl]; exact ⟨δ, S, ρ, r, r0, g⟩
  | false => rw [if_neg Bool.false_ne_true]; exact ⟨δ, S, ρ, r, r0, g⟩
/-! ### calls of built-ins -/
variable {es : List Expr} {fr : Env → M (List W)} {x : Str} {p : Pos} {id T : String}
abbrev calM (fr : Env → M (List W)) (fo : List W → M W) : Env → M W := fun δ => bd (fr δ) fo
theorem tE.call {σ : L2.St} {H : Hp} {Q : VK} {fo : List W → M W} (h : tE X.K Z (calM fr fo) σ H Q) : tCB (rcM X.K Z fo) (tA X.K Z fr) σ H Q := by
  refine (tH.bind (Rα := RWs X.K) (f := fr) (g := fun _ xs => fo xs) h Stb.env).mono fun xs H1 h1 => ?_
  exact tH.map (RA' := RWs X.K) (m := fo) (f := Prod.snd) (g := Prod.snd) h1 fun _ _ _ _ _ q => q.2
theorem dcallB {fo : List W → M W} (hc : CallR X (.builtin id) (rcM X.K Z fo)) (hg : Gl X x) (hm : X.mg x = none) (hv : bootBuiltins x = some (.builtin id)) (ha : PA X (a :: es) (tA X.K Z fr)) (hn : x ≠ "__name__" := by decide) (hdb : (x == ("__debug__" : Str)) = false := by decide)
    (he : starEach (a :: es) X.env = (false, eval a X.env) :: starEach es X.env := by rfl) (hpl : (backTo pos (starEach es X.env)).any (·.1) = false := by rfl) : PE X (.Call (.Name x p) (a :: es) [] pos) (tE X.K Z (calM fr fo)) :=
  (pe_callB hc hg hm hv ha hn hdb he hpl).imp fun _ _ _ h => tE.call h
theorem dcallTy {fo : List W → M W} (hc : CallR X (.type T) (rcM X.K Z fo)) (hg : Gl X x) (hm : X.mg x = none) (hv : bootBuiltins x = some (.type T)) (ha : PA X (a :: es) (tA X.K Z fr)) (hn : x ≠ "__name__" := by decide) (hdb : (x == ("__debug__" : Str)) = false := by decide)
    (he : starEach (a :: es) X.env = (false, eval a X.env) :: starEach es X.env := by rfl) (hpl : (backTo pos (starEach es X.env)).any (·.1) = false := by rfl) : PE X (.Call (.Name x p) (a :: es) [] pos) (tE X.K Z (calM fr fo)) :=
  (pe_callTy hc hg hm hv ha hn hdb he hpl).imp fun _ _ _ h => tE.call h
/-! ### subscripts, slices, methods of built-ins -/
theorem dix {fo : W → W → M W} (hr : IxR X (r2M X.K Z fo)) (ha : PE X a (tE X.K Z fa)) (hb : PE X b (tE X.K Z fb)) (hs : PlainIx b := by exact fun _ _ => rfl) : PE X (.Subscript a b pos) (tE X.K Z (binM fa fb fo)) :=
  (pe_ix hr ha hb hs).imp fun _ _ _ h => tE.two h
def intOf (w : W) : M Int := match w with
  | .d (.int i) => pr i
  | _ => no
theorem intOf_gives {w : W} {S : Sto} {P : Int → Sto → Prop} {E : Ex → Sto → Prop} (h : Gives (intOf w S) P E) : ∃ i, w = .d (.int i) ∧ P i S := by
  unfold intOf at h
  split at h
  · exact ⟨_, rfl, h⟩
  · exact h.elim
abbrev tO (K : PySem.W.Frag) (Z : XZ) (f : Env → M (Option Int)) : TO := fun σ H Q => tH K Z (REnv K) rE f σ H Q
theorem _root_.L2.PO.imp {e : Option Expr} {t t' : TO} (h : PO X e t) (hi : ∀ σ H Q, t' σ H Q → t σ H Q) : PO X e t' := ⟨fun pins s σ H Q I q => h.run pins s σ H Q I (hi _ _ _ q)⟩
theorem dpo_none : PO X none (tO X.K Z fun _ => pr none) := po_none.imp fun σ H Q h => tH.pure h fun _ _ _ _ _ => rfl
theorem dpo_some (h : PE X a (tE X.K Z fa)) : PO X (some a) (tO X.K Z fun δ => bd (fa δ) fun w => bd (intOf w) fun i => pr (some i)) := by
  refine (po_some h).imp fun σ H Q q => ?_
  refine (tH.bind (Rα := RW X.K) (f := fa) (g := fun _ w => bd (intOf w) fun i => pr (some i)) q Stb.env).mono fun v H1 h1 => ?_
  obtain ⟨⟨δ, w⟩, S, ρ, r, ⟨r0, r1⟩, g⟩ := h1
  obtain ⟨i, e, g⟩ := intOf_gives (gives_bd g)
  change w = _ at e
  subst e
  cases r1
  exact ⟨i, rfl, g ρ H1 (some i) Ext.refl r rfl⟩
def rsM (K : PySem.W.Frag) (Z : XZ) (fo : W → Option Int → Option Int → M W) : V → Option Int → Option Int → Hp → VK → Prop := fun x lo hi H Q => tH K Z (RW K) (RW K) (fun w => fo w lo hi) x H Q
theorem dslice {fo : W → Option Int → Option Int → M W} {lo hi : Option Expr} {gl gh : Env → M (Option Int)} {p2 : Pos} (hr : SlR X (rsM X.K Z fo)) (he : PE X a (tE X.K Z fa)) (hl : PO X lo (tO X.K Z gl)) (hu : PO X hi (tO X.K Z gh)) :
    PE X (.Subscript a (.Slice lo hi none p2) pos) (tE X.K Z fun δ => bd (fa δ) fun x => bd (gl δ) fun l => bd (gh δ) fun u => fo x l u) := by
  refine (pe_slice hr he hl hu).imp fun σ H Q h => ?_
  refine (tH.bind (Rα := RW X.K) (f := fa) (g := fun δ x => bd (gl δ) fun l => bd (gh δ) fun u => fo x l u) h Stb.env).mono fun v H1 h1 => ?_
  have h2 := tH.bind (Rα := rE) (f := fun p : Env × W => gl p.1) (g := fun p l => bd (gh p.1) fun u => fo p.2 l u) h1 (Stb.env.p Stb.w)
  refine (tH.map (RA' := REnv X.K) (m := gl) (f := Prod.fst) (g := Prod.fst) h2 fun _ _ _ _ _ q => q.1).mono fun l H2 h3 => ?_
  have h4 := tH.bind (Rα := rE) (f := fun p : (Env × W) × Option Int => gh p.1.1) (g := fun p u => fo p.1.2 p.2 u) h3 ((Stb.env.p Stb.w).p Stb.e)
  refine (tH.map (RA' := REnv X.K) (m := gh) (f := fun p : (Env × W) × Option Int => p.1.1) (g := fun p : (L2.St × V) × Option Int => p.1.1) h4 fun _ _ _ _ _ q => q.1.1).mono fun u H3 h5 => ?_
  obtain ⟨⟨⟨⟨δ, w⟩, l'⟩, u'⟩, S, ρ, r, ⟨⟨⟨r0, r1⟩, r2⟩, r3⟩, g⟩ := h5
  cases r2
  cases r3
  exact ⟨w, S, ρ, r, r1, g⟩
/-- a method of a built-in type by values, its receiver first -/
def rmM (K : PySem.W.Frag) (Z : XZ) (fo : W → List W → M W) : V → List V → Hp → VK → Prop := fun x xs H Q => tH K Z (rP (RW K) (RWs K)) (RW K) (fun p => fo p.1 p.2) (x, xs) H Q
abbrev metM (fa : Env → M W) (fr : Env → M (List W)) (chk : W → M Unit) (fo : W → List W → M W) : Env → M W := fun δ => bd (fa δ) fun x => bd (chk x) fun _ => bd (fr δ) fun xs => fo x xs
/-- the receiver is of the type, at its place -/
def ChkOk (K : PySem.W.Frag) (T : String) (chk : W → M Unit) : Prop := ∀ (w : W) (S : Sto) (ρ : Pl) (H : Hp) (v : V) (P : Unit → Sto → Prop) (E : Ex → Sto → Prop), Rel K S ρ H → RW K ρ H (Live S ρ) w v → Gives (chk w S) P E → tyV K T v H ∧ P () S
variable {o : Expr} {fo' : Env → M W} {name : Str} {apos cpos : Pos}
theorem dmet {chk : W → M Unit} {fo : W → List W → M W} (pa : PlainAttrs T) (slot : Slot T name id) (hty : typeOf (.builtin id) = pure (.type "method_descriptor")) (hck : ChkOk X.K T chk) (hm : MtR X id (rmM X.K Z fo)) (ho : PE X o (tE X.K Z fa)) (ha : PA X (a :: es) (tA X.K Z fr))
    (hbase : attributeBase o name X.env (eval o X.env) = eval o X.env := by rfl)
    (hfew : ((backTo cpos (starEach (a :: es) X.env)).all (fun x => !x.1) && (backToKw cpos (keywordEach [] X.env)).all (fun x => x.1.isSome)
      && decide ((a :: es).length + ([] : List Keyword).length + (if ([] : List Keyword).isEmpty then 0 else 1) < 30)) = true := by rfl)
    (hline : (apos.endLine == cpos.line) = true := by rfl) (hs : starEach (a :: es) X.env = (false, eval a X.env) :: starEach es X.env := by rfl) (hplain : (backTo cpos (starEach es X.env)).any (·.1) = false := by rfl) :
    PE X (.Call (.Attribute o name apos) (a :: es) [] cpos) (tE X.K Z (metM fa fr chk fo)) := by
  refine (pe_bm pa slot hty hm ho ha hbase hfew hline hs hplain).imp fun σ H Q h => ?_
  refine (tH.bind (Rα := RW X.K) (f := fa) (g := fun δ x => bd (chk x) fun _ => bd (fr δ) fun xs => fo x xs) h Stb.env).mono fun x H1 h1 => ?_
  obtain ⟨⟨δ, w⟩, S, ρ, r, ⟨r0, r1⟩, g⟩ := h1
  obtain ⟨hy, g⟩ := hck w S ρ H1 x _ _ r r1 (gives_bd g)
  refine ⟨hy, ?_⟩
  have h2 : tH X.K Z (rP (REnv X.K) (RW X.K)) (RW X.K) (fun p : Env × W => bd (fr p.1) fun xs => fo p.2 xs) (σ, x) H1 Q := ⟨(δ, w), S, ρ, r, ⟨r0, r1⟩, g⟩
  have h3 := tH.bind (Rα := RWs X.K) (f := fun p : Env × W => fr p.1) (g := fun p xs => fo p.2 xs) h2 (Stb.env.p Stb.w)
  refine (tH.map (RA' := REnv X.K) (m := fr) (f := Prod.fst) (g := Prod.fst) h3 fun _ _ _ _ _ q => q.1).mono fun xs H2 h4 => ?_
  exact tH.map (RA' := rP (RW X.K) (RWs X.K)) (m := fun p : W × List W => fo p.1 p.2) (f := fun q : (Env × W) × List W => (q.1.2, q.2)) (g := fun q : (L2.St × V) × List V => (q.1.2, q.2)) h4 fun _ _ _ _ _ q => ⟨q.1.2, q.2⟩
theorem dmet0 {chk : W → M Unit} {fo : W → List W → M W} (pa : PlainAttrs T) (slot : Slot T name id) (hty : typeOf (.builtin id) = pure (.type "method_descriptor")) (hck : ChkOk X.K T chk) (hm : MtR X id (rmM X.K Z fo)) (ho : PE X o (tE X.K Z fa))
    (hbase : attributeBase o name X.env (eval o X.env) = eval o X.env := by rfl) (hline : (apos.endLine == cpos.line) = true := by rfl) :
    PE X (.Call (.Attribute o name apos) [] [] cpos) (tE X.K Z (metM fa nilM chk fo)) := by
  refine (pe_bm0 pa slot hty hm ho hbase hline).imp fun σ H Q h => ?_
  refine (tH.bind (Rα := RW X.K) (f := fa) (g := fun δ x => bd (chk x) fun _ => bd (nilM δ) fun xs => fo x xs) h Stb.env).mono fun x H1 h1 => ?_
  obtain ⟨⟨δ, w⟩, S, ρ, r, ⟨r0, r1⟩, g⟩ := h1
  obtain ⟨hy, g⟩ := hck w S ρ H1 x _ _ r r1 (gives_bd g)
  exact ⟨hy, (w, []), S, ρ, r, ⟨r1, .nil⟩, g⟩
end

/-! ### statements -/
inductive Fl where
  | nx (δ : Env)
  | rt (w : W)
  | bk (δ : Env)
  | ct (δ : Env)
def EndsOk (K : PySem.W.Frag) (S : Sto) (ρ : Pl) (H : Hp) (D : Ends) : Fl → Prop
  | .nx δ => ∀ σ, REnv K ρ H (Live S ρ) δ σ → D.nx σ H
  | .rt w => ∀ v, RW K ρ H (Live S ρ) w v → D.rt v H
  | .bk δ => ∀ σ, REnv K ρ H (Live S ρ) δ σ → D.bk σ H
  | .ct δ => ∀ σ, REnv K ρ H (Live S ρ) δ σ → D.ct σ H
/-- from a state like δ, S the run of m ends in D -/
def SGives (K : PySem.W.Frag) (Z : XZ) (D : Ends) (S : Sto) (ρ : Pl) (H : Hp) (x : Res Fl) : Prop :=
  Gives x (fun fl S' => ∀ (ρ' : Pl) (H' : Hp), Ext S ρ H S' ρ' H' → Rel K S' ρ' H' → EndsOk K S' ρ' H' D fl) (fun x S' => ∀ (ρ' : Pl) (H' : Hp), Ext S ρ H S' ρ' H' → Rel K S' ρ' H' → Z x S' ρ' H')
def tS (K : PySem.W.Frag) (Z : XZ) (f : Env → M Fl) : TS := fun D σ H => ∃ (δ : Env) (S : Sto) (ρ : Pl), Rel K S ρ H ∧ REnv K ρ H (Live S ρ) δ σ ∧ SGives K Z D S ρ H (f δ S)
/-- an earlier state: what is wanted is wanted from a later one too -/
theorem SGives.ext {K : PySem.W.Frag} {Z : XZ} {D : Ends} {S S1 : Sto} {ρ ρ1 : Pl} {H H1 : Hp} {x : Res Fl} (e : Ext S ρ H S1 ρ1 H1) (h : SGives K Z D S ρ H x) : SGives K Z D S1 ρ1 H1 x :=
  gives_imp h (fun _ _ q ρ' H' e' r => q ρ' H' (e.trans e') r) fun _ _ q ρ' H' e' r => q ρ' H' (e.trans e') r
/-- from the reading of an expression (or a test, ..) to what follows it in a statement -/
theorem tS.bind {K : PySem.W.Frag} {Z : XZ} {α β : Type} {Rα : RR α β} {D : Ends} {σ : L2.St} {H : Hp} {f : Env → M α} {g : Env → α → M Fl} (h : tS K Z (fun δ => bd (f δ) (g δ)) D σ H) :
    tH K Z (REnv K) Rα f σ H fun v H1 => ∃ (δ : Env) (a : α) (S : Sto) (ρ : Pl), Rel K S ρ H1 ∧ REnv K ρ H1 (Live S ρ) δ σ ∧ Rα ρ H1 (Live S ρ) a v ∧ SGives K Z D S ρ H1 (g δ a S) := by
  obtain ⟨δ, S, ρ, r, re, g⟩ := h
  refine ⟨δ, S, ρ, r, re, gives_imp (gives_bd g) (fun a S1 q ρ1 H1 v e1 r1 x1 => ?_) fun _ _ q => q⟩
  exact ⟨δ, a, S1, ρ1, r1, Stb.env _ _ _ _ _ _ _ _ re e1, x1, SGives.ext e1 q⟩
section
variable {X : Cx} {Z : XZ} {pos : Pos} {a b c : Expr} {fa fb fc : Env → M W} {ga gb : Env → M Bool} {s1 s2 : Env → M Fl} {st : Stmt} {rest sa sb : List Stmt}
abbrev seqM (f g : Env → M Fl) : Env → M Fl := fun δ => bd (f δ) fun fl => match fl with
  | .nx δ' => g δ'
  | fl => pr fl
abbrev skipM : Env → M Fl := fun δ => pr (.nx δ)
theorem ds_nil : PSs X [] (tS X.K Z skipM) := pss_nil.imp fun D σ H h => by
  obtain ⟨δ, S, ρ, r, re, g⟩ := h
  exact g ρ H Ext.refl r σ re
theorem ds_cons (h1 : PS X st (tS X.K Z s1)) (h2 : PSs X rest (tS X.K Z s2)) : PSs X (st :: rest) (tS X.K Z (seqM s1 s2)) := by
  refine (pss_cons h1 h2).imp fun D σ H h => ?_
  obtain ⟨δ, S, ρ, r, re, g⟩ := h
  refine ⟨δ, S, ρ, r, re, gives_imp (gives_bd g) (fun fl S1 q ρ1 H1 e1 r1 => ?_) fun _ _ q => q⟩
  cases fl with
  | nx δ1 => exact fun σ1 re1 => ⟨δ1, S1, ρ1, r1, re1, SGives.ext e1 q⟩
  | rt w => exact q ρ1 H1 e1 r1
  | bk δ1 => exact q ρ1 H1 e1 r1
  | ct δ1 => exact q ρ1 H1 e1 r1
theorem ds_one (h1 : PS X st (tS X.K Z s1)) : PSs X [st] (tS X.K Z s1) := pss_one h1
theorem ds_pass : PS X (.Pass pos) (tS X.K Z skipM) := ps_pass.imp fun D σ H h => by
  obtain ⟨δ, S, ρ, r, re, g⟩ := h
  exact g ρ H Ext.refl r σ re
theorem ds_break : PS X (.Break pos) (tS X.K Z fun δ => pr (.bk δ)) := ps_break.imp fun D σ H h => by
  obtain ⟨δ, S, ρ, r, re, g⟩ := h
  exact g ρ H Ext.refl r σ re
theorem ds_continue : PS X (.Continue pos) (tS X.K Z fun δ => pr (.ct δ)) := ps_continue.imp fun D σ H h => by
  obtain ⟨δ, S, ρ, r, re, g⟩ := h
  exact g ρ H Ext.refl r σ re
theorem ds_doc {x j pos'} : PS X (.Expr (.Constant (.str x) j pos) pos') (tS X.K Z skipM) := ps_doc.imp fun D σ H h => by
  obtain ⟨δ, S, ρ, r, re, g⟩ := h
  exact g ρ H Ext.refl r σ re
theorem ds_never {f : Env → M Fl} (hf : ∀ δ S, f δ S = .no) : PS X st (tS X.K Z f) := ps_never.imp fun D σ H h => by
  obtain ⟨δ, S, ρ, r, re, g⟩ := h
  rw [hf] at g
  exact g
abbrev exprM (f : Env → M W) : Env → M Fl := fun δ => bd (f δ) fun _ => pr (.nx δ)
theorem ds_expr (he : PE X a (tE X.K Z fa)) (hs : swapsWith a none pos.line X.env = pure false := by rfl) : PS X (.Expr a pos) (tS X.K Z (exprM fa)) :=
  (ps_expr he hs).imp fun D σ H h => (tS.bind (Rα := RW X.K) (f := fa) (g := fun δ _ => pr (.nx δ)) h).mono fun v H1 ⟨δ, w, S, ρ, r, re, rw, g⟩ => g ρ H1 Ext.refl r σ re
abbrev retM (f : Env → M W) : Env → M Fl := fun δ => bd (f δ) fun w => pr (.rt w)
theorem ds_ret (he : PE X a (tE X.K Z fa)) : PS X (.Return (some a) pos) (tS X.K Z (retM fa)) :=
  (ps_ret he).imp fun D σ H h => (tS.bind (Rα := RW X.K) (f := fa) (g := fun δ w => pr (.rt w)) h).mono fun v H1 ⟨δ, w, S, ρ, r, re, rw, g⟩ => g ρ H1 Ext.refl r v rw
theorem ds_retN : PS X (.Return none pos) (tS X.K Z fun _ => pr (.rt (.d .none))) := ps_retN.imp fun D σ H h => by
  obtain ⟨δ, S, ρ, r, re, g⟩ := h
  exact g ρ H Ext.refl r .non .non
abbrev ifM (t : Env → M Bool) (f g : Env → M Fl) : Env → M Fl := fun δ => bd (t δ) fun k => if k = true then f δ else g δ
theorem ds_if (hc : PT X c (tT X.K Z ga)) (ha : PSs X sa (tS X.K Z s1)) (hb : PSs X sb (tS X.K Z s2)) : PS X (.If c sa sb pos) (tS X.K Z (ifM ga s1 s2)) :=
  (ps_if hc ha hb).imp fun D σ H h => (tS.bind (Rα := rE) (f := ga) (g := fun δ k => if k = true then s1 δ else s2 δ) h).mono fun v H1 ⟨δ, w, S, ρ, r, re, rw, g⟩ => by
    cases rw
    cases v with
    | true => rw [if_pos rfl]; exact ⟨δ, S, ρ, r, re, g⟩
    | false => rw [if_neg Bool.false_ne_true]; exact ⟨δ, S, ρ, r, re, g⟩
/-! ### targets -/
/-- a target by values: what the names become -/
def tG (K : PySem.W.Frag) (Z : XZ) (g : W → Env → M Env) : TG := fun v σ H Q => tH K Z (rP (RW K) (REnv K)) (REnv K) (fun p => g p.1 p.2) (v, σ) H fun σ' H' => Q σ' H'
def tGs (K : PySem.W.Frag) (Z : XZ) (g : List W → Env → M Env) : TGs := fun vs σ H Q => tH K Z (rP (RWs K) (REnv K)) (REnv K) (fun p => g p.1 p.2) (vs, σ) H fun σ' H' => Q σ' H'
theorem _root_.L2.PG.imp {e : Expr} {t t' : TG} (h : PG X e t) (hi : ∀ v σ H Q, t' v σ H Q → t v σ H Q) : PG X e t' := ⟨fun pins s σ H v u Q I r q => h.run pins s σ H v u Q I r (hi _ _ _ _ q)⟩
theorem _root_.L2.PGs.imp {e : List Expr} {t t' : TGs} (h : PGs X e t) (hi : ∀ v σ H Q, t' v σ H Q → t v σ H Q) : PGs X e t' := ⟨fun pins s σ H v u Q I r q => h.run pins s σ H v u Q I r (hi _ _ _ _ q)⟩
abbrev setG (i : Nat) : W → Env → M Env := fun w δ => pr (δ.set i (some w))
theorem REnv.set {K : PySem.W.Frag} {ρ : Pl} {H : Hp} {L : Addr → Prop} {δ : Env} {σ : L2.St} {i : Nat} {w : W} {v : V} (re : REnv K ρ H L δ σ) (rw : RW K ρ H L w v) : REnv K ρ H L (δ.set i (some w)) (σ.set i (some v)) := by
  refine ⟨by simp [re.1], fun j w' h => ?_⟩
  by_cases e : i = j
  · subst e
    by_cases hl : i < δ.length
    · rw [List.getElem?_set_self hl] at h
      cases h
      exact ⟨v, by rw [List.getElem?_set_self (by rw [← re.1]; exact hl)], rw⟩
    · rw [List.getElem?_eq_none (by simpa using hl)] at h; cases h
  · rw [List.getElem?_set_ne e] at h
    obtain ⟨v', h1, h2⟩ := re.2 j w' h
    exact ⟨v', by rw [List.getElem?_set_ne e]; exact h1, h2⟩
theorem dg_name {i : Nat} {x : Str} (hN : X.N.Nodup) (hi : X.N[i]? = some x) (hx : Loc X.env.scope x) (hf : X.fn x = true ∨ X.env.scope.names.lookup x = some .local := by first | exact .inl rfl | exact .inr rfl | assumption) : PG X (.Name x pos) (tG X.K Z (setG i)) :=
  (pg_name hN hi hx hf).imp fun v σ H Q h => tH.pure h fun _ _ _ _ q => REnv.set q.2 q.1
abbrev nilG : List W → Env → M Env := fun ws δ => match ws with
  | [] => pr δ
  | _ => no
abbrev consG (g : W → Env → M Env) (gs : List W → Env → M Env) : List W → Env → M Env := fun ws δ => match ws with
  | w :: r => bd (g w δ) fun δ' => gs r δ'
  | [] => no
theorem dgs_nil : PGs X [] (tGs X.K Z nilG) := pgs_nil.imp fun vs σ H Q h => by
  obtain ⟨⟨ws, δ⟩, S, ρ, r, ⟨rw, re⟩, g⟩ := h
  cases rw with
  | nil => exact ⟨rfl, g ρ H σ Ext.refl r re⟩
  | cons _ _ => exact g.elim
theorem dgs_cons {es : List Expr} {g : W → Env → M Env} {gs : List W → Env → M Env} (h1 : PG X a (tG X.K Z g)) (h2 : PGs X es (tGs X.K Z gs))
    (hs : (assignEach (a :: es) X.env).map (·.2) = assign a X.env :: (assignEach es X.env).map (·.2) := by rfl) : PGs X (a :: es) (tGs X.K Z (consG g gs)) := (pgs_cons h1 h2 hs).imp fun vs σ H Q h => by
  obtain ⟨⟨ws, δ⟩, S, ρ, r, ⟨rw, re⟩, gv⟩ := h
  cases rw with
  | nil => exact gv.elim
  | @cons w v ws vs rw rws =>
    refine ⟨v, vs, rfl, (w, δ), S, ρ, r, ⟨rw, re⟩, gives_imp (gives_bd gv) (fun δ1 S1 q ρ1 H1 σ1 e1 r1 re1 => ?_) fun _ _ q => q⟩
    refine ⟨(ws, δ1), S1, ρ1, r1, ⟨Stb.ws _ _ _ _ _ _ _ _ rws e1, re1⟩, gives_imp q (fun δ2 S2 q2 ρ2 H2 σ2 e2 r2 re2 => ?_) fun x S2 q2 ρ2 H2 e2 r2 => ?_⟩
    · exact q2 ρ2 H2 σ2 (e1.trans e2) r2 re2
    · exact q2 ρ2 H2 (e1.trans e2) r2
abbrev asgM (f : Env → M W) (g : W → Env → M Env) : Env → M Fl := fun δ => bd (f δ) fun w => bd (g w δ) fun δ' => pr (.nx δ')
theorem tS.asg {D : Ends} {σ : L2.St} {H : Hp} {g : W → Env → M Env} (h : tS X.K Z (asgM fa g) D σ H) : tAsg (tE X.K Z fa) (tG X.K Z g) D σ H := by
  refine (tS.bind (Rα := RW X.K) (f := fa) (g := fun δ w => bd (g w δ) fun δ' => pr (.nx δ')) h).mono fun v H1 ⟨δ, w, S, ρ, r, re, rw, gv⟩ => ?_
  exact ⟨(w, δ), S, ρ, r, ⟨rw, re⟩, gives_imp (gives_bd gv) (fun δ1 S1 q ρ1 H1 σ1 e1 r1 re1 => q ρ1 H1 e1 r1 σ1 re1) fun _ _ q => q⟩
theorem ds_asg {tg : Expr} {g : W → Env → M Env} (he : PE X a (tE X.K Z fa)) (hg : PG X tg (tG X.K Z g)) (hs : swapsWithSole [tg] a pos.line X.env = pure false := by rfl) (hw : swappedStores [tg] a X.env = pure none := by rfl)
    (h1 : (assignEach [tg] X.env).map (·.2) = [assign tg X.env] := by rfl) : PS X (.Assign [tg] a pos) (tS X.K Z (asgM fa g)) := (ps_asg he hg hs hw h1).imp fun D σ H h => tS.asg h
theorem ds_set {i : Nat} {x : Str} {pos' : Pos} (hN : X.N.Nodup) (hi : X.N[i]? = some x) (hx : Loc X.env.scope x) (he : PE X a (tE X.K Z fa)) (hs : swapsWith a (some (.Name x pos')) pos.line X.env = pure false := by rfl) (hf : X.fn x = true ∨ X.env.scope.names.lookup x = some .local := by first | exact .inl rfl | exact .inr rfl | assumption) :
    PS X (.Assign [.Name x pos'] a pos) (tS X.K Z (asgM fa (setG i))) := (ps_set hN hi hx he hs hf).imp fun D σ H h =>
  (tS.asg h).mono fun v H1 q => tH.pure q fun _ _ _ _ q => REnv.set q.2 q.1
/-- x op= e -/
abbrev augM (i : Nat) (f : Env → M W) (fo : W → W → M W) : Env → M Fl := fun δ => bd (varM i δ) fun x => bd (f δ) fun y => bd (fo x y) fun z => pr (.nx (δ.set i (some z)))
theorem ds_aug {i : Nat} {x : Str} {op : Operator} {fo : W → W → M W} {pos' : Pos} (hN : X.N.Nodup) (hi : X.N[i]? = some x) (hx : Loc X.env.scope x) (he : PE X a (tE X.K Z fa)) (ho : OpR X (inplaceOp op) (r2M X.K Z fo)) (hf : X.fn x = true ∨ X.env.scope.names.lookup x = some .local := by first | exact .inl rfl | exact .inr rfl | assumption) :
    PS X (.AugAssign (.Name x pos') op a pos) (tS X.K Z (augM i fa fo)) := by
  have hp : PIp X op (r2M X.K Z fo) := fun pins s σ H x y v u Q I rx ry q => ho pins s σ H x y v u Q I rx ry q
  refine (ps_aug hN hi hx he hp hf).imp fun D σ H h => ?_
  obtain ⟨δ, S, ρ, r, re, g⟩ := h
  have g := gives_bd g
  unfold varM at g
  split at g
  · rename_i w e
    obtain ⟨v, h1, h2⟩ := re.2 i w e
    refine ⟨v, h1, δ, S, ρ, r, re, gives_imp (gives_bd g) (fun y S1 q ρ1 H1 vy e1 r1 ry => ?_) fun _ _ q => q⟩
    refine ⟨(w, y), S1, ρ1, r1, ⟨h2.ext e1, ry⟩, gives_imp (gives_bd q) (fun z S2 q2 ρ2 H2 vz e2 r2 rz => ?_) fun _ _ q ρ2 H2 e2 r2 => q ρ2 H2 (e1.trans e2) r2⟩
    exact q2 ρ2 H2 (e1.trans e2) r2 _ (REnv.set (Stb.env _ _ _ _ _ _ _ _ re (e1.trans e2)) rz)
  · exact g.elim
end
end DL
/-! DL4: what is walked; for, while, comprehensions; defs and their calls. -/
namespace DL
open PySem PySem.Spec PyProof.Rows L2

/-- J goes along ws, from the state S ρ H on -/
def Walks (K : PySem.W.Frag) (J : It) (ws : List W) (S : Sto) (ρ : Pl) (H : Hp) : Prop :=
  ∀ (i : Nat) (S' : Sto) (ρ' : Pl) (H' : Hp), Ext0 S ρ H S' ρ' H' → Rel K S' ρ' H' →
    (∀ w, ws[i]? = some w → J.go i H' ∧ ∀ (x : V) (H2 : Hp), J.yld i H' x H2 → Ext S' ρ' H' S' ρ' H2 ∧ Rel K S' ρ' H2 ∧ RW K ρ' H2 (Live S' ρ') w x) ∧ (ws.length ≤ i → J.stop i H')
def tI (K : PySem.W.Frag) (Z : XZ) (f : Env → M (List W)) : TI := fun σ H R => ∃ (δ : Env) (S : Sto) (ρ : Pl), Rel K S ρ H ∧ REnv K ρ H (Live S ρ) δ σ ∧
  Gives (f δ S) (fun ws S' => ∀ (ρ' : Pl) (H' : Hp) (J : It), Ext S ρ H S' ρ' H' → Rel K S' ρ' H' → Walks K J ws S' ρ' H' → R J H') (fun x S' => ∀ (ρ' : Pl) (H' : Hp), Ext S ρ H S' ρ' H' → Rel K S' ρ' H' → Z x S' ρ' H')
theorem _root_.L2.PI.imp {X : Cx} {tg e : Expr} {t t' : TI} (h : PI X tg e t) (hi : ∀ σ H R, t' σ H R → t σ H R) : PI X tg e t' := ⟨fun pins s σ H R I q => h.run pins s σ H R I (hi _ _ _ q)⟩

/-! ### for -/
def forL (g : W → Env → M Env) (b : Env → M Fl) : List W → Env → M Fl
  | [], δ => pr (.nx δ)
  | w :: ws, δ => bd (g w δ) fun δ1 => bd (b δ1) fun fl => match fl with
    | .nx δ2 => forL g b ws δ2
    | .ct δ2 => forL g b ws δ2
    | .bk δ2 => pr (.nx δ2)
    | .rt w => pr (.rt w)
abbrev forM (fi : Env → M (List W)) (g : W → Env → M Env) (b : Env → M Fl) : Env → M Fl := fun δ => bd (fi δ) fun ws => forL g b ws δ
section
variable {X : Cx} {Z : XZ} {pos : Pos}
theorem ds_for {tg iter : Expr} {body : List Stmt} {fi : Env → M (List W)} {g : W → Env → M Env} {b : Env → M Fl} (hp : PassesOwn (model X.prog X.w) X.A X.env X.xe) (hc : X.calm = true) (hi : PI X tg iter (tI X.K Z fi)) (hg : PG X tg (tG X.K Z g)) (hb : PSs X body (tS X.K Z b))
    (hs : ∀ x, foldedSetIterable iter X.env x = pure x := by intro _; rfl) : PS X (.For tg iter body [] pos) (tS X.K Z (forM fi g b)) := by
  refine (ps_for hp hc hi hg hb hs).imp fun D σ H h => ?_
  obtain ⟨δ, S, ρ, r, re, gv⟩ := h
  refine ⟨δ, S, ρ, r, re, gives_imp (gives_bd gv) (fun ws S1 q ρ1 H1 J e1 r1 wk => ?_) fun _ _ q => q⟩
  have q : SGives X.K Z D S1 ρ1 H1 (forL g b ws δ S1) := SGives.ext e1 q
  refine ⟨fun i m σ' H' => ∃ (δ' : Env) (S' : Sto) (ρ' : Pl), Ext S1 ρ1 H1 S' ρ' H' ∧ Rel X.K S' ρ' H' ∧ REnv X.K ρ' H' (Live S' ρ') δ' σ' ∧ SGives X.K Z D S' ρ' H' (forL g b (ws.drop i) δ' S') ∧ m = ws.length - i,
    ⟨_, δ, S1, ρ1, Ext.refl, r1, Stb.env _ _ _ _ _ _ _ _ re e1, q, rfl⟩, ?_⟩
  rintro i m σ' H' ⟨δ', S', ρ', e', r', re', q', rfl⟩
  by_cases hl : i < ws.length
  · right
    have hw : ws[i]? = some ws[i] := List.getElem?_eq_getElem hl
    obtain ⟨hgo, hy⟩ := (wk i S' ρ' H' e'.to0 r').1 _ hw
    refine ⟨hgo, fun σ2 H2 => ∃ m', m' < ws.length - i ∧ ∃ (δ2 : Env) (S2 : Sto) (ρ2 : Pl), Ext S1 ρ1 H1 S2 ρ2 H2 ∧ Rel X.K S2 ρ2 H2 ∧ REnv X.K ρ2 H2 (Live S2 ρ2) δ2 σ2 ∧ SGives X.K Z D S2 ρ2 H2 (forL g b (ws.drop (i + 1)) δ2 S2) ∧ m' = ws.length - (i + 1), fun _ _ z => z, fun x H2 hx => ?_⟩
    obtain ⟨e2, r2, rw2⟩ := hy x H2 hx
    rw [List.drop_eq_getElem_cons hl] at q'
    unfold forL at q'
    refine ⟨(ws[i], δ'), S', ρ', r2, ⟨rw2, Stb.env _ _ _ _ _ _ _ _ re' e2⟩, gives_imp (gives_bd (SGives.ext e2 q')) (fun δ1 S3 q3 ρ3 H3 σ3 e3 r3 re3 => ?_) fun _ _ q => q⟩
    refine ⟨δ1, S3, ρ3, r3, re3, gives_imp (gives_bd q3) (fun fl S4 q4 ρ4 H4 e4 r4 => ?_) fun _ _ q ρ4 H4 e4 r4 => q ρ4 H4 (e3.trans e4) r4⟩
    have E4 := (e'.trans e2).trans (e3.trans e4)
    cases fl with
    | nx δ2 => exact fun σ4 re4 => ⟨_, by omega, δ2, S4, ρ4, E4, r4, re4, SGives.ext (e3.trans e4) q4, rfl⟩
    | ct δ2 => exact fun σ4 re4 => ⟨_, by omega, δ2, S4, ρ4, E4, r4, re4, SGives.ext (e3.trans e4) q4, rfl⟩
    | bk δ2 => exact fun σ4 re4 => q4 ρ4 H4 (e3.trans e4) r4 σ4 re4
    | rt w => exact fun v rv => q4 ρ4 H4 (e3.trans e4) r4 v rv
  · left
    refine ⟨(wk i S' ρ' H' e'.to0 r').2 (by omega), ?_⟩
    rw [List.drop_eq_nil_of_le (by omega)] at q'
    exact q' ρ' H' Ext.refl r' σ' re'
/-! ### while -/
def whL (c : Env → M Bool) (b : Env → M Fl) : Nat → Env → M Fl
  | 0, _ => no
  | n + 1, δ => bd (c δ) fun k => if k = true then bd (b δ) fun fl => match fl with
    | .nx δ2 => whL c b n δ2
    | .ct δ2 => whL c b n δ2
    | .bk δ2 => pr (.nx δ2)
    | .rt w => pr (.rt w)
    else pr (.nx δ)
theorem ds_while {c : Expr} {body : List Stmt} {gc : Env → M Bool} {b : Env → M Fl} (n : Nat) (hp : PassesOwn (model X.prog X.w) X.A X.env X.xe) (hc : PT X c (tT X.K Z gc)) (hb : PSs X body (tS X.K Z b)) : PS X (.While c body [] pos) (tS X.K Z (whL gc b n)) := by
  refine (ps_while hp hc hb).imp fun D σ H h => ?_
  obtain ⟨δ, S, ρ, r, re, gv⟩ := h
  refine ⟨fun m σ' H' => ∃ (δ' : Env) (S' : Sto) (ρ' : Pl), Rel X.K S' ρ' H' ∧ REnv X.K ρ' H' (Live S' ρ') δ' σ' ∧ SGives X.K Z D S' ρ' H' (whL gc b m δ' S'), ⟨n, δ, S, ρ, r, re, gv⟩, ?_⟩
  rintro m σ' H' ⟨δ', S', ρ', r', re', q'⟩
  cases m with
  | zero => exact q'.elim
  | succ m =>
    unfold whL at q'
    refine ⟨δ', S', ρ', r', re', gives_imp (gives_bd q') (fun k S1 q ρ1 H1 v e1 r1 ev => ?_) fun _ _ q => q⟩
    cases ev
    have re1 := Stb.env _ _ _ _ _ _ _ _ re' e1
    cases k with
    | true =>
      rw [if_pos rfl] at q ⊢
      refine ⟨fun σ2 H2 => ∃ m', m' < m + 1 ∧ ∃ (δ2 : Env) (S2 : Sto) (ρ2 : Pl), Rel X.K S2 ρ2 H2 ∧ REnv X.K ρ2 H2 (Live S2 ρ2) δ2 σ2 ∧ SGives X.K Z D S2 ρ2 H2 (whL gc b m' δ2 S2), fun _ _ z => z, ?_⟩
      refine ⟨δ', S1, ρ1, r1, re1, gives_imp (gives_bd q) (fun fl S4 q4 ρ4 H4 e4 r4 => ?_) fun _ _ q ρ4 H4 e4 r4 => q ρ4 H4 (e1.trans e4) r4⟩
      cases fl with
      | nx δ2 => exact fun σ4 re4 => ⟨m, by omega, δ2, S4, ρ4, r4, re4, SGives.ext (e1.trans e4) q4⟩
      | ct δ2 => exact fun σ4 re4 => ⟨m, by omega, δ2, S4, ρ4, r4, re4, SGives.ext (e1.trans e4) q4⟩
      | bk δ2 => exact fun σ4 re4 => q4 ρ4 H4 (e1.trans e4) r4 σ4 re4
      | rt w => exact fun v rv => q4 ρ4 H4 (e1.trans e4) r4 v rv
    | false =>
      rw [if_neg Bool.false_ne_true] at q ⊢
      exact q ρ1 H1 e1 r1 σ' re1

/-! ### comprehensions -/
def noEx {α : Type} (m : M α) : M α := fun S => match m S with
  | .ok a S' => .ok a S'
  | _ => .no
theorem noEx_gives {α : Type} {m : M α} {S : Sto} {P : α → Sto → Prop} {E E' : Ex → Sto → Prop} (h : Gives (noEx m S) P E) : Gives (m S) P E' := by
  unfold noEx at h
  cases e : m S with
  | ok a S' => rw [e] at h; exact h
  | ex x S' => rw [e] at h; exact h.elim
  | no => rw [e] at h; exact h.elim
def wipeE (δ : Env) : List Nat → Env
  | [] => δ
  | v :: vs => (wipeE δ vs).set v none
theorem REnv.wipe {K : PySem.W.Frag} {ρ : Pl} {H : Hp} {L : Addr → Prop} {δ : Env} {σ : L2.St} (re : REnv K ρ H L δ σ) : ∀ vs : List Nat, REnv K ρ H L (wipeE δ vs) (wipe σ vs)
  | [] => re
  | v :: vs => by
    have ih := REnv.wipe re vs
    refine ⟨by simp [wipeE, L2.wipe, ih.1], fun i w h => ?_⟩
    unfold wipeE at h
    unfold L2.wipe
    by_cases e : v = i
    · subst e
      by_cases hl : v < (wipeE δ vs).length
      · rw [List.getElem?_set_self hl] at h; cases h
      · rw [List.getElem?_eq_none (by simpa using hl)] at h; cases h
    · rw [List.getElem?_set_ne e] at h ⊢
      exact ih.2 i w h
def compL (own : List Nat) (g : W → Env → M Env) (t : Env → M Bool) (e : Env → M W) : List W → Env → M (List W)
  | [], _ => pr []
  | w :: ws, δ => bd (noEx (g w (wipeE δ own))) fun δ1 => bd (noEx (t δ1)) fun k => if k = true then bd (noEx (e δ1)) fun y => bd (compL own g t e ws δ) fun ys => pr (y :: ys) else compL own g t e ws δ
theorem bd_noEx {α β : Type} {m : M α} {f : α → M β} {S : Sto} (h : ∀ a S', m S = .ok a S' → ∀ x S2, f a S' ≠ .ex x S2) : ∀ x S2, bd (noEx m) f S ≠ .ex x S2 := fun x S2 => by
  unfold bd noEx
  cases e : m S with
  | ok a S' => exact h a S' e x S2
  | ex x' S' => intro z; cases z
  | no => intro z; cases z
theorem compL_noex {own : List Nat} {g : W → Env → M Env} {t : Env → M Bool} {e : Env → M W} : ∀ (ws : List W) (δ : Env) (S : Sto) (x : Ex) (S' : Sto), compL own g t e ws δ S ≠ .ex x S'
  | [], _, _, _, _ => by intro z; cases z
  | w :: ws, δ, S, x, S' => by
    unfold compL
    refine bd_noEx (fun δ1 S1 _ => bd_noEx fun k S2 _ => ?_) x S'
    cases k with
    | true =>
      show ∀ (x : Ex) (S3 : Sto), bd (noEx (e δ1)) (fun y => bd (compL own g t e ws δ) fun ys => pr (y :: ys)) S2 ≠ .ex x S3
      refine bd_noEx fun y S3 _ x S4 => ?_
      unfold bd
      cases q : compL own g t e ws δ S3 with
      | ok ys S5 => intro z; cases z
      | ex x' S5 => exact absurd q (compL_noex ws δ S3 x' S5)
      | no => intro z; cases z
    | false => exact fun x S3 => compL_noex ws δ S2 x S3
abbrev lcM (own : List Nat) (fi : Env → M (List W)) (g : W → Env → M Env) (t : Env → M Bool) (e : Env → M W) : Env → M W := fun δ => bd (fi δ) fun ws => bd (compL own g t e ws δ) lstM
theorem lstM_small {ws : List W} {S : Sto} {P : W → Sto → Prop} {E : Ex → Sto → Prop} (h : Gives (lstM ws S) P E) : ws.length ≤ sizeLine := by
  unfold lstM at h
  split at h
  · assumption
  · exact h.elim
theorem comp_small {own : List Nat} {g : W → Env → M Env} {t : Env → M Bool} {e : Env → M W} {ws : List W} {δ : Env} {S : Sto} {acc : List W} {P : W → Sto → Prop} {E : Ex → Sto → Prop} (h : Gives (bd (compL own g t e ws δ) (fun ys => lstM (acc ++ ys)) S) P E) : acc.length ≤ sizeLine := by
  have h := gives_bd h
  cases q : compL own g t e ws δ S with
  | ok ys S5 =>
    rw [q] at h
    have := lstM_small h
    simp at this
    omega
  | ex x' S5 => exact absurd q (compL_noex ws δ S x' S5)
  | no => rw [q] at h; exact h.elim
abbrev yesT : Env → M Bool := fun _ => pr true
theorem dts_nil : PTs X [] (tT X.K Z yesT) := pts_nil.imp fun σ H Q h => tH.pure h fun _ _ _ _ _ => rfl
theorem dts_one {c : Expr} {f : Env → M Bool} (h : PT X c (tT X.K Z f)) : PTs X [c] (tT X.K Z f) := pts_one h
/-- the target of a comprehension: it stores its own names alone -/
def OwnG (own : List Nat) (g : W → Env → M Env) (gt : TG) : Prop := True
theorem bd_assoc {α β γ : Type} (m : M α) (f : α → M β) (h : β → M γ) (S : Sto) : bd (bd m f) h S = bd m (fun a => bd (f a) h) S := by
  unfold bd
  cases m S <;> rfl
theorem tLc_of {own : List (Str × Nat)} {fi : Env → M (List W)} {g : W → Env → M Env} {t : Env → M Bool} {e : Env → M W} {gc : TG} {σ : L2.St} {H : Hp} {Q : VK}
    (hgc : ∀ (v : V) (σ : L2.St) (H : Hp) (Q : L2.St → Hp → Prop), tG X.K ZF g v (wipe σ (own.map (·.2))) H Q → gc v (wipe σ (own.map (·.2))) H (fun σ2 H2 => wipe σ2 (own.map (·.2)) = wipe σ (own.map (·.2)) ∧ Q σ2 H2))
    (h : tE X.K Z (lcM (own.map (·.2)) fi g t e) σ H Q) : tLc (tI X.K Z fi) gc (tT X.K ZF t) (tE X.K ZF e) (own.map (·.2)) σ H Q := by
  obtain ⟨δ, S, ρ, r, re, gv⟩ := h
  refine ⟨δ, S, ρ, r, re, gives_imp (gives_bd gv) (fun ws S1 q ρ1 H1 J e1 r1 wk => ?_) fun _ _ q => q⟩
  intro D hD
  have re1 := Stb.env _ _ _ _ _ _ _ _ re e1
  refine ⟨fun i m H' => ∃ (S' : Sto) (ρ' : Pl) (acc : List W) (vs : List V), Ext0 S1 ρ1 H1 S' ρ' H' ∧ ρ'.grd = (ρ1.guard D).grd ∧ Rel X.K S' ρ' H' ∧ H' D = some (.lst vs) ∧ RWs X.K ρ' H' (Live S' ρ') acc vs ∧
    Gives (bd (compL (own.map (·.2)) g t e (ws.drop i) δ) (fun ys => lstM (acc ++ ys)) S') (fun w S2 => ∀ (ρ2 : Pl) (H2 : Hp) (v : V), Ext S1 ρ1 H1 S2 ρ2 H2 → Rel X.K S2 ρ2 H2 → RW X.K ρ2 H2 (Live S2 ρ2) w v → Q v H2) (fun _ _ => True) ∧ m = ws.length - i,
    ⟨_, S1, ρ1.guard D, [], [], Ext0.guard hD, rfl, r1.guard hD, upd_same, .nil, ?_, rfl⟩, ?_⟩
  · refine gives_imp (P := fun w S2 => ∀ (ρ2 : Pl) (H2 : Hp) (v : V), Ext S ρ H S2 ρ2 H2 → Rel X.K S2 ρ2 H2 → RW X.K ρ2 H2 (Live S2 ρ2) w v → Q v H2) (E := fun x S' => ∀ (ρ' : Pl) (H' : Hp), Ext S ρ H S' ρ' H' → Rel X.K S' ρ' H' → Z x S' ρ' H') ?_ (fun w S2 q2 ρ2 H2 v e2 r2 rw2 => q2 ρ2 H2 v (e1.trans e2) r2 rw2) fun _ _ _ => trivial
    exact q
  rintro i m H' ⟨S', ρ', acc, vs, e', hg', r', hv', rv', q', rfl⟩
  have hgD : ρ'.grd D := by rw [hg']; exact .inr rfl
  by_cases hl : i < ws.length
  · right
    have hw : ws[i]? = some ws[i] := List.getElem?_eq_getElem hl
    obtain ⟨hgo, hy⟩ := (wk i S' ρ' H' e' r').1 _ hw
    refine ⟨hgo, fun H2 => ∃ m', m' < ws.length - i ∧ ∃ (S2 : Sto) (ρ2 : Pl) (acc : List W) (vs : List V), Ext0 S1 ρ1 H1 S2 ρ2 H2 ∧ ρ2.grd = (ρ1.guard D).grd ∧ Rel X.K S2 ρ2 H2 ∧ H2 D = some (.lst vs) ∧ RWs X.K ρ2 H2 (Live S2 ρ2) acc vs ∧
      Gives (bd (compL (own.map (·.2)) g t e (ws.drop (i + 1)) δ) (fun ys => lstM (acc ++ ys)) S2) (fun w S2 => ∀ (ρ2 : Pl) (H2 : Hp) (v : V), Ext S1 ρ1 H1 S2 ρ2 H2 → Rel X.K S2 ρ2 H2 → RW X.K ρ2 H2 (Live S2 ρ2) w v → Q v H2) (fun _ _ => True) ∧ m' = ws.length - (i + 1), fun _ z => z, fun x H2 hx => ?_⟩
    obtain ⟨e2, r2, rw2⟩ := hy x H2 hx
    have E2 := e'.trans e2
    rw [List.drop_eq_getElem_cons hl] at q'
    unfold compL at q'
    rw [bd_assoc] at q'
    have re2 : REnv X.K ρ' H2 (Live S' ρ') (wipeE δ (own.map (·.2))) (wipe σ (own.map (·.2))) := REnv.wipe ⟨re1.1, fun i w h => let ⟨v, h1, h2⟩ := re1.2 i w h; ⟨v, h1, h2.ext0 E2⟩⟩ _
    refine hgc x σ H2 _ ⟨(ws[i], wipeE δ (own.map (·.2))), S', ρ', r2, ⟨rw2, re2⟩, gives_imp (noEx_gives (E' := fun _ _ => False) (gives_bd q')) (fun δ1 S3 q3 ρ3 H3 σ3 e3 r3 re3 => ?_) fun _ _ q => q.elim⟩
    rw [bd_assoc] at q3
    refine ⟨δ1, S3, ρ3, r3, re3, gives_imp (noEx_gives (E' := fun _ _ => False) (gives_bd q3)) (fun k S4 q4 ρ4 H4 v4 e4 r4 ek => ?_) fun _ _ q => q.elim⟩
    cases ek
    have E4 := E2.trans (e3.trans e4)
    have g4 : ρ4.grd = (ρ1.guard D).grd := ((e3.trans e4).grd).trans hg'
    have nD : ∀ {S ρ H}, Rel X.K S ρ H → ρ.grd D → ¬ Liv S ρ D := fun r g => r.dj D g
    have hv2 : H2 D = some (.lst vs) := e2.stab D _ hv' (nD r' hgD)
    have hv4 : H4 D = some (.lst vs) := (e3.trans e4).stab D _ hv2 (nD r2 hgD)
    have rv4 : RWs X.K ρ4 H4 (Live S4 ρ4) acc vs := (rv'.ext e2).ext (e3.trans e4)
    cases k with
    | true =>
      rw [if_pos rfl] at q4 ⊢
      rw [bd_assoc] at q4
      refine ⟨δ1, S4, ρ4, r4, Stb.env _ _ _ _ _ _ _ _ re3 e4, gives_imp (noEx_gives (E' := fun _ _ => False) (gives_bd q4)) (fun y S5 q5 ρ5 H5 v5 e5 r5 rw5 => ?_) fun _ _ q => q.elim⟩
      have g5 : ρ5.grd = (ρ1.guard D).grd := e5.grd.trans g4
      have hgD5 : ρ5.grd D := by rw [g5]; exact .inr rfl
      have hgD4 : ρ4.grd D := by rw [g4]; exact .inr rfl
      have hv5 : H5 D = some (.lst vs) := e5.stab D _ hv4 (nD r4 hgD4)
      rw [bd_assoc] at q5
      have q6 : Gives (bd (compL (own.map (·.2)) g t e (ws.drop (i + 1)) δ) (fun ys => lstM ((acc ++ [y]) ++ ys)) S5) (fun w S2 => ∀ (ρ2 : Pl) (H2 : Hp) (v : V), Ext S1 ρ1 H1 S2 ρ2 H2 → Rel X.K S2 ρ2 H2 → RW X.K ρ2 H2 (Live S2 ρ2) w v → Q v H2) (fun _ _ => True) := by
        have z : (fun ys => lstM ((acc ++ [y]) ++ ys)) = fun ys => bd (pr (y :: ys)) fun ys => lstM (acc ++ ys) := by
          funext ys S; simp [bd, pr]
        rw [z]
        exact q5
      have hs := comp_small q6
      have hlen := Paired.length rv4
      refine ⟨vs, hv5, by simp at hs; omega, _, by omega, S5, ρ5, acc ++ [y], vs ++ [v5], ?_, g5, r5.gput hgD5, upd_same, ?_, q6, rfl⟩
      · have E5 := E4.trans e5
        exact ⟨E5.pre, fun a o h l => by rw [upd_ne (ne_of_none h hD)]; exact E5.stab a o h l, E5.newl, E5.newg, fun a o u h => by rw [upd_ne (ne_of_none h hD)]; exact E5.fz a o u h⟩
      · have a1 : RWs X.K ρ5 H5 (Live S5 ρ5) acc vs := rv4.ext e5
        have ap : ∀ {ws ws' : List W} {vs vs' : List V}, RWs X.K ρ5 (upd H5 D (.lst (vs ++ vs'))) (Live S5 ρ5) ws vs → RWs X.K ρ5 (upd H5 D (.lst (vs ++ vs'))) (Live S5 ρ5) ws' vs' → RWs X.K ρ5 (upd H5 D (.lst (vs ++ vs'))) (Live S5 ρ5) (ws ++ ws') (vs ++ vs') := fun {ws ws' vs vs'} p q => by
          have gen : ∀ (o : HO) {ws : List W} {vs : List V}, RWs X.K ρ5 (upd H5 D o) (Live S5 ρ5) ws vs → RWs X.K ρ5 (upd H5 D o) (Live S5 ρ5) ws' vs' → RWs X.K ρ5 (upd H5 D o) (Live S5 ρ5) (ws ++ ws') (vs ++ vs') := fun o ws vs p q => by
            induction p with
            | nil => exact q
            | cons a _ ih => exact .cons a ih
          exact gen _ p q
        exact ap (Paired.mapP a1 fun _ _ z => RW.gput r5 hgD5 z) (.cons (RW.gput r5 hgD5 rw5) .nil)
    | false =>
      rw [if_neg Bool.false_ne_true] at q4 ⊢
      exact ⟨_, by omega, S4, ρ4, acc, vs, E4, g4, r4, hv4, rv4, q4, rfl⟩
  · left
    refine ⟨(wk i S' ρ' H' e' r').2 (by omega), ?_⟩
    rw [List.drop_eq_nil_of_le (by omega)] at q'
    have q' : Gives (lstM (acc ++ []) S') _ _ := q'
    rw [List.append_nil] at q'
    unfold lstM at q'
    split at q'
    · split at q'
      · rename_i ds ed
        have hsub : ∀ a, ρ1.grd a → ρ'.grd a := fun a h => by rw [hg']; exact .inl h
        have rr := r'.ung hsub
        refine q' ⟨ρ'.adr, ρ1.grd⟩ H' (.ref D) ⟨e'.pre, e'.stab, e'.newl, rfl, e'.fz⟩ rr ?_
        refine .lst ⟨hv', fun z => ?_⟩ (allD_rep ed (Paired.mapP rv' fun _ _ z => RW.ung hsub z))
        rcases z with z | z
        · exact r'.dj D hgD z
        · obtain ⟨o, ho⟩ := r1.gt D z
          rw [hD] at ho; cases ho
      · exact q'.elim
    · exact q'.elim
end
end DL
/-! DL5: targets of comprehensions, tuples as targets, what is walked by values; calls of own defs. -/
namespace DL
open PySem PySem.Spec PyProof.Rows L2

/-! ### a list or a tuple by what it is -/
/-- (is it a list, its items) -/
def seqOf (w : W) (S : Sto) : Option (Bool × List W) := match w with
  | .d (.list ds) => some (true, ds.map .d)
  | .d (.tuple ds) => some (false, ds.map .d)
  | .r n => match S[n]? with
    | some (.lst ws) => some (true, ws)
    | _ => none
  | _ => none
theorem RpA.paired {K : PySem.W.Frag} {ρ : Pl} {H : Hp} {L : Addr → Prop} : ∀ {ds : List D} {vs : List V}, RpA K H L vs ds → RWs K ρ H L (ds.map .d) vs
  | [], _, h => by cases h; exact .nil
  | d :: ds, _, h => by cases h with | cons a b => exact .cons a (RpA.paired b)
theorem seqOf_rep {K : PySem.W.Frag} {S : Sto} {ρ : Pl} {H : Hp} {w : W} {v : V} {k : Bool} {ws : List W} (h : seqOf w S = some (k, ws)) (R : Rel K S ρ H) (r : RW K ρ H (Live S ρ) w v) :
    ∃ a xs, v = .ref a ∧ RWs K ρ H (Live S ρ) ws xs ∧ (if k = true then H a = some (.lst xs) else SqT K H a xs) := by
  unfold seqOf at h
  split at h
  · rename_i ds
    cases h
    cases r with
    | lst q ra => exact ⟨_, _, rfl, ra.paired, q.1⟩
  · rename_i ds
    cases h
    cases r with
    | tup q ra => exact ⟨_, _, rfl, ra.paired, q.sq⟩
  · rename_i n
    split at h
    · rename_i ws' e
      cases h
      obtain ⟨a, h1, h2⟩ := r
      obtain ⟨a', ho, q1, q2, vs, q3, q4⟩ := R.ob n _ e rfl
      rw [h1] at q1; cases q1
      subst q3
      exact ⟨a, vs, h2, q4, q2⟩
    · cases h
  · cases h

/-! ### targets, with what they leave -/
structure TR (rel : L2.St → L2.St → Prop) : Prop where
  refl : ∀ σ, rel σ σ
  trans : ∀ σ τ υ, rel σ τ → rel τ υ → rel σ υ
abbrev anyR : L2.St → L2.St → Prop := fun _ _ => True
abbrev wipR (vs : List Nat) : L2.St → L2.St → Prop := fun σ τ => wipe τ vs = wipe σ vs
theorem TR.any : TR anyR := ⟨fun _ => trivial, fun _ _ _ _ _ => trivial⟩
theorem TR.wip {vs : List Nat} : TR (wipR vs) := ⟨fun _ => rfl, fun _ _ _ a b => b.trans a⟩
def tR (rel : L2.St → L2.St → Prop) (K : PySem.W.Frag) (Z : XZ) (g : W → Env → M Env) : TG := fun v σ H Q => tG K Z g v σ H fun σ2 H2 => rel σ σ2 → Q σ2 H2
def tRs (rel : L2.St → L2.St → Prop) (K : PySem.W.Frag) (Z : XZ) (g : List W → Env → M Env) : TGs := fun v σ H Q => tGs K Z g v σ H fun σ2 H2 => rel σ σ2 → Q σ2 H2
theorem wipe_set {x : Option V} {i : Nat} : ∀ {vs : List Nat} {σ : L2.St}, i ∈ vs → wipe (σ.set i x) vs = wipe σ vs
  | v :: vs, σ, h => by
    unfold wipe
    by_cases e : i ∈ vs
    · rw [wipe_set e]
    · have : i = v := by
        rcases List.mem_cons.mp h with h | h
        · exact h
        · exact absurd h e
      subst this
      have key : ∀ {vs : List Nat} {σ : L2.St}, i ∉ vs → wipe (σ.set i x) vs = (wipe σ vs).set i x := by
        intro vs
        induction vs with
        | nil => intro σ _; rfl
        | cons u us ih =>
          intro σ hu
          unfold wipe
          rw [ih (fun z => hu (List.mem_cons_of_mem _ z))]
          rw [List.set_comm _ _ (show u ≠ i from fun z => hu (by rw [z]; exact List.mem_cons_self))]
      rw [key e]
      exact List.set_set ..
theorem wipe_twice : ∀ {vs : List Nat} {σ : L2.St}, wipe (wipe σ vs) vs = wipe σ vs
  | [], _ => rfl
  | v :: vs, σ => by
    have h1 : wipe ((wipe σ vs).set v none) (v :: vs) = wipe (wipe σ vs) (v :: vs) := wipe_set List.mem_cons_self
    have h2 : wipe (wipe σ (v :: vs)) (v :: vs) = wipe ((wipe σ vs).set v none) (v :: vs) := rfl
    rw [h2, h1]
    unfold wipe
    rw [wipe_twice]
section
variable {X : Cx} {Z : XZ} {pos : Pos} {a : Expr} {es : List Expr} {rel : L2.St → L2.St → Prop}
theorem dr_name {i : Nat} {x : Str} (hN : X.N.Nodup) (hi : X.N[i]? = some x) (hx : Loc X.env.scope x) (hr : ∀ (σ : L2.St) (v : V), rel σ (σ.set i (some v))) (hf : X.fn x = true ∨ X.env.scope.names.lookup x = some .local := by first | exact .inl rfl | exact .inr rfl | assumption) : PG X (.Name x pos) (tR rel X.K Z (setG i)) :=
  (pg_name hN hi hx hf).imp fun v σ H Q h => tH.pure (v := σ.set i (some v)) h (fun _ _ _ _ q => REnv.set q.2 q.1) (hr _ _)
theorem drs_nil (hr : TR rel) : PGs X [] (tRs rel X.K Z nilG) := pgs_nil.imp fun vs σ H Q h => by
  obtain ⟨⟨ws, δ⟩, S, ρ, r, ⟨rw, re⟩, g⟩ := h
  cases rw with
  | nil => exact ⟨rfl, g ρ H σ Ext.refl r re (hr.refl _)⟩
  | cons _ _ => exact g.elim
theorem drs_cons {g : W → Env → M Env} {gs : List W → Env → M Env} (hr : TR rel) (h1 : PG X a (tR rel X.K Z g)) (h2 : PGs X es (tRs rel X.K Z gs))
    (hs : (assignEach (a :: es) X.env).map (·.2) = assign a X.env :: (assignEach es X.env).map (·.2) := by rfl) : PGs X (a :: es) (tRs rel X.K Z (consG g gs)) := (pgs_cons h1 h2 hs).imp fun vs σ H Q h => by
  obtain ⟨⟨ws, δ⟩, S, ρ, r, ⟨rw, re⟩, gv⟩ := h
  cases rw with
  | nil => exact gv.elim
  | @cons w v ws vs rw rws =>
    refine ⟨v, vs, rfl, (w, δ), S, ρ, r, ⟨rw, re⟩, gives_imp (gives_bd gv) (fun δ1 S1 q ρ1 H1 σ1 e1 r1 re1 s1 => ?_) fun _ _ q => q⟩
    refine ⟨(ws, δ1), S1, ρ1, r1, ⟨Stb.ws _ _ _ _ _ _ _ _ rws e1, re1⟩, gives_imp q (fun δ2 S2 q2 ρ2 H2 σ2 e2 r2 re2 s2 => ?_) fun x S2 q2 ρ2 H2 e2 r2 => ?_⟩
    · exact q2 ρ2 H2 σ2 (e1.trans e2) r2 re2 (hr.trans _ _ _ s1 s2)
    · exact q2 ρ2 H2 (e1.trans e2) r2
/-- a, b, .. = a list or a tuple of that length -/
def tupG (n : Nat) (gs : List W → Env → M Env) : W → Env → M Env := fun w δ S => match seqOf w S with
  | some (_, ws) => if ws.length = n then gs ws δ S else .no
  | none => .no
theorem dr_tup {k n : Nat} {gs : List W → Env → M Env} (hc : X.calm = true) (h : PGs X es (tRs rel X.K Z gs)) (hn : (assignEach es X.env).length = n := by rfl) (hst : (assignEach es X.env).findIdx? (·.1) = none := by rfl) :
    PG X (.Tuple es k pos) (tR rel X.K Z (tupG n gs)) := by
  refine ⟨fun pins s σ H v u Q I r hw => ?_⟩
  obtain ⟨⟨w, δ⟩, S, ρ, R, ⟨rw, re⟩, g⟩ := hw
  have g : Gives (tupG n gs w δ S) _ _ := g
  unfold tupG at g
  split at g
  · rename_i ki ws e
    split at g
    · rename_i hl
      obtain ⟨a, xs, rfl, rws, hq⟩ := seqOf_rep e R rw
      have hz : tRs rel X.K Z gs xs σ H Q := ⟨(ws, δ), S, ρ, R, ⟨rws, re⟩, g⟩
      have hlen := Paired.length rws
      cases ki with
      | true =>
        rw [if_pos rfl] at hq
        exact (pg_lst hc h hn hst).run pins s σ H _ _ Q I r ⟨a, xs, rfl, .of hq, by omega, hz⟩
      | false =>
        rw [if_neg Bool.false_ne_true] at hq
        exact (pg_tup hc h hn hst).run pins s σ H _ _ Q I r ⟨a, xs, rfl, hq, by omega, hz⟩
    · exact g.elim
  · exact g.elim
theorem dr_any {g : W → Env → M Env} (h : PG X a (tR anyR X.K Z g)) : PG X a (tG X.K Z g) := h.imp fun v σ H Q q => tH.mono q fun _ _ z _ => z
/-- [e for target in iter if ..] -/
theorem dlc {elt tg iter : Expr} {ifs : List Expr} {scope : Scope} {own : List (Str × Nat)} {fi : Env → M (List W)} {g : W → Env → M Env} {t : Env → M Bool} {e : Env → M W} (hc : X.calm = true) (hN : X.N.Nodup) (hi : PI X tg iter (tI X.K Z fi)) (ok : BlkOk X.N X.env.scope scope own)
    (hg : ∀ (s : Shared) (H : Hp) (C : Addr) (cl : List (Str × Addr)) (fp : List Addr), PG (X.blk s H scope (compEnvC scope cl C X.env) fp) tg (tR (wipR (own.map (·.2))) X.K ZF g))
    (ht : ∀ (s : Shared) (H : Hp) (C : Addr) (cl : List (Str × Addr)) (fp : List Addr), PTs (X.blk s H scope (compEnvC scope cl C X.env) fp) ifs (tT X.K ZF t))
    (he : ∀ (s : Shared) (H : Hp) (C : Addr) (cl : List (Str × Addr)) (fp : List Addr), PE (X.blk s H scope (compEnvC scope cl C X.env) fp) elt (tE X.K ZF e)) (hs : ∀ x, foldedSetIterable iter X.env x = pure x := by intro _; rfl) :
    PE X (.ListComp elt [⟨tg, iter, ifs, 0⟩] scope pos) (tE X.K Z (lcM (own.map (·.2)) fi g t e)) := by
  refine (pe_lc hc hN hi ok hg ht he hs).imp fun σ H Q h => tLc_of (fun v σ H Q q => ?_) h
  refine tH.mono q fun σ2 H2 z hr => ?_
  have hr : wipe σ2 (own.map (·.2)) = wipe (wipe σ (own.map (·.2))) (own.map (·.2)) := hr
  rw [wipe_twice] at hr
  exact ⟨hr, z⟩
theorem ds_setLc {i : Nat} {y : Str} {py : Pos} {elt tg iter : Expr} {ifs : List Expr} {scope : Scope} {own : List (Str × Nat)} {spos : Pos} {fi : Env → M (List W)} {g : W → Env → M Env} {t : Env → M Bool} {e : Env → M W} (hc : X.calm = true) (hN : X.N.Nodup) (hy : X.N[i]? = some y) (hyl : X.env.scope.names.lookup y = some .local)
    (hsw : swapsWith (.ListComp elt [⟨tg, iter, ifs, 0⟩] scope pos) (some (.Name y py)) spos.line X.env = pure true) (hi : PI X tg iter (tI X.K Z fi)) (ok : BlkOk X.N X.env.scope scope own)
    (hg : ∀ (s : Shared) (H : Hp) (C : Addr) (cl : List (Str × Addr)) (fp : List Addr), PG (X.blk s H scope (compEnvC scope cl C X.env) fp) tg (tR (wipR (own.map (·.2))) X.K ZF g))
    (ht : ∀ (s : Shared) (H : Hp) (C : Addr) (cl : List (Str × Addr)) (fp : List Addr), PTs (X.blk s H scope (compEnvC scope cl C X.env) fp) ifs (tT X.K ZF t))
    (he : ∀ (s : Shared) (H : Hp) (C : Addr) (cl : List (Str × Addr)) (fp : List Addr), PE (X.blk s H scope (compEnvC scope cl C X.env) fp) elt (tE X.K ZF e)) (hs : ∀ x, foldedSetIterable iter X.env x = pure x := by intro _; rfl) :
    PS X (.Assign [.Name y py] (.ListComp elt [⟨tg, iter, ifs, 0⟩] scope pos) spos) (tS X.K Z (asgM (lcM (own.map (·.2)) fi g t e) (setG i))) := by
  refine (ps_setLc hc hN hy hyl hsw hi ok hg ht he hs).imp fun D σ H h => ?_
  unfold tAsg
  refine tLc_of (fun v σ H Q q => ?_) ((tS.asg h).mono fun v H1 q => tH.pure q fun _ _ _ _ q => REnv.set q.2 q.1)
  refine tH.mono q fun σ2 H2 z hr => ?_
  have hr : wipe σ2 (own.map (·.2)) = wipe (wipe σ (own.map (·.2))) (own.map (·.2)) := hr
  rw [wipe_twice] at hr
  exact ⟨hr, z⟩
end

/-! ### what is walked, by values -/
section
variable {X : Cx} {Z : XZ} {pos : Pos} {tg e : Expr} {fa : Env → M W} {pins : List (Addr × Obj)} {σ : L2.St} {H : Hp} {s : Shared} {R : It → Hp → Prop} {E : Value → Shared → Prop}
theorem iter_list {a : Addr} {xs : List V} (I : Inv X pins σ H s) (hq : SqL X.K H a xs) (q : R (Itl X.K a) H) : wpAny (model X.prog X.w) X.A (pyIter (.ref a)) (PIE X pins σ tg R) E s := by
  obtain ⟨its, rv, p, hz⟩ := I.list hq
  refine wpAny_pyIter_list p.isList ?_
  refine ⟨s.heap.objs.size, [s.heap.objs.size], _, _, H, rfl, I.kept (t' := s.toks) fun b o e => Heap.get?_push_of_some _ e, turn_list a _, ⟨_, Heap.get?_push_size _ rfl, rfl, rfl⟩, fun b hb => ?_, q⟩
  have e : b = s.heap.objs.size := by simpa using hb
  subst e
  exact I.fpOk (Nat.le_refl _) (I.hok.fresh (Nat.le_refl _))
theorem iter_str {x : Str} {t : Tok} (I : Inv X pins σ H s) (q : R (Its x) H) : wpAny (model X.prog X.w) X.A (pyIter (.str x t)) (PIE X pins σ tg R) E s := by
  cases ha : x.cps.all (· < 128)
  · exact wpAny_pyIter_wide ha (pi_one (tk := s.toks) I _ (turn_str _ x t "str_iterator" (.inr rfl)) ⟨_, Heap.get?_push_size _ rfl, rfl, rfl⟩ q)
  · exact wpAny_pyIter_ascii ha (pi_one (tk := s.toks) I _ (turn_str _ x t "str_ascii_iterator" (.inl rfl)) ⟨_, Heap.get?_push_size _ rfl, rfl, rfl⟩ q)
theorem iter_tup {a : Addr} {xs : List V} (I : Inv X pins σ H s) (hq : SqT X.K H a xs) (q : R (Itt X.K a) H) : wpAny (model X.prog X.w) X.A (pyIter (.ref a)) (PIE X pins σ tg R) E s := by
  obtain ⟨its, rv, p, hz⟩ := I.tuple hq
  refine wpAny_pyIter_tuple (show s.heap.IsTuple a its.toArray from p) ?_
  refine ⟨s.heap.objs.size, [s.heap.objs.size], _, _, H, rfl, I.kept (t' := s.toks) fun b o e => Heap.get?_push_of_some _ e, turn_tuple a _, ⟨_, Heap.get?_push_size _ rfl, rfl, rfl⟩, fun b hb => ?_, q⟩
  have e : b = s.heap.objs.size := by simpa using hb
  subst e
  exact I.fpOk (Nat.le_refl _) (I.hok.fresh (Nat.le_refl _))
end
theorem Paired.at' {α β : Type} {F : α → β → Prop} : ∀ {xs : List α} {ys : List β} {i : Nat} {x : α}, Paired F xs ys → xs[i]? = some x → ∃ y, ys[i]? = some y ∧ F x y
  | _, _, _, _, .nil, h => by simp at h
  | _, _, 0, _, .cons a _, h => by simp at h; subst h; exact ⟨_, rfl, a⟩
  | _, _, i + 1, _, .cons _ b, h => by
    obtain ⟨y, h1, h2⟩ := Paired.at' b (by simpa using h)
    exact ⟨y, by simpa using h1, h2⟩
section
variable {K : PySem.W.Frag} {S : Sto} {ρ : Pl} {H : Hp}
theorem walks_list {a : Addr} {xs : List V} {ds : List D} (q : QL K H (Live S ρ) a xs) (ra : RpA K H (Live S ρ) xs ds) : Walks K (Itl K a) (ds.map .d) S ρ H := by
  intro i S' ρ' H' e r
  have q' : QL K H' (Live S' ρ') a xs := q.ext e.stabL e.newL
  have ra' : RWs K ρ' H' (Live S' ρ') (ds.map .d) xs := (RpA.ext e.stabL e.newL _ _ ra).paired
  refine ⟨fun w hw => ?_, fun hl => ⟨xs, q'.sq, by rw [← Paired.length ra']; exact hl⟩⟩
  obtain ⟨y, h1, h2⟩ := Paired.at' ra' hw
  refine ⟨⟨xs, y, q'.sq, h1⟩, fun x H2 ⟨hH, hx⟩ => ?_⟩
  subst hH
  have := hx xs q'.sq
  rw [h1] at this
  cases this
  exact ⟨Ext.refl, r, h2⟩
theorem walks_tup {a : Addr} {xs : List V} {ds : List D} (q : QT K H (Live S ρ) a xs) (ra : RpA K H (Live S ρ) xs ds) : Walks K (Itt K a) (ds.map .d) S ρ H := by
  intro i S' ρ' H' e r
  have q' : QT K H' (Live S' ρ') a xs := q.ext e.stabL e.newL
  have ra' : RWs K ρ' H' (Live S' ρ') (ds.map .d) xs := (RpA.ext e.stabL e.newL _ _ ra).paired
  refine ⟨fun w hw => ?_, fun hl => ⟨xs, q'.sq, by rw [← Paired.length ra']; exact hl⟩⟩
  obtain ⟨y, h1, h2⟩ := Paired.at' ra' hw
  refine ⟨⟨xs, y, q'.sq, h1⟩, fun x H2 ⟨hH, hx⟩ => ?_⟩
  subst hH
  have := hx xs q'.sq
  rw [h1] at this
  cases this
  exact ⟨Ext.refl, r, h2⟩
def signs (x : Str) : List W := x.cps.toList.map fun c => .d (.str ⟨#[c]⟩)
theorem okS_sign {x : Str} (h : okS x = true) {i c : Nat} (hc : x.cps[i]? = some c) : okS ⟨#[c]⟩ = true := by
  unfold okS PyData.strOk at h ⊢
  rw [Array.all_eq_true] at h
  obtain ⟨hi, e⟩ := Array.getElem?_eq_some_iff.mp hc
  have := h i hi
  rw [e] at this
  simpa using this
theorem walks_str {x : Str} (h : okS x = true) : Walks K (Its x) (signs x) S ρ H := by
  intro i S' ρ' H' e r
  refine ⟨fun w hw => ?_, fun hl => (show x.cps.size ≤ i by simpa [signs] using hl)⟩
  unfold signs at hw
  rw [List.getElem?_map] at hw
  cases hc : x.cps.toList[i]? with
  | none => rw [hc] at hw; cases hw
  | some c =>
    rw [hc] at hw
    cases hw
    have hc' : x.cps[i]? = some c := by simpa using hc
    refine ⟨(Array.getElem?_eq_some_iff.mp hc').1, fun y H2 ⟨hH, c', h1, h2⟩ => ?_⟩
    subst hH
    rw [hc'] at h1
    cases h1
    subst h2
    exact ⟨Ext.refl, r, .str _ (okS_sign h hc')⟩
theorem walks_rng {lo : Int} {n : Nat} : Walks K (Itr lo n) ((List.range n).map fun i => .d (.int (lo + (i : Nat)))) S ρ H := by
  intro i S' ρ' H' e r
  refine ⟨fun w hw => ?_, fun hl => (show n ≤ i by simpa using hl)⟩
  have hi : i < n := by
    have := (List.getElem?_eq_some_iff.mp hw).1
    simpa using this
  refine ⟨hi, fun y H2 ⟨hH, h2⟩ => ?_⟩
  subst hH
  subst h2
  simp [hi] at hw
  subst hw
  exact ⟨Ext.refl, r, .int _⟩
end
/-- the items of a list, a tuple, the signs of a text; a list of the store is given up -/
def iterM (w : W) : M (List W) := fun S => match w with
  | .d (.list ds) => .ok (ds.map .d) S
  | .d (.tuple ds) => .ok (ds.map .d) S
  | .d (.str x) => .ok (signs x) S
  | .r n => match S[n]? with
    | some (.lst ws) => match allD ws with
      | some ds => .ok (ds.map .d) (S.set n .dead)
      | none => .no
    | _ => .no
  | _ => .no
section
variable {X : Cx} {Z : XZ} {pos : Pos} {tg e : Expr} {fa : Env → M W}
theorem di_val (h : PE X e (tE X.K Z fa)) : PI X tg e (tI X.K Z fun δ => bd (fa δ) iterM) := by
  refine ⟨fun pins s σ H R I hw => ?_⟩
  have hw' : tE X.K Z fa σ H (fun v H1 => ∃ (w : W) (S : Sto) (ρ : Pl), Rel X.K S ρ H1 ∧ RW X.K ρ H1 (Live S ρ) w v ∧
      Gives (iterM w S) (fun ws S' => ∀ (ρ' : Pl) (H' : Hp) (J : It), Ext S ρ H1 S' ρ' H' → Rel X.K S' ρ' H' → Walks X.K J ws S' ρ' H' → R J H') (fun _ _ => True)) := by
    obtain ⟨δ, S, ρ, r, re, gv⟩ := hw
    refine ⟨δ, S, ρ, r, re, gives_imp (gives_bd gv) (fun w S1 q ρ1 H1 v e1 r1 rw1 => ?_) fun _ _ q => q⟩
    exact ⟨w, S1, ρ1, r1, rw1, gives_imp q (fun ws S2 q2 ρ2 H2 J e2 r2 wk => q2 ρ2 H2 J (e1.trans e2) r2 wk) fun _ _ _ => trivial⟩
  refine thn (h.run pins s σ H _ I hw') fun v s1 ⟨x, H1, I1, r1, w, S, ρ, rel, rw, g⟩ => ?_
  unfold iterM at g
  split at g
  · cases rw with
    | lst q ra =>
      cases r1
      exact iter_list I1 q.sq (g ρ H1 _ Ext.refl rel (walks_list q ra))
  · cases rw with
    | tup q ra =>
      cases r1
      exact iter_tup I1 q.sq (g ρ H1 _ Ext.refl rel (walks_tup q ra))
  · cases rw with
    | str x ho =>
      obtain ⟨t, rfl⟩ := r1
      have q := g ρ H1 _ Ext.refl rel (walks_str ho)
      exact iter_str I1 q
  · rename_i n
    split at g
    · rename_i ws en
      split at g
      · rename_i ds ed
        obtain ⟨a, h1, h2⟩ := rw
        subst h2
        cases r1
        obtain ⟨a', ho, q1, q2, vs, q3, q4⟩ := rel.ob n _ en rfl
        rw [h1] at q1; cases q1
        subst q3
        have ek : Ext S ρ H1 (S.set n .dead) ρ H1 := Ext.kill en rfl
        have ra : RpA X.K H1 (Live (S.set n .dead) ρ) vs ds := RpA.ext ek.stabL ek.newL _ _ (allD_rep ed q4)
        have q : QL X.K H1 (Live (S.set n .dead) ρ) a vs := ⟨q2, rel.dead_notL en rfl h1⟩
        exact iter_list I1 q.sq (g ρ H1 _ ek (rel.kill en rfl) (walks_list q ra))
      · exact g.elim
    · exact g.elim
  · exact g.elim
end
end DL
/-! DL6: operators, comparisons, built-ins by values. -/
namespace DL
open PySem PySem.Spec PyProof.Rows L2

/-- plain data of a value as it stands -/
def toD (w : W) (S : Sto) : Option D := match w with
  | .d x => some x
  | .r n => match S[n]? with
    | some (.lst ws) => (allD ws).map .list
    | _ => none
  | .s _ => none
  | .e _ => none
theorem toD_rep {K : PySem.W.Frag} {S : Sto} {ρ : Pl} {H : Hp} {w : W} {v : V} {d : D} (h : toD w S = some d) (R : Rel K S ρ H) (r : RW K ρ H (Live S ρ) w v) (n : nd d = true) : Dp K H v d ∧ d.canLay0 = true := by
  unfold toD at h
  split at h
  · cases h
    exact ⟨Rp.dp _ _ n r, Rp.lay _ _ n r⟩
  · rename_i m
    split at h
    · rename_i ws e
      simp only [Option.map_eq_some_iff] at h
      obtain ⟨ds, h1, h2⟩ := h
      subst h2
      obtain ⟨a, q1, q2⟩ := r
      obtain ⟨a', ho, z1, z2, vs, z3, z4⟩ := R.ob m _ e rfl
      rw [q1] at z1; cases z1
      subst z3 q2
      have ra := allD_rep h1 z4
      have n' : ndA ds = true := by simpa only [nd] using n
      exact ⟨.lst (.inl (.inl z2)) (RpA.dp _ _ n' ra), by simpa only [PyData.canLay0] using RpA.lay _ _ n' ra⟩
    · cases h
  · cases h
  · cases h
def okb (b : Bool) : W := .d (.bool b)
def eqD (x y : W) : M W := fun S => match toD x S, toD y S with
  | some a, some b => if min a.depth b.depth ≤ 64 ∧ nd a = true ∧ nd b = true then .ok (okb (PyData.eqv a b)) S else .no
  | _, _ => .no
def neD (x y : W) : M W := fun S => match toD x S, toD y S with
  | some a, some b => if min a.depth b.depth ≤ 64 ∧ nd a = true ∧ nd b = true then .ok (okb (!PyData.eqv a b)) S else .no
  | _, _ => .no
def isNil : W → Bool
  | .d (.list []) => true
  | _ => false
def eqM (x y : W) : M W := fun S => if isNil y = true then (match seqOf x S with
  | some (true, ws) => .ok (okb ws.isEmpty) S
  | _ => eqD x y S) else eqD x y S
def neM (x y : W) : M W := fun S => if isNil y = true then (match seqOf x S with
  | some (true, ws) => .ok (okb !ws.isEmpty) S
  | _ => neD x y S) else neD x y S
theorem isNil_of {y : W} (h : isNil y = true) : y = .d (.list []) := by
  unfold isNil at h
  split at h
  · rfl
  · cases h
def inM (x y : W) : M W := fun S => match toD x S, toD y S with
  | some (.str a), some (.str b) => .ok (okb (!(Builtin.Str.occurrences b a 0 b.length 1).isEmpty)) S
  | some a, some (.list ds) => if a.depth ≤ 64 ∧ nd a = true ∧ ndA ds = true then .ok (okb (ds.any fun y => PyData.eqv y a)) S else .no
  | some a, some (.tuple ds) => if a.depth ≤ 64 ∧ nd a = true ∧ ndA ds = true then .ok (okb (ds.any fun y => PyData.eqv y a)) S else .no
  | _, _ => .no
def notInM (x y : W) : M W := fun S => match toD x S, toD y S with
  | some (.str a), some (.str b) => .ok (okb (!(!(Builtin.Str.occurrences b a 0 b.length 1).isEmpty))) S
  | some a, some (.list ds) => if a.depth ≤ 64 ∧ nd a = true ∧ ndA ds = true then .ok (okb (!ds.any fun y => PyData.eqv y a)) S else .no
  | some a, some (.tuple ds) => if a.depth ≤ 64 ∧ nd a = true ∧ ndA ds = true then .ok (okb (!ds.any fun y => PyData.eqv y a)) S else .no
  | _, _ => .no
section
variable {X : Cx} {Z : XZ}
theorem o_eqD (hu : X.A.units + 65 < cLine) : OpR X (compareOp .Eq) (r2M X.K Z eqD) := by
  rintro pins s σ H x y v u Q I rx ry ⟨⟨w1, w2⟩, S, ρ, R, ⟨r1, r2⟩, g⟩
  have g : Gives (eqD w1 w2 S) _ _ := g
  unfold eqD at g
  split at g
  · rename_i a b e1 e2
    split at g
    · rename_i hd
      obtain ⟨d1, l1⟩ := toD_rep e1 R r1 hd.2.1
      obtain ⟨d2, l2⟩ := toD_rep e2 R r2 hd.2.2
      obtain ⟨as, q1⟩ := Dp.reads I a x v d1 rx
      obtain ⟨bs, q2⟩ := Dp.reads I b y u d2 ry
      exact SeqAt.compareEq_reads q1 q2 l1 l2 (by have := hd.1; omega) ⟨.bl _, H, I, rfl, g ρ H (.bl _) Ext.refl R (.bl _)⟩
    · exact g.elim
  · exact g.elim
theorem o_neD (hu : X.A.units + 65 < cLine) : OpR X (compareOp .NotEq) (r2M X.K Z neD) := by
  rintro pins s σ H x y v u Q I rx ry ⟨⟨w1, w2⟩, S, ρ, R, ⟨r1, r2⟩, g⟩
  have g : Gives (neD w1 w2 S) _ _ := g
  unfold neD at g
  split at g
  · rename_i a b e1 e2
    split at g
    · rename_i hd
      obtain ⟨d1, l1⟩ := toD_rep e1 R r1 hd.2.1
      obtain ⟨d2, l2⟩ := toD_rep e2 R r2 hd.2.2
      obtain ⟨as, q1⟩ := Dp.reads I a x v d1 rx
      obtain ⟨bs, q2⟩ := Dp.reads I b y u d2 ry
      exact SeqAt.compareNe_reads q1 q2 l1 l2 (by have := hd.1; omega) ⟨.bl _, H, I, rfl, g ρ H (.bl _) Ext.refl R (.bl _)⟩
    · exact g.elim
  · exact g.elim
theorem o_eq (hu : X.A.units + 65 < cLine) : OpR X (compareOp .Eq) (r2M X.K Z eqM) := by
  rintro pins s σ H x y v u Q I rx ry ⟨⟨w1, w2⟩, S, ρ, R, ⟨r1, r2⟩, g⟩
  have g : Gives (eqM w1 w2 S) _ _ := g
  unfold eqM at g
  split at g
  · rename_i hn
    have hn := isNil_of hn
    subst hn
    split at g
    · rename_i ws e
      obtain ⟨a, xs, rfl, rws, hq⟩ := seqOf_rep e R r1
      rw [if_pos rfl] at hq
      have r2 : Rp X.K H (Live S ρ) y (.list []) := r2
      cases r2 with
      | @lst b ys ds q2 ra2 =>
        cases ra2
        cases rx; cases ry
        obtain ⟨its, rv, p, _⟩ := I.list (show SqL X.K H a xs from .inl (.inl hq))
        obtain ⟨its2, rv2, p2, _⟩ := I.list q2.sq
        cases rv2
        have fin : EP X pins σ Q (.bool ws.isEmpty) s := ⟨.bl _, H, I, rfl, g ρ H (.bl _) Ext.refl R (.bl _)⟩
        have l1 := Paired.length rws
        have l2 := rv.length
        cases ws with
        | nil =>
          have e0 : its = [] := List.length_eq_zero_iff.mp (by simp at l1; omega)
          subst e0
          refine SeqAt.eq_listAt (e := fun _ => true) p.isList p2.isList rfl (by omega) (fun j h1 => by simp at h1) ?_
          simpa using fin
        | cons z zs => exact SeqAt.eq_list_lengthsAt p.isList p2.isList (by
          have : its.length ≠ 0 := by simp only [List.length_cons] at l1; omega
          simpa using this) (by omega) fin
    · exact o_eqD hu pins s σ H x y v u Q I rx ry ⟨⟨w1, _⟩, S, ρ, R, ⟨r1, r2⟩, g⟩
  · exact o_eqD hu pins s σ H x y v u Q I rx ry ⟨⟨w1, w2⟩, S, ρ, R, ⟨r1, r2⟩, g⟩
theorem o_ne (hu : X.A.units + 65 < cLine) : OpR X (compareOp .NotEq) (r2M X.K Z neM) := by
  rintro pins s σ H x y v u Q I rx ry ⟨⟨w1, w2⟩, S, ρ, R, ⟨r1, r2⟩, g⟩
  have g : Gives (neM w1 w2 S) _ _ := g
  unfold neM at g
  split at g
  · rename_i hn
    have hn := isNil_of hn
    subst hn
    split at g
    · rename_i ws e
      obtain ⟨a, xs, rfl, rws, hq⟩ := seqOf_rep e R r1
      rw [if_pos rfl] at hq
      have r2 : Rp X.K H (Live S ρ) y (.list []) := r2
      cases r2 with
      | @lst b ys ds q2 ra2 =>
        cases ra2
        cases rx; cases ry
        obtain ⟨its, rv, p, _⟩ := I.list (show SqL X.K H a xs from .inl (.inl hq))
        obtain ⟨its2, rv2, p2, _⟩ := I.list q2.sq
        cases rv2
        have fin : EP X pins σ Q (.bool !ws.isEmpty) s := ⟨.bl _, H, I, rfl, g ρ H (.bl _) Ext.refl R (.bl _)⟩
        have l1 := Paired.length rws
        have l2 := rv.length
        cases ws with
        | nil =>
          have e0 : its = [] := List.length_eq_zero_iff.mp (by simp at l1; omega)
          subst e0
          refine SeqAt.RcNeAt.lists (e := fun _ => true) p.isList p2.isList rfl (by omega) (fun j h1 => by simp at h1) X.prog X.w _ _ ?_
          simpa using fin
        | cons z zs => exact SeqAt.RcNeAt.lists_lengths p.isList p2.isList (by
          have : its.length ≠ 0 := by simp only [List.length_cons] at l1; omega
          simpa using this) (by omega) X.prog X.w _ _ fin
    · exact o_neD hu pins s σ H x y v u Q I rx ry ⟨⟨w1, _⟩, S, ρ, R, ⟨r1, r2⟩, g⟩
  · exact o_neD hu pins s σ H x y v u Q I rx ry ⟨⟨w1, w2⟩, S, ρ, R, ⟨r1, r2⟩, g⟩
theorem lay_list {ds : List D} (h : (PyData.list ds).canLay0 = true) : PyData.canLayAll0 ds = true := by simpa only [PyData.canLay0] using h
theorem lay_tup {ds : List D} (h : (PyData.tuple ds).canLay0 = true) : PyData.canLayAll0 ds = true := by simpa only [PyData.canLay0] using h
theorem o_in (hu : X.A.units + 66 < cLine) : OpR X (compareOp .In) (r2M X.K Z inM) := by
  rintro pins s σ H x y v u Q I rx ry ⟨⟨w1, w2⟩, S, ρ, R, ⟨r1, r2⟩, g⟩
  have g : Gives (inM w1 w2 S) _ _ := g
  unfold inM at g
  split at g
  · rename_i a b e1 e2
    obtain ⟨d1, l1⟩ := toD_rep e1 R r1 (by simp only [nd])
    obtain ⟨d2, l2⟩ := toD_rep e2 R r2 (by simp only [nd])
    cases d1; cases d2
    exact op_in_str pins s σ H _ _ v u Q I rx ry ⟨_, _, rfl, rfl, g ρ H (.bl _) Ext.refl R (.bl _)⟩
  · rename_i a ds e1 e2
    split at g
    · rename_i hd
      obtain ⟨d1, l1⟩ := toD_rep e1 R r1 hd.2.1
      obtain ⟨d2, l2⟩ := toD_rep e2 R r2 (by simpa only [nd] using hd.2.2)
      have hd := hd.1
      obtain ⟨as, q1⟩ := Dp.reads I a x v d1 rx
      obtain ⟨bs, q2⟩ := Dp.reads I _ y u d2 ry
      exact SeqAt.in_list_reads q2 q1 (lay_list l2) l1 (by omega) ⟨.bl _, H, I, rfl, g ρ H (.bl _) Ext.refl R (.bl _)⟩
    · exact g.elim
  · rename_i a ds e1 e2
    split at g
    · rename_i hd
      obtain ⟨d1, l1⟩ := toD_rep e1 R r1 hd.2.1
      obtain ⟨d2, l2⟩ := toD_rep e2 R r2 (by simpa only [nd] using hd.2.2)
      have hd := hd.1
      obtain ⟨as, q1⟩ := Dp.reads I a x v d1 rx
      obtain ⟨bs, q2⟩ := Dp.reads I _ y u d2 ry
      exact SeqAt.in_tuple_reads q2 q1 (lay_tup l2) l1 (by omega) ⟨.bl _, H, I, rfl, g ρ H (.bl _) Ext.refl R (.bl _)⟩
    · exact g.elim
  · exact g.elim
theorem o_notIn (hu : X.A.units + 66 < cLine) : OpR X (compareOp .NotIn) (r2M X.K Z notInM) := by
  rintro pins s σ H x y v u Q I rx ry ⟨⟨w1, w2⟩, S, ρ, R, ⟨r1, r2⟩, g⟩
  have g : Gives (notInM w1 w2 S) _ _ := g
  unfold notInM at g
  split at g
  · rename_i a b e1 e2
    obtain ⟨d1, l1⟩ := toD_rep e1 R r1 (by simp only [nd])
    obtain ⟨d2, l2⟩ := toD_rep e2 R r2 (by simp only [nd])
    cases d1; cases d2
    exact op_notin_str pins s σ H _ _ v u Q I rx ry ⟨_, _, rfl, rfl, g ρ H (.bl _) Ext.refl R (.bl _)⟩
  · rename_i a ds e1 e2
    split at g
    · rename_i hd
      obtain ⟨d1, l1⟩ := toD_rep e1 R r1 hd.2.1
      obtain ⟨d2, l2⟩ := toD_rep e2 R r2 (by simpa only [nd] using hd.2.2)
      have hd := hd.1
      obtain ⟨as, q1⟩ := Dp.reads I a x v d1 rx
      obtain ⟨bs, q2⟩ := Dp.reads I _ y u d2 ry
      exact SeqAt.notIn_list_reads q2 q1 (lay_list l2) l1 (by omega) ⟨.bl _, H, I, rfl, g ρ H (.bl _) Ext.refl R (.bl _)⟩
    · exact g.elim
  · rename_i a ds e1 e2
    split at g
    · rename_i hd
      obtain ⟨d1, l1⟩ := toD_rep e1 R r1 hd.2.1
      obtain ⟨d2, l2⟩ := toD_rep e2 R r2 (by simpa only [nd] using hd.2.2)
      have hd := hd.1
      obtain ⟨as, q1⟩ := Dp.reads I a x v d1 rx
      obtain ⟨bs, q2⟩ := Dp.reads I _ y u d2 ry
      exact SeqAt.notIn_tuple_reads q2 q1 (lay_tup l2) l1 (by omega) ⟨.bl _, H, I, rfl, g ρ H (.bl _) Ext.refl R (.bl _)⟩
    · exact g.elim
  · exact g.elim
/-- order of ints and of texts -/
def ltM (x y : W) : M W := match x, y with
  | .d (.int i), .d (.int j) => pr (okb (decide (i < j)))
  | .d (.str a), .d (.str b) => pr (okb (decide (a.cps.toList < b.cps.toList)))
  | _, _ => no
def leM (x y : W) : M W := match x, y with
  | .d (.int i), .d (.int j) => pr (okb (decide (i ≤ j)))
  | _, _ => no
def gtM (x y : W) : M W := match x, y with
  | .d (.int i), .d (.int j) => pr (okb (decide (j < i)))
  | _, _ => no
def geM (x y : W) : M W := match x, y with
  | .d (.int i), .d (.int j) => pr (okb (decide (j ≤ i)))
  | _, _ => no
theorem o_lt : OpR X (compareOp .Lt) (r2M X.K Z ltM) := by
  rintro pins s σ H x y v u Q I rx ry ⟨⟨w1, w2⟩, S, ρ, R, ⟨r1, r2⟩, g⟩
  have g : Gives (ltM w1 w2 S) _ _ := g
  unfold ltM at g
  split at g
  · rename_i i j
    cases r1; cases r2
    exact op_lt pins s σ H _ _ v u Q I rx ry ⟨_, _, rfl, rfl, g ρ H (.bl _) Ext.refl R (.bl _)⟩
  · rename_i i j
    cases r1; cases r2
    exact op_lt_str pins s σ H _ _ v u Q I rx ry ⟨_, _, rfl, rfl, g ρ H (.bl _) Ext.refl R (.bl _)⟩
  · exact g.elim
theorem o_le : OpR X (compareOp .LtE) (r2M X.K Z leM) := by
  rintro pins s σ H x y v u Q I rx ry ⟨⟨w1, w2⟩, S, ρ, R, ⟨r1, r2⟩, g⟩
  have g : Gives (leM w1 w2 S) _ _ := g
  unfold leM at g
  split at g
  · rename_i i j
    cases r1; cases r2
    exact op_le pins s σ H _ _ v u Q I rx ry ⟨_, _, rfl, rfl, g ρ H (.bl _) Ext.refl R (.bl _)⟩
  · exact g.elim
theorem o_gt : OpR X (compareOp .Gt) (r2M X.K Z gtM) := by
  rintro pins s σ H x y v u Q I rx ry ⟨⟨w1, w2⟩, S, ρ, R, ⟨r1, r2⟩, g⟩
  have g : Gives (gtM w1 w2 S) _ _ := g
  unfold gtM at g
  split at g
  · rename_i i j
    cases r1; cases r2
    exact op_gt pins s σ H _ _ v u Q I rx ry ⟨_, _, rfl, rfl, g ρ H (.bl _) Ext.refl R (.bl _)⟩
  · exact g.elim
theorem o_ge : OpR X (compareOp .GtE) (r2M X.K Z geM) := by
  rintro pins s σ H x y v u Q I rx ry ⟨⟨w1, w2⟩, S, ρ, R, ⟨r1, r2⟩, g⟩
  have g : Gives (geM w1 w2 S) _ _ := g
  unfold geM at g
  split at g
  · rename_i i j
    cases r1; cases r2
    exact op_ge pins s σ H _ _ v u Q I rx ry ⟨_, _, rfl, rfl, g ρ H (.bl _) Ext.refl R (.bl _)⟩
  · exact g.elim
/-- is None, is True, is False -/
def isNone : W → Bool
  | .d .none => true
  | _ => false
def isBl (b : Bool) : W → Option Bool
  | .d (.bool a) => some (decide (a = b))
  | _ => none
def isD (x : W) : D → Option Bool
  | .none => some (isNone x)
  | .bool b => isBl b x
  | _ => none
theorem isBl_of {b c : Bool} {w : W} (h : isBl b w = some c) : ∃ a, w = .d (.bool a) ∧ c = decide (a = b) := by
  unfold isBl at h
  split at h
  · cases h; exact ⟨_, rfl, rfl⟩
  · cases h
def isM (x y : W) : M W := match y with
  | .d d => match isD x d with
    | some b => pr (okb b)
    | none => no
  | _ => no
def isNotM (x y : W) : M W := match y with
  | .d d => match isD x d with
    | some b => pr (okb !b)
    | none => no
  | _ => no
theorem isN_rep {K : PySem.W.Frag} {ρ : Pl} {H : Hp} {L : Addr → Prop} {w : W} {v : V} (r : RW K ρ H L w v) : isNone w = decide (v = .non) := by
  cases w with
  | d x =>
    cases x with
    | none => cases r; rfl
    | bool _ => cases r; rfl
    | int _ => cases r; rfl
    | str _ => cases r; rfl
    | list _ => cases r; rfl
    | tuple _ => cases r; rfl
    | dict _ => cases r; rfl
  | r n => obtain ⟨a, _, h⟩ := r; subst h; rfl
  | s ns => obtain ⟨a, h, _⟩ := r; subst h; rfl
  | e x => obtain ⟨a, h, _⟩ := r; subst h; rfl
theorem isD_rep {K : PySem.W.Frag} {ρ : Pl} {H : Hp} {L : Addr → Prop} {w : W} {x y : V} {d : D} {b : Bool} (h : isD w d = some b) (r1 : RW K ρ H L w x) (r2 : RW K ρ H L (.d d) y) :
    (y = .non ∧ b = decide (x = .non)) ∨ (∃ a c, x = .bl a ∧ y = .bl c ∧ b = decide (a = c)) := by
  cases d with
  | none =>
    cases r2
    refine .inl ⟨rfl, ?_⟩
    rw [← isN_rep r1]
    exact (Option.some.inj h).symm
  | bool c =>
    cases r2
    obtain ⟨a, e1, e2⟩ := isBl_of (show isBl c w = some b from h)
    subst e1 e2
    cases r1
    exact .inr ⟨a, c, rfl, rfl, rfl⟩
  | int _ => cases h
  | str _ => cases h
  | list _ => cases h
  | tuple _ => cases h
  | dict _ => cases h
theorem isM_gives {w u : W} {S : Sto} {P : W → Sto → Prop} {E : Ex → Sto → Prop} (g : Gives (isM w u S) P E) : ∃ d b, u = .d d ∧ isD w d = some b ∧ P (okb b) S := by
  cases u with
  | d d =>
    unfold isM at g
    cases e : isD w d with
    | none => simp only [e] at g; exact g.elim
    | some b => simp only [e] at g; exact ⟨d, b, rfl, e, g⟩
  | r n => exact g.elim
  | s n => exact g.elim
  | e x => exact g.elim
theorem isNotM_gives {w u : W} {S : Sto} {P : W → Sto → Prop} {E : Ex → Sto → Prop} (g : Gives (isNotM w u S) P E) : ∃ d b, u = .d d ∧ isD w d = some b ∧ P (okb !b) S := by
  cases u with
  | d d =>
    unfold isNotM at g
    cases e : isD w d with
    | none => simp only [e] at g; exact g.elim
    | some b => simp only [e] at g; exact ⟨d, b, rfl, e, g⟩
  | r n => exact g.elim
  | s n => exact g.elim
  | e x => exact g.elim
theorem o_is : OpR X (compareOp .Is) (r2M X.K Z isM) := by
  rintro pins s σ H x y v u Q I rx ry ⟨⟨w1, w2⟩, S, ρ, R, ⟨r1, r2⟩, g⟩
  obtain ⟨d, b, e1, e2, g⟩ := isM_gives g
  change w2 = _ at e1
  subst e1
  rcases isD_rep e2 r1 r2 with ⟨h1, h2⟩ | ⟨a, c, h1, h2, h3⟩
  · subst h2
    exact op_isN pins s σ H _ _ v u Q I rx ry ⟨h1, g ρ H (.bl _) Ext.refl R (.bl _)⟩
  · subst h3
    exact op_isBl pins s σ H _ _ v u Q I rx ry ⟨_, _, h1, h2, g ρ H (.bl _) Ext.refl R (.bl _)⟩
theorem o_isNot : OpR X (compareOp .IsNot) (r2M X.K Z isNotM) := by
  rintro pins s σ H x y v u Q I rx ry ⟨⟨w1, w2⟩, S, ρ, R, ⟨r1, r2⟩, g⟩
  obtain ⟨d, b, e1, e2, g⟩ := isNotM_gives g
  change w2 = _ at e1
  subst e1
  rcases isD_rep e2 r1 r2 with ⟨h1, h2⟩ | ⟨a, c, h1, h2, h3⟩
  · subst h2
    exact op_notN pins s σ H _ _ v u Q I rx ry ⟨h1, g ρ H (.bl _) Ext.refl R (.bl _)⟩
  · subst h3
    exact op_notBl pins s σ H _ _ v u Q I rx ry ⟨_, _, h1, h2, g ρ H (.bl _) Ext.refl R (.bl _)⟩
/-! ### arithmetic, texts and lists together -/
def addM (x y : W) : M W := fun S => match x, y with
  | .d (.int i), .d (.int j) => .ok (.d (.int (i + j))) S
  | .d (.str a), .d (.str b) => if a.length + b.length ≤ sizeLine then .ok (.d (.str (a ++ b))) S else .no
  | _, _ => match seqOf x S, seqOf y S with
    | some (true, xs), some (true, ys) => lstM (xs ++ ys) S
    | some (false, xs), some (false, ys) => tupM (xs ++ ys) S
    | _, _ => .no
theorem okS_app {a b : Str} (ha : okS a = true) (hb : okS b = true) : okS (a ++ b) = true := by
  unfold okS PyData.strOk at *
  show (a.cps ++ b.cps).all _ = true
  rw [Array.all_append, ha, hb]
  rfl
theorem RWs.app {K : PySem.W.Frag} {ρ : Pl} {H : Hp} {L : Addr → Prop} {ws ws' : List W} {vs vs' : List V} (p : RWs K ρ H L ws vs) (q : RWs K ρ H L ws' vs') : RWs K ρ H L (ws ++ ws') (vs ++ vs') := by
  induction p with
  | nil => exact q
  | cons a _ ih => exact .cons a ih
theorem o_add : OpR X (binaryOp .Add) (r2M X.K Z addM) := by
  rintro pins s σ H x y v u Q I rx ry ⟨⟨w1, w2⟩, S, ρ, R, ⟨r1, r2⟩, g⟩
  have g : Gives (addM w1 w2 S) _ _ := g
  unfold addM at g
  split at g
  · rename_i i j
    cases r1; cases r2
    exact op_add pins s σ H _ _ v u Q I rx ry ⟨_, _, rfl, rfl, g ρ H (.int _) Ext.refl R (.int _)⟩
  · rename_i i j
    split at g
    · rename_i hl
      cases r1 with
      | str _ o1 =>
        cases r2 with
        | str _ o2 => exact op_add_str pins s σ H _ _ v u Q I rx ry ⟨_, _, rfl, rfl, hl, g ρ H (.str _) Ext.refl R (.str _ (okS_app o1 o2))⟩
    · exact g.elim
  · split at g
    · rename_i xs ys e1 e2
      obtain ⟨a, vs, rfl, p1, q1⟩ := seqOf_rep e1 R r1
      obtain ⟨b, us, rfl, p2, q2⟩ := seqOf_rep e2 R r2
      rw [if_pos rfl] at q1 q2
      obtain ⟨ds, hl, g, hn⟩ := lstM_new g R (RWs.app p1 p2)
      exact op_cat pins s σ H _ _ v u Q I rx ry ⟨a, b, vs, us, rfl, rfl, q1, q2, by simpa using hl, fun p hp => g ρ _ _ (Ext.frz hp) (R.frz hp) (hn p hp)⟩
    · rename_i xs ys e1 e2
      have e1' := e1
      have e2' := e2
      obtain ⟨a, vs, rfl, p1, q1⟩ := seqOf_rep e1 R r1
      obtain ⟨b, us, rfl, p2, q2⟩ := seqOf_rep e2 R r2
      rw [if_neg Bool.false_ne_true] at q1 q2
      have hz := g
      unfold tupM at g
      split at g
      · rename_i hs
        split at g
        · rename_i ds ed
          have n1 := Paired.length p1
          have n2 := Paired.length p2
          -- the data of both
          have split2 : ∀ {w : W} {zs : List W}, seqOf w S = some (false, zs) → ∃ es, w = .d (.tuple es) ∧ zs = es.map .d := fun {w zs} h => by
            unfold seqOf at h
            split at h
            · cases h
            · rename_i es; cases h; exact ⟨es, rfl, rfl⟩
            · split at h <;> cases h
            · cases h
          obtain ⟨es1, k1, k2⟩ := split2 e1'
          obtain ⟨es2, k3, k4⟩ := split2 e2'
          subst k1 k2 k3 k4
          rw [← List.map_append, allD_map] at ed
          cases ed
          refine op_catA pins s σ H _ _ v u Q I rx ry ⟨a, b, vs, us, rfl, rfl, q1, q2, by simp at hs n1 n2; omega, fun hx => ?_, fun hx hy => ?_, fun hx hy p hp => ?_⟩
          · subst hx
            have : es1 = [] := by simpa using n1
            subst this
            exact g ρ H _ Ext.refl R r2
          · subst hy
            have : es2 = [] := by simpa using n2
            subst this
            rw [List.append_nil] at g
            exact g ρ H _ Ext.refl R r1
          · obtain ⟨ds, hl, g', hn⟩ := tupM_new hz R (RWs.app p1 p2)
            exact g' ρ _ _ (Ext.frz hp) (R.frz hp) (hn p hp)
        · exact g.elim
      · exact g.elim
    · exact g.elim
def subM (x y : W) : M W := match x, y with
  | .d (.int i), .d (.int j) => pr (.d (.int (i - j)))
  | _, _ => no
theorem o_sub : OpR X (binaryOp .Sub) (r2M X.K Z subM) := by
  rintro pins s σ H x y v u Q I rx ry ⟨⟨w1, w2⟩, S, ρ, R, ⟨r1, r2⟩, g⟩
  have g : Gives (subM w1 w2 S) _ _ := g
  unfold subM at g
  split at g
  · rename_i i j
    cases r1; cases r2
    exact op_sub pins s σ H _ _ v u Q I rx ry ⟨_, _, rfl, rfl, g ρ H (.int _) Ext.refl R (.int _)⟩
  · exact g.elim
/-- ints, one of them not great; a tuple so many times -/
def mulM (x y : W) : M W := fun S => match x, y with
  | .d (.int i), .d (.int j) => if (-(2 ^ 64) < i ∧ i < 2 ^ 64) ∨ (-(2 ^ 64) < j ∧ j < 2 ^ 64) then .ok (.d (.int (i * j))) S else .no
  | .d (.tuple ds), .d (.int k) => if ds ≠ [] ∧ 2 ≤ k ∧ k ≤ 1000 ∧ ds.length ≤ 1000 then .ok (.d (.tuple (List.replicate k.toNat ds).flatten)) S else .no
  | .d (.list ds), .d (.int k) => if 0 ≤ k ∧ k ≤ 1000 ∧ ds.length ≤ 1000 then .ok (.d (.list (List.replicate k.toNat ds).flatten)) S else .no
  | _, _ => .no
theorem RpA.app {K : PySem.W.Frag} {H : Hp} {L : Addr → Prop} : ∀ {ds es : List D} {vs us : List V}, RpA K H L vs ds → RpA K H L us es → RpA K H L (vs ++ us) (ds ++ es)
  | [], _, _, _, a, b => by cases a; exact b
  | d :: ds, _, _, _, a, b => by cases a with | cons x y => exact .cons x (RpA.app y b)
theorem RpA.rep {K : PySem.W.Frag} {H : Hp} {L : Addr → Prop} {ds : List D} {vs : List V} (h : RpA K H L vs ds) : ∀ n : Nat, RpA K H L (List.replicate n vs).flatten (List.replicate n ds).flatten
  | 0 => .nil
  | n + 1 => by
    rw [List.replicate_succ, List.replicate_succ, List.flatten_cons, List.flatten_cons]
    exact h.app (RpA.rep h n)
theorem o_mul : OpR X (binaryOp .Mult) (r2M X.K Z mulM) := by
  rintro pins s σ H x y v u Q I rx ry ⟨⟨w1, w2⟩, S, ρ, R, ⟨r1, r2⟩, g⟩
  have g : Gives (mulM w1 w2 S) _ _ := g
  unfold mulM at g
  split at g
  · rename_i i j
    split at g
    · rename_i hc
      cases r1; cases r2
      exact op_mul pins s σ H _ _ v u Q I rx ry ⟨_, _, rfl, rfl, hc, g ρ H (.int _) Ext.refl R (.int _)⟩
    · exact g.elim
  · rename_i ds k _
    split at g
    · rename_i hc
      obtain ⟨c1, c2, c3, c4⟩ := hc
      cases r1 with
      | @tup a xs _ qt ra =>
        cases r2
        have hl := ra.length
        refine op_repT pins s σ H _ _ v u Q I rx ry ⟨a, k, xs, rfl, rfl, qt.sq, fun z => c1 ?_, c2, c3, by omega, fun p hp => ?_⟩
        · subst z; cases ra; rfl
        · have ex : Ext S ρ H S ρ (upd H p (.tup (List.replicate k.toNat xs).flatten)) := Ext.frz hp
          exact g ρ _ _ ex (R.frz hp) (.tup (.inl ⟨.inl upd_same, R.notLive hp⟩) (RpA.ext ex.stabL ex.newL _ _ (ra.rep _)))
    · exact g.elim
  · rename_i ds k _
    split at g
    · rename_i hc
      obtain ⟨c1, c2, c3⟩ := hc
      cases r1 with
      | @lst a xs _ ql ra =>
        cases r2
        have hl := ra.length
        have hz : xs.length * k.toNat ≤ 1000 * 1000 := Nat.mul_le_mul (by omega) (by omega)
        have hs : (1000 * 1000 : Nat) ≤ sizeLine := by decide
        refine op_rep pins s σ H _ _ v u Q I rx ry ⟨a, k, xs, rfl, rfl, ql.1, by omega, by omega, Nat.le_trans hz hs, fun p hp => ?_⟩
        have ex : Ext S ρ H S ρ (upd H p (.lst (List.replicate k.toNat xs).flatten)) := Ext.frz hp
        exact g ρ _ _ ex (R.frz hp) (.lst ⟨upd_same, R.notLive hp⟩ (RpA.ext ex.stabL ex.newL _ _ (ra.rep _)))
    · exact g.elim
  · exact g.elim
/-- // and % by what is positive (// by what is not great) -/
def fdvM (x y : W) : M W := match x, y with
  | .d (.int i), .d (.int j) => if 0 < j ∧ j < 1073741824 then pr (.d (.int (i / j))) else no
  | _, _ => no
theorem o_fdv : OpR X (binaryOp .FloorDiv) (r2M X.K Z fdvM) := by
  rintro pins s σ H x y v u Q I rx ry ⟨⟨w1, w2⟩, S, ρ, R, ⟨r1, r2⟩, g⟩
  have g : Gives (fdvM w1 w2 S) _ _ := g
  unfold fdvM at g
  split at g
  · rename_i i j
    split at g
    · rename_i hc
      cases r1; cases r2
      exact op_fdiv pins s σ H _ _ v u Q I rx ry ⟨_, _, rfl, rfl, hc, g ρ H (.int _) Ext.refl R (.int _)⟩
    · exact g.elim
  · exact g.elim
def modM (x y : W) : M W := match x, y with
  | .d (.int i), .d (.int j) => if 0 < j then pr (.d (.int (i % j))) else no
  | _, _ => no
theorem o_mod : OpR X (binaryOp .Mod) (r2M X.K Z modM) := by
  rintro pins s σ H x y v u Q I rx ry ⟨⟨w1, w2⟩, S, ρ, R, ⟨r1, r2⟩, g⟩
  have g : Gives (modM w1 w2 S) _ _ := g
  unfold modM at g
  split at g
  · rename_i i j
    split at g
    · rename_i hc
      cases r1; cases r2
      exact op_mod pins s σ H _ _ v u Q I rx ry ⟨_, _, rfl, rfl, hc, g ρ H (.int _) Ext.refl R (.int _)⟩
    · exact g.elim
  · exact g.elim
def powM (x y : W) : M W := match x, y with
  | .d (.int i), .d (.int j) => if 0 ≤ j ∧ j ≤ 1000000 ∧ i.natAbs < 2 ^ 64 then pr (.d (.int (i ^ j.toNat))) else no
  | _, _ => no
theorem o_pow : OpR X (binaryOp .Pow) (r2M X.K Z powM) := by
  rintro pins s σ H x y v u Q I rx ry ⟨⟨w1, w2⟩, S, ρ, R, ⟨r1, r2⟩, g⟩
  have g : Gives (powM w1 w2 S) _ _ := g
  unfold powM at g
  split at g
  · rename_i i j
    split at g
    · rename_i hc
      cases r1; cases r2
      exact op_pow pins s σ H _ _ v u Q I rx ry ⟨_, _, rfl, rfl, hc, g ρ H (.int _) Ext.refl R (.int _)⟩
    · exact g.elim
  · exact g.elim
def negM (x : W) : M W := match x with
  | .d (.int i) => pr (.d (.int (-i)))
  | _ => no
theorem o_neg : UnR X (unaryOp .USub) (r1M X.K Z negM) := by
  rintro pins s σ H x v Q I rx ⟨w1, S, ρ, R, r1, g⟩
  unfold negM at g
  split at g
  · cases r1
    exact un_neg pins s σ H _ v Q I rx ⟨_, rfl, g ρ H (.int _) Ext.refl R (.int _)⟩
  · exact g.elim
end
end DL
/-! DL7: built-ins, subscripts, slices, methods of lists and texts; own defs. -/
namespace DL
open PySem PySem.Spec PyProof.Rows L2

def lenM (ws : List W) : M W := fun S => match ws with
  | [.d (.str x)] => if x.length ≤ sizeLine then .ok (.d (.int x.length)) S else .no
  | [w] => match seqOf w S with
    | some (_, ws) => .ok (.d (.int ws.length)) S
    | none => .no
  | _ => .no
def cutL {α : Type} (xs : List α) (lo hi : Option Int) : List α := (xs.drop (HT.sIx xs.length 0 lo)).take (HT.sIx xs.length xs.length hi - HT.sIx xs.length 0 lo)
def itemM (x y : W) : M W := fun S => match x, y with
  | .d (.str z), .d (.int i) => if z.length ≤ sizeLine then (match atI z.cps.toList i with | some c => .ok (.d (.str ⟨#[c]⟩)) S | none => .no) else .no
  | _, .d (.int i) => match seqOf x S with
    | some (_, ws) => match atI ws i with
      | some w => .ok w S
      | none => .no
    | none => .no
  | _, _ => .no
def sliceM (x : W) (lo hi : Option Int) : M W := fun S => match x with
  | .d (.str z) => if z.length ≤ sizeLine then .ok (.d (.str (cutS z lo hi))) S else .no
  | .d (.list ds) => .ok (.d (.list (cutL ds lo hi))) S
  | .d (.tuple ds) => .ok (.d (.tuple (cutL ds lo hi))) S
  | .s ns => .ok (.d (.list ((cutL ns lo hi).map .int))) S
  | _ => .no
def tupleM (ws : List W) : M W := fun S => match ws with
  | [w] => match toD w S with
    | some (.list ds) => .ok (.d (.tuple ds)) S
    | some (.tuple ds) => .ok (.d (.tuple ds)) S
    | _ => .no
  | _ => .no
def listM (ws : List W) : M W := fun S => match ws with
  | [w] => match toD w S with
    | some (.list ds) => .ok (.d (.list ds)) S
    | some (.tuple ds) => .ok (.d (.list ds)) S
    | _ => .no
  | _ => .no
def bools : List D → Option (List Bool)
  | [] => some []
  | .bool b :: r => (bools r).map (b :: ·)
  | _ => none
def allM (ws : List W) : M W := fun S => match ws with
  | [w] => match toD w S with
    | some (.list ds) => match bools ds with
      | some bs => .ok (okb (bs.all id)) S
      | none => .no
    | _ => .no
  | _ => .no
def anyM (ws : List W) : M W := fun S => match ws with
  | [w] => match toD w S with
    | some (.list ds) => match bools ds with
      | some bs => .ok (okb (bs.any id)) S
      | none => .no
    | _ => .no
  | _ => .no
def intM (ws : List W) : M W := match ws with
  | [.d (.int i)] => pr (.d (.int i))
  | [.d (.bool b)] => pr (.d (.int (if b then 1 else 0)))
  | _ => no
def absM (ws : List W) : M W := match ws with
  | [.d (.int i)] => pr (.d (.int (if i < 0 then -i else i)))
  | _ => no
theorem bools_nd : ∀ {ds : List D} {bs : List Bool}, bools ds = some bs → ndA ds = true
  | [], _, _ => by simp only [ndA]
  | d :: ds, bs, h => by
    cases d with
    | bool b =>
      simp only [bools, Option.map_eq_some_iff] at h
      obtain ⟨cs, h1, h2⟩ := h
      simp only [ndA, nd, Bool.true_and]
      exact bools_nd h1
    | none => simp [bools] at h
    | int _ => simp [bools] at h
    | str _ => simp [bools] at h
    | list _ => simp [bools] at h
    | tuple _ => simp [bools] at h
    | dict _ => simp [bools] at h
theorem bools_rep {K : PySem.W.Frag} {H : Hp} : ∀ {ds : List D} {bs : List Bool} {vs : List V}, bools ds = some bs → DpAll K H vs ds → vs = bs.map V.bl
  | [], _, _, h, r => by cases r; cases h; rfl
  | d :: ds, bs, _, h, r => by
    cases d with
    | bool b =>
      simp only [bools, Option.map_eq_some_iff] at h
      obtain ⟨cs, h1, h2⟩ := h
      subst h2
      cases r with
      | cons a b =>
        cases a
        rw [bools_rep h1 b]
        rfl
    | _ => cases h
theorem atI_map {α β : Type} (f : α → β) {xs : List α} {i : Int} : atI (xs.map f) i = (atI xs i).map f := by
  unfold atI
  rw [List.length_map]
  cases ixN xs.length i with
  | none => rfl
  | some j => simp
theorem Paired.atI {α β : Type} {F : α → β → Prop} {xs : List α} {ys : List β} {i : Int} {x : α} (p : Paired F xs ys) (h : L2.atI xs i = some x) : ∃ y, L2.atI ys i = some y ∧ F x y := by
  unfold L2.atI at *
  rw [← Paired.length p]
  cases e : ixN xs.length i with
  | none => rw [e] at h; cases h
  | some j =>
    rw [e] at h
    exact Paired.at' p h
theorem RpA.take {K : PySem.W.Frag} {H : Hp} {L : Addr → Prop} : ∀ {ds : List D} {vs : List V} (n : Nat), RpA K H L vs ds → RpA K H L (vs.take n) (ds.take n)
  | _, _, 0, _ => by simp; exact .nil
  | [], _, n + 1, h => by cases h; exact .nil
  | d :: ds, _, n + 1, h => by cases h with | cons a b => exact .cons a (RpA.take n b)
theorem RpA.drop {K : PySem.W.Frag} {H : Hp} {L : Addr → Prop} : ∀ {ds : List D} {vs : List V} (n : Nat), RpA K H L vs ds → RpA K H L (vs.drop n) (ds.drop n)
  | _, _, 0, h => h
  | [], _, n + 1, h => by cases h; exact .nil
  | d :: ds, _, n + 1, h => by cases h with | cons a b => exact RpA.drop n b
theorem RpA.cut {K : PySem.W.Frag} {H : Hp} {L : Addr → Prop} {ds : List D} {vs : List V} (lo hi : Option Int) (h : RpA K H L vs ds) : RpA K H L (cutV vs lo hi) (cutL ds lo hi) := by
  unfold cutV cutL
  rw [h.length]
  exact (h.drop _).take _
theorem RpA.ints {K : PySem.W.Frag} {H : Hp} {L : Addr → Prop} : ∀ ns : List Int, RpA K H L (ns.map V.int) (ns.map .int)
  | [] => .nil
  | n :: ns => .cons (.int n) (RpA.ints ns)
theorem cutV_ints (ns : List Int) (lo hi : Option Int) : cutV (ns.map V.int) lo hi = (cutL ns lo hi).map V.int := by
  unfold cutV cutL
  rw [List.length_map, List.map_take, List.map_drop]
theorem okS_cut {z : Str} (h : okS z = true) (lo hi : Option Int) : okS (cutS z lo hi) = true := by
  unfold okS PyData.strOk at *
  unfold cutS
  rw [← Array.all_toList] at *
  rw [List.all_eq_true] at *
  intro c hc
  exact h c (List.mem_of_mem_drop (List.mem_of_mem_take (by simpa using hc)))
section
variable {X : Cx} {Z : XZ}
/-- new data that nobody changes, from items that stand -/
theorem newL_rep {K : PySem.W.Frag} {S : Sto} {ρ : Pl} {H : Hp} {p : Addr} {vs : List V} {ds : List D} (R : Rel K S ρ H) (hp : H p = none) (ra : RpA K H (Live S ρ) vs ds) : RW K ρ (upd H p (.lst vs)) (Live S ρ) (.d (.list ds)) (.ref p) := by
  have ex : Ext S ρ H S ρ (upd H p (.lst vs)) := Ext.frz hp
  exact .lst ⟨upd_same, R.notLive hp⟩ (RpA.ext ex.stabL ex.newL _ _ ra)
theorem newT_rep {K : PySem.W.Frag} {S : Sto} {ρ : Pl} {H : Hp} {p : Addr} {vs : List V} {ds : List D} (R : Rel K S ρ H) (hp : H p = none) (ra : RpA K H (Live S ρ) vs ds) : RW K ρ (upd H p (.tup vs)) (Live S ρ) (.d (.tuple ds)) (.ref p) := by
  have ex : Ext S ρ H S ρ (upd H p (.tup vs)) := Ext.frz hp
  exact .tup (.inl ⟨.inl upd_same, R.notLive hp⟩) (RpA.ext ex.stabL ex.newL _ _ ra)
/-- what stands as a list, with its items (of the store too) -/
theorem toD_items {K : PySem.W.Frag} {S : Sto} {ρ : Pl} {H : Hp} {w : W} {v : V} (R : Rel K S ρ H) (r : RW K ρ H (Live S ρ) w v) :
    (∀ ds, toD w S = some (.list ds) → ∃ a vs, v = .ref a ∧ H a = some (.lst vs) ∧ RpA K H (Live S ρ) vs ds) ∧ (∀ ds, toD w S = some (.tuple ds) → w = .d (.tuple ds) ∧ ∃ a vs, v = .ref a ∧ SqT K H a vs ∧ RpA K H (Live S ρ) vs ds) := by
  cases w with
  | d x =>
    refine ⟨fun ds h => ?_, fun ds h => ?_⟩
    · cases h
      cases r with
      | lst q ra => exact ⟨_, _, rfl, q.1, ra⟩
    · cases h
      refine ⟨rfl, ?_⟩
      cases r with
      | tup q ra => exact ⟨_, _, rfl, q.sq, ra⟩
  | r n =>
    obtain ⟨a, h1, h2⟩ := r
    have key : ∀ d, toD (.r n) S = some d → ∃ ds vs, d = .list ds ∧ H a = some (.lst vs) ∧ RpA K H (Live S ρ) vs ds := fun d h => by
      unfold toD at h
      simp only at h
      split at h
      · rename_i ws e
        simp only [Option.map_eq_some_iff] at h
        obtain ⟨ds, z1, z2⟩ := h
        obtain ⟨a', ho, y1, y2, vs, y3, y4⟩ := R.ob n _ e rfl
        rw [h1] at y1; cases y1
        subst y3
        exact ⟨ds, vs, z2.symm, y2, allD_rep z1 y4⟩
      · cases h
    refine ⟨fun ds h => ?_, fun ds h => ?_⟩
    · obtain ⟨es, vs, z1, z2, z3⟩ := key _ h
      cases z1
      exact ⟨a, vs, h2, z2, z3⟩
    · obtain ⟨es, vs, z1, _⟩ := key _ h
      cases z1
  | s ns => exact ⟨fun _ h => (by cases h), fun _ h => by cases h⟩
  | e x => exact ⟨fun _ h => (by cases h), fun _ h => by cases h⟩
theorem c_len : CallR X (.builtin "len") (rcM X.K Z lenM) := by
  rintro pins s σ H xs us Q I rv ⟨ws, S, ρ, R, rw, g⟩
  unfold lenM at g
  split at g
  · split at g
    · rename_i x hl
      cases rw with
      | cons a b =>
        cases b
        cases a with
        | str _ o => exact call_len pins s σ H _ us Q I rv ⟨_, _, rfl, ⟨hl, rfl⟩, g ρ H (.int _) Ext.refl R (.int _)⟩
    · exact g.elim
  · split at g
    · rename_i w _ k ws' e
      cases rw with
      | cons a b =>
        cases b
        obtain ⟨p, ys, rfl, rws, hq⟩ := seqOf_rep e R a
        have hn := Paired.length rws
        refine call_len_seq pins s σ H _ us Q I rv ⟨p, ys, rfl, ?_, ?_⟩
        · cases k with
          | true => rw [if_pos rfl] at hq; exact .inl (.of hq)
          | false => rw [if_neg Bool.false_ne_true] at hq; exact .inr hq
        · rw [← hn]; exact g ρ H (.int _) Ext.refl R (.int _)
    · exact g.elim
  · exact g.elim
theorem x_item : IxR X (r2M X.K Z itemM) := by
  rintro value slice pins s σ H x y v u Q I rx ry ⟨⟨w1, w2⟩, S, ρ, R, ⟨r1, r2⟩, g⟩ hs
  change Gives (itemM w1 w2 S) _ _ at g
  unfold itemM at g
  split at g
  · rename_i z i
    split at g
    · rename_i hl
      split at g
      · rename_i c e
        cases r2
        cases r1 with
        | str _ o =>
          refine ix_str value slice pins s σ H _ _ v u Q I rx ry ⟨z, i, c, rfl, rfl, hl, e, g ρ H (.str _) Ext.refl R (.str _ ?_)⟩ hs
          unfold L2.atI at e
          cases ej : ixN z.cps.toList.length i with
          | none => rw [ej] at e; cases e
          | some j =>
            rw [ej] at e
            have e : z.cps.toList[j]? = some c := e
            exact okS_sign o (i := j) (by simpa using e)
      · exact g.elim
    · exact g.elim
  · rename_i i _
    split at g
    · rename_i k ws e
      split at g
      · rename_i w ew
        cases r2
        obtain ⟨p, ys, rfl, rws, hq⟩ := seqOf_rep e R r1
        obtain ⟨y, h1, h2⟩ := Paired.atI rws ew
        cases k with
        | true =>
          rw [if_pos rfl] at hq
          exact ix_list value slice pins s σ H _ _ v u Q I rx ry ⟨p, ys, i, y, rfl, rfl, .of hq, h1, g ρ H y Ext.refl R h2⟩ hs
        | false =>
          rw [if_neg Bool.false_ne_true] at hq
          exact ix_tup value slice pins s σ H _ _ v u Q I rx ry ⟨p, ys, i, y, rfl, rfl, hq, h1, g ρ H y Ext.refl R h2⟩ hs
      · exact g.elim
    · exact g.elim
  · exact g.elim
theorem x_slice : SlR X (rsM X.K Z sliceM) := by
  rintro pins s σ H x v vl vu lo hi sl Q I rx hs pl pu ⟨w, S, ρ, R, r, g⟩
  change Gives (sliceM w lo hi S) _ _ at g
  unfold sliceM at g
  split at g
  · rename_i z
    split at g
    · rename_i hl
      cases r with
      | str _ o => exact sl_str pins s σ H _ v vl vu lo hi sl Q I rx hs pl pu ⟨z, rfl, hl, g ρ H (.str _) Ext.refl R (.str _ (okS_cut o _ _))⟩
    · exact g.elim
  · rename_i ds
    cases r with
    | lst q ra =>
      exact sl_list pins s σ H _ v vl vu lo hi sl Q I rx hs pl pu ⟨_, _, rfl, q.sq, fun p hp => g ρ _ _ (Ext.frz hp) (R.frz hp) (newL_rep R hp (ra.cut lo hi))⟩
  · rename_i ds
    cases r with
    | @tup a xs _ q ra =>
      refine sl_tupA pins s σ H _ v vl vu lo hi sl Q I rx hs pl pu ⟨_, _, rfl, q.sq, fun hw => ?_, fun hw p hp => g ρ _ _ (Ext.frz hp) (R.frz hp) (newT_rep R hp (ra.cut lo hi))⟩
      have hc : cutL ds lo hi = ds := by
        unfold cutL
        rw [← ra.length, hw.1, hw.2]
        simp [ra.length]
      rw [hc] at g
      exact g ρ H _ Ext.refl R (.tup q ra)
  · rename_i ns
    obtain ⟨a, rfl, q⟩ := r
    refine sl_list pins s σ H _ v vl vu lo hi sl Q I rx hs pl pu ⟨_, _, rfl, q.sq, fun p hp => g ρ _ _ (Ext.frz hp) (R.frz hp) (newL_rep R hp ?_)⟩
    rw [cutV_ints]
    exact RpA.ints _
  · exact g.elim
theorem c_tuple : CallR X (.type "tuple") (rcM X.K Z tupleM) := by
  rintro pins s σ H xs us Q I rv ⟨ws, S, ρ, R, rw, g⟩
  unfold tupleM at g
  split at g
  · rename_i w
    cases rw with
    | cons a b =>
      cases b
      obtain ⟨t1, t2⟩ := toD_items R a
      split at g
      · rename_i ds e
        obtain ⟨p, vs, rfl, h1, h2⟩ := t1 _ e
        exact call_tuple_of pins s σ H _ us Q I rv ⟨p, vs, rfl, .inl ⟨.of h1, fun l hl => g ρ _ _ (Ext.frz hl) (R.frz hl) (newT_rep R hl h2)⟩⟩
      · rename_i ds e
        obtain ⟨ew, p, vs, rfl, h1, h2⟩ := t2 _ e
        subst ew
        exact call_tuple_of pins s σ H _ us Q I rv ⟨p, vs, rfl, .inr ⟨h1, g ρ H _ Ext.refl R a⟩⟩
      · exact g.elim
  · exact g.elim
theorem c_list : CallR X (.type "list") (rcM X.K Z listM) := by
  rintro pins s σ H xs us Q I rv ⟨ws, S, ρ, R, rw, g⟩
  unfold listM at g
  split at g
  · rename_i w
    cases rw with
    | cons a b =>
      cases b
      obtain ⟨t1, t2⟩ := toD_items R a
      split at g
      · rename_i ds e
        obtain ⟨p, vs, rfl, h1, h2⟩ := t1 _ e
        exact call_list_of pins s σ H _ us Q I rv ⟨p, vs, rfl, .inl (.of h1), fun l hl => g ρ _ _ (Ext.frz hl) (R.frz hl) (newL_rep R hl h2)⟩
      · rename_i ds e
        obtain ⟨ew, p, vs, rfl, h1, h2⟩ := t2 _ e
        exact call_list_of pins s σ H _ us Q I rv ⟨p, vs, rfl, .inr h1, fun l hl => g ρ _ _ (Ext.frz hl) (R.frz hl) (newL_rep R hl h2)⟩
      · exact g.elim
  · exact g.elim
theorem c_all (hc : X.calm = true) : CallR X (.builtin "all") (rcM X.K Z allM) := by
  rintro pins s σ H xs us Q I rv ⟨ws, S, ρ, R, rw, g⟩
  unfold allM at g
  split at g
  · rename_i w
    cases rw with
    | cons a b =>
      cases b
      split at g
      · rename_i ds e
        split at g
        · rename_i bs eb
          obtain ⟨d1, _⟩ := toD_rep e R a (by simpa only [nd] using bools_nd eb)
          cases d1 with
          | lst q ra =>
            have := bools_rep eb ra
            subst this
            exact cr_all hc pins s σ H _ us Q I rv ⟨_, bs, rfl, q, g ρ H (.bl _) Ext.refl R (.bl _)⟩
        · exact g.elim
      · exact g.elim
  · exact g.elim
theorem c_any (hc : X.calm = true) : CallR X (.builtin "any") (rcM X.K Z anyM) := by
  rintro pins s σ H xs us Q I rv ⟨ws, S, ρ, R, rw, g⟩
  unfold anyM at g
  split at g
  · rename_i w
    cases rw with
    | cons a b =>
      cases b
      split at g
      · rename_i ds e
        split at g
        · rename_i bs eb
          obtain ⟨d1, _⟩ := toD_rep e R a (by simpa only [nd] using bools_nd eb)
          cases d1 with
          | lst q ra =>
            have := bools_rep eb ra
            subst this
            exact cr_any hc pins s σ H _ us Q I rv ⟨_, bs, rfl, q, g ρ H (.bl _) Ext.refl R (.bl _)⟩
        · exact g.elim
      · exact g.elim
  · exact g.elim
theorem c_int : CallR X (.type "int") (rcM X.K Z intM) := by
  rintro pins s σ H xs us Q I rv ⟨ws, S, ρ, R, rw, g⟩
  unfold intM at g
  split at g
  · cases rw with
    | cons a b =>
      cases b; cases a
      exact call_int1 pins s σ H _ us Q I rv (.inl ⟨_, rfl, g ρ H (.int _) Ext.refl R (.int _)⟩)
  · cases rw with
    | cons a b =>
      cases b; cases a
      exact call_int1 pins s σ H _ us Q I rv (.inr ⟨_, rfl, g ρ H (.int _) Ext.refl R (.int _)⟩)
  · exact g.elim
theorem c_abs : CallR X (.builtin "abs") (rcM X.K Z absM) := by
  rintro pins s σ H xs us Q I rv ⟨ws, S, ρ, R, rw, g⟩
  unfold absM at g
  split at g
  · cases rw with
    | cons a b =>
      cases b; cases a
      exact call_abs pins s σ H _ us Q I rv ⟨_, rfl, g ρ H (.int _) Ext.refl R (.int _)⟩
  · exact g.elim

/-! ### isinstance -/
inductive Kd where
  | non | bl | int | str | lst | tup | dct
  deriving DecidableEq
def Kd.nm : Kd → String
  | .non => "NoneType"
  | .bl => "bool"
  | .int => "int"
  | .str => "str"
  | .lst => "list"
  | .tup => "tuple"
  | .dct => "dict"
def kdD : D → Kd
  | .none => .non
  | .bool _ => .bl
  | .int _ => .int
  | .str _ => .str
  | .list _ => .lst
  | .tuple _ => .tup
  | .dict _ => .dct
def kdW (w : W) (S : Sto) : Option Kd := match w with
  | .d x => some (kdD x)
  | .r n => match S[n]? with
    | some (.lst _) => some .lst
    | some (.dct _) => some .dct
    | _ => none
  | .s _ => some .lst
  | .e _ => none
def Kd.isA (k T : Kd) : Bool := k == T || (k == .bl && T == .int)
theorem kd_kit (k T : Kd) : kitB k.nm T.nm = some (k.isA T) := by cases k <;> cases T <;> decide +kernel
def isiM (Ts : List Kd) (w : W) : M W := fun S => match kdW w S with
  | some k => .ok (okb (Ts.any k.isA)) S
  | none => .no
theorem kdW_rep {K : PySem.W.Frag} {S : Sto} {ρ : Pl} {H : Hp} {w : W} {v : V} {k : Kd} (h : kdW w S = some k) (R : Rel K S ρ H) (r : RW K ρ H (Live S ρ) w v) : TyX K H v (.type k.nm) := by
  cases w with
  | d x =>
    cases h
    cases x with
    | none => cases r; exact .base .non
    | bool _ => cases r; exact .base (.bl _)
    | int _ => cases r; exact .base (.int _)
    | str _ => cases r; exact .base (.str _)
    | list _ => cases r with | lst q _ => exact .base (.lst q.1)
    | tuple _ =>
      cases r with
      | tup q _ =>
        rcases q with ⟨q | ⟨o, q⟩, _⟩ | ⟨o, _, _, e, c, _⟩
        · exact .base (.tup q)
        · exact .fTuple q
        · exact .kTuple e c
    | dict _ => cases r with | dct q => obtain ⟨⟨kus, q, _⟩, _⟩ := q; exact .base (.dK q)
  | r n =>
    obtain ⟨a, h1, rfl⟩ := r
    unfold kdW at h
    simp only at h
    split at h
    · rename_i ws e
      cases h
      obtain ⟨a', ho, y1, y2, vs, y3, y4⟩ := R.ob n _ e rfl
      rw [h1] at y1; cases y1
      subst y3
      exact .base (.lst y2)
    · rename_i ws e
      cases h
      obtain ⟨a', ho, y1, y2, vs, y3, y4⟩ := R.ob n _ e rfl
      rw [h1] at y1; cases y1
      subst y3
      exact .base (.dK y2)
    · cases h
  | e x => cases h
  | s ns =>
    obtain ⟨a, rfl, q⟩ := r
    cases h
    rcases q with ⟨q | ⟨o, q⟩, _⟩ | ⟨o, _, _, e, c, _⟩
    · exact .base (.lst q)
    · exact .base (.frz q)
    · exact .kList e c
variable {pos : Pos} {a : Expr} {fa : Env → M W}
theorem disi1 {T : Kd} {p p2 : Pos} {x : Str} (hg : Gl X "isinstance") (hm : X.mg "isinstance" = none) (hgT : Gl X x) (hmT : X.mg x = none) (hvT : bootBuiltins x = some (.type T.nm)) (ha : PE X a (tE X.K Z fa))
    (hn : x ≠ "__name__" := by decide) (hd : (x == ("__debug__" : Str)) = false := by decide)
    (he : starEach [a, .Name x p2] X.env = (false, eval a X.env) :: starEach [.Name x p2] X.env := by rfl) (hpl : (backTo pos (starEach [.Name x p2] X.env)).any (·.1) = false := by rfl) :
    PE X (.Call (.Name "isinstance" p) [a, .Name x p2] [] pos) (tE X.K Z fun δ => bd (fa δ) (isiM [T])) := by
  have hT : PE X (.Name x p2) (tC (.ty T.nm)) := pe_bltn hgT hmT hvT rfl hn hd
  refine (pe_callB (r := rIsi X.K) call_isi hg hm (by decide +kernel) (pa_cons ha (pa_cons hT pa_nil) he) (he := he) (hpl := hpl)).imp fun σ H Q h => ?_
  refine (tH.bind (Rα := RW X.K) (f := fa) (g := fun _ w => isiM [T] w) h Stb.env).mono fun v H1 ⟨⟨δ, w⟩, S, ρ, R, ⟨r0, r1⟩, g⟩ => ?_
  change Gives (isiM [T] w S) _ _ at g
  unfold isiM at g
  split at g
  · rename_i k e
    refine ⟨v, .ty T.nm, _, _, k.isA T, rfl, .ty _, kdW_rep e R r1, kit_ty (kd_kit k T), ?_⟩
    have : ([T].any k.isA) = k.isA T := by simp
    rw [this] at g
    exact g ρ H1 (.bl _) Ext.refl R (.bl _)
  · exact g.elim
theorem disi2 {T U : Kd} {p p2 p3 p4 : Pos} {x y : Str} {k4 : Nat} (hg : Gl X "isinstance") (hm : X.mg "isinstance" = none) (hgT : Gl X x) (hmT : X.mg x = none) (hvT : bootBuiltins x = some (.type T.nm)) (hgU : Gl X y) (hmU : X.mg y = none) (hvU : bootBuiltins y = some (.type U.nm)) (ha : PE X a (tE X.K Z fa))
    (hn : x ≠ "__name__" := by decide) (hd : (x == ("__debug__" : Str)) = false := by decide) (hn' : y ≠ "__name__" := by decide) (hd' : (y == ("__debug__" : Str)) = false := by decide)
    (he : starEach [a, .Tuple [.Name x p2, .Name y p3] k4 p4] X.env = (false, eval a X.env) :: starEach [.Tuple [.Name x p2, .Name y p3] k4 p4] X.env := by rfl) (hpl : (backTo pos (starEach [.Tuple [.Name x p2, .Name y p3] k4 p4] X.env)).any (·.1) = false := by rfl) :
    PE X (.Call (.Name "isinstance" p) [a, .Tuple [.Name x p2, .Name y p3] k4 p4] [] pos) (tE X.K Z fun δ => bd (fa δ) (isiM [T, U])) := by
  have hT : PE X (.Name x p2) (tC (.ty T.nm)) := pe_bltn hgT hmT hvT rfl hn hd
  have hU : PE X (.Name y p3) (tC (.ty U.nm)) := pe_bltn hgU hmU hvU rfl hn' hd'
  have hTU : PE X (.Tuple [.Name x p2, .Name y p3] k4 p4) (tTup (tCons (tC (.ty T.nm)) (tCons (tC (.ty U.nm)) tNil))) := pe_tup (pa_cons hT (pa_cons hU pa_nil))
  refine (pe_callB (r := rIsiT X.K) call_isiT hg hm (by decide +kernel) (pa_cons ha (pa_cons hTU pa_nil) he) (he := he) (hpl := hpl)).imp fun σ H Q h => ?_
  refine (tH.bind (Rα := RW X.K) (f := fa) (g := fun _ w => isiM [T, U] w) h Stb.env).mono fun v H1 ⟨⟨δ, w⟩, S, ρ, R, ⟨r0, r1⟩, g⟩ => ?_
  change Gives (isiM [T, U] w S) _ _ at g
  unfold isiM at g
  split at g
  · rename_i k e
    refine ⟨by show 2 ≤ sizeLine; decide, fun t ht => ?_⟩
    have ex : Ext S ρ H1 S ρ (upd H1 t (.tup [.ty T.nm, .ty U.nm])) := Ext.frz ht
    refine ⟨v, t, [.ty T.nm, .ty U.nm], _, [.type T.nm, .type U.nm], k.isA T || k.isA U, rfl, upd_same, .cons (.ty _) (.cons (.ty _) .nil), kdW_rep e (R.frz ht) (r1.ext ex), ?_, ?_⟩
    · refine kitAny_cons (kit_ty (kd_kit k T)) (fun hf => ?_) (fun ht => by rw [ht]; rfl)
      refine kitAny_cons (kit_ty (kd_kit k U)) (fun hf' => ?_) (fun ht => by rw [ht, hf]; rfl)
      rw [hf, hf']
      rfl
    · have : ([T, U].any k.isA) = (k.isA T || k.isA U) := by simp
      rw [this] at g
      exact g ρ _ (.bl _) ex (R.frz ht) (.bl _)
  · exact g.elim

/-! ### lists of the store -/
def chkL (w : W) : M Unit := fun S => match seqOf w S with
  | some (true, _) => .ok () S
  | _ => .no
theorem chkL_ok {K : PySem.W.Frag} : ChkOk K "list" chkL := by
  intro w S ρ H v P E R r g
  unfold chkL at g
  split at g
  · rename_i ws e
    obtain ⟨a, xs, rfl, _, hq⟩ := seqOf_rep e R r
    rw [if_pos rfl] at hq
    exact ⟨.inl ⟨rfl, xs, .of hq⟩, g⟩
  · exact g.elim
def appendM (w : W) (ws : List W) : M W := fun S => match w, ws with
  | .r n, [y] => match S[n]? with
    | some (.lst xs) => if xs.length < sizeLine then .ok (.d .none) (S.set n (.lst (xs ++ [y]))) else .no
    | _ => .no
  | _, _ => .no
def extendM (w : W) (ws : List W) : M W := fun S => match w, ws with
  | .r n, [y] => match S[n]?, seqOf y S with
    | some (.lst xs), some (true, ys) => if xs.length + ys.length ≤ sizeLine then .ok (.d .none) (S.set n (.lst (xs ++ ys))) else .no
    | _, _ => .no
  | _, _ => .no
def popM (w : W) (ws : List W) : M W := fun S => match w, ws with
  | .r n, [] => match S[n]? with
    | some (.lst xs) => match xs[xs.length - 1]? with
      | some y => .ok y (S.set n (.lst xs.dropLast))
      | none => .no
    | _ => .no
  | _, _ => .no
theorem lst_at {K : PySem.W.Frag} {S : Sto} {ρ : Pl} {H : Hp} {n : Nat} {xs : List W} {v : V} (e : S[n]? = some (.lst xs)) (R : Rel K S ρ H) (r : RW K ρ H (Live S ρ) (.r n) v) : ∃ a vs, v = .ref a ∧ ρ.adr[n]? = some a ∧ H a = some (.lst vs) ∧ RWs K ρ H (Live S ρ) xs vs := by
  obtain ⟨a, h1, h2⟩ := r
  obtain ⟨a', ho, y1, y2, vs, y3, y4⟩ := R.ob n _ e rfl
  rw [h1] at y1; cases y1
  subst y3
  exact ⟨a, vs, h2, h1, y2, y4⟩
theorem m_append : MtR X "list.append" (rmM X.K Z appendM) := by
  rintro pins s σ H x xs v us Q I rx rxs ⟨⟨w, ws⟩, S, ρ, R, ⟨r1, r2⟩, g⟩
  change Gives (appendM w ws S) _ _ at g
  unfold appendM at g
  split at g
  · rename_i n y
    split at g
    · rename_i zs e
      split at g
      · rename_i hl
        obtain ⟨a, vs, rfl, h1, h2, h3⟩ := lst_at e R r1
        cases r2 with
        | cons ry rn =>
          cases rn
          have hn := Paired.length h3
          refine mt_append pins s σ H _ _ v us Q I rx rxs ⟨a, vs, _, rfl, rfl, h2, by omega, ?_⟩
          exact g ρ _ .non (Ext.put R e rfl h1) (R.put e rfl h1 ⟨_, rfl, RWs.app h3 (.cons ry .nil)⟩) .non
      · exact g.elim
    · exact g.elim
  · exact g.elim
theorem m_extend : MtR X "list.extend" (rmM X.K Z extendM) := by
  rintro pins s σ H x xs v us Q I rx rxs ⟨⟨w, ws⟩, S, ρ, R, ⟨r1, r2⟩, g⟩
  change Gives (extendM w ws S) _ _ at g
  unfold extendM at g
  split at g
  · rename_i n y
    split at g
    · rename_i zs ys e e2
      split at g
      · rename_i hl
        obtain ⟨a, vs, rfl, h1, h2, h3⟩ := lst_at e R r1
        cases r2 with
        | cons ry rn =>
          cases rn
          obtain ⟨b, us', rfl, h4, h5⟩ := seqOf_rep e2 R ry
          rw [if_pos rfl] at h5
          have hn := Paired.length h3
          have hm := Paired.length h4
          refine mt_extend pins s σ H _ _ v us Q I rx rxs ⟨a, b, vs, us', rfl, rfl, h2, h5, by omega, ?_⟩
          exact g ρ _ .non (Ext.put R e rfl h1) (R.put e rfl h1 ⟨_, rfl, RWs.app h3 h4⟩) .non
      · exact g.elim
    · exact g.elim
  · exact g.elim
theorem Paired.dropLast' {α β : Type} {F : α → β → Prop} : ∀ {xs : List α} {ys : List β}, Paired F xs ys → Paired F xs.dropLast ys.dropLast
  | _, _, .nil => .nil
  | _, _, .cons a .nil => .nil
  | _, _, .cons a (.cons b c) => .cons a (Paired.dropLast' (.cons b c))
theorem m_pop : MtR X "list.pop" (rmM X.K Z popM) := by
  rintro pins s σ H x xs v us Q I rx rxs ⟨⟨w, ws⟩, S, ρ, R, ⟨r1, r2⟩, g⟩
  change Gives (popM w ws S) _ _ at g
  unfold popM at g
  split at g
  · rename_i n
    split at g
    · rename_i zs e
      split at g
      · rename_i y ey
        obtain ⟨a, vs, rfl, h1, h2, h3⟩ := lst_at e R r1
        cases r2
        have hn := Paired.length h3
        obtain ⟨vy, k1, k2⟩ := Paired.at' h3 ey
        rw [hn] at k1
        have ex : Ext S ρ H (S.set n (.lst zs.dropLast)) ρ (upd H a (.lst vs.dropLast)) := Ext.put R e rfl h1
        refine mt_pop pins s σ H _ _ v us Q I rx rxs ⟨a, vs, vy, rfl, rfl, h2, k1, ?_⟩
        exact g ρ _ vy ex (R.put e rfl h1 ⟨_, rfl, Paired.dropLast' h3⟩) (k2.ext ex)
      · exact g.elim
    · exact g.elim
  · exact g.elim
/-- what stands at a name is given up to nobody's change -/
def freezeM (w : W) : M W := fun S => match w with
  | .r n => match S[n]? with
    | some (.lst ws) => match allD ws with
      | some ds => .ok (.d (.list ds)) (S.set n .dead)
      | none => .no
    | _ => .no
  | w => .ok w S
theorem dfreeze (h : PE X a (tE X.K Z fa)) : PE X a (tE X.K Z fun δ => bd (fa δ) freezeM) := by
  refine h.imp fun σ H Q q => ?_
  refine (tH.bind (Rα := RW X.K) (f := fa) (g := fun _ w => freezeM w) q Stb.env).mono fun v H1 ⟨⟨δ, w⟩, S, ρ, R, ⟨r0, r1⟩, g⟩ => ?_
  change Gives (freezeM w S) _ _ at g
  unfold freezeM at g
  split at g
  · rename_i n
    split at g
    · rename_i ws e
      split at g
      · rename_i ds ed
        obtain ⟨b, vs, rfl, h1, h2, h3⟩ := lst_at e R r1
        have ek : Ext S ρ H1 (S.set n .dead) ρ H1 := Ext.kill e rfl
        exact g ρ H1 _ ek (R.kill e rfl) (.lst ⟨h2, R.dead_notL e rfl h1⟩ (RpA.ext ek.stabL ek.newL _ _ (allD_rep ed h3)))
      · exact g.elim
    · exact g.elim
  · exact g ρ H1 v Ext.refl R r1
end
end DL
/-! DL8: own defs: their promise by a plain function, their calls. -/
namespace DL
open PySem PySem.Spec PyProof.Rows L2

/-- a def of the text, whatever its defaults are -/
structure FunA (K : PySem.W.Frag) (x qual : Str) (st : Stmt) (f : Addr) (fd : FuncData) : Prop where
  ex : ∃ (oc : Value) (od : Option Addr) (dV kV doc pm : Value) (an : Option Addr) (cdv ct : Value) (osl : Array (Option Value)),
    fd = PySem.W.fnOf x qual (defArgs st) (defBody st) (defScope st) dV kV doc pm an cdv ct ∧ K.lookup f = some ⟨oc, od, .func fd, osl⟩ ∧ PySem.W.codeIn K cdv qual = true
theorem _root_.L2.Fun.any {K : PySem.W.Frag} {x qual : Str} {st : Stmt} {f : Addr} {fd : FuncData} (F : Fun K x qual st f fd) : FunA K x qual st f fd := by
  obtain ⟨oc, od, kV, doc, pm, an, cdv, ct, osl, h⟩ := F.ex
  exact ⟨oc, od, .none, kV, doc, pm, an, cdv, ct, osl, h⟩
/-- as FnOk, where it is known that no repr runs around -/
structure FnG (P : Program) (w : World) (K : PySem.W.Frag) (mg : Str → Option Value) (base : Heap) (CX : CXT) (k : Nat) (f : Addr) (fd : FuncData) (ps : List Str) (sp : Sp) : Prop where
  len : ∀ vs H Q E, sp vs H Q E → vs.length = ps.length
  run : ∀ (A : Around) (outer : List PySem.Env) (s : Shared) (H : Hp) (args : Args) (us : List Value) (vs : List V) (Q : VK) (E : XK), Room k A → A.guards = some [] → Env0 P w K mg base A outer s H → BindsTo s fd args (ps.zip us) → Vals vs us → sp vs H Q E →
    codeAny (model P w) A (.call (.ref f) args) (CR CX outer P w H s Q E) s
section
variable {P : Program} {w : World} {K : PySem.W.Frag} {mg : Str → Option Value} {base : Heap} {CX : CXT} {f : Addr} {fd : FuncData} {ps : List Str} {sp sp' : Sp}
theorem FnG.mono {j k : Nat} (F : FnG P w K mg base CX j f fd ps sp) (h : j ≤ k) : FnG P w K mg base CX k f fd ps sp := ⟨F.len, fun A outer s H args us vs Q E hr => F.run A outer s H args us vs Q E (hr.mono h)⟩
theorem FnG.imp {k : Nat} (F : FnG P w K mg base CX k f fd ps sp) (h : ∀ vs H Q E, sp' vs H Q E → sp vs H Q E) : FnG P w K mg base CX k f fd ps sp' :=
  ⟨fun vs H Q E q => F.len vs H Q E (h _ _ _ _ q), fun A outer s H args us vs Q E hr hg he hb hv hs => F.run A outer s H args us vs Q E hr hg he hb hv (h _ _ _ _ hs)⟩
/-- cdv is the code of the def at f -/
def CodeOf (K : PySem.W.Frag) (f : Addr) (cdv : Value) : Prop := ∃ (oc : Value) (od : Option Addr) (fd : FuncData) (osl : Array (Option Value)), K.lookup f = some ⟨oc, od, .func fd, osl⟩ ∧ fd.code = cdv
/-- a def's body: its walk, and from this the promise -/
theorem FnG.ofC {x qual : Str} {st : Stmt} {N : List Str} {k : Nat} (F : FunA K x qual st f fd) (S : FnScope N ps (defScope st)) (len : ∀ vs H Q E, sp vs H Q E → vs.length = ps.length)
    (hbody : ∀ (cdv : Value) (A : Around) (outer : List PySem.Env) (s : Shared) (H : Hp) (vs : List V) (Q : VK) (E : XK), CodeOf K f cdv → Room k (A.deeper (envOfC qual (defScope st) s.heap.objs.size f cdv)) → A.guards = some [] → sp vs H Q E →
      ∃ t, PSs (cxOf CX P w K mg base N qual (defScope st) f cdv A outer s H E) (defBody st) t ∧ t { nx := fun _ H' => Q .non H', rt := Q } (L2.start N vs) H) : FnG P w K mg base CX (k + 1) f fd ps sp := by
  obtain ⟨oc, od, dV, kV, doc, pm, an, cdv, ct, osl, rfl, lk, hcd⟩ := F.ex
  refine ⟨len, fun A outer s H args us vs Q E hr hgd e0 hb r hsp => ?_⟩
  -- the promise at this A alone
  have one : FnOk P w K mg base CX (k + 1) f (PySem.W.fnOf x qual (defArgs st) (defBody st) (defScope st) dV kV doc pm an cdv ct) ps sp → codeAny (model P w) A (.call (.ref f) args) (CR CX outer P w H s Q E) s := fun z => z.run A outer s H args us vs Q E hr e0 hb r hsp
  have KX : K.In s.heap := e0.mod.kin.keeps fun b o e => (e0.bs b o e).1
  have free : s.heap.NoLimit := e0.mod.nolimit.keeps fun b o e => (e0.bs b o e).1
  have many := len _ _ _ _ hsp
  have seen : ∀ y ∈ ps.zip us, (defScope st).names.lookup y.1 = some .local ∨ ((defScope st).names.lookup y.1 = some .cell ∧ ((cellsFrom (s.heap.objs.size + 1) (defScope st).names []).lookup y.1).isSome = true) := fun y hy =>
    (S.par y.1 (List.of_mem_zip hy).1).imp id fun q => ⟨q, PySem.W.cellsFrom_some _ _ _ (.inl q)⟩
  refine codeAny_call_function hr.depth (KX _ _ lk) rfl S.co S.gen rfl (PySem.W.codeRec_of KX hcd) (hb _ _ _ _ (wpAny_newFunctionEnv_cells S.kind seen fun env he s1 x1 => ?_))
  subst he
  refine ⟨free.keeps x1.toInCall.keep, codeAny_func ?_⟩
  obtain ⟨t, ht, hq⟩ := hbody cdv A outer s H vs Q E ⟨_, _, _, _, lk, rfl⟩ (hr.deeper _) hgd hsp
  have I := inv_start (CX := CX) (P := P) (w := w) (K := K) (mg := mg) (base := base) (E := E) S hr.hd e0 many r x1
  refine wpAny_mono (ht.run [] s1 _ H _ I hq) (fun fl s' hs => ?_) fun e s' hs => hs
  cases fl with
  | ret u =>
    obtain ⟨v, σ', H', J, rv, q⟩ := hs
    exact ⟨v, H', J.os, J.bare, J.base, J.hok, rv, q⟩
  | next =>
    obtain ⟨σ', H', J, q⟩ := hs
    exact ⟨.non, H', J.os, J.bare, J.base, J.hok, rfl, q⟩
  | brk => obtain ⟨_, _, _, q⟩ := hs; exact q.elim
  | cont => obtain ⟨_, _, _, q⟩ := hs; exact q.elim
theorem FnG.of {x qual : Str} {st : Stmt} {N : List Str} {k : Nat} (F : FunA K x qual st f fd) (S : FnScope N ps (defScope st)) (len : ∀ vs H Q E, sp vs H Q E → vs.length = ps.length)
    (hbody : ∀ (cdv : Value) (A : Around) (outer : List PySem.Env) (s : Shared) (H : Hp) (vs : List V) (Q : VK) (E : XK), Room k (A.deeper (envOfC qual (defScope st) s.heap.objs.size f cdv)) → A.guards = some [] → sp vs H Q E →
      ∃ t, PSs (cxOf CX P w K mg base N qual (defScope st) f cdv A outer s H E) (defBody st) t ∧ t { nx := fun _ H' => Q .non H', rt := Q } (L2.start N vs) H) : FnG P w K mg base CX (k + 1) f fd ps sp :=
  FnG.ofC F S len fun cdv A outer s H vs Q E _ => hbody cdv A outer s H vs Q E
end
section
variable {X : Cx} {CX : CXT} {k : Nat} {f : Addr} {fd : FuncData} {ps ks : List Str} {sp : Sp} {dvs : List V} {ds : List Value} {E : XK} {x : Str} {p pos : Pos} {e : Expr} {es : List Expr} {ta : TE} {t tk : TA}
/-- behind the callee's end -/
theorem after_call {pins : List (Addr × Obj)} {σ : L2.St} {H : Hp} {s : Shared} {Q : VK} (hx : Passes CX X E) (I : Inv X pins σ H s) {r : Result} {s' : Shared} (hq : CR CX X.stack X.prog X.w H s Q E r s') :
    match r with | .ok (.ret u) => EP X pins σ Q u s' | .ok _ => False | .error e => X.xe e s' := by
  cases r with
  | error e => exact hx pins σ H s e s' I hq
  | ok fl =>
    cases fl with
    | ret u => exact I.after hq
    | next => exact hq
    | brk => exact hq
    | cont => exact hq
theorem callG {pins : List (Addr × Obj)} {σ : L2.St} {H : Hp} {s : Shared} {Q : VK} {us : List Value} {vs : List V} (F : FnG X.prog X.w X.K X.mg X.base CX k f fd ps sp) (hr : Room k X.A) (hG : X.A.guards = some []) (hb : Binds X.K fd ps ds) (hd : Vals dvs ds) (hx : Passes CX X E)
    (I : Inv X pins σ H s) (r : Vals vs us) (h : sp (vs ++ dvs) H Q E) : wpAny (model X.prog X.w) X.A (call (.ref f) us) (EP X pins σ Q) X.xe s := by
  have r2 : Vals (vs ++ dvs) (us ++ ds) := r.append hd
  refine wpAny_call (codeAny_mono (F.run X.A X.stack s H ⟨us, []⟩ (us ++ ds) (vs ++ dvs) Q E hr hG I.env0 (hb s us I.kIn (by rw [← r2.length]; exact F.len _ _ _ _ h)) r2 h) fun r s' hq => ?_)
  have z := after_call hx I hq
  cases r with
  | error e => exact z
  | ok fl => cases fl <;> first | exact z | exact z.elim
theorem peG (F : FnG X.prog X.w X.K X.mg X.base CX k f fd ps sp) (hr : Room k X.A) (hG : X.A.guards = some []) (hg : Gl X x) (hm : X.mg x = some (.ref f)) (hk : PySem.W.keepIn X.K (.ref f) = true) (hb : Binds X.K fd ps ds) (hd : Vals dvs ds) (hx : Passes CX X E)
    (ha : PA X (e :: es) t) (hdb : (x == ("__debug__" : Str)) = false := by decide) (he : starEach (e :: es) X.env = (false, eval e X.env) :: starEach es X.env := by rfl) (hpl : (backTo pos (starEach es X.env)).any (·.1) = false := by rfl) :
    PE X (.Call (.Name x p) (e :: es) [] pos) (tCall sp dvs E t) := ⟨fun pins s σ H Q I h =>
  wpAny_Call_Name_kw (ld_glob I hg hm (PySem.W.callWith_K (h₀ := X.base) I.ok.mod.kin hk (thn (ha.run pos pins s σ H _ I h) fun us s1 ⟨vs, H1, I1, r, q⟩ => ⟨I1.kIn, callG F hr hG hb hd hx I1 r q⟩) he hpl) hdb)⟩
theorem peG0 (F : FnG X.prog X.w X.K X.mg X.base CX k f fd ps sp) (hr : Room k X.A) (hG : X.A.guards = some []) (hg : Gl X x) (hm : X.mg x = some (.ref f)) (hk : PySem.W.keepIn X.K (.ref f) = true) (hb : Binds X.K fd ps ds) (hd : Vals dvs ds) (hx : Passes CX X E)
    (hdb : (x == ("__debug__" : Str)) = false := by decide) : PE X (.Call (.Name x p) [] [] pos) (tCall sp dvs E tNil) := ⟨fun pins s σ H Q I h =>
  wpAny_Call_Name_kw (ld_glob I hg hm (PySem.W.callWith_K0 I.kIn hk (callG (us := []) F hr hG hb hd hx I .nil h)) hdb)⟩
variable {g : List Value → List Value → List Value} {gV : List V → List V → List V}
theorem callGK {pins : List (Addr × Obj)} {σ : L2.St} {H : Hp} {s : Shared} {Q : VK} {us ws : List Value} {vs zs : List V} (F : FnG X.prog X.w X.K X.mg X.base CX k f fd ps sp) (hr : Room k X.A) (hG : X.A.guards = some []) (hb : KBinds X.K fd ps ks g gV) (hx : Passes CX X E)
    (I : Inv X pins σ H s) (r : Vals vs us) (rz : Vals zs ws) (h : sp (gV vs zs) H Q E) : wpAny (model X.prog X.w) X.A (call (.ref f) us (ks.zip ws)) (EP X pins σ Q) X.xe s := by
  have r2 := hb.rel r rz
  refine wpAny_call (codeAny_mono (F.run X.A X.stack s H ⟨us, ks.zip ws⟩ (g us ws) (gV vs zs) Q E hr hG I.env0 (hb.to s us ws I.kIn (by rw [← r2.length]; exact F.len _ _ _ _ h)) r2 h) fun r s' hq => ?_)
  have z := after_call hx I hq
  cases r with
  | error e => exact z
  | ok fl => cases fl <;> first | exact z | exact z.elim
theorem peGK {kws : List Keyword} (F : FnG X.prog X.w X.K X.mg X.base CX k f fd ps sp) (hr : Room k X.A) (hG : X.A.guards = some []) (hg : Gl X x) (hm : X.mg x = some (.ref f)) (hk : PySem.W.keepIn X.K (.ref f) = true) (hb : KBinds X.K fd ps ks g gV) (hx : Passes CX X E)
    (ha : PA X (e :: es) t) (hkw : PK X kws tk) (hall : (backToKw pos (keywordEach kws X.env)).all (·.1.isSome) = true := by rfl) (hks : (backToKw pos (keywordEach kws X.env)).filterMap (·.1) = ks := by rfl)
    (hdb : (x == ("__debug__" : Str)) = false := by decide) (he : starEach (e :: es) X.env = (false, eval e X.env) :: starEach es X.env := by rfl)
    (hpl : ((backTo pos (starEach (e :: es) X.env)).any (·.1) || (backToKw pos (keywordEach kws X.env)).any (·.1.isNone)) = false := by rfl) :
    PE X (.Call (.Name x p) (e :: es) kws pos) (tCallK sp gV E t tk) := by
  refine ⟨fun pins s σ H Q I h => wpAny_Call_Name_kw (ld_glob I hg hm ?_ hdb)⟩
  refine PySem.W.callWith_KW (h₀ := X.base) I.ok.mod.kin hk hall (thn (ha.run pos pins s σ H _ I h) fun us s1 ⟨vs, H1, I1, r, q⟩ => thn (hkw.run pos pins s1 σ H1 _ I1 q) fun ws s2 ⟨zs, H2, I2, rz, q2⟩ => ⟨I2.kIn, ?_⟩) hpl he
  rw [hks]
  exact callGK F hr hG hb hx I2 r rz q2
end

/-- the promise of a def: what its plain function says -/
def spF (K : PySem.W.Frag) (ZZ : XK → XZ) (F : List W → M W) : Sp := fun vs H Q E => tH K (ZZ E) (RWs K) (RW K) F vs H Q
/-- a def's plain function, from its body's: k parameters, n names -/
def runD (k n : Nat) (b : Env → M Fl) : List W → M W := fun ws => if ws.length = k then bd (b (ws.map some ++ List.replicate (n - k) none)) fun fl => match fl with
  | .nx _ => pr (.d .none)
  | .rt w => pr w
  | _ => no
  else no
/-- .. where the arguments are plain data that it does not change, and the answer is plain data: nothing of the store is seen, nothing is left -/
def pureM (F : List W → M W) : List W → M W := fun ws S => match allD ws with
  | some _ => match F ws [] with
    | .ok (.d x) _ => .ok (.d x) S
    | _ => .no
  | none => .no
theorem RWs_plain {K : PySem.W.Frag} {ρ ρ' : Pl} {H : Hp} {L : Addr → Prop} : ∀ {ws : List W} {vs : List V} {ds : List D}, allD ws = some ds → RWs K ρ H L ws vs → RWs K ρ' H L ws vs
  | [], _, ds, h, r => by cases r; exact .nil
  | .d x :: ws, _, ds, h, r => by
    cases r with
    | cons a b =>
      simp only [allD, Option.map_eq_some_iff] at h
      obtain ⟨es, h1, h2⟩ := h
      exact .cons a (RWs_plain h1 b)
  | .r _ :: _, _, ds, h, r => by simp [allD] at h
  | .s _ :: _, _, ds, h, r => by simp [allD] at h
  | .e _ :: _, _, ds, h, r => by simp [allD] at h
theorem sp_pure {K : PySem.W.Frag} {ZZ : XK → XZ} {F : List W → M W} {vs : List V} {H : Hp} {Q : VK} {E : XK} (h : spF K ZZ (pureM F) vs H Q E) : spF K (fun _ => ZF) F vs H Q E ∨ spF K ZZ F vs H Q E := by
  right
  obtain ⟨ws, S, ρ, R, rw, g⟩ := h
  unfold pureM at g
  split at g
  · rename_i ds ed
    split at g
    · rename_i x S0 e
      refine ⟨ws, [], ⟨[], fun a => Live S ρ a⟩, ⟨rfl, fun a q => R.tracked q, fun a q z => ?_, fun n o q => ?_, fun n m a o u q => ?_⟩, ?_, ?_⟩
      · obtain ⟨n, o, h1, _⟩ := z; simp at h1
      · simp at q
      · simp at q
      · have hl : Live [] ⟨[], fun a => Live S ρ a⟩ = Live S ρ := by
          funext a
          refine propext ⟨fun q => ?_, fun q => .inr q⟩
          rcases q with ⟨n, o, h1, _⟩ | q
          · simp at h1
          · exact q
        rw [hl]
        exact RWs_plain ed rw
      · rw [e]
        intro ρ' H' v ex r' rv
        have keep : ∀ (a : Addr) (o : HO), H a = some o → H' a = some o := fun a o q => ex.stab a o q fun z => by
          obtain ⟨n, o, h1, _⟩ := z; simp at h1
        have e2 : Ext S ρ H S ρ H' := ⟨fun _ _ q => q, fun a o q _ => keep a o q, fun _ q => .inl q, rfl, fun a o u q => keep a _ q⟩
        refine g ρ H' v e2 ⟨R.len, fun a q => ?_, R.dj, fun n o q1 q2 => ?_, R.inj⟩ ?_
        · obtain ⟨o, h⟩ := R.gt a q; exact ⟨o, keep a o h⟩
        · obtain ⟨a, ho, z1, z2, z3⟩ := R.ob n o q1 q2
          exact ⟨a, ho, z1, keep a ho z2, z3.ext e2⟩
        · have rv : Rp K H' (Live S0 ρ') v x := rv
          refine Rp.ext (fun a o q _ => q) (fun a q => .inl (.inr ?_)) x v rv
          rw [ex.grd]
          exact q
    · exact g.elim
  · exact g.elim
theorem fn_pure {P : Program} {w : World} {K : PySem.W.Frag} {mg : Str → Option Value} {base : Heap} {CX : CXT} {k : Nat} {f : Addr} {fd : FuncData} {ps : List Str} {ZZ : XK → XZ} {F : List W → M W}
    (h : FnG P w K mg base CX k f fd ps (spF K ZZ F)) : FnG P w K mg base CX k f fd ps (spF K ZZ (pureM F)) := h.imp fun vs H Q E q => (sp_pure q).elim (fun z => by
  obtain ⟨ws, S, ρ, R, rw, g⟩ := z
  exact ⟨ws, S, ρ, R, rw, gives_imp g (fun _ _ q => q) fun _ _ q ρ' H' a b => (q ρ' H' a b).elim⟩) id
theorem fn_to {P : Program} {w : World} {K : PySem.W.Frag} {mg : Str → Option Value} {base : Heap} {CX : CXT} {k : Nat} {f : Addr} {fd : FuncData} {ps : List Str} {ZZ : XK → XZ} {F G : List W → M W}
    (h : FnG P w K mg base CX k f fd ps (spF K ZZ F)) (hg : ∀ ws S, G ws S = .no ∨ G ws S = F ws S) : FnG P w K mg base CX k f fd ps (spF K ZZ G) := h.imp fun vs H Q E q => by
  obtain ⟨ws, S, ρ, R, rw, g⟩ := q
  refine ⟨ws, S, ρ, R, rw, ?_⟩
  rcases hg ws S with e | e
  · rw [e] at g; exact g.elim
  · rw [← e]; exact g
theorem start_rep {K : PySem.W.Frag} {ρ : Pl} {H : Hp} {L : Addr → Prop} {ws : List W} {vs : List V} {n : Nat} (r : RWs K ρ H L ws vs) : REnv K ρ H L (ws.map some ++ List.replicate n none) (vs.map some ++ List.replicate n none) := by
  have hl := Paired.length r
  refine ⟨by simp [hl], fun i w h => ?_⟩
  by_cases hi : i < ws.length
  · rw [List.getElem?_append_left (by simpa using hi), List.getElem?_map] at h
    cases e : ws[i]? with
    | none => rw [e] at h; cases h
    | some w' =>
      rw [e] at h
      cases h
      obtain ⟨v, h1, h2⟩ := Paired.at' r e
      exact ⟨v, by rw [List.getElem?_append_left (by simp; omega), List.getElem?_map, h1]; rfl, h2⟩
  · rw [List.getElem?_append_right (by simp; omega)] at h
    rw [List.getElem?_replicate] at h
    split at h <;> cases h
section
variable {P : Program} {w : World} {K : PySem.W.Frag} {mg : Str → Option Value} {base : Heap}
/-- a def whose body's walk is known; no error leaves it -/
theorem fn_runC {x qual : Str} {st : Stmt} {f : Addr} {fd : FuncData} {N ps : List Str} {j k n : Nat} {b : Env → M Fl} (F : FunA K x qual st f fd) (S : FnScope N ps (defScope st)) (hk : ps.length = k) (hn : N.length = n)
    (hb : ∀ (cdv : Value) (A : Around) (outer : List PySem.Env) (s : Shared) (H : Hp) (E : XK), CodeOf K f cdv → Room j (A.deeper (envOfC qual (defScope st) s.heap.objs.size f cdv)) → A.guards = some [] →
      PSs (cxOf CX0 P w K mg base N qual (defScope st) f cdv A outer s H E).nox (defBody st) (tS K ZF b)) :
    FnG P w K mg base CX0 (j + 1) f fd ps (spF K (fun _ => ZF) (runD k n b)) := by
  have hlen : ∀ vs H Q E, spF K (fun _ => ZF) (runD k n b) vs H Q E → vs.length = ps.length := fun vs H Q E h => by
    obtain ⟨ws, S, ρ, R, rw, g⟩ := h
    unfold runD at g
    split at g
    · rename_i hl
      rw [hk, ← hl]
      exact (Paired.length rw).symm
    · exact g.elim
  refine FnG.ofC F S hlen fun cdv A outer s H vs Q E hco hr hgd h => ⟨_, (hb cdv A outer s H E hco hr hgd).nox, ?_⟩
  have hl := hlen _ _ _ _ h
  obtain ⟨ws, S, ρ, R, rw, g⟩ := h
  unfold runD at g
  split at g
  · rename_i hw
    refine ⟨_, S, ρ, R, ?_, gives_imp (gives_bd g) (fun fl S' q ρ' H' e r => ?_) fun _ _ q => q⟩
    · unfold L2.start
      rw [hl, hn, hk]
      exact start_rep rw
    · cases fl with
      | nx δ => exact fun σ re => q ρ' H' .non e r .non
      | rt w => exact fun v rv => q ρ' H' v e r rv
      | bk δ => exact q.elim
      | ct δ => exact q.elim
  · exact g.elim
theorem fn_run {x qual : Str} {st : Stmt} {f : Addr} {fd : FuncData} {N ps : List Str} {j k n : Nat} {b : Env → M Fl} (F : FunA K x qual st f fd) (S : FnScope N ps (defScope st)) (hk : ps.length = k) (hn : N.length = n)
    (hb : ∀ (cdv : Value) (A : Around) (outer : List PySem.Env) (s : Shared) (H : Hp) (E : XK), Room j (A.deeper (envOfC qual (defScope st) s.heap.objs.size f cdv)) → A.guards = some [] →
      PSs (cxOf CX0 P w K mg base N qual (defScope st) f cdv A outer s H E).nox (defBody st) (tS K ZF b)) :
    FnG P w K mg base CX0 (j + 1) f fd ps (spF K (fun _ => ZF) (runD k n b)) :=
  fn_runC F S hk hn fun cdv A outer s H E _ => hb cdv A outer s H E
end
section
variable {X : Cx} {Z : XZ} {pos : Pos} {a : Expr} {es : List Expr} {fr : Env → M (List W)} {x : Str} {p : Pos} {f : Addr} {fd : FuncData} {ps : List Str} {k : Nat} {F : List W → M W}
/-- f(a, ..) of an own def from which no error comes -/
theorem dcall (FO : FnG X.prog X.w X.K X.mg X.base CX0 k f fd ps (spF X.K (fun _ => ZF) F)) (hr : Room k X.A) (hG : X.A.guards = some []) (hg : Gl X x) (hm : X.mg x = some (.ref f)) (hk : PySem.W.keepIn X.K (.ref f) = true) (hb : Binds X.K fd ps [])
    (ha : PA X (a :: es) (tA X.K Z fr)) (hdb : (x == ("__debug__" : Str)) = false := by decide) (he : starEach (a :: es) X.env = (false, eval a X.env) :: starEach es X.env := by rfl) (hpl : (backTo pos (starEach es X.env)).any (·.1) = false := by rfl) :
    PE X (.Call (.Name x p) (a :: es) [] pos) (tE X.K Z (calM fr fun ws => noEx (F ws))) := by
  refine (peG FO hr hG hg hm hk hb .nil pass0 ha hdb he hpl).imp fun σ H Q h => ?_
  refine (tE.call h).mono fun vs H1 q => ?_
  rw [List.append_nil]
  obtain ⟨ws, S, ρ, R, rw, g⟩ := q
  exact ⟨ws, S, ρ, R, rw, noEx_gives (E' := fun _ _ => ∀ _ _, _ → _ → False) g⟩
theorem dcall0 (FO : FnG X.prog X.w X.K X.mg X.base CX0 k f fd ps (spF X.K (fun _ => ZF) F)) (hr : Room k X.A) (hG : X.A.guards = some []) (hg : Gl X x) (hm : X.mg x = some (.ref f)) (hk : PySem.W.keepIn X.K (.ref f) = true) (hb : Binds X.K fd ps [])
    (hdb : (x == ("__debug__" : Str)) = false := by decide) : PE X (.Call (.Name x p) [] [] pos) (tE X.K Z (calM nilM fun ws => noEx (F ws))) := by
  refine (peG0 FO hr hG hg hm hk hb .nil pass0 hdb).imp fun σ H Q h => ?_
  obtain ⟨δ, S, ρ, R, re, g⟩ := h
  exact ⟨[], S, ρ, R, .nil, noEx_gives (E' := fun _ _ => ∀ _ _, _ → _ → False) g⟩
/-! ### with keywords -/
theorem _root_.L2.PK.imp {e : List Keyword} {t t' : TA} (h : PK X e t) (hi : ∀ σ H Q, t' σ H Q → t σ H Q) : PK X e t' := ⟨fun pos pins s σ H Q I q => h.run pos pins s σ H Q I (hi _ _ _ q)⟩
variable {kws : List Keyword} {nm : Option Str} {kpos : Pos} {fa : Env → M W} {fk : Env → M (List W)}
theorem dk_nil : PK X [] (tA X.K Z nilM) := pk_nil.imp fun σ H Q h => tH.pure h fun _ _ _ _ _ => .nil
theorem tA.cons {σ : L2.St} {H : Hp} {Q : List V → Hp → Prop} (h : tA X.K Z (consM fa fk) σ H Q) : tCons (tE X.K Z fa) (tA X.K Z fk) σ H Q := by
  refine (tH.bind (Rα := RW X.K) (f := fa) (g := fun δ x => bd (fk δ) fun xs => pr (x :: xs)) h Stb.env).mono fun x H1 h1 => ?_
  have h2 := tH.bind (Rα := RWs X.K) (f := fun p : Env × W => fk p.1) (g := fun p xs => pr (p.2 :: xs)) h1 (Stb.env.p Stb.w)
  refine (tH.map (RA' := REnv X.K) (m := fk) (f := Prod.fst) (g := Prod.fst) h2 fun _ _ _ _ _ q => q.1).mono fun xs H2 h3 => ?_
  exact tH.pure h3 fun _ _ _ _ q => .cons q.1.2 q.2
theorem dk_cons (ha : PE X a (tE X.K Z fa)) (hr : PK X kws (tA X.K Z fk)) : PK X (⟨nm, a, kpos⟩ :: kws) (tA X.K Z (consM fa fk)) := (pk_cons ha hr).imp fun _ _ _ h => tA.cons h
/-- how a call with keywords binds, for values of the layer too -/
structure KB (K : PySem.W.Frag) (fd : FuncData) (ps ks : List Str) (g : List Value → List Value → List Value) (gV : List V → List V → List V) (gW : List W → List W → List W) : Prop where
  kb : KBinds K fd ps ks g gV
  w : ∀ (ρ : Pl) (H : Hp) (L : Addr → Prop) (ws zs : List W) (vs us : List V), RWs K ρ H L ws vs → RWs K ρ H L zs us → RWs K ρ H L (gW ws zs) (gV vs us)
abbrev calK (fr fk : Env → M (List W)) (gW : List W → List W → List W) (fo : List W → M W) : Env → M W := fun δ => bd (fr δ) fun xs => bd (fk δ) fun ys => fo (gW xs ys)
variable {ks : List Str} {g : List Value → List Value → List Value} {gV : List V → List V → List V} {gW : List W → List W → List W}
theorem tE.callK {σ : L2.St} {H : Hp} {Q : VK} {E : XK} (hw : ∀ (ρ : Pl) (H : Hp) (L : Addr → Prop) (ws zs : List W) (vs us : List V), RWs X.K ρ H L ws vs → RWs X.K ρ H L zs us → RWs X.K ρ H L (gW ws zs) (gV vs us))
    (h : tE X.K Z (calK fr fk gW fun ws => noEx (F ws)) σ H Q) : tCallK (spF X.K (fun _ => ZF) F) gV E (tA X.K Z fr) (tA X.K Z fk) σ H Q := by
  refine (tH.bind (Rα := RWs X.K) (f := fr) (g := fun δ xs => bd (fk δ) fun ys => noEx (F (gW xs ys))) h Stb.env).mono fun vs H1 h1 => ?_
  have h2 := tH.bind (Rα := RWs X.K) (f := fun p : Env × List W => fk p.1) (g := fun p ys => noEx (F (gW p.2 ys))) h1 (Stb.env.p Stb.ws)
  refine (tH.map (RA' := REnv X.K) (m := fk) (f := Prod.fst) (g := Prod.fst) h2 fun _ _ _ _ _ q => q.1).mono fun us H2 h3 => ?_
  obtain ⟨⟨⟨δ, ws⟩, zs⟩, S, ρ, R, ⟨⟨r0, r1⟩, r2⟩, gv⟩ := h3
  exact ⟨gW ws zs, S, ρ, R, hw _ _ _ _ _ _ _ r1 r2, noEx_gives (E' := fun _ _ => ∀ _ _, _ → _ → False) gv⟩
theorem dcallK (FO : FnG X.prog X.w X.K X.mg X.base CX0 k f fd ps (spF X.K (fun _ => ZF) F)) (hr : Room k X.A) (hG : X.A.guards = some []) (hg : Gl X x) (hm : X.mg x = some (.ref f)) (hk : PySem.W.keepIn X.K (.ref f) = true) (hb : KB X.K fd ps ks g gV gW)
    (ha : PA X (a :: es) (tA X.K Z fr)) (hkw : PK X kws (tA X.K Z fk)) (hall : (backToKw pos (keywordEach kws X.env)).all (·.1.isSome) = true := by rfl) (hks : (backToKw pos (keywordEach kws X.env)).filterMap (·.1) = ks := by rfl)
    (hdb : (x == ("__debug__" : Str)) = false := by decide) (he : starEach (a :: es) X.env = (false, eval a X.env) :: starEach es X.env := by rfl)
    (hpl : ((backTo pos (starEach (a :: es) X.env)).any (·.1) || (backToKw pos (keywordEach kws X.env)).any (·.1.isNone)) = false := by rfl) :
    PE X (.Call (.Name x p) (a :: es) kws pos) (tE X.K Z (calK fr fk gW fun ws => noEx (F ws))) :=
  (peGK FO hr hG hg hm hk hb.kb pass0 ha hkw hall hks hdb he hpl).imp fun _ _ _ h => tE.callK hb.w h
/-- f(k = v, ..) -/
theorem dcallK0 (FO : FnG X.prog X.w X.K X.mg X.base CX0 k f fd ps (spF X.K (fun _ => ZF) F)) (hr : Room k X.A) (hG : X.A.guards = some []) (hg : Gl X x) (hm : X.mg x = some (.ref f)) (hk : PySem.W.keepIn X.K (.ref f) = true) (hb : KB X.K fd ps ks g gV gW)
    (hkw : PK X kws (tA X.K Z fk)) (hall : (backToKw pos (keywordEach kws X.env)).all (·.1.isSome) = true := by rfl) (hks : (backToKw pos (keywordEach kws X.env)).filterMap (·.1) = ks := by rfl)
    (hdb : (x == ("__debug__" : Str)) = false := by decide) (hpl : ((backTo pos (starEach [] X.env)).any (·.1) || (backToKw pos (keywordEach kws X.env)).any (·.1.isNone)) = false := by rfl) :
    PE X (.Call (.Name x p) [] kws pos) (tE X.K Z (calK nilM fk gW fun ws => noEx (F ws))) := by
  refine ⟨fun pins s σ H Q I h => ?_⟩
  have h' := tE.callK (E := E0) hb.w h
  have h2 : tA X.K Z fk σ H (fun zs H2 => spF X.K (fun _ => ZF) F (gV [] zs) H2 Q E0) := by
    have h0 : tCallK (spF X.K (fun _ => ZF) F) gV E0 (tA X.K Z nilM) (tA X.K Z fk) σ H Q := h'
    unfold tCallK at h0
    obtain ⟨δ, S, ρ, R, re, gv⟩ := h0
    exact gv ρ H [] Ext.refl R .nil
  refine wpAny_Call_Name_kw (ld_glob I hg hm ?_ hdb)
  refine PySem.W.callWith_KW0 (h₀ := X.base) I.ok.mod.kin hk hall (thn (hkw.run pos pins s σ H _ I h2) fun ws s2 ⟨zs, H2, I2, rz, q2⟩ => ⟨I2.kIn, ?_⟩) hpl
  rw [hks]
  exact callGK FO hr hG hb.kb pass0 I2 (us := []) .nil rz q2
end
end DL
/-! DL9: chains as tests, ranges, pairs, stars, repr, dicts, stores by place. -/
namespace DL
open PySem PySem.Spec PyProof.Rows L2
section
variable {X : Cx} {Z : XZ} {pos : Pos} {a b c e : Expr} {es : List Expr} {fa fb fc : Env → M W} {fr : Env → M (List W)}
theorem dt_chain {op op' : CmpOp} {fo fo' : W → W → M W} (ho : OpR X (compareOp op) (r2M X.K Z fo)) (ho' : OpR X (compareOp op') (r2M X.K Z fo')) (ha : PE X a (tE X.K Z fa)) (hb : PE X b (tE X.K Z fb)) (hc : PE X c (tE X.K Z fc)) (hm : lastMarks [op, op'] [b, c] = false := by with_unfolding_all rfl) :
    PT X (.Compare a [op, op'] [b, c] pos) (tT X.K Z (valT (chainM fa fb fc fo fo'))) := by
  refine (pt_chain ho ho' ha hb hc hm).imp fun σ H Q h => ?_
  have h1 := tT.val h
  unfold tB at h1
  unfold tTest
  exact tE.chain h1

/-! ### ranges, pairs of two lists -/
def rng1M (ws : List W) : M (List W) := match ws with
  | [.d (.int n)] => if -(2 ^ 62) ≤ n ∧ n < 2 ^ 62 then pr ((List.range n.toNat).map fun i => .d (.int (0 + (i : Nat)))) else no
  | _ => no
def rng2M (ws : List W) : M (List W) := match ws with
  | [.d (.int l), .d (.int n)] => if -(2 ^ 62) ≤ l ∧ l < 2 ^ 62 ∧ -(2 ^ 62) ≤ n ∧ n < 2 ^ 62 then pr ((List.range (n - l).toNat).map fun i => .d (.int (l + (i : Nat)))) else no
  | _ => no
theorem di_rng1 {tg : Expr} {p : Pos} (hg : Gl X "range") (hm : X.mg "range" = none) (ha : PA X [a] (tA X.K Z fr)) (hs : starEach [a] X.env = [(false, eval a X.env)] := by rfl) : PI X tg (.Call (.Name "range" p) [a] [] pos) (tI X.K Z fun δ => bd (fr δ) rng1M) := by
  refine (pi_range1 hg hm ha hs).imp fun σ H R h => ?_
  obtain ⟨δ, S, ρ, r, re, g⟩ := h
  refine ⟨δ, S, ρ, r, re, gives_imp (gives_bd g) (fun ws S1 q ρ1 H1 vs e1 r1 rw => ?_) fun _ _ q => q⟩
  unfold rng1M at q
  split at q
  · split at q
    · rename_i n hb
      cases rw with
      | cons x y =>
        cases y; cases x
        exact ⟨n, rfl, hb.1, hb.2, q ρ1 H1 _ e1 r1 walks_rng⟩
    · exact q.elim
  · exact q.elim
theorem di_rng2 {tg : Expr} {p : Pos} (hg : Gl X "range") (hm : X.mg "range" = none) (ha : PA X [a, b] (tA X.K Z fr)) (hs : starEach [a, b] X.env = [(false, eval a X.env), (false, eval b X.env)] := by rfl) (hs2 : starEach [b] X.env = [(false, eval b X.env)] := by rfl) :
    PI X tg (.Call (.Name "range" p) [a, b] [] pos) (tI X.K Z fun δ => bd (fr δ) rng2M) := by
  refine (pi_range2 hg hm ha hs hs2).imp fun σ H R h => ?_
  obtain ⟨δ, S, ρ, r, re, g⟩ := h
  refine ⟨δ, S, ρ, r, re, gives_imp (gives_bd g) (fun ws S1 q ρ1 H1 vs e1 r1 rw => ?_) fun _ _ q => q⟩
  unfold rng2M at q
  split at q
  · split at q
    · rename_i l n hb
      cases rw with
      | cons x y =>
        cases y with
        | cons x2 y =>
          cases y; cases x; cases x2
          exact ⟨l, n, rfl, hb, q ρ1 H1 _ e1 r1 walks_rng⟩
    · exact q.elim
  · exact q.elim
/-- pairs of two lists -/
def zipD : List D → List D → List W
  | a :: as, b :: bs => .d (.tuple [a, b]) :: zipD as bs
  | _, _ => []
def zipM (ws : List W) : M (List W) := fun S => match ws with
  | [x, y] => match x, y with
    | .d (.list as), .d (.list bs) => .ok (zipD as bs) S
    | _, _ => .no
  | _ => .no
theorem zipD_at : ∀ {as bs : List D} {i : Nat} {w : W}, (zipD as bs)[i]? = some w → ∃ a b, as[i]? = some a ∧ bs[i]? = some b ∧ w = .d (.tuple [a, b])
  | [], _, i, w, h => by simp [zipD] at h
  | _ :: _, [], i, w, h => by simp [zipD] at h
  | a :: as, b :: bs, 0, w, h => by simp [zipD] at h; exact ⟨a, b, rfl, rfl, h.symm⟩
  | a :: as, b :: bs, i + 1, w, h => by
    obtain ⟨c, d, h1, h2, h3⟩ := zipD_at (as := as) (bs := bs) (i := i) (w := w) (by simpa [zipD] using h)
    exact ⟨c, d, by simpa using h1, by simpa using h2, h3⟩
theorem zipD_len : ∀ {as bs : List D}, (zipD as bs).length = min as.length bs.length
  | [], _ => by simp [zipD]
  | _ :: _, [] => by simp [zipD]
  | a :: as, b :: bs => by simp [zipD, zipD_len]
theorem sq_inj {K : PySem.W.Frag} {S : Sto} {ρ : Pl} {H : Hp} {a : Addr} {xs ys : List V} (h : H a = some (.lst xs)) (h' : SqL K H a ys) (hk : K.lookup a = none) : ys = xs := by
  rcases h' with (h' | ⟨o, h'⟩) | ⟨o, _, _, e, _⟩
  · rw [h] at h'; cases h'; rfl
  · rw [h] at h'; cases h'
  · rw [hk] at e; cases e
theorem walks_zip {K : PySem.W.Frag} {S : Sto} {ρ : Pl} {H : Hp} {a b : Addr} {xs ys : List V} {as bs : List D} (qa : QL K H (Live S ρ) a xs) (ra : RpA K H (Live S ρ) xs as) (qb : QL K H (Live S ρ) b ys) (rb : RpA K H (Live S ρ) ys bs) : Walks K (Itz K a b) (zipD as bs) S ρ H := by
  intro i S' ρ' H' ex r
  have qa' : QL K H' (Live S' ρ') a xs := qa.ext ex.stabL ex.newL
  have qb' : QL K H' (Live S' ρ') b ys := qb.ext ex.stabL ex.newL
  have ra' : RpA K H' (Live S' ρ') xs as := RpA.ext ex.stabL ex.newL _ _ ra
  have rb' : RpA K H' (Live S' ρ') ys bs := RpA.ext ex.stabL ex.newL _ _ rb
  refine ⟨fun w hw => ?_, fun hl => ⟨xs, ys, qa'.sq, qb'.sq, by rw [zipD_len] at hl; rw [ra'.length, rb'.length]; omega⟩⟩
  obtain ⟨da, db, ha, hb, rfl⟩ := zipD_at hw
  obtain ⟨x, hx, rx⟩ := Paired.at' (RpA.paired (ρ := ρ') ra') (i := i) (x := .d da) (by rw [List.getElem?_map, ha]; rfl)
  obtain ⟨y, hy, ry⟩ := Paired.at' (RpA.paired (ρ := ρ') rb') (i := i) (x := .d db) (by rw [List.getElem?_map, hb]; rfl)
  refine ⟨⟨xs, ys, x, y, qa'.sq, qb'.sq, hx, hy⟩, ?_⟩
  rintro v H2 ⟨T, x', y', hv, hT, hH, h1, h2⟩
  subst hv
  subst hH
  have e1 := h1 xs qa'.sq
  have e2 := h2 ys qb'.sq
  rw [hx] at e1; cases e1
  rw [hy] at e2; cases e2
  exact ⟨Ext.frz hT, r.frz hT, newT_rep r hT (.cons rx (.cons ry .nil))⟩
theorem di_zip {p tpos : Pos} {elts : List Expr} {kk : Nat} (hg : Gl X "zip") (hm : X.mg "zip" = none) (ha : PA X [a, b] (tA X.K Z fr))
    (hs : starEach [a, b] X.env = (false, eval a X.env) :: starEach [b] X.env := by rfl) (hpl : (backTo pos (starEach [b] X.env)).any (·.1) = false := by rfl) :
    PI X (.Tuple elts kk tpos) (.Call (.Name "zip" p) [a, b] [] pos) (tI X.K Z fun δ => bd (fr δ) zipM) := by
  refine (pi_zip hg hm ha hs hpl).imp fun σ H R h => ?_
  obtain ⟨δ, S, ρ, r, re, g⟩ := h
  refine ⟨δ, S, ρ, r, re, gives_imp (gives_bd g) (fun ws S1 q ρ1 H1 vs e1 r1 rw => ?_) fun _ _ q => q⟩
  unfold zipM at q
  split at q
  · split at q
    · rename_i as bs
      cases rw with
      | cons x y =>
        cases y with
        | cons x2 y =>
          cases y
          cases x with
          | lst qa ra =>
            cases x2 with
            | lst qb rb => exact ⟨_, _, _, _, rfl, qa.sq, qb.sq, q ρ1 H1 _ e1 r1 (walks_zip qa ra qb rb)⟩
    · exact q.elim
  · exact q.elim
/-! ### repr of plain data -/
mutual
theorem noDict_of : ∀ (d : D), nd d = true → d.hasDict = false
  | .none, _ => by simp only [PyData.hasDict]
  | .bool _, _ => by simp only [PyData.hasDict]
  | .int _, _ => by simp only [PyData.hasDict]
  | .str _, _ => by simp only [PyData.hasDict]
  | .list ds, h => by simpa only [PyData.hasDict] using noDict_all ds (by simpa only [nd] using h)
  | .tuple ds, h => by simpa only [PyData.hasDict] using noDict_all ds (by simpa only [nd] using h)
  | .dict _, h => by simp [nd] at h
theorem noDict_all : ∀ (ds : List D), ndA ds = true → PyData.hasDictAll ds = false
  | [], _ => by simp only [PyData.hasDictAll]
  | d :: ds, h => by
    simp only [ndA, Bool.and_eq_true] at h
    simp only [PyData.hasDictAll, Bool.or_eq_false_iff]
    exact ⟨noDict_of d h.1, noDict_all ds h.2⟩
end
def reprM (ws : List W) : M W := match ws with
  | [.d d] => if nd d = true ∧ d.showable = true ∧ d.depth ≤ 60 ∧ d.shown.length ≤ sizeLine ∧ okS d.shown = true then pr (.d (.str d.shown)) else no
  | _ => no
theorem c_repr (hG : X.A.guards = some []) (hu : X.A.units + 66 < cLine) : CallR X (.builtin "repr") (rcM X.K Z reprM) := by
  rintro pins s σ H xs us Q I rv ⟨ws, S, ρ, R, rw, g⟩
  unfold reprM at g
  split at g
  · rename_i d
    split at g
    · rename_i hc
      obtain ⟨c0, c1, c2, c3, c4⟩ := hc
      cases rw with
      | cons x y =>
        cases y
        have hnd := noDict_of _ c0
        obtain ⟨u, rfl, ru⟩ := rv.one
        obtain ⟨as, r1⟩ := Dp.reads I _ _ _ (Rp.dp _ _ c0 x) ru
        have fin : ∀ h' t tk, (∀ b o, s.heap.get? b = some o → h'.get? b = some o) → EP X pins σ Q (.str d.shown t) { s with heap := h', toks := tk } := fun h' t tk hk =>
          ⟨.str d.shown, H, I.kept hk, ⟨t, rfl⟩, g ρ H _ Ext.refl R (.str _ c4)⟩
        cases hd : isDisplay d with
        | true =>
          obtain ⟨p, rfl⟩ := isRef_of_reads r1 hd
          exact repr_of_reads' r1 c1 (PyData.noDict_hsm hnd) hG (by omega) (fun _ _ e => e) fin c3
        | false =>
          cases r1 with
          | none => exact PySem.P.repr_of_none (fin s.heap _ _ fun _ _ e => e)
          | bool b => exact PySem.P.repr_of_bool (fin s.heap _ _ fun _ _ e => e)
          | int i t => exact PySem.P.repr_of_int (by simpa [PyData.showable] using c1) (fin s.heap _ _ fun _ _ e => e)
          | str z t => exact PySem.P.repr_of_str (fin s.heap _ _ fun _ _ e => e) (by simpa only [PyData.shown] using c3)
          | list _ _ _ _ => cases hd
          | tuple _ _ _ _ => cases hd
          | dict _ _ _ _ _ => cases hnd
    · exact g.elim
  · exact g.elim
end
end DL
/-! DL10: stars, two names at once, turned round, stores by place, dicts. -/
namespace DL
open PySem PySem.Spec PyProof.Rows L2

def itemsM (w : W) : M (List W) := fun S => match seqOf w S with
  | some (_, ws) => .ok ws S
  | none => .no
abbrev starM (fa : Env → M W) (fr : Env → M (List W)) : Env → M (List W) := fun δ => bd (fa δ) fun x => bd (itemsM x) fun xs => bd (fr δ) fun ys => pr (xs ++ ys)
section
variable {X : Cx} {Z : XZ} {pos : Pos} {a b c e o : Expr} {es : List Expr} {fa fb fc : Env → M W} {fr : Env → M (List W)}
theorem dastar {p : Pos} (ha : PE X a (tE X.K Z fa)) (hr : PA X es (tA X.K Z fr)) (hs : starEach (.Starred a p :: es) X.env = (true, eval a X.env) :: starEach es X.env := by rfl) : PA X (.Starred a p :: es) (tA X.K Z (starM fa fr)) := by
  refine (StX.pa_star ha hr hs).imp fun σ H Q h => ?_
  refine (tH.bind (Rα := RW X.K) (f := fa) (g := fun δ x => bd (itemsM x) fun xs => bd (fr δ) fun ys => pr (xs ++ ys)) h Stb.env).mono fun x H1 ⟨⟨δ, w⟩, S, ρ, R, ⟨r0, r1⟩, g⟩ => ?_
  have g := gives_bd g
  change Gives (itemsM w S) _ _ at g
  unfold itemsM at g
  split at g
  · rename_i k ws ew
    obtain ⟨p, xs, rfl, rws, hq⟩ := seqOf_rep ew R r1
    refine ⟨p, xs, rfl, ?_, ?_⟩
    · cases k with
      | true => rw [if_pos rfl] at hq; exact .inr (.of hq)
      | false => rw [if_neg Bool.false_ne_true] at hq; exact .inl hq
    · refine ⟨δ, S, ρ, R, r0, gives_imp (gives_bd g) (fun ys S1 q ρ1 H2 us e1 r1 rw => ?_) fun _ _ q => q⟩
      exact q ρ1 H2 _ e1 r1 (RWs.app (rws.ext e1) rw)
  · exact g.elim
/-! ### a, b = x, y -/
def parM (i j : Nat) (fr : Env → M (List W)) : Env → M Fl := fun δ => bd (fr δ) fun ws => match ws with
  | [x, y] => pr (.nx ((δ.set i (some x)).set j (some y)))
  | _ => no
theorem ds_par {i j : Nat} {x y : Str} {px py pt : Pos} {kt k2 pt2} (hc : X.calm = true) (hN : X.N.Nodup) (hi : X.N[i]? = some x) (hj : X.N[j]? = some y) (hij : i ≠ j)
    (hx : X.env.scope.names.lookup x = some .local) (hy : X.env.scope.names.lookup y = some .local) (ha : PA X [a, b] (tA X.K Z fr))
    (hw : swappedStores [.Tuple [.Name x px, .Name y py] kt pt] (.Tuple [a, b] k2 pt2) X.env = pure (some [x, y]) := by rfl)
    (hs : swapsWithSole [.Tuple [.Name x px, .Name y py] kt pt] (.Tuple [a, b] k2 pt2) pos.line X.env = pure false := by rfl) :
    PS X (.Assign [.Tuple [.Name x px, .Name y py] kt pt] (.Tuple [a, b] k2 pt2) pos) (tS X.K Z (parM i j fr)) := by
  refine (ps_par hc hN hi hj hij hx hy ha hw hs).imp fun D σ H h => ?_
  refine (tS.bind (Rα := RWs X.K) (f := fr) h).mono fun vs H1 ⟨δ, ws, S, ρ, R, re, rw, g⟩ => ?_
  split at g
  · cases rw with
    | cons r1 q =>
      cases q with
      | cons r2 q =>
        cases q
        exact ⟨_, _, rfl, g ρ H1 Ext.refl R _ (REnv.set (REnv.set re r1) r2)⟩
  · exact g.elim
/-! ### turned round -/
def revM (w : W) : M W := fun S => match w with
  | .d (.list ds) => .ok (.d (.list ds.reverse)) S
  | .d (.tuple ds) => .ok (.d (.tuple ds.reverse)) S
  | _ => .no
theorem rev_places (n : Nat) : Builtin.Slice.sliceAdjust none none (-1) (n : Int) = ((n : Int) - 1, -1) ∧ Builtin.Slice.slicePlaces ((n : Int) - 1) (-1) (-1) = n := by
  refine ⟨?_, ?_⟩
  · unfold Builtin.Slice.sliceAdjust
    simp
  · unfold Builtin.Slice.slicePlaces
    simp
    try omega
theorem rev_picked (xs : Array Value) : ((List.range xs.size).filterMap fun (m : Nat) => xs[((xs.size : Int) - 1 + (m : Int) * (-1)).toNat]?).toArray = xs.toList.reverse.toArray := by
  congr 1
  have e : (fun (m : Nat) => xs[((xs.size : Int) - 1 + (m : Int) * (-1)).toNat]?) = (fun i => xs[i]?) ∘ fun m => xs.size - 1 - m := by
    funext m
    have : ((xs.size : Int) - 1 + (m : Int) * (-1)).toNat = xs.size - 1 - m := by omega
    show xs[((xs.size : Int) - 1 + (m : Int) * (-1)).toNat]? = xs[xs.size - 1 - m]?
    rw [this]
  rw [e, ← List.filterMap_map, PySem.W.krv_range, List.filterMap_reverse, PySem.W.krv_all]
theorem tup_rev {prog : Program} {w : World} {A : Around} {E : Value → Shared → Prop} {s : Shared} {t sl : Addr} {items : Array Value} {vl vu vs : Value} {Q : Value → Shared → Prop} (ht : IsTup s.heap t items) (hs : s.heap.IsSliceOf sl vl vu vs) (pl : IsPart vl none) (pu : IsPart vu none) (ps : IsPart vs (some (-1)))
    (h : Q (.ref s.heap.objs.size) { s with heap := s.heap.push { cls := .type "tuple", data := .seq items.toList.reverse.toArray } }) (hsz : items.size ≤ sizeLine) : wpAny (model prog w) A (getItem (.ref t) (.ref sl)) Q E s := by
  have hfit : sizeOk (.seq items.toList.reverse.toArray) := by
    show items.toList.reverse.toArray.size ≤ sizeLine
    rw [List.size_toArray, List.length_reverse, Array.length_toList]
    exact hsz
  obtain ⟨os, hos, hcs, hds⟩ := id hs
  have hTs : s.TypeIs (.ref sl) "slice" := ⟨os, hos, hcs⟩
  unfold getItem
  try with_reducible refine wpAny_holding ?_
  first | refine wpAny_bind (wpAny_pure ?_) | skip
  refine wpAny_bind (wpAny_sequenceKey ht.typeIs (by decide) ?_)
  refine wpAny_bind (wpAny_callSpecial?_slot (name := Str.ofString "__getitem__") ht.typeIs PyProof.Rows.slot_tuple_getitem
    (wpAny_call_entry PyProof.Rows.slot_tuple_getitem ht.typeIs entry_tuple_getitem ?_ (args_tuple_getitem _ _)))
  show wpAny _ _ (Builtin.Tuple.tupleItemsOf (.ref t) >>= _) _ _ s
  refine wpAny_bind (tupleItemsOf_ ht ?_)
  refine wpAny_bind (wpAny_typeOf hTs ?_)
  rw [if_pos (by decide)]
  refine wpAny_bind (m := Builtin.Slice.sliceApplied _ _) ?_
  unfold Builtin.Slice.sliceApplied Builtin.Slice.sliceFields
  refine wpAny_bind (wpAny_bind (wpAny_field hos hds (x := vl) rfl (wpAny_bind (wpAny_field hos hds (x := vu) rfl (wpAny_bind (wpAny_field hos hds (x := vs) rfl (wpAny_pure ?_)))))))
  refine wpAny_bind (HT.slicePart_ ps ?_)
  show wpAny _ _ (if ((-1 : Int) == 0) = true then _ else _) _ _ s
  rw [if_neg (by decide)]
  refine wpAny_bind (HT.slicePart_ pl (wpAny_bind (HT.slicePart_ pu (wpAny_bind (wpAny_pure ?_)))))
  show wpAny _ _ (match Builtin.Slice.sliceAdjust none none (-1) (items.size : Int) with | (lo, hi) => pure (lo, (-1 : Int), Builtin.Slice.slicePlaces lo hi (-1))) _ _ s
  rw [(rev_places items.size).1]
  show wpAny _ _ (pure ((items.size : Int) - 1, (-1 : Int), Builtin.Slice.slicePlaces ((items.size : Int) - 1) (-1) (-1))) _ _ s
  rw [(rev_places items.size).2]
  refine wpAny_pure ?_
  show wpAny _ _ (if ((items.size : Int) - 1 == 0 && (-1 : Int) == 1 && items.size == items.size) = true then _ else _) _ _ s
  rw [if_neg (by simp), rev_picked]
  first
    | exact wpAny_bind (m := Builtin.Tuple.tupleExact _) (wpAny_newObj_type (wpAny_pure ⟨_, rfl, wpAny_pure h⟩) hfit)
    | exact wpAny_bind (m := Builtin.Tuple.tupleExact _) (wpAny_newObj_type (wpAny_bind (wpAny_pure (wpAny_pure ⟨_, rfl, wpAny_pure h⟩))) hfit)
    | exact wpAny_bind (wpAny_bind (m := Builtin.Tuple.tupleExact _) (wpAny_newObj_type (wpAny_pure (wpAny_pure ⟨_, rfl, wpAny_pure h⟩)) hfit))
    | exact wpAny_bind (wpAny_bind (m := Builtin.Tuple.tupleExact _) (wpAny_newObj_type (wpAny_pure ⟨_, rfl, wpAny_pure h⟩) hfit))
theorem RpA.rev {K : PySem.W.Frag} {H : Hp} {L : Addr → Prop} {ds : List D} {vs : List V} (h : RpA K H L vs ds) : RpA K H L vs.reverse ds.reverse := by
  have key : ∀ (ds : List D) (vs : List V), RpA K H L vs ds → RpA K H L vs.reverse ds.reverse := fun ds => by
    induction ds with
    | nil => intro vs h; cases h; exact .nil
    | cons d ds ih =>
      intro vs h
      cases h with
      | cons a b =>
        rw [List.reverse_cons, List.reverse_cons]
        exact (ih _ b).app (.cons a .nil)
  exact key _ _ h
theorem drev {k : Nat} {p1 p2 p3 : Pos} (he : PE X a (tE X.K Z fa)) : PE X (.Subscript a (.Slice none none (some (.UnaryOp .USub (.Constant (.int 1) k p1) p2)) p3) pos) (tE X.K Z fun δ => bd (fa δ) revM) := by
  refine ⟨fun pins s σ H Q I h => ?_⟩
  have h' := (tH.bind (Rα := RW X.K) (f := fa) (g := fun _ w => revM w) h Stb.env)
  refine Subscript_ (thn (he.run pins s σ H _ I h') fun v s1 ⟨x, H1, I1, r1, ⟨⟨δ, w⟩, S, ρ, R, ⟨_, rw⟩, g⟩⟩ => ?_)
  change Gives (revM w S) _ _ at g
  have hst : PO X (some (.UnaryOp .USub (.Constant (.int 1) k p1) p2)) (tPart (tUn (rU fun i => .int (-i)) (tC (.int 1)))) := po_some (pe_un un_neg pe_int)
  refine wpAny_Slice (thn (po_none.run pins s1 σ H1 (fun o H2 => o = none ∧ H2 = H1) I1 ⟨rfl, rfl⟩) fun vl s2 ⟨l, H2, I2, pl, el, e2⟩ => ?_)
  subst el e2
  refine thn (po_none.run pins s2 σ H2 (fun o H3 => o = none ∧ H3 = H2) I2 ⟨rfl, rfl⟩) fun vu s3 ⟨u, H3, I3, pu, eu, e3⟩ => ?_
  subst eu e3
  refine thn (hst.run pins s3 σ H3 (fun o H4 => o = some (-1) ∧ H4 = H3) I3 ⟨1, rfl, -1, rfl, rfl, rfl⟩) fun vs s4 ⟨o, H4, I4, ps, eo, e4⟩ => ?_
  subst eo e4
  have I5 : Inv X pins σ H4 { s4 with heap := s4.heap.push { cls := .type "slice", data := .fields #[vl, vu, vs] } } := I4.kept (t' := s4.toks) fun b ob q => Heap.get?_push_of_some _ q
  unfold revM at g
  split at g
  · rename_i ds
    cases rw with
    | lst q ra =>
      rename_i ad xs
      cases r1
      obtain ⟨its, r, ht, hz⟩ := I5.list q.sq
      have hlen := r.length
      show wpAny (model X.prog X.w) X.A (subscriptTail a (.Slice none none (some (.UnaryOp .USub (.Constant (.int 1) k p1) p2)) p3) (.ref ad) (.ref s4.heap.objs.size)) (EP X pins σ Q) X.xe { s4 with heap := s4.heap.push { cls := .type "slice", data := .fields #[vl, vu, vs] } }
      refine tail_any (ops := [.ref ad, .ref s4.heap.objs.size]) ht.isList.typeIs (PySem.slot_list_getitem.lookup) ?_ (by with_unfolding_all rfl)
      refine wpAny_getItem_list_slice ht.isList (Heap.IsSliceOf.new _ vl vu vs) pl pu ps (by decide) ?_ (by rw [List.size_toArray]; omega)
      rw [PySem.W.krv_pick]
      have hp := I5.hok.fresh (Nat.le_refl _)
      refine ⟨.ref _, _, I5.laid (t' := s4.toks) (o := .lst xs.reverse) (fun b ob q => Heap.get?_push_of_some _ q) (Nat.le_refl _) ?_, rfl, g ρ _ _ (Ext.frz hp) (R.frz hp) (newL_rep R hp ra.rev)⟩
      refine ⟨by rw [List.length_reverse]; exact hz, its.reverse, 0, ?_, Heap.get?_push_size _ rfl⟩
      exact r.reverse
  · rename_i ds
    cases rw with
    | tup q ra =>
      rename_i ad xs
      cases r1
      obtain ⟨its, r, ht, hz⟩ := I5.tuple q.sq
      have hlen := r.length
      show wpAny (model X.prog X.w) X.A (subscriptTail a (.Slice none none (some (.UnaryOp .USub (.Constant (.int 1) k p1) p2)) p3) (.ref ad) (.ref s4.heap.objs.size)) (EP X pins σ Q) X.xe { s4 with heap := s4.heap.push { cls := .type "slice", data := .fields #[vl, vu, vs] } }
      refine tail_any (ops := [.ref ad, .ref s4.heap.objs.size]) ht.typeIs PyProof.Rows.slot_tuple_getitem.lookup ?_ (by with_unfolding_all rfl)
      refine tup_rev ht (Heap.IsSliceOf.new _ vl vu vs) pl pu ps ?_ (by rw [List.size_toArray]; omega)
      have hp := I5.hok.fresh (Nat.le_refl _)
      refine ⟨.ref _, _, I5.laid (t' := s4.toks) (o := .tup xs.reverse) (fun b ob q => Heap.get?_push_of_some _ q) (Nat.le_refl _) ?_, rfl, g ρ _ _ (Ext.frz hp) (R.frz hp) (newT_rep R hp ra.rev)⟩
      refine ⟨by rw [List.length_reverse]; exact hz, its.reverse, r.reverse, IsTup.new _ _⟩
  · exact g.elim
end
end DL
/-! DL11: dicts of the store, stores by place. -/
namespace DL
open PySem PySem.Spec PyProof.Rows L2

def keyOf : D → Option Key
  | .int i => some (.inl i)
  | .str x => some (.inr x)
  | _ => none
def kD : Key → D
  | .inl i => .int i
  | .inr x => .str x
def putW (kvs : List (Key × W)) (k : Key) (v : W) : List (Key × W) :=
  if (kvs.any fun kv => decide (kv.1 = k)) = true then kvs.map (fun kv => if kv.1 = k then (kv.1, v) else kv) else kvs ++ [(k, v)]
abbrev RKV (K : PySem.W.Frag) (ρ : Pl) (H : Hp) (L : Addr → Prop) : List (Key × W) → List (Key × V) → Prop := Paired fun p q => p.1 = q.1 ∧ okK p.1 = true ∧ RW K ρ H L p.2 q.2
section
variable {K : PySem.W.Frag} {S : Sto} {ρ : Pl} {H : Hp} {L : Addr → Prop}
theorem keyOf_rep {d : D} {k : Key} {v : V} (h : keyOf d = some k) (r : Rp K H L v d) : v = kV k ∧ okK k = true := by
  cases d with
  | int i => cases h; cases r; exact ⟨rfl, rfl⟩
  | str x => cases h; cases r with | str _ o => exact ⟨rfl, o⟩
  | _ => cases h
theorem RKV.upd {k : Key} {w : W} {v : V} (rw : RW K ρ H L w v) : ∀ {kvs : List (Key × W)} {kus : List (Key × V)}, RKV K ρ H L kvs kus → RKV K ρ H L (kvs.map (fun kv => if kv.1 = k then (kv.1, w) else kv)) (kus.map (fun kv => if kv.1 = k then (kv.1, v) else kv))
  | _, _, .nil => .nil
  | _, _, .cons (a := p) (b := q) a t => by
    refine .cons ?_ (RKV.upd rw t)
    obtain ⟨a1, a2, a3⟩ := a
    dsimp only
    rw [← a1]
    by_cases e : p.1 = k
    · rw [if_pos e, if_pos e]; exact ⟨a1 ▸ rfl, a2, rw⟩
    · rw [if_neg e, if_neg e]; exact ⟨a1, a2, a3⟩
theorem RKV.one {k : Key} {w : W} {v : V} (ho : okK k = true) (rw : RW K ρ H L w v) : ∀ {kvs : List (Key × W)} {kus : List (Key × V)}, RKV K ρ H L kvs kus → RKV K ρ H L (kvs ++ [(k, w)]) (kus ++ [(k, v)])
  | _, _, .nil => .cons ⟨rfl, ho, rw⟩ .nil
  | _, _, .cons a t => .cons a (RKV.one ho rw t)
theorem RKV.any {k : Key} : ∀ {kvs : List (Key × W)} {kus : List (Key × V)}, RKV K ρ H L kvs kus → (kvs.any fun kv => decide (kv.1 = k)) = (kus.any fun kv => decide (kv.1 = k))
  | _, _, .nil => rfl
  | _, _, .cons a t => by rw [List.any_cons, List.any_cons, RKV.any t, a.1]
theorem RKV.put {kvs : List (Key × W)} {kus : List (Key × V)} {k : Key} {w : W} {v : V} (r : RKV K ρ H L kvs kus) (ho : okK k = true) (rw : RW K ρ H L w v) : RKV K ρ H L (putW kvs k w) (putK kus k v) := by
  unfold putW putK
  rw [RKV.any r]
  split
  · exact RKV.upd rw r
  · exact RKV.one ho rw r
theorem dct_at {n : Nat} {kvs : List (Key × W)} {v : V} (e : S[n]? = some (.dct kvs)) (R : Rel K S ρ H) (r : RW K ρ H (Live S ρ) (.r n) v) : ∃ a kus, v = .ref a ∧ ρ.adr[n]? = some a ∧ H a = some (.dK kus) ∧ RKV K ρ H (Live S ρ) kvs kus := by
  obtain ⟨a, h1, h2⟩ := r
  obtain ⟨a', ho, y1, y2, kus, y3, y4⟩ := R.ob n _ e rfl
  rw [h1] at y1; cases y1
  subst y3
  exact ⟨a, kus, h2, h1, y2, y4⟩
end
def newDM (_ : Env) : M W := fun S => .ok (.r S.length) (S ++ [.dct []])
def setItemM (o i y : W) : M Unit := fun S => match o, i with
  | .r n, .d d => match S[n]? with
    | some (.lst xs) => match d with
      | .int k => match ixN xs.length k with
        | some j => .ok () (S.set n (.lst (xs.set j y)))
        | none => .no
      | _ => .no
    | some (.dct kvs) => match keyOf d with
      | some k => if kvs.length < sizeLine then .ok () (S.set n (.dct (putW kvs k y))) else .no
      | none => .no
    | _ => .no
  | _, _ => .no
theorem RWs.set {K : PySem.W.Frag} {ρ : Pl} {H : Hp} {L : Addr → Prop} {w : W} {v : V} (rw : RW K ρ H L w v) : ∀ {ws : List W} {vs : List V} (j : Nat), RWs K ρ H L ws vs → RWs K ρ H L (ws.set j w) (vs.set j v)
  | _, _, _, .nil => .nil
  | _, _, 0, .cons a b => .cons rw b
  | _, _, j + 1, .cons a b => .cons a (RWs.set rw j b)
section
variable {X : Cx} {Z : XZ} {pos : Pos} {a b c o i : Expr} {es : List Expr} {fa fo fi fv : Env → M W} {fr : Env → M (List W)}
theorem dnewd : PE X (.Dict [] [] pos) (tE X.K Z newDM) := pe_dnewK.imp fun σ H Q h p hp => by
  obtain ⟨δ, S, ρ, R, re, g⟩ := h
  refine g (ρ.add p) _ _ (Ext.new R hp) (Rel.new R hp ⟨[], rfl, .nil⟩) ⟨p, ?_, rfl⟩
  show (ρ.adr ++ [p])[S.length]? = some p
  rw [← R.len, List.getElem?_append_right (Nat.le_refl _)]
  simp
def tSet (K : PySem.W.Frag) (Z : XZ) : TSet := fun o i v H Q => tH K Z (rP (RW K) (rP (RW K) (RW K))) (rE (α := Unit)) (fun p => setItemM p.1 p.2.1 p.2.2) (o, (i, v)) H fun _ H' => Q H'
theorem s_set (hu : X.A.units + 1 < cLine) : PSet X (tSet X.K Z) := by
  rintro pins s σ H o i v ov iv u Q I ro ri rv ⟨⟨w1, w2, w3⟩, S, ρ, R, ⟨r1, r2, r3⟩, g⟩
  change Gives (setItemM w1 w2 w3 S) _ _ at g
  unfold setItemM at g
  split at g
  · rename_i n d
    split at g
    · rename_i xs e
      split at g
      · rename_i k
        split at g
        · rename_i j ej
          obtain ⟨p, vs, rfl, h1, h2, h3⟩ := lst_at e R r1
          cases r2
          have hn := Paired.length h3
          refine set_list pins s σ H _ _ v ov iv u Q I ro ri rv ⟨p, vs, k, j, rfl, rfl, h2, by rw [← hn]; exact ej, ?_⟩
          exact g ρ _ () (Ext.put R e rfl h1) (R.put e rfl h1 ⟨_, rfl, RWs.set r3 j h3⟩) rfl
        · exact g.elim
      · exact g.elim
    · rename_i kvs e
      split at g
      · rename_i k ek
        split at g
        · rename_i hl
          obtain ⟨p, kus, rfl, h1, h2, h3⟩ := dct_at e R r1
          obtain ⟨rfl, ho⟩ := keyOf_rep ek r2
          have hn := Paired.length h3
          obtain rfl : ov = Value.ref p := ro
          refine d_setItem hu I (DPut.k h2 (by omega)) ri rv fun s' I' => ⟨_, I', ?_⟩
          exact g ρ _ () (Ext.put R e rfl h1) (R.put e rfl h1 ⟨_, rfl, h3.put ho r3⟩) rfl
        · exact g.elim
      · exact g.elim
    · exact g.elim
  · exact g.elim
/-- o[i] = e -/
def subSM (fv fo fi : Env → M W) : Env → M Fl := fun δ => bd (fv δ) fun v => bd (fo δ) fun o => bd (fi δ) fun i => bd (setItemM o i v) fun _ => pr (.nx δ)
theorem ds_sub {pos' : Pos} (hu : X.A.units + 1 < cLine) (hv : PE X a (tE X.K Z fv)) (ho : PE X o (tE X.K Z fo)) (hi : PE X i (tE X.K Z fi))
    (ha : ∀ v, assign (.Subscript o i pos') X.env v = (do
      let ov ← holding [v] (eval o X.env)
      let iv ← holding [v, ov] (eval i X.env)
      standAt pos'
      holding [v, ov, iv] (setItem ov iv v)
      release [v, ov, iv] []) := by intro _; rfl)
    (hs : swapsWithSole [.Subscript o i pos'] a pos.line X.env = pure false := by rfl) (hw : swappedStores [.Subscript o i pos'] a X.env = pure none := by rfl)
    (h1 : (assignEach [.Subscript o i pos'] X.env).map (·.2) = [assign (.Subscript o i pos') X.env] := by rfl) :
    PS X (.Assign [.Subscript o i pos'] a pos) (tS X.K Z (subSM fv fo fi)) := by
  refine (ps_asg hv (pg_sub ho hi (s_set (Z := Z) hu) ha) hs hw h1).imp fun D σ H h => ?_
  refine (tS.bind (Rα := RW X.K) (f := fv) (g := fun δ v => bd (fo δ) fun o => bd (fi δ) fun i => bd (setItemM o i v) fun _ => pr (.nx δ)) h).mono fun v H1 ⟨δ, wv, S, ρ, R, re, rv, g⟩ => ?_
  refine ⟨δ, S, ρ, R, re, gives_imp (gives_bd g) (fun wo S1 g1 ρ1 H2 ov e1 R1 ro => ?_) fun _ _ q => q⟩
  refine ⟨δ, S1, ρ1, R1, Stb.env _ _ _ _ _ _ _ _ re e1, gives_imp (gives_bd g1) (fun wi S2 g2 ρ2 H3 iv e2 R2 ri => ?_) fun _ _ q ρ2 H3 e2 R2 => q ρ2 H3 (e1.trans e2) R2⟩
  refine ⟨(wo, wi, wv), S2, ρ2, R2, ⟨ro.ext e2, ri, (rv.ext e1).ext e2⟩, gives_imp (gives_bd g2) (fun u S3 g3 ρ3 H4 _ e3 R3 _ => ?_) fun _ _ q ρ3 H4 e3 R3 => q ρ3 H4 ((e1.trans e2).trans e3) R3⟩
  exact g3 ρ3 H4 ((e1.trans e2).trans e3) R3 σ (Stb.env _ _ _ _ _ _ _ _ re ((e1.trans e2).trans e3))
/-- list(d), list(xs) -/
def listDM (ws : List W) : M W := fun S => match ws with
  | [.r n] => match S[n]? with
    | some (.dct kvs) => .ok (.d (.list (kvs.map fun kv => kD kv.1))) S
    | _ => listM ws S
  | _ => listM ws S
theorem keys_rep {K : PySem.W.Frag} {ρ : Pl} {H : Hp} {L : Addr → Prop} {kvs : List (Key × W)} {kus : List (Key × V)} (r : RKV K ρ H L kvs kus) : RpA K H L (kus.map fun kv => kV kv.1) (kvs.map fun kv => kD kv.1) := by
  induction r with
  | nil => exact .nil
  | @cons p q ps qs a _ ih =>
    refine .cons ?_ ih
    obtain ⟨a1, a2, _⟩ := a
    dsimp only
    rw [← a1]
    cases e : p.1 with
    | inl i => exact .int i
    | inr x => rw [e] at a2; exact .str x a2
theorem c_listD (hc : X.calm = true) : CallR X (.type "list") (rcM X.K Z listDM) := by
  rintro pins s σ H xs us Q I rv ⟨ws, S, ρ, R, rw, g⟩
  unfold listDM at g
  split at g
  · rename_i n
    split at g
    · rename_i kvs e
      cases rw with
      | cons x y =>
        cases y
        obtain ⟨p, kus, rfl, h1, h2, h3⟩ := dct_at e R x
        exact call_list_dK hc pins s σ H _ us Q I rv ⟨p, kus, rfl, h2, fun q hq => g ρ _ _ (Ext.frz hq) (R.frz hq) (newL_rep R hq (keys_rep h3))⟩
    · exact c_list pins s σ H xs us Q I rv ⟨_, S, ρ, R, rw, g⟩
  · exact c_list pins s σ H xs us Q I rv ⟨_, S, ρ, R, rw, g⟩
def lenDM (ws : List W) : M W := fun S => match ws with
  | [.r n] => match S[n]? with
    | some (.dct kvs) => .ok (.d (.int kvs.length)) S
    | _ => lenM ws S
  | _ => lenM ws S
theorem c_lenD : CallR X (.builtin "len") (rcM X.K Z lenDM) := by
  rintro pins s σ H xs us Q I rv ⟨ws, S, ρ, R, rw, g⟩
  unfold lenDM at g
  split at g
  · rename_i n
    split at g
    · rename_i kvs e
      cases rw with
      | cons x y =>
        cases y
        obtain ⟨p, kus, rfl, h1, h2, h3⟩ := dct_at e R x
        have hn := Paired.length h3
        exact call_lenD pins s σ H _ us Q I rv ⟨p, kus, rfl, h2, by rw [← hn]; exact g ρ H (.int _) Ext.refl R (.int _)⟩
    · exact c_len pins s σ H xs us Q I rv ⟨_, S, ρ, R, rw, g⟩
  · exact c_len pins s σ H xs us Q I rv ⟨_, S, ρ, R, rw, g⟩
/-- dict(pairs): keys ints or texts -/
def pairsD : List D → Option (List (Key × D))
  | [] => some []
  | .tuple [k, v] :: r => match keyOf k, pairsD r with
    | some k, some r => some ((k, v) :: r)
    | _, _ => none
  | _ => none
def mergeW (kvs more : List (Key × W)) : List (Key × W) := more.foldl (fun acc kv => putW acc kv.1 kv.2) kvs
def dictM (ws : List W) : M W := fun S => match ws with
  | [.d (.list ds)] => match pairsD ds with
    | some kvs => .ok (.r S.length) (S ++ [.dct (mergeW [] (kvs.map fun kv => (kv.1, .d kv.2)))])
    | none => .no
  | _ => .no
theorem pairs_rep {K : PySem.W.Frag} {ρ : Pl} {H : Hp} {L : Addr → Prop} : ∀ {ds : List D} {kvs : List (Key × D)} {vs : List V}, pairsD ds = some kvs → RpA K H L vs ds →
    ∃ (ps : List Addr) (kus : List (Key × V)), vs = ps.map V.ref ∧ Paired (fun p kv => SqT K H p [kV kv.1, kv.2]) ps kus ∧ RKV K ρ H L (kvs.map fun kv => (kv.1, .d kv.2)) kus
  | [], _, _, h, r => by cases h; cases r; exact ⟨[], [], rfl, .nil, .nil⟩
  | d :: ds, kvs, _, h, r => by
    cases r with
    | @cons v vs _ _ r1 r2 =>
      unfold pairsD at h
      split at h
      · rename_i e; cases e
      · rename_i k w rs e
        cases e
        split at h
        · rename_i kk kr ek er
          cases h
          obtain ⟨ps, kus, rfl, h1, h2⟩ := pairs_rep (ρ := ρ) er r2
          cases r1 with
          | tup q ra =>
            cases ra with
            | cons x1 y1 =>
              cases y1 with
              | cons x2 y2 =>
                cases y2
                obtain ⟨rfl, ho⟩ := keyOf_rep ek x1
                exact ⟨_ :: ps, (kk, _) :: kus, rfl, .cons q.sq h1, .cons ⟨rfl, ho, x2⟩ h2⟩
        · cases h
      · cases h
theorem RKV.merge {K : PySem.W.Frag} {ρ : Pl} {H : Hp} {L : Addr → Prop} : ∀ {more : List (Key × W)} {mu : List (Key × V)} {kvs : List (Key × W)} {kus : List (Key × V)}, RKV K ρ H L more mu → RKV K ρ H L kvs kus → RKV K ρ H L (mergeW kvs more) (mergeK kus mu)
  | _, _, _, _, .nil, q => q
  | _, _, _, _, .cons (a := p) (b := r) a t, q => by
    obtain ⟨a1, a2, a3⟩ := a
    have h := RKV.put q a2 a3
    show RKV K ρ H L (mergeW (putW _ p.1 p.2) _) (mergeK (putK _ r.1 r.2) _)
    rw [← a1]
    exact RKV.merge t h
theorem c_dict (hc : X.calm = true) : CallR X (.type "dict") (rcM X.K Z dictM) := by
  rintro pins s σ H xs us Q I rv ⟨ws, S, ρ, R, rw, g⟩
  unfold dictM at g
  split at g
  · rename_i ds
    split at g
    · rename_i kvs e
      cases rw with
      | cons x y =>
        cases y
        cases x with
        | lst q ra =>
          obtain ⟨ps, kus, rfl, h1, h2⟩ := pairs_rep (ρ := ρ) e ra
          refine call_dictP hc pins s σ H _ us Q I rv ⟨_, ps, kus, rfl, q.sq, h1, fun p hp => ?_⟩
          refine g (ρ.add p) _ _ (Ext.new R hp) (Rel.new R hp ⟨_, rfl, RKV.merge h2 .nil⟩) ⟨p, ?_, rfl⟩
          show (ρ.adr ++ [p])[S.length]? = some p
          rw [← R.len, List.getElem?_append_right (Nat.le_refl _)]
          simp
    · exact g.elim
  · exact g.elim
end
end DL
/-! DL12: sorted texts; dicts by comprehension. -/
namespace DL
open PySem PySem.Spec PyProof.Rows L2

/-! ### sorted texts -/
abbrev leS (a b : Str) : Prop := a.cps.toList ≤ b.cps.toList
def insS (x : Str) : List Str → List Str
  | [] => [x]
  | y :: r => if y.cps.toList < x.cps.toList then y :: insS x r else x :: y :: r
def sortS : List Str → List Str
  | [] => []
  | x :: r => insS x (sortS r)
theorem insS_perm (x : Str) : ∀ l : List Str, (insS x l).Perm (x :: l)
  | [] => List.Perm.refl _
  | y :: r => by
    unfold insS
    split
    · exact ((insS_perm x r).cons y).trans (List.Perm.swap x y r)
    · exact List.Perm.refl _
theorem sortS_perm : ∀ l : List Str, (sortS l).Perm l
  | [] => List.Perm.refl _
  | x :: r => (insS_perm x _).trans ((sortS_perm r).cons x)
theorem insS_sorted (x : Str) : ∀ l : List Str, l.Pairwise leS → (insS x l).Pairwise leS
  | [], _ => List.pairwise_singleton _ _
  | y :: r, h => by
    unfold insS
    rw [List.pairwise_cons] at h
    split
    · rename_i hlt
      refine List.pairwise_cons.mpr ⟨fun z hz => ?_, insS_sorted x r h.2⟩
      rcases List.mem_cons.mp ((insS_perm x r).mem_iff.mp hz) with e | e
      · subst e
        exact List.le_of_lt hlt
      · exact h.1 z e
    · rename_i hlt
      have hxy : leS x y := List.not_lt.mp hlt
      refine List.pairwise_cons.mpr ⟨fun z hz => ?_, List.pairwise_cons.mpr h⟩
      rcases List.mem_cons.mp hz with e | e
      · subst e; exact hxy
      · exact List.le_trans hxy (h.1 z e)
theorem sortS_sorted : ∀ l : List Str, (sortS l).Pairwise leS
  | [] => List.Pairwise.nil
  | x :: r => insS_sorted x _ (sortS_sorted r)
theorem rising_pairwise : ∀ (r : List Str) (p : Str), risingS p r = true → (p :: r).Pairwise leS
  | [], p, _ => List.pairwise_singleton _ _
  | x :: r, p, h => by
    simp only [risingS, Bool.and_eq_true, Bool.not_eq_true', ltCps_eq, decide_eq_false_iff_not] at h
    have hpx : leS p x := List.not_lt.mp h.1
    have ih := rising_pairwise r x h.2
    refine List.pairwise_cons.mpr ⟨fun z hz => ?_, ih⟩
    rcases List.mem_cons.mp hz with e | e
    · subst e; exact hpx
    · exact List.le_trans hpx ((List.pairwise_cons.mp ih).1 z e)
theorem sorted_is {ys xs : List Str} (p : ys.Perm xs) (h : sortedS ys = true) : ys = sortS xs := by
  have hp : ys.Pairwise leS := by
    cases ys with
    | nil => exact List.Pairwise.nil
    | cons y r => exact rising_pairwise r y h
  refine List.Perm.eq_of_pairwise (le := leS) (fun a b _ _ h1 h2 => ?_) hp (sortS_sorted xs) (p.trans (sortS_perm xs).symm)
  have e : a.cps.toList = b.cps.toList := List.le_antisymm h1 h2
  have e2 : a.cps = b.cps := Array.toList_inj.mp e
  cases a; cases b; cases e2; rfl
def strsD : List D → Option (List Str)
  | [] => some []
  | .str x :: r => (strsD r).map (x :: ·)
  | _ => none
theorem strsD_rep {K : PySem.W.Frag} {H : Hp} {L : Addr → Prop} : ∀ {ds : List D} {ss : List Str} {vs : List V}, strsD ds = some ss → RpA K H L vs ds → vs = ss.map V.str ∧ ∀ s ∈ ss, okS s = true
  | [], _, _, h, r => by cases r; cases h; exact ⟨rfl, fun _ z => nomatch z⟩
  | d :: ds, ss, _, h, r => by
    cases d with
    | str x =>
      simp only [strsD, Option.map_eq_some_iff] at h
      obtain ⟨cs, h1, h2⟩ := h
      subst h2
      cases r with
      | cons a b =>
        obtain ⟨e, f⟩ := strsD_rep h1 b
        subst e
        cases a with
        | str _ o =>
          refine ⟨rfl, fun s hs => ?_⟩
          rcases List.mem_cons.mp hs with e | e
          · subst e; exact o
          · exact f s e
    | _ => cases h
theorem RpA.strs {K : PySem.W.Frag} {H : Hp} {L : Addr → Prop} : ∀ {ss : List Str}, (∀ s ∈ ss, okS s = true) → RpA K H L (ss.map V.str) (ss.map .str)
  | [], _ => .nil
  | s :: ss, h => .cons (.str s (h s List.mem_cons_self)) (RpA.strs fun t ht => h t (List.mem_cons_of_mem _ ht))
def sortM (ws : List W) : M W := fun S => match ws with
  | [w] => match toD w S with
    | some (.list ds) => match strsD ds with
      | some ss => if ss.length < 64 then .ok (.d (.list ((sortS ss).map .str))) S else .no
      | none => .no
    | _ => .no
  | _ => .no
section
variable {X : Cx} {Z : XZ} {pos : Pos}
theorem c_sort : CallR X (.builtin "sorted") (rcM X.K Z sortM) := by
  rintro pins s σ H xs us Q I rv ⟨ws, S, ρ, R, rw, g⟩
  unfold sortM at g
  split at g
  · rename_i w
    cases rw with
    | cons a b =>
      cases b
      obtain ⟨t1, _⟩ := toD_items R a
      split at g
      · rename_i ds e
        split at g
        · rename_i ss es
          split at g
          · rename_i hl
            obtain ⟨p, vs, rfl, h1, h2⟩ := t1 _ e
            obtain ⟨rfl, ho⟩ := strsD_rep es h2
            refine cr_sortedS pins s σ H _ us Q I rv ⟨p, ss, rfl, .of h1, hl, fun ys q hp hs hq => ?_⟩
            have := sorted_is hp hs
            subst this
            exact g ρ _ _ (Ext.frz hq) (R.frz hq) (newL_rep R hq (RpA.strs fun t ht => ho t ((sortS_perm ss).mem_iff.mp ht)))
          · exact g.elim
        · exact g.elim
      · exact g.elim
  · exact g.elim

/-! ### {k: v for target in iter if ..} -/
def dcL (own : List Nat) (g : W → Env → M Env) (t : Env → M Bool) (ek ev : Env → M W) : List W → List (Key × W) → Env → M (List (Key × W))
  | [], acc, _ => pr acc
  | w :: ws, acc, δ => bd (noEx (g w (wipeE δ own))) fun δ1 => bd (noEx (t δ1)) fun k => if k = true then bd (noEx (ek δ1)) fun y => bd (noEx (ev δ1)) fun z => match y with
      | .d d => match keyOf d with
        | some k => if acc.length < sizeLine then dcL own g t ek ev ws (putW acc k z) δ else no
        | none => no
      | _ => no
    else dcL own g t ek ev ws acc δ
def newDct (kvs : List (Key × W)) : M W := fun S => .ok (.r S.length) (S ++ [.dct kvs])
abbrev dcM (own : List Nat) (fi : Env → M (List W)) (g : W → Env → M Env) (t : Env → M Bool) (ek ev : Env → M W) : Env → M W := fun δ => bd (fi δ) fun ws => bd (dcL own g t ek ev ws [] δ) newDct
theorem tDc_of {own : List (Str × Nat)} {fi : Env → M (List W)} {g : W → Env → M Env} {t : Env → M Bool} {ek ev : Env → M W} {gc : TG} {σ : L2.St} {H : Hp} {Q : VK}
    (hgc : ∀ (v : V) (σ : L2.St) (H : Hp) (Q : L2.St → Hp → Prop), tG X.K ZF g v (wipe σ (own.map (·.2))) H Q → gc v (wipe σ (own.map (·.2))) H (fun σ2 H2 => wipe σ2 (own.map (·.2)) = wipe σ (own.map (·.2)) ∧ Q σ2 H2))
    (h : tE X.K Z (dcM (own.map (·.2)) fi g t ek ev) σ H Q) : tDc (tI X.K Z fi) gc (tT X.K ZF t) (tE X.K ZF ek) (tE X.K ZF ev) (own.map (·.2)) σ H Q := by
  obtain ⟨δ, S, ρ, r, re, gv⟩ := h
  refine ⟨δ, S, ρ, r, re, gives_imp (gives_bd gv) (fun ws S1 q ρ1 H1 J e1 r1 wk => ?_) fun _ _ q => q⟩
  intro D hD
  have re1 := Stb.env _ _ _ _ _ _ _ _ re e1
  refine ⟨fun i m H' => ∃ (S' : Sto) (ρ' : Pl) (acc : List (Key × W)) (vs : List (Key × V)), Ext0 S1 ρ1 H1 S' ρ' H' ∧ ρ'.grd = (ρ1.guard D).grd ∧ Rel X.K S' ρ' H' ∧ H' D = some (.dK vs) ∧ RKV X.K ρ' H' (Live S' ρ') acc vs ∧
    Gives (bd (dcL (own.map (·.2)) g t ek ev (ws.drop i) acc δ) newDct S') (fun w S2 => ∀ (ρ2 : Pl) (H2 : Hp) (v : V), Ext S1 ρ1 H1 S2 ρ2 H2 → Rel X.K S2 ρ2 H2 → RW X.K ρ2 H2 (Live S2 ρ2) w v → Q v H2) (fun _ _ => True) ∧ m = ws.length - i,
    ⟨_, S1, ρ1.guard D, [], [], Ext0.guard hD, rfl, r1.guard hD, upd_same, .nil, ?_, rfl⟩, ?_⟩
  · exact gives_imp q (fun w S2 q2 ρ2 H2 v e2 r2 rw2 => q2 ρ2 H2 v (e1.trans e2) r2 rw2) fun _ _ _ => trivial
  rintro i m H' ⟨S', ρ', acc, vs, e', hg', r', hv', rv', q', rfl⟩
  have hgD : ρ'.grd D := by rw [hg']; exact .inr rfl
  by_cases hl : i < ws.length
  · right
    have hw : ws[i]? = some ws[i] := List.getElem?_eq_getElem hl
    obtain ⟨hgo, hy⟩ := (wk i S' ρ' H' e' r').1 _ hw
    refine ⟨hgo, fun H2 => ∃ m', m' < ws.length - i ∧ ∃ (S2 : Sto) (ρ2 : Pl) (acc : List (Key × W)) (vs : List (Key × V)), Ext0 S1 ρ1 H1 S2 ρ2 H2 ∧ ρ2.grd = (ρ1.guard D).grd ∧ Rel X.K S2 ρ2 H2 ∧ H2 D = some (.dK vs) ∧ RKV X.K ρ2 H2 (Live S2 ρ2) acc vs ∧
      Gives (bd (dcL (own.map (·.2)) g t ek ev (ws.drop (i + 1)) acc δ) newDct S2) (fun w S2 => ∀ (ρ2 : Pl) (H2 : Hp) (v : V), Ext S1 ρ1 H1 S2 ρ2 H2 → Rel X.K S2 ρ2 H2 → RW X.K ρ2 H2 (Live S2 ρ2) w v → Q v H2) (fun _ _ => True) ∧ m' = ws.length - (i + 1), fun _ z => z, fun x H2 hx => ?_⟩
    obtain ⟨e2, r2, rw2⟩ := hy x H2 hx
    have E2 := e'.trans e2
    rw [List.drop_eq_getElem_cons hl] at q'
    unfold dcL at q'
    rw [bd_assoc] at q'
    have re2 : REnv X.K ρ' H2 (Live S' ρ') (wipeE δ (own.map (·.2))) (wipe σ (own.map (·.2))) := REnv.wipe ⟨re1.1, fun i w h => let ⟨v, h1, h2⟩ := re1.2 i w h; ⟨v, h1, h2.ext0 E2⟩⟩ _
    refine hgc x σ H2 _ ⟨(ws[i], wipeE δ (own.map (·.2))), S', ρ', r2, ⟨rw2, re2⟩, gives_imp (noEx_gives (E' := fun _ _ => False) (gives_bd q')) (fun δ1 S3 q3 ρ3 H3 σ3 e3 r3 re3 => ?_) fun _ _ q => q.elim⟩
    rw [bd_assoc] at q3
    refine ⟨δ1, S3, ρ3, r3, re3, gives_imp (noEx_gives (E' := fun _ _ => False) (gives_bd q3)) (fun k S4 q4 ρ4 H4 v4 e4 r4 ekk => ?_) fun _ _ q => q.elim⟩
    cases ekk
    have E4 := E2.trans (e3.trans e4)
    have g4 : ρ4.grd = (ρ1.guard D).grd := ((e3.trans e4).grd).trans hg'
    have nD : ∀ {S ρ H}, Rel X.K S ρ H → ρ.grd D → ¬ Liv S ρ D := fun r g => r.dj D g
    have hv2 : H2 D = some (.dK vs) := e2.stab D _ hv' (nD r' hgD)
    have hv4 : H4 D = some (.dK vs) := (e3.trans e4).stab D _ hv2 (nD r2 hgD)
    have xt : ∀ {S ρ H S' ρ' H'}, RKV X.K ρ H (Live S ρ) acc vs → Ext S ρ H S' ρ' H' → RKV X.K ρ' H' (Live S' ρ') acc vs := fun a b => Paired.mapP a fun _ _ z => ⟨z.1, z.2.1, z.2.2.ext b⟩
    have rv4 : RKV X.K ρ4 H4 (Live S4 ρ4) acc vs := xt (xt rv' e2) (e3.trans e4)
    cases k with
    | true =>
      rw [if_pos rfl] at q4 ⊢
      rw [bd_assoc] at q4
      have re4 := Stb.env _ _ _ _ _ _ _ _ re3 e4
      refine ⟨δ1, S4, ρ4, r4, re4, gives_imp (noEx_gives (E' := fun _ _ => False) (gives_bd q4)) (fun y S5 q5 ρ5 H5 v5 e5 r5 rw5 => ?_) fun _ _ q => q.elim⟩
      rw [bd_assoc] at q5
      refine ⟨δ1, S5, ρ5, r5, Stb.env _ _ _ _ _ _ _ _ re4 e5, gives_imp (noEx_gives (E' := fun _ _ => False) (gives_bd q5)) (fun z S6 q6 ρ6 H6 v6 e6 r6 rw6 => ?_) fun _ _ q => q.elim⟩
      have e56 := e5.trans e6
      have g6 : ρ6.grd = (ρ1.guard D).grd := e56.grd.trans g4
      have hgD6 : ρ6.grd D := by rw [g6]; exact .inr rfl
      have hgD4 : ρ4.grd D := by rw [g4]; exact .inr rfl
      have hv6 : H6 D = some (.dK vs) := e56.stab D _ hv4 (nD r4 hgD4)
      have rv6 := xt rv4 e56
      cases y with
      | d d =>
        cases eky : keyOf d with
        | none => simp only [eky] at q6; exact q6.elim
        | some kk =>
          simp only [eky] at q6
          by_cases hsz : acc.length < sizeLine
          · rw [if_pos hsz] at q6
            obtain ⟨rfl, ho⟩ := keyOf_rep eky rw5
            have hlen := Paired.length rv6
            refine ⟨vs, kk, rfl, hv6, by omega, _, by omega, S6, ρ6, putW acc kk z, putK vs kk v6, ?_, g6, r6.gput hgD6, upd_same, ?_, ?_, rfl⟩
            · have E6 := E4.trans e56
              exact ⟨E6.pre, fun a o h l => by rw [upd_ne (ne_of_none h hD)]; exact E6.stab a o h l, E6.newl, E6.newg, fun a o u h => by rw [upd_ne (ne_of_none h hD)]; exact E6.fz a o u h⟩
            · exact RKV.put (Paired.mapP rv6 fun _ _ z => ⟨z.1, z.2.1, RW.gput r6 hgD6 z.2.2⟩) ho (RW.gput r6 hgD6 rw6)
            · exact q6
          · rw [if_neg hsz] at q6; exact q6.elim
      | r n => exact q6.elim
      | s n => exact q6.elim
      | e x => exact q6.elim
    | false =>
      rw [if_neg Bool.false_ne_true] at q4 ⊢
      exact ⟨_, by omega, S4, ρ4, acc, vs, E4, g4, r4, hv4, rv4, q4, rfl⟩
  · left
    refine ⟨(wk i S' ρ' H' e' r').2 (by omega), ?_⟩
    rw [List.drop_eq_nil_of_le (by omega)] at q'
    have q' : Gives (newDct acc S') _ _ := q'
    unfold newDct at q'
    have hsub : ∀ a, ρ1.grd a → ρ'.grd a := fun a h => by rw [hg']; exact .inl h
    -- the dict that was made is a place of the store now
    have nl : ¬ Liv S' ρ' D := r'.dj D hgD
    have hL : ∀ b, Live (S' ++ [.dct acc]) (Pl.add ⟨ρ'.adr, ρ1.grd⟩ D) b → Live S' ρ' b := fun b z => by
      rcases z with ⟨n, o, h1, h2, h3⟩ | z
      · by_cases hn : n < S'.length
        · rw [List.getElem?_append_left hn] at h1
          have h3 : (ρ'.adr ++ [D])[n]? = some b := h3
          rw [List.getElem?_append_left (by rw [r'.len]; exact hn)] at h3
          exact .inl ⟨n, o, h1, h2, h3⟩
        · have h3 : (ρ'.adr ++ [D])[n]? = some b := h3
          rw [List.getElem?_append_right (by rw [r'.len]; omega)] at h3
          have hz : n - ρ'.adr.length = 0 := by
            cases e : n - ρ'.adr.length with
            | zero => rfl
            | succ k => rw [e] at h3; simp at h3
          rw [hz] at h3
          simp at h3
          exact .inr (h3 ▸ hgD)
      · exact .inr (hsub b z)
    have tr : ∀ w v, RW X.K ρ' H' (Live S' ρ') w v → RW X.K (Pl.add ⟨ρ'.adr, ρ1.grd⟩ D) H' (Live (S' ++ [.dct acc]) (Pl.add ⟨ρ'.adr, ρ1.grd⟩ D)) w v := fun w v z => by
      have pre : ∀ (n : Nat) (a : Addr), ρ'.adr[n]? = some a → (ρ'.adr ++ [D])[n]? = some a := fun n a h => by
        rw [List.getElem?_append_left (List.getElem?_eq_some_iff.mp h).1]; exact h
      cases w with
      | d x => exact Rp.ext (fun _ _ q _ => q) (fun a q => .inl (hL a q)) x v z
      | r n => obtain ⟨a, h1, h2⟩ := z; exact ⟨a, pre _ _ h1, h2⟩
      | s ns => obtain ⟨a, h1, h2⟩ := z; exact ⟨a, h1, h2.ext (fun _ _ q _ => q) (fun a q => .inl (hL a q))⟩
      | e x => obtain ⟨a, h1, h2⟩ := z; exact ⟨a, h1, h2.ext (fun _ _ q _ => q) (fun a q => .inl (hL a q))⟩
    have last : (ρ'.adr ++ [D])[S'.length]? = some D := by
      rw [← r'.len, List.getElem?_append_right (Nat.le_refl _)]; simp
    have rl : Rel X.K (S' ++ [.dct acc]) (Pl.add ⟨ρ'.adr, ρ1.grd⟩ D) H' := by
      have key : ∀ (n : Nat) (a : Addr) (u : Ob), (S' ++ [.dct acc])[n]? = some u → (ρ'.adr ++ [D])[n]? = some a → (n < S'.length ∧ S'[n]? = some u ∧ ρ'.adr[n]? = some a) ∨ (n = S'.length ∧ a = D ∧ u = .dct acc) := fun n a u h1 h3 => by
        by_cases hn : n < S'.length
        · rw [List.getElem?_append_left hn] at h1
          rw [List.getElem?_append_left (by rw [r'.len]; exact hn)] at h3
          exact .inl ⟨hn, h1, h3⟩
        · have hlt := (List.getElem?_eq_some_iff.mp h1).1
          simp at hlt
          have hz : n = S'.length := by omega
          subst hz
          rw [last] at h3
          cases h3
          simp at h1
          exact .inr ⟨rfl, rfl, h1.symm⟩
      refine ⟨by simp [Pl.add, r'.len], fun a q => r'.gt a (hsub a q), fun a q z => ?_, fun n o h1 h2 => ?_, fun n m a o u h1 h2 h3 h4 h5 h6 => ?_⟩
      · rcases z with ⟨n, o, h1, h2, h3⟩
        rcases key n a o h1 h3 with ⟨k1, k2, k3⟩ | ⟨k1, k2, k3⟩
        · exact r'.dj a (hsub a q) ⟨n, o, k2, h2, k3⟩
        · subst k2
          obtain ⟨o', ho⟩ := r1.gt _ q
          rw [hD] at ho; cases ho
      · by_cases hn : n < S'.length
        · rw [List.getElem?_append_left hn] at h1
          obtain ⟨a, ho, k1, k2, k3⟩ := r'.ob n o h1 h2
          refine ⟨a, ho, ?_, k2, ?_⟩
          · show (ρ'.adr ++ [D])[n]? = some a
            rw [List.getElem?_append_left (by rw [r'.len]; exact hn)]; exact k1
          · exact k3.tr tr fun _ q => RT.ext q (fun _ _ q _ => q) (fun a q => .inl (hL a q))
        · have hlt := (List.getElem?_eq_some_iff.mp h1).1
          simp at hlt
          have hz : n = S'.length := by omega
          subst hz
          simp at h1
          subst h1
          exact ⟨D, _, last, hv', vs, rfl, Paired.mapP rv' fun _ _ z => ⟨z.1, z.2.1, tr _ _ z.2.2⟩⟩
      · rcases key n a o h1 h5 with ⟨k1, k2, k3⟩ | ⟨k1, k2, k3⟩
        · rcases key m a u h3 h6 with ⟨l1, l2, l3⟩ | ⟨l1, l2, l3⟩
          · exact r'.inj n m a o u k2 h2 l2 h4 k3 l3
          · subst l2; exact absurd ⟨n, o, k2, h2, k3⟩ nl
        · rcases key m a u h3 h6 with ⟨l1, l2, l3⟩ | ⟨l1, l2, l3⟩
          · subst k2; exact absurd ⟨m, u, l2, h4, l3⟩ nl
          · rw [k1, l1]
    refine q' (Pl.add ⟨ρ'.adr, ρ1.grd⟩ D) H' (.ref D) ⟨fun n a h => ?_, e'.stab, fun a z => ?_, rfl, e'.fz⟩ rl ⟨D, last, rfl⟩
    · show (ρ'.adr ++ [D])[n]? = some a
      have := e'.pre n a h
      rw [List.getElem?_append_left (List.getElem?_eq_some_iff.mp this).1]; exact this
    · rcases z with ⟨n, o, h1, h2, h3⟩
      by_cases hn : n < S'.length
      · rw [List.getElem?_append_left hn] at h1
        have h3 : (ρ'.adr ++ [D])[n]? = some a := h3
        rw [List.getElem?_append_left (by rw [r'.len]; exact hn)] at h3
        exact e'.newl a ⟨n, o, h1, h2, h3⟩
      · have hlt := (List.getElem?_eq_some_iff.mp h1).1
        simp at hlt
        have hz : n = S'.length := by omega
        subst hz
        have h3 : (ρ'.adr ++ [D])[S'.length]? = some a := h3
        rw [last] at h3
        cases h3
        exact .inr hD
theorem ddc {kx vx tg iter : Expr} {ifs : List Expr} {scope : Scope} {own : List (Str × Nat)} {fi : Env → M (List W)} {g : W → Env → M Env} {t : Env → M Bool} {ek ev : Env → M W} (hc : X.calm = true) (hN : X.N.Nodup) (hi : PI X tg iter (tI X.K Z fi)) (ok : BlkOk X.N X.env.scope scope own)
    (hg : ∀ (s : Shared) (H : Hp) (C : Addr) (cl : List (Str × Addr)) (fp : List Addr), PG (X.blk s H scope (compEnvC scope cl C X.env) fp) tg (tR (wipR (own.map (·.2))) X.K ZF g))
    (ht : ∀ (s : Shared) (H : Hp) (C : Addr) (cl : List (Str × Addr)) (fp : List Addr), PTs (X.blk s H scope (compEnvC scope cl C X.env) fp) ifs (tT X.K ZF t))
    (hk : ∀ (s : Shared) (H : Hp) (C : Addr) (cl : List (Str × Addr)) (fp : List Addr), PE (X.blk s H scope (compEnvC scope cl C X.env) fp) kx (tE X.K ZF ek))
    (he : ∀ (s : Shared) (H : Hp) (C : Addr) (cl : List (Str × Addr)) (fp : List Addr), PE (X.blk s H scope (compEnvC scope cl C X.env) fp) vx (tE X.K ZF ev)) (hs : ∀ x, foldedSetIterable iter X.env x = pure x := by intro _; rfl) :
    PE X (.DictComp kx vx [⟨tg, iter, ifs, 0⟩] scope pos) (tE X.K Z (dcM (own.map (·.2)) fi g t ek ev)) := by
  refine (pe_dc hc hN hi ok hg ht hk he hs).imp fun σ H Q h => tDc_of (fun v σ H Q q => ?_) h
  refine tH.mono q fun σ2 H2 z hr => ?_
  have hr : wipe σ2 (own.map (·.2)) = wipe (wipe σ (own.map (·.2))) (own.map (·.2)) := hr
  rw [wipe_twice] at hr
  exact ⟨hr, z⟩
end
end DL
/-! DL13: the law's end: from the law's plain function to the row. -/
namespace DL
open PySem PySem.Spec PyProof.Rows L2

/-- the law's promise: a list of so many ints is handed in, True comes out -/
def spL (K : PySem.W.Frag) : Sp := fun vs H Q _ => ∃ (a : Addr) (ns : List Int), vs = [.ref a] ∧ QF K H (fun _ => False) a (ns.map V.int) ∧ ns.length ≤ 63 ∧ ∀ H', Q (.bl true) H'
theorem spL_of {K : PySem.W.Frag} {ZZ : XK → XZ} {F : List W → M W} (h : ∀ ns : List Int, ns.length ≤ 63 → ∃ S, F [.s ns] [] = .ok (.d (.bool true)) S) : ∀ vs H Q E, spL K vs H Q E → spF K ZZ F vs H Q E := by
  rintro vs H Q E ⟨a, ns, rfl, q, hl, hq⟩
  obtain ⟨S, e⟩ := h ns hl
  refine ⟨[.s ns], [], ⟨[], fun _ => False⟩, ⟨rfl, fun _ z => z.elim, fun _ z => z.elim, fun n o z => by simp at z, fun n m a o u z => by simp at z⟩, .cons ⟨a, rfl, ?_⟩ .nil, ?_⟩
  · refine q.ext (fun _ _ z _ => z) fun b z => .inl ?_
    rcases z with ⟨n, o, z, _⟩ | z
    · simp at z
    · exact z
  · rw [e]
    intro ρ' H' v _ _ rv
    cases rv
    exact hq H'
section
variable {P : Program} {w : World} {K : PySem.W.Frag} {mg mb : Str → Option Value} {k : Nat} {fa a : Addr} {fd : FuncData} {x : Str} {s₁ : Shared} {vs : List Value} {ns : List Int}
/-- the call of the law behind the top, where just H's one thing, the script, may be tracked -/
theorem end_from {H : Hp} (KX : K.In s₁.heap) (hns : s₁.heap.Ns mainGlobals mg) (hb : s₁.heap.Ns builtinsNs mb) (hbb : ∀ x : Str, x ≠ "__name__" → mb x = bootBuiltins x) (hlim : s₁.heap.NoLimit) (hg : s₁.gens = #[])
    (ha : s₁.heap.get? a = some { cls := .type "list", data := .seq vs.toArray }) (hl : ns.length ≤ 63) (hr : Room k callerA)
    (F : ∀ base : Heap, K.In base → base.Ns mainGlobals mg → FnG P w K mg base CX0 k fa fd [x] (spL K)) (hbind : ∀ (s : Shared) (u : Value), BindsTo s fd ⟨[u], []⟩ [(x, u)])
    (hS : QF K H (fun _ => False) a (ns.map V.int)) (hok : HOk P w H s₁.heap) (hO : ∀ b u, H b = some u → b = a ∧ (∃ o xs, u = .frz o (.lst xs)) ∧ K.lookup a = none) :
    codeAny (model P w) callerA (.call (.ref fa) ⟨[.ref a], []⟩) (fun r s' => r = .ok (.ret (.bool true)) ∧ OldK s₁.heap s'.heap ∧ s'.os = s₁.os ∧ AllBare s'.gens) s₁ := by
  have stands : ∀ {b : Addr} {o : Obj}, s₁.heap.get? b = some o → H b = none → (hidT s₁.heap H).get? b = some o := fun e n => hidT_get e n
  have isDict : ∀ {b : Addr} {m : Str → Option Value}, s₁.heap.Ns b m → (hidT s₁.heap H).Ns b m := fun {b m} ⟨o, es, ep, e, d, r⟩ => by
    refine ⟨o, es, ep, stands e ?_, d, r⟩
    cases q : H b with
    | none => rfl
    | some u =>
      obtain ⟨rfl, _⟩ := hO b u q
      rw [ha] at e
      cases e
      have d' : Data.seq vs.toArray _ = Data.dict es ep := d
      cases d'
  have KB : K.In (hidT s₁.heap H) := fun b o e => stands (KX b o e) (by
    cases q : H b with
    | none => rfl
    | some u =>
      obtain ⟨rfl, _, z⟩ := hO b u q
      rw [z] at e; cases e)
  have NB := isDict hns
  obtain ⟨mc, l1, l2⟩ := hlim
  have MB : Mod K mg (hidT s₁.heap H) := ⟨KB, NB, ⟨mb, isDict hb, hbb⟩, ⟨mc, isDict l1, l2⟩⟩
  have E : Env0 P w K mg (hidT s₁.heap H) callerA [] s₁ H := ⟨rfl, MB, fun b o e => of_hidT e, Nat.le_of_eq (hidT_size _ _), trivial, fun b z => by simp [frs] at z, hok, .of_eq hg⟩
  have R := (F _ KB NB).run callerA [] s₁ H ⟨[.ref a], []⟩ [.ref a] [.ref a] (fun v _ => v = .bl true) E0 hr rfl E (hbind s₁ (.ref a)) (.cons rfl .nil) ⟨a, ns, rfl, hS, hl, fun _ => rfl⟩
  refine codeAny_mono R fun r s' h => ?_
  cases r with
  | error e => exact h.elim
  | ok fl =>
    cases fl with
    | ret u =>
      obtain ⟨v, H', os, bare, un, hok', rv, q⟩ := h
      have q' : v = .bl true := q
      subst q'
      cases (show u = Value.bool true from rv)
      refine ⟨rfl, OldK.of_keep fun b o e => ?_, os, bare⟩
      cases q : H b with
      | none => exact un.keep b o e q (by simp [frs]) (by simp)
      | some u =>
        obtain ⟨_, ⟨ob, xs, rfl⟩, _⟩ := hO b u q
        have before := (hok b _ q).1
        have after := (hok' b _ (un.frzs b ob _ q)).1
        rw [e] at before; cases before
        exact after
    | next => exact h.elim
    | brk => exact h.elim
    | cont => exact h.elim
theorem end_call (KX : K.In s₁.heap) (hns : s₁.heap.Ns mainGlobals mg) (hb : s₁.heap.Ns builtinsNs mb) (hbb : ∀ x : Str, x ≠ "__name__" → mb x = bootBuiltins x) (hlim : s₁.heap.NoLimit) (hg : s₁.gens = #[])
    (ha : s₁.heap.get? a = some { cls := .type "list", data := .seq vs.toArray }) (hi : IntsAre vs ns) (hl : ns.length ≤ 63) (hr : Room k callerA)
    (F : ∀ base : Heap, K.In base → base.Ns mainGlobals mg → FnG P w K mg base CX0 k fa fd [x] (spL K)) (hbind : ∀ (s : Shared) (u : Value), BindsTo s fd ⟨[u], []⟩ [(x, u)]) :
    codeAny (model P w) callerA (.call (.ref fa) ⟨[.ref a], []⟩) (fun r s' => r = .ok (.ret (.bool true)) ∧ OldK s₁.heap s'.heap ∧ s'.os = s₁.os ∧ AllBare s'.gens) s₁ := by
  have rv := vals_ints hi
  have many : ns.length = vs.length := by
    have := rv.length
    simpa using this
  have small : vs.length ≤ sizeLine := by
    have : (63 : Nat) ≤ sizeLine := by decide
    omega
  cases hk : K.lookup a with
  | some o =>
    have e := KX a o hk
    rw [ha] at e
    cases e
    exact end_from (H := fun _ => none) KX hns hb hbb hlim hg ha hl hr F hbind (.inr ⟨_, vs.toArray, _, hk, rfl, rfl, rfl, by simpa using small, by simpa using rv⟩) (fun b u z => by cases z) fun b u z => by cases z
  | none =>
    have at_a : (upd (fun _ => none) a (.frz { cls := .type "list", data := .seq vs.toArray } (.lst (ns.map V.int)))) a = some (.frz { cls := .type "list", data := .seq vs.toArray } (.lst (ns.map V.int))) := upd_same
    have else_ : ∀ {b u}, upd (fun _ => none) a (.frz { cls := .type "list", data := .seq vs.toArray } (.lst (ns.map V.int))) b = some u → b = a ∧ u = .frz { cls := .type "list", data := .seq vs.toArray } (.lst (ns.map V.int)) := fun {b u} z => by
      by_cases e : b = a
      · subst e; rw [at_a] at z; cases z; exact ⟨rfl, rfl⟩
      · rw [upd_ne e] at z; cases z
    refine end_from KX hns hb hbb hlim hg ha hl hr F hbind (.inl ⟨.inr ⟨_, at_a⟩, id⟩) (fun b u z => ?_) fun b u z => ?_
    · obtain ⟨rfl, rfl⟩ := else_ z
      exact ⟨ha, by rw [List.length_map]; omega, vs, _, rv, ha⟩
    · obtain ⟨rfl, rfl⟩ := else_ z
      exact ⟨rfl, ⟨_, _, rfl⟩, hk⟩
end
/-- the goal that the head leaves, from the promise of the law's def -/
theorem end_of {l : PySem.W.OpenLaw} {k : Nat} {q : Program} {loose : List Str} {XP : (Str → Option Value) → Heap → Prop} {YP : World → Heap → Prop} {d : DefRec} {K : Params → PySem.W.Frag}
    (hn : l.most = some 63) (hdf : d.params.defaults = []) (hr : Room k callerA) (hY : ∀ (w : World) (h : Heap), YP w h → (K w.params).In h)
    (F : ∀ (w : World) (mg : Str → Option Value) (fa : Addr) (h : Heap), (K w.params).In h → h.Ns mainGlobals mg → mg d.name = some (.ref fa) →
      ∃ fd : FuncData, (∀ (s : Shared) (u : Value), BindsTo s fd ⟨[u], []⟩ [("script", u)]) ∧ ∀ base : Heap, (K w.params).In base → base.Ns mainGlobals mg → FnG l.prog w (K w.params) mg base CX0 k fa fd ["script"] (spL (K w.params))) :
    PySem.W.WalkO q loose XP YP l.row.toRowW d [] (fun f vs => PySem.call f vs) := by
  refine Att.attach_call hn hdf fun w s₀ s₁ mg mb fa o pm cd doc a vs ns G Y ho hd hcd hmg hobj hints hlen hg => ?_
  have KX := hY w _ Y
  obtain ⟨fd, hb, hF⟩ := F w mg fa _ KX G.T.g hmg
  exact end_call KX G.T.g G.T.b G.T.builtins G.T.nolimit hg hobj hints hlen hr hF hb
end DL
/-! DL14: what a printed text leans on. -/
namespace DL
open PySem PySem.Spec PyProof.Rows L2

theorem room66 {k : Nat} {A : Around} (h : Room k A) : A.units + 66 < cLine := by have := h.un; omega
theorem room65 {k : Nat} {A : Around} (h : Room k A) : A.units + 65 < cLine := by have := h.un; omega
theorem room1 {k : Nat} {A : Around} (h : Room k A) : A.units + 1 < cLine := by have := h.un; omega
/-- a def of the text as it stands behind the top -/
structure DefOk (K : PySem.W.Frag) (mg : Str → Option Value) (x : Str) (st : Stmt) (ps : List Str) (f : Addr) (fd : FuncData) : Prop where
  fn : Fun K x x st f fd
  mg : mg x = some (.ref f)
  bd : Binds K fd ps []
theorem def_mk {K : PySem.W.Frag} {h : Heap} {mg : Str → Option Value} {x : Str} {st : Stmt} {ps : List Str} (hb : ∀ (kV doc pm : Value) (an : Option Addr) (cdv ct : Value) (us : List Value), us.length = ps.length → bindArgs (PySem.W.fnOf x x (defArgs st) (defBody st) (defScope st) .none kV doc pm an cdv ct) ⟨us, []⟩ = pure (ps.zip us))
    (X : K.In h) (G : h.Ns mainGlobals mg) {f : Addr} {oc : Value} {od an : Option Addr} {sl : Array (Option Value)} {kV dc pm cd ct : Value}
    (a : PySem.W.nsIn K mainGlobals x = some (some (.ref f))) (l : K.lookup f = some ⟨oc, od, .func (PySem.W.fnOf x x (defArgs st) (defBody st) (defScope st) .none kV dc pm an cd ct), sl⟩) (c : PySem.W.codeIn K cd x = true) (k : PySem.W.keepIn K (.ref f) = true) :
    ∃ f fd, DefOk K mg x st ps f fd := by
  have F := fun_mk (st := st) l c k
  exact ⟨_, _, F, PySem.W.mg_of X G a, F.binds hb⟩
/-- a def's call with keywords -/
theorem kb_mk {K : PySem.W.Frag} {x : Str} {st : Stmt} {f : Addr} {fd : FuncData} {ps ks : List Str} {g : List Value → List Value → List Value} {gV : List V → List V → List V} {gW : List W → List W → List W} (F : Fun K x x st f fd)
    (hb : ∀ (kV doc pm : Value) (an : Option Addr) (cdv ct : Value) (us ws : List Value), (g us ws).length = ps.length → bindArgs (PySem.W.fnOf x x (defArgs st) (defBody st) (defScope st) .none kV doc pm an cdv ct) ⟨us, ks.zip ws⟩ = pure (ps.zip (g us ws)))
    (hv : ∀ {α β : Type} (R : α → β → Prop) (gA : List α → List α → List α) (gB : List β → List β → List β), True) (rel : ∀ {vs : List V} {us : List Value} {zs : List V} {ws : List Value}, Vals vs us → Vals zs ws → Vals (gV vs zs) (g us ws))
    (w : ∀ (ρ : Pl) (H : Hp) (L : Addr → Prop) (ws zs : List W) (vs us : List V), RWs K ρ H L ws vs → RWs K ρ H L zs us → RWs K ρ H L (gW ws zs) (gV vs us)) : KB K fd ps ks g gV gW := by
  obtain ⟨oc, od, kV, doc, pm, an, cdv, ct, osl, rfl, lk, hcd⟩ := F.ex
  exact ⟨⟨fun s us ws _ hl => .of_eq (hb kV doc pm an cdv ct us ws hl), rel⟩, w⟩
section
variable {X : Cx} {Z : XZ} {pos : Pos}
theorem dgint {x : Str} {i : Int} (h : ∃ t, X.mg x = some (.int i t)) (hg : Gl X x) (hd : (x == ("__debug__" : Str)) = false := by decide) : PE X (.Name x pos) (tE X.K Z (cM (.int i))) := by
  obtain ⟨t, e⟩ := h
  exact dglob (v := .int i) hg e ⟨t, rfl⟩ (fun _ _ => .int i) hd
theorem dgstr {x s : Str} (h : ∃ t, X.mg x = some (.str s t)) (ho : okS s = true) (hg : Gl X x) (hd : (x == ("__debug__" : Str)) = false := by decide) : PE X (.Name x pos) (tE X.K Z (cM (.str s))) := by
  obtain ⟨t, e⟩ := h
  exact dglob (v := .str s) hg e ⟨t, rfl⟩ (fun _ _ => .str s ho) hd
/-- a written tuple of texts -/
theorem dgstrs {x : Str} {ss : List Str} (h : ∃ a, X.mg x = some (.ref a) ∧ SqTw X.K a (ss.map V.str)) (ho : ∀ s ∈ ss, okS s = true) (hg : Gl X x) (hd : (x == ("__debug__" : Str)) = false := by decide) : PE X (.Name x pos) (tE X.K Z (cM (.tuple (ss.map .str)))) := by
  obtain ⟨a, e, q⟩ := h
  exact dglob (v := .ref a) hg e rfl (fun _ _ => .tup (.inr q) (RpA.strs ho)) hd
end
theorem con_mk {K : PySem.W.Frag} {h : Heap} {mg : Str → Option Value} {x : Str} {v : Value} (X : K.In h) (G : h.Ns mainGlobals mg) (a : PySem.W.nsIn K mainGlobals x = some (some v)) : mg x = some v := PySem.W.mg_of X G a
theorem conT_mk {K : PySem.W.Frag} {h : Heap} {mg : Str → Option Value} {x : Str} {ss : List Str} {f : Addr} {od : Option Addr} {its : List Value} {n : Nat} {sl : Array (Option Value)} (X : K.In h) (G : h.Ns mainGlobals mg)
    (a : PySem.W.nsIn K mainGlobals x = some (some (.ref f))) (l : K.lookup f = some ⟨.type "tuple", od, .seq its.toArray n, sl⟩) (v : Vals (ss.map V.str) its) (hl : ss.length ≤ 1000) : ∃ a, mg x = some (.ref a) ∧ SqTw K a (ss.map V.str) := by
  refine ⟨f, PySem.W.mg_of X G a, _, its.toArray, n, l, rfl, rfl, ?_, by simpa using v⟩
  have := v.length
  simp at this
  have : (1000 : Nat) ≤ sizeLine := by decide
  simp
  omega
theorem bl_len : bootBuiltins "len" = some (.builtin "len") := by decide +kernel
theorem bl_all : bootBuiltins "all" = some (.builtin "all") := by decide +kernel
theorem bl_any : bootBuiltins "any" = some (.builtin "any") := by decide +kernel
theorem bl_abs : bootBuiltins "abs" = some (.builtin "abs") := by decide +kernel
theorem bl_sorted : bootBuiltins "sorted" = some (.builtin "sorted") := by decide +kernel
theorem bl_repr : bootBuiltins "repr" = some (.builtin "repr") := by decide +kernel
theorem bl_int : bootBuiltins "int" = some (.type "int") := by decide +kernel
theorem bl_str : bootBuiltins "str" = some (.type "str") := by decide +kernel
theorem bl_bool : bootBuiltins "bool" = some (.type "bool") := by decide +kernel
theorem bl_list : bootBuiltins "list" = some (.type "list") := by decide +kernel
theorem bl_tuple : bootBuiltins "tuple" = some (.type "tuple") := by decide +kernel
theorem bl_dict : bootBuiltins "dict" = some (.type "dict") := by decide +kernel
/-- x += e, ints -/
def iaddM (x y : W) : M W := match x, y with
  | .d (.int i), .d (.int j) => pr (.d (.int (i + j)))
  | _, _ => no
theorem o_iadd {X : Cx} {Z : XZ} : OpR X (inplaceOp .Add) (r2M X.K Z iaddM) := by
  rintro pins s σ H x y v u Q I rx ry ⟨⟨w1, w2⟩, S, ρ, R, ⟨r1, r2⟩, g⟩
  change Gives (iaddM w1 w2 S) _ _ at g
  unfold iaddM at g
  split at g
  · cases r1; cases r2
    exact iop_add pins s σ H _ _ v u Q I rx ry ⟨_, _, rfl, rfl, g ρ H (.int _) Ext.refl R (.int _)⟩
  · exact g.elim
/-- a def that is never well called -/
theorem fn_none {P : Program} {w : World} {K : PySem.W.Frag} {mg : Str → Option Value} {base : Heap} {CX : CXT} {k : Nat} {f : Addr} {fd : FuncData} {ps : List Str} {ZZ : XK → XZ} : FnG P w K mg base CX k f fd ps (spF K ZZ fun _ => no) :=
  ⟨fun _ _ _ _ h => by obtain ⟨_, _, _, _, _, g⟩ := h; exact g.elim, fun _ _ _ _ _ _ _ _ _ _ _ _ _ _ h => by obtain ⟨_, _, _, _, _, g⟩ := h; exact g.elim⟩
end DL
/-! DL15: more of what a printed text leans on. -/
namespace DL
open PySem PySem.Spec PyProof.Rows L2

/-- {} that nobody changes -/
theorem dd0 {X : Cx} {Z : XZ} {pos : Pos} : PE X (.Dict [] [] pos) (tE X.K Z (cM (.dict []))) := pe_dnewK.imp fun σ H Q h p hp => by
  obtain ⟨δ, S, ρ, r, re, g⟩ := h
  exact g ρ (upd H p (.dK [])) (.ref p) (Ext.frz hp) (r.frz hp) (.dct (QDn.nil upd_same (r.notLive hp)))
/-- a call's arguments by the places is of what is handed in -/
def pickL {α : Type} (is : List Nat) (xs : List α) : List α := is.filterMap fun i => xs[i]?
def gP {α : Type} (p q : Nat) (is : List Nat) (us ws : List α) : List α := if us.length = p ∧ ws.length = q then pickL is (us ++ ws) else []
theorem Paired.app' {α β : Type} {R : α → β → Prop} : ∀ {xs : List α} {ys : List β} {xs' : List α} {ys' : List β}, Paired R xs ys → Paired R xs' ys' → Paired R (xs ++ xs') (ys ++ ys')
  | _, _, _, _, .nil, q => q
  | _, _, _, _, .cons a b, q => .cons a (Paired.app' b q)
theorem Paired.none' {α β : Type} {F : α → β → Prop} {xs : List α} {ys : List β} {i : Nat} (p : Paired F xs ys) (h : xs[i]? = none) : ys[i]? = none := by
  have := Paired.length p
  rw [List.getElem?_eq_none_iff] at h ⊢
  omega
theorem Paired.pick {α β : Type} {R : α → β → Prop} {xs : List α} {ys : List β} (p : Paired R xs ys) : ∀ is : List Nat, Paired R (pickL is xs) (pickL is ys)
  | [] => .nil
  | i :: is => by
    unfold pickL
    simp only [List.filterMap_cons]
    cases e : xs[i]? with
    | none =>
      rw [Paired.none' p e]
      exact Paired.pick p is
    | some x =>
      obtain ⟨y, h1, h2⟩ := Paired.at' p e
      rw [h1]
      exact .cons h2 (Paired.pick p is)
theorem Paired.gP {α β : Type} {R : α → β → Prop} {xs xs' : List α} {ys ys' : List β} {m n : Nat} {is : List Nat} (p : Paired R xs ys) (q : Paired R xs' ys') : Paired R (gP m n is xs xs') (gP m n is ys ys') := by
  have l1 := Paired.length p
  have l2 := Paired.length q
  unfold DL.gP
  rw [l1, l2]
  split
  · exact Paired.pick (Paired.app' p q) is
  · exact .nil
theorem vals_pair : ∀ {vs : List V} {us : List Value}, Vals vs us → Paired (fun v u => RelV v u) vs us
  | _, _, .nil => .nil
  | _, _, .cons a b => .cons a (vals_pair b)
theorem pair_vals : ∀ {vs : List V} {us : List Value}, Paired (fun v u => RelV v u) vs us → Vals vs us
  | _, _, .nil => .nil
  | _, _, .cons a b => .cons a (pair_vals b)
theorem kb_pick {K : PySem.W.Frag} {mg : Str → Option Value} {x : Str} {st : Stmt} {f : Addr} {fd : FuncData} {ps ks : List Str} {p q : Nat} {is : List Nat} (Fo : DefOk K mg x st ps f fd) (hps : ps ≠ [])
    (hb : ∀ (kV doc pm : Value) (an : Option Addr) (cdv ct : Value) (us ws : List Value), us.length = p → ws.length = q → bindArgs (PySem.W.fnOf x x (defArgs st) (defBody st) (defScope st) .none kV doc pm an cdv ct) ⟨us, ks.zip ws⟩ = pure (ps.zip (pickL is (us ++ ws)))) :
    KB K fd ps ks (gP p q is) (gP p q is) (gP p q is) := by
  obtain ⟨oc, od, kV, doc, pm, an, cdv, ct, osl, rfl, lk, hcd⟩ := Fo.fn.ex
  refine ⟨⟨fun s us ws _ hl => .of_eq ?_, fun r r2 => pair_vals (Paired.gP (vals_pair r) (vals_pair r2))⟩, fun ρ H L ws zs vs us a b => Paired.gP a b⟩
  unfold gP at hl ⊢
  split at hl
  · rename_i h
    rw [if_pos h]
    exact hb kV doc pm an cdv ct us ws h.1 h.2
  · exact absurd (List.length_eq_zero_iff.mp hl.symm) hps
/-- what stands ready to be called -/
theorem keep_ok {K : PySem.W.Frag} {mg : Str → Option Value} {x : Str} {st : Stmt} {ps : List Str} {f : Addr} {fd : FuncData} (h : DefOk K mg x st ps f fd) : PySem.W.keepIn K (.ref f) = true := h.fn.kp
theorem cint_mk {K : PySem.W.Frag} {h : Heap} {mg : Str → Option Value} {x : Str} {i : Int} {t : Tok} (X : K.In h) (G : h.Ns mainGlobals mg) (a : PySem.W.nsIn K mainGlobals x = some (some (.int i t))) : ∃ t, mg x = some (.int i t) := ⟨t, PySem.W.mg_of X G a⟩
theorem cstr_mk {K : PySem.W.Frag} {h : Heap} {mg : Str → Option Value} {x z : Str} {t : Tok} (X : K.In h) (G : h.Ns mainGlobals mg) (a : PySem.W.nsIn K mainGlobals x = some (some (.str z t))) : ∃ t, mg x = some (.str z t) := ⟨t, PySem.W.mg_of X G a⟩
/-- law's own def -/
theorem law_mk {K : PySem.W.Frag} {h : Heap} {mg : Str → Option Value} {st : Stmt} (X : K.In h) (G : h.Ns mainGlobals mg) (hb1 : ∀ (kV doc pm : Value) (an : Option Addr) (cdv ct : Value), ∀ u : Value, bindArgs (PySem.W.fnOf "law" "law" (defArgs st) (defBody st) (defScope st) .none kV doc pm an cdv ct) ⟨[u], []⟩ = pure [(("script" : Str), u)])
    (hb : ∀ (kV doc pm : Value) (an : Option Addr) (cdv ct : Value) (us : List Value), us.length = (["script"] : List Str).length → bindArgs (PySem.W.fnOf "law" "law" (defArgs st) (defBody st) (defScope st) .none kV doc pm an cdv ct) ⟨us, []⟩ = pure ((["script"] : List Str).zip us))
    {f : Addr} {oc : Value} {od an : Option Addr} {sl : Array (Option Value)} {kV dc pm cd ct : Value}
    (a : PySem.W.nsIn K mainGlobals "law" = some (some (.ref f))) (l : K.lookup f = some ⟨oc, od, .func (PySem.W.fnOf "law" "law" (defArgs st) (defBody st) (defScope st) .none kV dc pm an cd ct), sl⟩) (c : PySem.W.codeIn K cd "law" = true) (k : PySem.W.keepIn K (.ref f) = true) :
    ∃ f fd, DefOk K mg "law" st ["script"] f fd ∧ ∀ (s : Shared) (u : Value), BindsTo s fd ⟨[u], []⟩ [("script", u)] := by
  have F := fun_mk (st := st) l c k
  exact ⟨_, _, ⟨F, PySem.W.mg_of X G a, F.binds hb⟩, fun s u => .of_eq (hb1 _ _ _ _ _ _ u)⟩
end DL
/-! DL16: what denotations come to, in plain Lean. -/
namespace DL
open PySem PySem.Spec PyProof.Rows L2

theorem bd_ok {α β : Type} {m : M α} {f : α → M β} {S S' : Sto} {a : α} (h : m S = .ok a S') : bd m f S = f a S' := by unfold bd; rw [h]
theorem noEx_ok {α : Type} {m : M α} {S S' : Sto} {a : α} (h : m S = .ok a S') : noEx m S = .ok a S' := by unfold noEx; rw [h]
theorem seq_nx {f g : Env → M Fl} {δ δ' : Env} {S S' : Sto} (h : f δ S = .ok (.nx δ') S') : seqM f g δ S = g δ' S' := by unfold seqM; rw [bd_ok h]
theorem seq_rt {f g : Env → M Fl} {δ : Env} {w : W} {S S' : Sto} (h : f δ S = .ok (.rt w) S') : seqM f g δ S = .ok (.rt w) S' := by unfold seqM; rw [bd_ok h]; rfl
theorem if_t {t : Env → M Bool} {f g : Env → M Fl} {δ : Env} {S S' : Sto} (h : t δ S = .ok true S') : ifM t f g δ S = f δ S' := by unfold ifM; rw [bd_ok h]; rfl
theorem if_f {t : Env → M Bool} {f g : Env → M Fl} {δ : Env} {S S' : Sto} (h : t δ S = .ok false S') : ifM t f g δ S = g δ S' := by unfold ifM; rw [bd_ok h]; rfl
theorem asg_ok {f : Env → M W} {i : Nat} {δ : Env} {w : W} {S S' : Sto} (h : f δ S = .ok w S') : asgM f (setG i) δ S = .ok (.nx (δ.set i (some w))) S' := by unfold asgM; rw [bd_ok h]; rfl
theorem ret_ok {f : Env → M W} {δ : Env} {w : W} {S S' : Sto} (h : f δ S = .ok w S') : retM f δ S = .ok (.rt w) S' := by unfold retM; rw [bd_ok h]; rfl
theorem expr_ok {f : Env → M W} {δ : Env} {w : W} {S S' : Sto} (h : f δ S = .ok w S') : exprM f δ S = .ok (.nx δ) S' := by unfold exprM; rw [bd_ok h]; rfl
theorem cal_ok {fr : Env → M (List W)} {fo : List W → M W} {δ : Env} {ws : List W} {w : W} {S S' S'' : Sto} (h : fr δ S = .ok ws S') (h2 : fo ws S' = .ok w S'') : calM fr fo δ S = .ok w S'' := by unfold calM; rw [bd_ok h]; exact h2
theorem bin_ok {fa fb : Env → M W} {fo : W → W → M W} {δ : Env} {x y w : W} {S S1 S2 S3 : Sto} (h : fa δ S = .ok x S1) (h2 : fb δ S1 = .ok y S2) (h3 : fo x y S2 = .ok w S3) : binM fa fb fo δ S = .ok w S3 := by unfold binM; rw [bd_ok h, bd_ok h2]; exact h3
theorem cons_ok {fa : Env → M W} {fr : Env → M (List W)} {δ : Env} {x : W} {xs : List W} {S S1 S2 : Sto} (h : fa δ S = .ok x S1) (h2 : fr δ S1 = .ok xs S2) : consM fa fr δ S = .ok (x :: xs) S2 := by unfold consM; rw [bd_ok h, bd_ok h2]; rfl
theorem star_ok {fa : Env → M W} {fr : Env → M (List W)} {δ : Env} {x : W} {k : Bool} {xs ys : List W} {S S1 S2 : Sto} (h : fa δ S = .ok x S1) (hx : seqOf x S1 = some (k, xs)) (h2 : fr δ S1 = .ok ys S2) : starM fa fr δ S = .ok (xs ++ ys) S2 := by
  unfold starM
  rw [bd_ok h, bd_ok (show itemsM x S1 = .ok xs S1 by unfold itemsM; simp only [hx]), bd_ok h2]
  rfl
theorem val_ok {f : Env → M W} {δ : Env} {b : Bool} {S S' : Sto} (h : f δ S = .ok (okb b) S') : valT f δ S = .ok b S' := by unfold valT; rw [bd_ok h]; rfl
theorem run_rt {k n : Nat} {b : Env → M Fl} {ws : List W} {w : W} {S S' : Sto} (hl : ws.length = k) (h : b (ws.map some ++ List.replicate (n - k) none) S = .ok (.rt w) S') : runD k n b ws S = .ok w S' := by unfold runD; rw [if_pos hl, bd_ok h]; rfl
theorem pure_ok {F : List W → M W} {ws : List W} {ds : List D} {x : D} {S S0 : Sto} (hd : allD ws = some ds) (h : F ws [] = .ok (.d x) S0) : pureM F ws S = .ok (.d x) S := by unfold pureM; rw [hd]; simp only [h]
theorem pure_ex {F : List W → M W} {ws : List W} {ds : List D} {x : D} {S : Sto} (hd : allD ws = some ds) (h : ∃ S0, F ws [] = .ok (.d x) S0) : pureM F ws S = .ok (.d x) S := by
  obtain ⟨S0, h⟩ := h
  exact pure_ok hd h
theorem varM_at {i : Nat} {δ : Env} {w : W} {S : Sto} (h : δ[i]? = some (some w)) : varM i δ S = .ok w S := by unfold varM; rw [h]
/-! ### comprehensions -/
theorem comp_map {own : List Nat} {g : W → Env → M Env} {t : Env → M Bool} {e : Env → M W} {δ : Env} {S : Sto} (p : W → Bool) (φ : W → W) : ∀ {ws : List W},
    (∀ w ∈ ws, ∃ δ1, g w (wipeE δ own) S = .ok δ1 S ∧ t δ1 S = .ok (p w) S ∧ (p w = true → e δ1 S = .ok (φ w) S)) → compL own g t e ws δ S = .ok ((ws.filter p).map φ) S
  | [], _ => rfl
  | w :: ws, h => by
    obtain ⟨δ1, h1, h2, h3⟩ := h w List.mem_cons_self
    have ih := comp_map (own := own) (g := g) (t := t) (e := e) (δ := δ) (S := S) p φ (ws := ws) fun w hw => h w (List.mem_cons_of_mem _ hw)
    unfold compL
    rw [bd_ok (noEx_ok h1), bd_ok (noEx_ok h2)]
    cases hp : p w with
    | true =>
      simp only [if_true]
      rw [bd_ok (noEx_ok (h3 hp)), bd_ok ih, List.filter_cons_of_pos hp]
      rfl
    | false =>
      simp only [Bool.false_eq_true, if_false]
      rw [ih, List.filter_cons_of_neg (by simp [hp])]
theorem comp_all {own : List Nat} {g : W → Env → M Env} {e : Env → M W} {δ : Env} {S : Sto} (φ : W → W) {ws : List W}
    (h : ∀ w ∈ ws, ∃ δ1, g w (wipeE δ own) S = .ok δ1 S ∧ e δ1 S = .ok (φ w) S) : compL own g yesT e ws δ S = .ok (ws.map φ) S := by
  have := comp_map (own := own) (g := g) (t := yesT) (e := e) (δ := δ) (S := S) (fun _ => true) φ (ws := ws) fun w hw => by
    obtain ⟨δ1, h1, h2⟩ := h w hw
    exact ⟨δ1, h1, rfl, fun _ => h2⟩
  rw [List.filter_eq_self.mpr (fun _ _ => rfl)] at this
  exact this
theorem lst_ok {ws : List W} {ds : List D} {S : Sto} (h : allD ws = some ds) (hl : ws.length ≤ sizeLine) : lstM ws S = .ok (.d (.list ds)) S := by unfold lstM; rw [if_pos hl]; simp only [h]
theorem tup_ok {ws : List W} {ds : List D} {S : Sto} (h : allD ws = some ds) (hl : ws.length ≤ sizeLine) : tupM ws S = .ok (.d (.tuple ds)) S := by unfold tupM; rw [if_pos hl]; simp only [h]
theorem small2 : 1000000 ≤ sizeLine := by decide
/-! ### the store -/
theorem set_at {S : Sto} {n : Nat} {o u : Ob} (h : S[n]? = some o) : (S.set n u)[n]? = some u := by
  have : n < S.length := (List.getElem?_eq_some_iff.mp h).1
  rw [List.getElem?_set_self this]
theorem seq_at {S : Sto} {n : Nat} {ws : List W} (h : S[n]? = some (.lst ws)) : seqOf (.r n) S = some (true, ws) := by unfold seqOf; simp only [h]
theorem seq_l {S : Sto} {ds : List D} : seqOf (.d (.list ds)) S = some (true, ds.map .d) := rfl
theorem seq_t {S : Sto} {ds : List D} : seqOf (.d (.tuple ds)) S = some (false, ds.map .d) := rfl
theorem item_r {S : Sto} {n : Nat} {ws : List W} {i : Int} {w : W} (h : S[n]? = some (.lst ws)) (hi : atI ws i = some w) : itemM (.r n) (.d (.int i)) S = .ok w S := by unfold itemM; simp only [seq_at h, hi]
theorem item_l {S : Sto} {ds : List D} {i : Int} {d : D} (hi : atI ds i = some d) : itemM (.d (.list ds)) (.d (.int i)) S = .ok (.d d) S := by
  unfold itemM
  simp only [seq_l, atI_map, hi, Option.map_some]
theorem item_t {S : Sto} {ds : List D} {i : Int} {d : D} (hi : atI ds i = some d) : itemM (.d (.tuple ds)) (.d (.int i)) S = .ok (.d d) S := by
  unfold itemM
  simp only [seq_t, atI_map, hi, Option.map_some]
theorem pop_snoc {S : Sto} {n : Nat} {ws : List W} {w : W} (h : S[n]? = some (.lst (ws ++ [w]))) : popM (.r n) [] S = .ok w (S.set n (.lst ws)) := by
  unfold popM
  simp only [h]
  have e : (ws ++ [w])[(ws ++ [w]).length - 1]? = some w := by simp
  rw [e]
  simp
theorem extend_ok {S : Sto} {n : Nat} {ws ys : List W} {y : W} (h : S[n]? = some (.lst ws)) (hy : seqOf y S = some (true, ys)) (hl : ws.length + ys.length ≤ sizeLine) : extendM (.r n) [y] S = .ok (.d .none) (S.set n (.lst (ws ++ ys))) := by
  unfold extendM
  simp only [h, hy]
  rw [if_pos hl]
theorem append_ok {S : Sto} {n : Nat} {ws : List W} {y : W} (h : S[n]? = some (.lst ws)) (hl : ws.length < sizeLine) : appendM (.r n) [y] S = .ok (.d .none) (S.set n (.lst (ws ++ [y]))) := by
  unfold appendM
  simp only [h]
  rw [if_pos hl]
theorem chkL_r {S : Sto} {n : Nat} {ws : List W} (h : S[n]? = some (.lst ws)) : chkL (.r n) S = .ok () S := by unfold chkL; simp only [seq_at h]
theorem met_ok {fa : Env → M W} {fr : Env → M (List W)} {fo : W → List W → M W} {δ : Env} {n : Nat} {ws : List W} {xs : List W} {w : W} {S S1 : Sto} (h : fa δ S = .ok (.r n) S) (hn : S[n]? = some (.lst ws)) (hr : fr δ S = .ok xs S) (ho : fo (.r n) xs S = .ok w S1) : metM fa fr chkL fo δ S = .ok w S1 := by
  unfold metM
  rw [bd_ok h, bd_ok (chkL_r hn), bd_ok hr]
  exact ho
theorem toD_r {S : Sto} {n : Nat} {ds : List D} (h : S[n]? = some (.lst (ds.map .d))) : toD (.r n) S = some (.list ds) := by
  unfold toD
  simp only [h, allD_map]
  rfl
theorem tuple_r {S : Sto} {n : Nat} {ds : List D} (h : S[n]? = some (.lst (ds.map .d))) : tupleM [.r n] S = .ok (.d (.tuple ds)) S := by
  unfold tupleM
  simp only [toD_r h]
theorem freeze_r {S : Sto} {n : Nat} {ds : List D} (h : S[n]? = some (.lst (ds.map .d))) : freezeM (.r n) S = .ok (.d (.list ds)) (S.set n .dead) := by
  unfold freezeM
  simp only [h, allD_map]
theorem set_set {S : Sto} {n : Nat} {o u : Ob} : (S.set n o).set n u = S.set n u := List.set_set ..
theorem atI_ok {α : Type} {xs : List α} {i : Int} (h0 : 0 ≤ i) (h : i < (xs.length : Int)) : ∃ x, x ∈ xs ∧ atI xs i = some x := by
  have hj : i.toNat < xs.length := by omega
  refine ⟨xs[i.toNat], List.getElem_mem hj, ?_⟩
  unfold L2.atI L2.ixN
  rw [if_pos h0, if_pos h]
  simp [hj]
theorem atI_0 {α : Type} {x : α} {xs : List α} : atI (x :: xs) 0 = some x := by
  unfold L2.atI L2.ixN
  rw [if_pos (by omega), if_pos (by simp only [List.length_cons]; omega)]
  rfl
/-! ### loops -/
theorem wh_end {c : Env → M Bool} {b : Env → M Fl} {n : Nat} {δ : Env} {S S' : Sto} (h : c δ S = .ok false S') : whL c b (n + 1) δ S = .ok (.nx δ) S' := by unfold whL; rw [bd_ok h]; rfl
theorem wh_nx {c : Env → M Bool} {b : Env → M Fl} {n : Nat} {δ δ' : Env} {S S' S'' : Sto} (h : c δ S = .ok true S') (hb : b δ S' = .ok (.nx δ') S'') : whL c b (n + 1) δ S = whL c b n δ' S'' := by
  conv => lhs; unfold whL
  rw [bd_ok h, if_pos rfl, bd_ok hb]
theorem wh_rt {c : Env → M Bool} {b : Env → M Fl} {n : Nat} {δ : Env} {w : W} {S S' S'' : Sto} (h : c δ S = .ok true S') (hb : b δ S' = .ok (.rt w) S'') : whL c b (n + 1) δ S = .ok (.rt w) S'' := by
  conv => lhs; unfold whL
  rw [bd_ok h, if_pos rfl, bd_ok hb]
  rfl
/-! ### the pen: a place of the store with three parts -/
def penO (cs : List Int) (at_ rest : Int) : Ob := .lst [.d (.list (cs.map .int)), .d (.int at_), .d (.int rest)]
structure Pen (S : Sto) (n : Nat) (c : Int) : Prop where
  ex : ∃ cs at_ rest, S[n]? = some (penO cs at_ rest) ∧ 0 ≤ at_ ∧ at_ ≤ c ∧ 0 ≤ rest ∧ cs.length ≤ 63
theorem Pen.mono {S : Sto} {n : Nat} {c c' : Int} (h : Pen S n c) (hc : c ≤ c') : Pen S n c' := by
  obtain ⟨cs, a, r, h1, h2, h3, h4⟩ := h.ex
  exact ⟨cs, a, r, h1, h2, by omega, h4⟩
/-- what a draw says: a number in the range, the pen one further -/
def Draws (F : List W → M W) : Prop := ∀ (S : Sto) (n : Nat) (c many : Int), Pen S n c → c < 1048576 → 1 ≤ many → many < 1073741824 →
  ∃ (k : Int) (o : Ob), F [.r n, .d (.int many)] S = .ok (.d (.int k)) (S.set n o) ∧ 0 ≤ k ∧ k < many ∧ Pen (S.set n o) n (c + 1)
end DL
/-! DL17: equal data, dicts as sets of texts, sorted texts. -/
namespace DL
open PySem PySem.Spec PyProof.Rows L2

mutual
theorem eqv_nd : ∀ d : D, nd d = true → PyData.eqv d d = true
  | .none, _ => rfl
  | .bool b, _ => by simp [PyData.eqv]
  | .int i, _ => by simp [PyData.eqv]
  | .str x, _ => by simp [PyData.eqv]
  | .list xs, h => by rw [PyData.eqv]; exact eqvA_nd xs (by simpa only [nd] using h)
  | .tuple xs, h => by rw [PyData.eqv]; exact eqvA_nd xs (by simpa only [nd] using h)
  | .dict _, h => by simp [nd] at h
theorem eqvA_nd : ∀ xs : List D, ndA xs = true → PyData.eqvAll xs xs = true
  | [], _ => rfl
  | x :: xs, h => by
    simp only [ndA, Bool.and_eq_true] at h
    rw [PyData.eqvAll, eqv_nd x h.1, eqvA_nd xs h.2]
    rfl
end
theorem ndA_of : ∀ {ds : List D}, (∀ d ∈ ds, nd d = true) → ndA ds = true
  | [], _ => by simp only [ndA]
  | d :: ds, h => by
    simp only [ndA, Bool.and_eq_true]
    exact ⟨h d (by simp), ndA_of fun q hq => h q (by simp [hq])⟩
theorem depA_of {k : Nat} : ∀ {ds : List D}, (∀ d ∈ ds, d.depth ≤ k) → PyData.depthAll ds ≤ k
  | [], _ => by simp [PyData.depthAll]
  | d :: ds, h => by
    have h1 := h d (by simp)
    have h2 := depA_of (ds := ds) fun q hq => h q (by simp [hq])
    simp only [PyData.depthAll]
    omega
theorem isNil_no {y : D} (h : y ≠ .list []) : isNil (.d y) = false := by
  cases hq : isNil (.d y) with
  | false => rfl
  | true =>
    have := isNil_of hq
    cases this
    exact absurd rfl h
theorem eq_d {x y : D} {S : Sto} (hy : y ≠ .list []) (hd : min x.depth y.depth ≤ 64) (hx : nd x = true) (hn : nd y = true) : eqM (.d x) (.d y) S = .ok (okb (PyData.eqv x y)) S := by
  unfold eqM
  rw [if_neg (by rw [isNil_no hy]; decide)]
  unfold eqD
  simp only [toD]
  rw [if_pos ⟨hd, hx, hn⟩]
theorem ne_d {x y : D} {S : Sto} (hy : y ≠ .list []) (hd : min x.depth y.depth ≤ 64) (hx : nd x = true) (hn : nd y = true) : neM (.d x) (.d y) S = .ok (okb (!PyData.eqv x y)) S := by
  unfold neM
  rw [if_neg (by rw [isNil_no hy]; decide)]
  unfold neD
  simp only [toD]
  rw [if_pos ⟨hd, hx, hn⟩]
theorem ne_same {x : D} {S : Sto} (hd : x.depth ≤ 64) (hx : nd x = true) : neM (.d x) (.d x) S = .ok (okb false) S := by
  by_cases hy : x = .list []
  · subst hy; rfl
  · rw [ne_d hy (by omega) hx hx, eqv_nd x hx]; rfl
theorem eq_same {x : D} {S : Sto} (hd : x.depth ≤ 64) (hx : nd x = true) : eqM (.d x) (.d x) S = .ok (okb true) S := by
  by_cases hy : x = .list []
  · subst hy; rfl
  · rw [eq_d hy (by omega) hx hx, eqv_nd x hx]
theorem calK_ok {fr fk : Env → M (List W)} {gW : List W → List W → List W} {fo : List W → M W} {δ : Env} {xs ys zs : List W} {w : W} {S S1 S2 S3 : Sto} (h1 : fr δ S = .ok xs S1) (h2 : fk δ S1 = .ok ys S2) (hg : gW xs ys = zs) (h3 : fo zs S2 = .ok w S3) : calK fr fk gW fo δ S = .ok w S3 := by
  unfold calK
  rw [bd_ok h1, bd_ok h2, hg]
  exact h3
/-! ### dicts as sets of texts -/
def kv (ks : List Str) : List (Key × W) := ks.map fun z => (Sum.inr z, .d (.bool true))
def ins (ks : List Str) (z : Str) : List Str := if z ∈ ks then ks else ks ++ [z]
theorem kv_len (ks : List Str) : (kv ks).length = ks.length := by simp [kv]
theorem kv_any (ks : List Str) (z : Str) : ((kv ks).any fun q => decide (q.1 = Sum.inr z)) = decide (z ∈ ks) := by
  induction ks with
  | nil => rfl
  | cons a ks ih =>
    simp only [kv, List.map_cons, List.any_cons, List.mem_cons] at ih ⊢
    rw [ih]
    by_cases e : a = z
    · subst e; simp
    · have e' : ¬ z = a := fun q => e q.symm
      simp [e, e']
theorem put_kv (ks : List Str) (z : Str) : putW (kv ks) (Sum.inr z) (.d (.bool true)) = kv (ins ks z) := by
  unfold putW ins
  rw [kv_any]
  by_cases h : z ∈ ks
  · rw [if_pos (by simpa using h), if_pos h]
    unfold kv
    rw [List.map_map]
    refine List.map_congr_left fun a _ => ?_
    simp only [Function.comp]
    split
    · rename_i e; rw [e]
    · rfl
  · rw [if_neg (by simpa using h), if_neg h]
    simp [kv]
theorem ins_nodup {ks : List Str} {z : Str} (h : ks.Nodup) : (ins ks z).Nodup := by
  unfold ins
  split
  · exact h
  · rename_i hz
    rw [List.nodup_append]
    refine ⟨h, by simp, fun a ha b hb => ?_⟩
    simp at hb
    subst hb
    exact fun e => hz (e ▸ ha)
theorem mem_ins {ks : List Str} {z a : Str} : a ∈ ins ks z ↔ a ∈ ks ∨ a = z := by
  unfold ins
  split
  · rename_i hz
    exact ⟨.inl, fun h => h.elim id fun e => e ▸ hz⟩
  · simp
theorem ins_len {ks : List Str} {z : Str} : (ins ks z).length ≤ ks.length + 1 := by
  unfold ins
  split <;> simp
def uniq (us : List Str) : List Str := us.foldl ins []
theorem fold_ins : ∀ (us ks : List Str), ks.Nodup → (us.foldl ins ks).Nodup ∧ ∀ a, a ∈ us.foldl ins ks ↔ a ∈ ks ∨ a ∈ us
  | [], ks, h => ⟨h, fun a => by simp⟩
  | u :: us, ks, h => by
    obtain ⟨h1, h2⟩ := fold_ins us (ins ks u) (ins_nodup h)
    refine ⟨h1, fun a => ?_⟩
    show a ∈ us.foldl ins (ins ks u) ↔ _
    rw [h2, mem_ins, List.mem_cons, or_assoc]
theorem uniq_nodup (us : List Str) : (uniq us).Nodup := (fold_ins us [] List.nodup_nil).1
theorem mem_uniq {us : List Str} {a : Str} : a ∈ uniq us ↔ a ∈ us := by
  rw [show (a ∈ uniq us ↔ _) from (fold_ins us [] List.nodup_nil).2 a]
  simp
theorem merge_kv : ∀ (us ks : List Str), mergeW (kv ks) (us.map fun z => (Sum.inr z, .d (.bool true))) = kv (us.foldl ins ks)
  | [], ks => rfl
  | u :: us, ks => by
    have := merge_kv us (ins ks u)
    unfold mergeW at this ⊢
    simp only [List.map_cons, List.foldl_cons, put_kv]
    exact this
theorem pairs_kv : ∀ us : List Str, pairsD (us.map fun z => .tuple [.str z, .bool true]) = some (us.map fun z => (Sum.inr z, .bool true))
  | [] => rfl
  | u :: us => by
    simp only [List.map_cons, pairsD, keyOf, pairs_kv us]
theorem dict_ok (us : List Str) (S : Sto) : dictM [.d (.list (us.map fun z => .tuple [.str z, .bool true]))] S = .ok (.r S.length) (S ++ [.dct (kv (uniq us))]) := by
  unfold dictM
  simp only [pairs_kv, List.map_map]
  have := merge_kv us []
  unfold uniq
  rw [← this]
  rfl
theorem listD_ok {S : Sto} {n : Nat} {ks : List Str} (h : S[n]? = some (.dct (kv ks))) : listDM [.r n] S = .ok (.d (.list (ks.map .str))) S := by
  unfold listDM
  simp only [h]
  unfold kv
  rw [List.map_map]
  rfl
theorem strs_map : ∀ ks : List Str, strsD (ks.map .str) = some ks
  | [] => rfl
  | k :: ks => by simp [strsD, strs_map ks]
theorem sort_ok {S : Sto} {ks : List Str} (h : ks.length < 64) : sortM [.d (.list (ks.map .str))] S = .ok (.d (.list ((sortS ks).map .str))) S := by
  unfold sortM
  simp only [toD, strs_map]
  rw [if_pos h]
theorem sort_eq {as bs : List Str} (ha : as.Nodup) (hb : bs.Nodup) (h : ∀ z, z ∈ as ↔ z ∈ bs) : sortS as = sortS bs := by
  refine List.Perm.eq_of_pairwise (le := leS) (fun a b _ _ h1 h2 => ?_) (sortS_sorted as) (sortS_sorted bs) ((sortS_perm as).trans (((List.perm_ext_iff_of_nodup ha hb).mpr h).trans (sortS_perm bs).symm))
  have e : a.cps.toList = b.cps.toList := List.le_antisymm h1 h2
  have e2 : a.cps = b.cps := Array.toList_inj.mp e
  cases a; cases b; cases e2; rfl
/-- is a text among texts -/
theorem eqv_str (a b : Str) : PyData.eqv (.str a) (.str b) = decide (a = b) := by
  rw [PyData.eqv]
  by_cases h : a = b
  · subst h; simp
  · simp [h]
theorem in_strs (z : Str) (ks : List Str) : ((ks.map PyData.str).any fun y => PyData.eqv y (.str z)) = decide (z ∈ ks) := by
  induction ks with
  | nil => rfl
  | cons a ks ih =>
    simp only [List.map_cons, List.any_cons, ih, eqv_str, List.mem_cons]
    by_cases e : a = z
    · subst e; simp
    · have e' : ¬ z = a := fun q => e q.symm
      simp [e, e']
theorem nd_strs (ks : List Str) : ndA (ks.map PyData.str) = true := ndA_of fun d hd => by
  obtain ⟨z, _, rfl⟩ := List.mem_map.mp hd
  simp only [nd]
theorem notin_ok {S : Sto} (z : Str) (ks : List Str) : notInM (.d (.str z)) (.d (.tuple (ks.map .str))) S = .ok (okb (!decide (z ∈ ks))) S := by
  unfold notInM
  simp only [toD]
  rw [if_pos ⟨by simp [PyData.depth], by simp only [nd], nd_strs ks⟩, in_strs]
end DL
/-! DL18: own errors whose __init__ says super().__init__('..'); self.f = f. -/
namespace DLE
open PySem PySem.W PySem.HandSPX PySem.Calls PyProof.Rows

section
variable {prog : Program} {w : World} {A : Around} {E : Value → Shared → Prop} {h : Heap} {g : Array GenState} {d : Drawn} {t : Nat} {os : OsState}
variable {nm q : Str} {C N : Addr} {bs bm : List Value} {hdct : Bool} {sn : List Str} {sub : List Value} {ab : Bool} {col : Option Bool} {dd : Option Addr} {k0 k1 k2 k3 k5 : Option Value}
/-- the bound ValueError.__init__ called -/
theorem call_bwV {u e t0 : Addr} {rest : List Value} {Q : Value → Shared → Prop} (hC : h.get? C = some (excClassObj nm q C N bs bm hdct sn sub ab col dd k0 k1 k2 k3 k5 "ValueError.__new__")) (he : h.get? e = some (excO C t0)) (hu : h.get? u = some (kxs_mw "ValueError.__init__" e)) (hrest : rest.length ≤ sizeLine)
    (hq : ∀ h' t1, (∀ b o, b ≠ e → h.get? b = some o → h'.get? b = some o) → h'.get? e = some (excO C t1) → Q .none ⟨h', g, d, t, os⟩) : wpAny (model prog w) A (call (.ref u) rest) Q E ⟨h, g, d, t, os⟩ := by
  refine wpAny_call (codeAny_of_tree ?_)
  show wpAny _ A.in1 (callAny (.ref u) ⟨rest, []⟩) _ _ _
  simp only [callAny]
  refine wpAny_bind (wpAny_load hu ?_)
  simp only [kxs_mw, show (Value.type "method-wrapper" == Value.type "method" || Value.type "method-wrapper" == Value.type "builtin_function_or_method" || Value.type "method-wrapper" == Value.type "method-wrapper") = true by decide, if_true]
  refine KFB.if_so (by decide) ?_
  refine wpAny_bind (check_bound_init PySem.F.excBase_ValueError.toExcCallFacts hC he rfl ?_)
  refine wpAny_bind (wpAny_pure (wpAny_pure ?_))
  refine ⟨plainId_quiet PySem.F.excBase_ValueError.init.plain _, codeAny_builtin PySem.F.excBase_ValueError.initEntry ?_⟩
  rw [Around.under_plainId PySem.F.excBase_ValueError.init.plain _]
  wp_walk
  refine hq _ h.objs.size (fun b o hb ho => ?_) ?_
  · rw [Heap.get?_update_other _ _ (Ne.symm hb)]
    exact Heap.get?_push_of_some _ ho
  · rw [Heap.get?_update_self _ (Heap.get?_push_of_some _ he) rfl]
    rfl
end
/-- what the written part says of such a class at C, its __init__ at fI, whose body is what it is -/
structure SupTxt (prog : Program) (K : Frag) (mg : Str → Option Value) (C fI : Addr) (q f : Str) (params : Arguments) (body : List Stmt) (sc : Scope) : Prop where
  cls : ∃ nm qn N bs bm sn sub ab col dd k0 k1 k2 k3 k5, K.lookup C = some (excClassObj nm qn C N bs bm true sn sub ab col dd k0 k1 k2 k3 k5 "ValueError.__new__") ∧ refsVE bm = true
  sa : findIn K (.ref C) "__setattr__" = some (some (.builtin "object.__setattr__"))
  noN : findIn K (.ref C) f = some none
  iC : findIn K (.ref C) "__init__" = some (some (.ref fI))
  tC : typeIn K (.ref fI) = some (.type "function")
  kC : keepIn K (.ref C) = true
  exC : subIn K (.ref C) (.type "BaseException") = some true
  tyC : typeIn K (.ref C) = some (.type "type")
  sup : ks_superIn K C C "__init__" = some (some (.builtin "ValueError.__init__"))
  subV : subIn K (.ref C) (.type "ValueError") = some true
  any : nsIn K cStatics "thirdparty.any" = some none
  msup : mg "super" = none
  top : (prog.main.scope.names.lookup ("super" : Str)).isSome = false
  mroC : mroIn K C (.ref C) = some true
  fn : ∃ (oc : Value) (od : Option Addr) (doc pm : Value) (an : Option Addr) (cda cc : Addr) (ct : Value) (osl : Array (Option Value)) (ccl : Value) (cdd : Option Addr) (vs : Array Value) (ccs : Array (Option Value)) (file : Str) (tf : Tok) (cl : Value) (cld : Option Addr) (csl : Array (Option Value)),
    K.lookup fI = some ⟨oc, od, .func (fnX "__init__" q params body sc [("__class__", cc)] .none .none doc pm an (.ref cda) ct), osl⟩ ∧ codeIn K (.ref cda) q = true ∧
      K.lookup cda = some ⟨ccl, cdd, .fields vs, ccs⟩ ∧ vs[2]? = some (.str file tf) ∧ ((prog.main.file : Str) == file) = true ∧ K.lookup cc = some ⟨cl, cld, .cell (some (.ref C)), csl⟩
/-- what __init__ leaves of a fresh error at x -/
structure InitEnd (h h' : Heap) (x C dx : Addr) (f : Str) (v : Value) : Prop where
  keep : ∀ b o, b ≠ x → h.get? b = some o → h'.get? b = some o
  obj : ∃ t1 : Addr, h'.get? x = some { cls := .ref C, dict := some dx, data := .fields #[.ref t1, .none, .none, .none, .bool false, .none] }
  dbig : h.objs.size ≤ dx
  dne : dx ≠ x
  ns : h'.Ns1 dx (fun y => if y = f then some v else none)
section
variable {prog : Program} {w : World} {A : Around} {E : Value → Shared → Prop} {R : Result → Shared → Prop} {s : Shared} {K : Frag} {mg mb : Str → Option Value} {C fI : Addr} {q f : Str} {params : Arguments} {body : List Stmt} {sc : Scope}
theorem err_init {msg : Str} {j} {pl : PySem.Env → Sem Bool} {p0 p1 p2 p3 p4 p5 p6 p7 p8 p9 : Pos} {ar : Arg} (hbody : body = [.Expr (.Call (.Attribute (.Call (.Name "super" p0) [] [] p1) "__init__" p2) [.Constant (.str msg) j p3] [] p4) p5, .Assign [.Attribute (.Name "self" p6) f p7] (.Name f p8) p9])
    (he : ∀ env : PySem.Env, eval (.Call (.Attribute (.Call (.Name "super" p0) [] [] p1) "__init__" p2) [.Constant (.str msg) j p3] [] p4) env = (do
      let ov ← attributeBase (.Call (.Name "super" p0) [] [] p1) "__init__" env (eval (.Call (.Name "super" p0) [] [] p1) env)
      standAt p2.atName
      let (f, first) ← holding [ov] (getMethod ov "__init__" (pl env))
      callWith p4 f first (backTo p4 (starEach [.Constant (.str msg) j p3] env)) []))
    (hi : ∀ (L cda cc : Addr), interactive (ksEnv q sc L fI (.ref cda) cc) = false) (hw1 : ∀ (L cda cc : Addr), swapsWith (.Call (.Attribute (.Call (.Name "super" p0) [] [] p1) "__init__" p2) [.Constant (.str msg) j p3] [] p4) none p5.line (ksEnv q sc L fI (.ref cda) cc) = pure false)
    (hw2 : ∀ (L cda cc : Addr), swapsWith (.Name f p8) (some (.Attribute (.Name "self" p6) f p7)) p9.line (ksEnv q sc L fI (.ref cda) cc) = pure false)
    (T : SupTxt prog K mg C fI q f params body sc) {x t0 : Addr} {v : Value} (X : K.In s.heap) (hlim : s.heap.NoLimit) (hG : s.heap.Ns mainGlobals mg) (hB : s.heap.Ns builtinsNs mb) (hbb : ∀ x : Str, x ≠ "__name__" → mb x = bootBuiltins x)
    (hx : s.heap.get? x = some (excO C t0)) (hnx : K.lookup x = none) (hxg : x ≠ C) (hroom : A.depth < recursionLimit)
    (hbind : ∀ (cc cda : Addr) (doc pm ct : Value) (an : Option Addr), bindArgs (fnX "__init__" q params body sc [("__class__", cc)] .none .none doc pm an (.ref cda) ct) ⟨[.ref x, v], []⟩ = pure [(("self" : Str), .ref x), (f, v)])
    (har : (params.posonlyargs ++ params.args).head? = some ar) (harn : ar.arg = "self") (hself : sc.names.lookup ("self" : Str) = some .local) (hf : sc.names.lookup f = some .local) (hks : sc.names.lookup ("super" : Str) = some .globalImplicit) (hkc : sc.names.lookup ("__class__" : Str) = some .free)
    (hcell : ∀ y ∈ sc.names, y.2 ≠ .cell) (hco : sc.isCoroutine = false) (hgen : sc.isGenerator = false) (hk : sc.kind = .function) (hfs : f ≠ "self") (hfd : (f == ("__debug__" : Str)) = false)
    (hq : ∀ h' tk dx, InitEnd s.heap h' x C dx f v → R (.ok (.ret .none)) { s with heap := h', toks := tk }) :
    codeAny (model prog w) A (.call (.ref fI) ⟨[.ref x, v], []⟩) R s := by
  obtain ⟨oc, od, doc, pm, an, cda, cc, ct, osl, ccl, cdd, vs, ccs, file, tf, cl, cld, csl, ho, hcd, hcode, hvs, hfile, hcellO⟩ := T.fn
  obtain ⟨nm, qn, N, bs, bm, sn, sub, ab, col, dd, k0, k1, k2, k3, k5, hC, hbm⟩ := T.cls
  subst hbody
  refine ks_codeAny_call_defAt (fd := fnX "__init__" q params _ sc [("__class__", cc)] .none .none doc pm an (.ref cda) ct) (binds := [(("self" : Str), .ref x), (f, v)]) hroom (X _ _ ho) rfl hlim (codeRec_of X hcd) rfl (.of_eq (hbind _ _ _ _ _ _)) hcell (fun y hy => ?_) (fun h₁ hns k => ?_) hco hgen hk
  · simp only [List.mem_cons, List.not_mem_nil, or_false] at hy
    rcases hy with rfl | rfl
    · exact hself
    · exact hf
  have X₁ : K.In h₁ := X.keeps k
  have hx₁ := k _ _ hx
  have hCl : clsIn K C = some { name := nm, bases := bs, mro := .ref C :: bm, ns := N, qualname := qn, hasDict := true, slotNames := sn, subclasses := sub, abstract := ab, collection := col, hasDel := false } := by unfold clsIn; rw [hC] <;> rfl
  have I₁ : InstAt h₁ x (excO C t0) C none := ⟨hx₁, rfl, rfl, trivial⟩
  obtain ⟨s1, s2, s3, s4, s5⟩ := s
  refine ks_wpAt_execs_cons (ks_wpAt_Expr_any (ks_wpAt_MethodCall ?_ (he _)) (hi _ _ _) (hw1 _ _ _))
  refine ks_wpAt_super_base hks hkc (by decide) rfl (X₁ _ _ ho) rfl har rfl (X₁ _ _ hcode) rfl hvs hfile T.top ?_
  refine ks_loadName_global hk hks (loadGlobal_builtin (hG.keeps k) T.msup (hB.keeps k) ((hbb _ (by decide +kernel)).trans (by decide +kernel)) ⟨rfl, ?_⟩)
  refine wpAny_loadName_free hk hkc rfl ⟨_, X₁ _ _ hcellO, rfl⟩ ?_
  rw [harn]
  have lkS : ([(f, v), (("self" : Str), Value.ref x)] : List (Str × Value)).lookup ("self" : Str) = some (.ref x) := by
    have e : (("self" : Str) == f) = false := by simpa using fun z : ("self" : Str) = f => hfs z.symm
    simp [List.lookup, e]
  have lkF : ([(f, v), (("self" : Str), Value.ref x)] : List (Str × Value)).lookup f = some v := by simp [List.lookup]
  refine wpAny_loadName_local hk hself hns lkS ?_
  have hC₁ : h₁.get? C = _ := X₁ _ _ hC
  refine ks_wpAny_isType_cls hC₁ rfl ⟨rfl, ?_⟩
  refine ks_wpAny_call_super hC₁ rfl hx₁ rfl (fun c e => by cases e) (looks_mroIn X₁ T.mroC) (fun h₂ e2 k2 => ?_)
  have X₂ : K.In h₂ := X₁.keeps k2
  have hx₂ := k2 _ _ hx₁
  have I₂ : InstAt h₂ x (excO C t0) C none := ⟨hx₂, rfl, rfl, trivial⟩
  have hsup : alongIn K "__init__" (((.ref C :: bm : List Value).dropWhile (· != .ref C)).drop 1) = some (some (.builtin "ValueError.__init__")) := by
    have := T.sup
    unfold ks_superIn at this
    rw [hCl] at this
    exact this
  refine kxs_getMethod kxs_ValueError e2 (looks_opaque X₂ T.any) (l₀ := .ref C :: bm) (fun A Q E s k q => wpAny_bind ((looks_clsIn X₂ hCl) A _ E s k (wpAny_pure q))) rfl X₂ hsup (I₂.type.andThen (looks_subIn X₂ T.subV)) hxg (by decide) ?_
  have hu : (h₂.push (kxs_mw "ValueError.__init__" x)).get? h₂.objs.size = some (kxs_mw "ValueError.__init__" x) := Heap.get?_push_at rfl rfl
  refine kxs_callWith (i := "ValueError.__init__") (x := x) (by rfl) (evalArgs_plain ?_)
  show wpAny _ _ (spliced ((false, eval (.Constant (.str msg) j p3) _) :: [])) _ _ _
  refine Calls.spliced_cons (Calls.Constant_str (Calls.spliced_nil ⟨hu, ?_⟩))
  have k3 : ∀ b o, h₂.get? b = some o → (h₂.push (kxs_mw "ValueError.__init__" x)).get? b = some o := fun b o e => Heap.get?_push_of_some _ e
  refine call_bwV (k3 _ _ (X₂ _ _ hC)) (k3 _ _ hx₂) hu (by show 1 ≤ sizeLine; decide) fun h₄ t1 k4 hx₄ => ?_
  have keep4 : ∀ b o, b ≠ x → h₁.get? b = some o → h₄.get? b = some o := fun b o hb e => k4 b o hb (k3 b o (k2 b o e))
  have X₄ : K.In h₄ := fun b o e => keep4 b o (fun z => by rw [z, hnx] at e; cases e) (X₁ b o e)
  have hns₄ : h₄.Ns s1.objs.size (fun y => ([(f, v), (("self" : Str), Value.ref x)] : List (Str × Value)).lookup y) := by
    refine Heap.Ns.at hns fun o e => keep4 _ o (fun z => ?_) e
    have := Heap.lt_size hx
    rw [← z] at this
    exact absurd this (Nat.lt_irrefl _)
  -- self.f = f
  refine ks_wpAt_execs_cons (ks_wpAt_Assign_Attr ?_ (hw2 _ _ _))
  refine wpAt_of_wpAny (wpAny_Name (wpAny_loadName_local hk hf hns₄ lkF ?_) hfd)
  refine wpAny_Name (wpAny_loadName_local hk hself hns₄ lkS ?_) (by decide)
  refine set_plain X₄ (ox := excO C t1) (od := none) ⟨hx₄, rfl, rfl, trivial⟩ T.sa ?_
  refine exc_osa X₄ hx₄ hCl (show refsVE (.ref C :: bm) = true from hbm) rfl T.noN (fun h₅ tk₅ dx k₅ dn dne hx₅ hn₅ => ?_)
  show _root_.PySem.wpAt _ _ _ (execs _ _) _ _ _
  refine wpAt_of_wpAny (wpAny_execs_nil (hq h₅ tk₅ dx ⟨fun b o hb e => k₅ b o hb (keep4 b o hb (k b o e)), ⟨t1, hx₅⟩, ?_, dne, hn₅⟩))
  exact Nat.le_of_lt (Nat.lt_of_lt_of_le hns₄.lt dn)
/-- the written part's own facts of the __init__ of that shape -/
structure InitForm (q f msg : Str) (fI : Addr) (params : Arguments) (body : List Stmt) (sc : Scope) : Prop where
  ex : ∃ (j : Nat) (pl : PySem.Env → Sem Bool) (p0 p1 p2 p3 p4 p5 p6 p7 p8 p9 : Pos) (ar : Arg), body = [.Expr (.Call (.Attribute (.Call (.Name "super" p0) [] [] p1) "__init__" p2) [.Constant (.str msg) j p3] [] p4) p5, .Assign [.Attribute (.Name "self" p6) f p7] (.Name f p8) p9] ∧
    (∀ env : PySem.Env, eval (.Call (.Attribute (.Call (.Name "super" p0) [] [] p1) "__init__" p2) [.Constant (.str msg) j p3] [] p4) env = (do
      let ov ← attributeBase (.Call (.Name "super" p0) [] [] p1) "__init__" env (eval (.Call (.Name "super" p0) [] [] p1) env)
      standAt p2.atName
      let (f, first) ← holding [ov] (getMethod ov "__init__" (pl env))
      callWith p4 f first (backTo p4 (starEach [.Constant (.str msg) j p3] env)) [])) ∧
    (∀ (L cda cc : Addr), interactive (ksEnv q sc L fI (.ref cda) cc) = false) ∧ (∀ (L cda cc : Addr), swapsWith (.Call (.Attribute (.Call (.Name "super" p0) [] [] p1) "__init__" p2) [.Constant (.str msg) j p3] [] p4) none p5.line (ksEnv q sc L fI (.ref cda) cc) = pure false) ∧
    (∀ (L cda cc : Addr), swapsWith (.Name f p8) (some (.Attribute (.Name "self" p6) f p7)) p9.line (ksEnv q sc L fI (.ref cda) cc) = pure false) ∧
    (params.posonlyargs ++ params.args).head? = some ar ∧ ar.arg = "self"
  bind : ∀ (x : Addr) (v : Value) (cc cda : Addr) (doc pm ct : Value) (an : Option Addr), bindArgs (fnX "__init__" q params body sc [("__class__", cc)] .none .none doc pm an (.ref cda) ct) ⟨[.ref x, v], []⟩ = pure [(("self" : Str), .ref x), (f, v)]
  self : sc.names.lookup ("self" : Str) = some .local
  fld : sc.names.lookup f = some .local
  sup : sc.names.lookup ("super" : Str) = some .globalImplicit
  cls : sc.names.lookup ("__class__" : Str) = some .free
  cell : ∀ y ∈ sc.names, y.2 ≠ .cell
  co : sc.isCoroutine = false
  gen : sc.isGenerator = false
  kind : sc.kind = .function
  fs : f ≠ "self"
  fd : (f == ("__debug__" : Str)) = false
/-- a made error -/
structure OwnMade (h h' : Heap) (e C d : Addr) (f : Str) (v : Value) : Prop where
  keep : ∀ b o, h.get? b = some o → h'.get? b = some o
  new : h.objs.size ≤ e
  obj : ∃ oe vs, h'.get? e = some oe ∧ oe.cls = .ref C ∧ oe.dict = some d ∧ oe.data = .fields vs ∧ vs[1]? = some .none
  dbig : h.objs.size ≤ d
  dne : d ≠ e
  ns : h'.Ns1 d (fun y => if y = f then some v else none)
theorem one_size (v : Value) : [v].length ≤ sizeLine := by show 1 ≤ sizeLine; decide
theorem err_made {msg : Str} (T : SupTxt prog K mg C fI q f params body sc) (B : InitForm q f msg fI params body sc) {v : Value} (X : K.In s.heap) (hlim : s.heap.NoLimit) (hG : s.heap.Ns mainGlobals mg) (hB : s.heap.Ns builtinsNs mb) (hbb : ∀ x : Str, x ≠ "__name__" → mb x = bootBuiltins x) (hroom : A.depth + 1 < recursionLimit)
    (hq : ∀ h' tk e d, OwnMade s.heap h' e C d f v → R (.ok (.ret (.ref e))) { s with heap := h', toks := tk }) :
    codeAny (model prog w) A (.call (.ref C) ⟨[v], []⟩) R s := by
  obtain ⟨nm, qn, N, bs, bm, sn, sub, ab, col, dd, k0, k1, k2, k3, k5, hC, hbm⟩ := T.cls
  obtain ⟨hp, g, dr, tk, os⟩ := s
  have k : ∀ b o, hp.get? b = some o → ((hp.push (kdv_tup [v])).push (excO C hp.objs.size)).get? b = some o := fun b o e => Heap.get?_push_of_some _ (Heap.get?_push_of_some _ e)
  have hget : ((hp.push (kdv_tup [v])).push (excO C hp.objs.size)).get? (hp.objs.size + 1) = some (excO C hp.objs.size) := by heap_get
  have hnx : K.lookup (hp.objs.size + 1) = none := by
    cases e : K.lookup (hp.objs.size + 1) with
    | none => rfl
    | some o =>
      have z : hp.get? (hp.objs.size + 1) = some o := X _ _ e
      exact absurd (Nat.lt_of_succ_lt (Heap.lt_size z)) (Nat.lt_irrefl _)
  have hxg : hp.objs.size + 1 ≠ C := fun z => by rw [z, hC] at hnx; cases hnx
  refine call_own PySem.F.excBase_ValueError (fun X => refsVE_contains X bm hbm) (X _ _ hC) (looks_findIn X T.iC) (fun self => bind_fn X self T.tC) (one_size v) ?_
  obtain ⟨j, pl, p0, p1, p2, p3, p4, p5, p6, p7, p8, p9, ar, hbody, he, hi, hw1, hw2, har, harn⟩ := B.ex
  refine err_init (s := ⟨(hp.push (kdv_tup [v])).push (excO C hp.objs.size), g, dr, tk, os⟩) hbody he hi hw1 hw2 T (X.keeps k) (hlim.keeps k) (hG.keeps k) (hB.keeps k) hbb hget hnx hxg ?_ (fun cc cda doc pm ct an => B.bind _ _ cc cda doc pm ct an) har harn B.self B.fld B.sup B.cls B.cell B.co B.gen B.kind B.fs B.fd fun h' tk' dx ⟨k', hx, dn, dne, hns⟩ => ?_
  · show A.depth + 1 < recursionLimit
    exact hroom
  · have old : ∀ b o, hp.get? b = some o → h'.get? b = some o := fun b o e => k' b o (Nat.ne_of_lt (Nat.lt_succ_of_lt (Heap.lt_size e))) (k b o e)
    have z : hp.objs.size + 1 + 1 ≤ dx := by
      have q := dn
      rw [Heap.size_push, Heap.size_push] at q
      exact q
    obtain ⟨t1, hx⟩ := hx
    exact ⟨rfl, hq h' tk' (hp.objs.size + 1) dx ⟨old, Nat.le_succ _, ⟨_, _, hx, rfl, rfl, rfl, rfl⟩, Nat.le_trans (Nat.le_trans (Nat.le_succ _) (Nat.le_succ _)) z, dne, hns⟩⟩
end
end DLE
/-! DL19: raise, and what may raise. -/
namespace DL
open PySem PySem.Spec PyProof.Rows L2

/-- the errors of Z are taken where X runs -/
structure Tk (X : Cx) (Z : XZ) : Prop where
  ex : ∃ W : WX, Takes X W ∧ ∀ (x : Ex) (S : Sto) (ρ : Pl) (H : Hp) (cls : Value) (d : Option Addr) (σ : L2.St), Z x S ρ H → FlX X.K H (Live S ρ) x cls d → W cls d σ H
theorem relO_one {f : Str} {v : V} {v' : Value} (r : RelV v v') (g : Str) : RelO (List.lookup g [(f, v)]) (if g = f then some v' else none) := by
  by_cases hw : g = f
  · subst hw
    rw [if_pos rfl]
    have q : List.lookup g [(g, v)] = some v := by simp [List.lookup]
    rw [q]
    exact r
  · rw [if_neg hw]
    have qw : (g == f) = false := by simpa using hw
    have q2 : List.lookup g [(f, v)] = none := by simp [List.lookup, qw]
    rw [q2]
    trivial
section
variable {X : Cx} {C fI : Addr} {x q f msg : Str} {params : Arguments} {body : List Stmt} {sc : Scope} {Z : XZ}
/-- C(e) -/
def tMkE (C : Addr) (f : Str) (ta : TA) : L2.St → Hp → XK → Prop := fun σ H Q => ta σ H fun vs H1 => ∃ v, vs = [v] ∧ ∀ d, H1 d = none → Q (.ref C) (some d) (upd H1 d (.xd [(f, v)]))
theorem pmk_err {a : Expr} {ta : TA} {p pos : Pos} {k : Nat} (T : DLE.SupTxt X.prog X.K X.mg C fI q f params body sc) (B : DLE.InitForm q f msg fI params body sc) (hm : X.mg x = some (.ref C)) (hr : Room k X.A) (ha : PA X [a] ta) (hg : Gl X x)
    (hdb : (x == ("__debug__" : Str)) = false := by decide) (he : starEach (a :: []) X.env = (false, eval a X.env) :: starEach [] X.env := by rfl) (hpl : (backTo pos (starEach [] X.env)).any (·.1) = false := by rfl) :
    PMk X (.Call (.Name x p) [a] [] pos) (tMkE C f ta) := by
  intro pins s σ H Q I h
  refine wpAny_Call_Name_kw (ld_glob I hg hm ?_ hdb)
  refine PySem.W.callWith_K (h₀ := X.base) I.ok.mod.kin T.kC (thn (ha.run pos pins s σ H _ I h) fun us s1 hh => ?_) he hpl
  obtain ⟨vs, H1, I1, r1, v, ev, q1⟩ := hh
  subst ev
  refine ⟨I1.kIn, ?_⟩
  cases r1 with
  | cons rv rn =>
    rename_i v' us'
    cases rn
    show wpAny _ _ (call (.ref C) [v']) _ _ _
    have hlim := I1.nolimit
    have hG := I1.ok.mod.glob.keeps I1.bk
    obtain ⟨mb, hB0, hbb⟩ := I1.ok.mod.blt
    have hB := hB0.keeps I1.bk
    obtain ⟨hp, g, dr, tk, os⟩ := s1
    refine wpAny_call (DLE.err_made T B I1.kIn hlim hG hB hbb (by have := hr.dp; omega) fun h' tk' e d M => ?_)
    show MkP X pins σ Q (.ref e) ⟨h', g, dr, tk', os⟩
    obtain ⟨oe, fv, hoe, hc, hd, hdat, h1⟩ := M.obj
    have hns := M.ns
    obtain ⟨G', g1, g2⟩ := restrict h' fun b => decide (b ≠ e)
    have gk : ∀ b, b ≠ e → G'.get? b = h'.get? b := fun b hb => g1 b (decide_eq_true hb)
    have ge : G'.get? e = none := g2 e (by simp)
    have old : ∀ b o, hp.get? b = some o → G'.get? b = some o := fun b o q => (gk b (Nat.ne_of_lt (Nat.lt_of_lt_of_le (Heap.lt_size q) M.new))).trans (M.keep b o q)
    have ob : ObjOk X.prog X.w (upd H1 d (.xd [(f, v)])) G' d (.xd [(f, v)]) :=
      ⟨_, hns.at (fun o q => (gk d M.dne).trans q), fun g => relO_one rv g⟩
    have J : Inv X pins σ (upd H1 d (.xd [(f, v)])) ⟨G', g, dr, tk', os⟩ := I1.laid (t' := tk') old M.dbig ob
    refine ⟨e, oe, fv, ⟨G', g, dr, tk', os⟩, _, .ref C, some d, rfl, J, fun b o q => ?_, ge, hoe, ⟨hc, hd⟩, hdat, h1, ?_, rfl, I1.bare, raises_own T.exC T.tyC, q1 d (I1.hok.fresh M.dbig)⟩
    · by_cases hb : b = e
      · have q' : G'.get? b = some o := q
        rw [hb, ge] at q'; cases q'
      · exact (gk b hb).symm.trans q
    · rw [upd_ne (Ne.symm M.dne)]
      exact I1.hok.fresh M.new
/-- raise x(e), f its field -/
def raiseEx (x f : Str) (w : W) : M Fl := fun S => match w with
  | .d v => .ex ⟨x, [(f, v)]⟩ S
  | _ => .no
abbrev raiseM (x f : Str) (fa : Env → M W) : Env → M Fl := fun δ => bd (fa δ) fun w => raiseEx x f w
theorem ds_raise {a : Expr} {fa : Env → M W} {p pos pos2 : Pos} {k : Nat} (hc : X.calm = true) (tk : Tk X Z) (T : DLE.SupTxt X.prog X.K X.mg C fI q f params body sc) (B : DLE.InitForm q f msg fI params body sc) (hm : X.mg x = some (.ref C)) (hn : PySem.W.nsIn X.K mainGlobals x = some (some (.ref C))) (hr : Room k X.A)
    (ha : PE X a (tE X.K Z fa)) (hg : Gl X x) (hdb : (x == ("__debug__" : Str)) = false := by decide) (he : starEach (a :: []) X.env = (false, eval a X.env) :: starEach [] X.env := by rfl) (hpl : (backTo pos (starEach [] X.env)).any (·.1) = false := by rfl) :
    PS X (.Raise (some (.Call (.Name x p) [a] [] pos)) none pos2) (tS X.K Z (raiseM x f fa)) := by
  obtain ⟨W, hW, hZ⟩ := tk.ex
  refine (ps_raise hc hW (pmk_err T B hm hr (pa_cons ha pa_nil he) hg hdb he hpl)).imp fun D σ H h => ?_
  refine (tS.bind (Rα := RW X.K) (f := fa) (g := fun δ w => raiseEx x f w) h).mono fun v H1 ⟨δ, w, S, ρ, R, re, rw, g⟩ => ?_
  refine ⟨v, rfl, fun d hd => ?_⟩
  unfold raiseEx at g
  cases w with
  | d y =>
    have e1 : Ext S ρ H1 S ρ (upd H1 d (.xd [(f, v)])) := Ext.frz hd
    have R1 := R.frz (o := .xd [(f, v)]) hd
    refine hZ ⟨x, [(f, y)]⟩ S ρ _ _ _ σ (g ρ _ e1 R1) ⟨C, d, [(f, v)], hn, rfl, rfl, upd_same, R.notLive hd, fun p hp => ?_⟩
    simp only [List.mem_singleton] at hp
    subst hp
    have rw : Rp X.K H1 (Live S ρ) v y := rw
    exact ⟨v, by simp [List.lookup], Rp.ext e1.stabL e1.newL _ _ rw⟩
  | r n => exact g.elim
  | s n => exact g.elim
  | e y => exact g.elim
end
end DL
/-! DL20: defs that may raise, and their calls. -/
namespace DL
open PySem PySem.Spec PyProof.Rows L2

/-- what a def lets out: the errors that E bears -/
def ZE (K : PySem.W.Frag) (E : XK) : XZ := fun x S ρ H => ∀ cls d, FlX K H (Live S ρ) x cls d → E cls d H
section
variable {P : Program} {w : World} {K : PySem.W.Frag} {mg : Str → Option Value} {base : Heap}
theorem fn_runX {x qual : Str} {st : Stmt} {f : Addr} {fd : FuncData} {N ps : List Str} {j k n : Nat} {b : Env → M Fl} (F : FunA K x qual st f fd) (S : FnScope N ps (defScope st)) (hk : ps.length = k) (hn : N.length = n)
    (hb : ∀ (cdv : Value) (A : Around) (outer : List PySem.Env) (s : Shared) (H : Hp) (E : XK), Room j (A.deeper (envOfC qual (defScope st) s.heap.objs.size f cdv)) → A.guards = some [] → Tk (cxOf (L2.CX P w) P w K mg base N qual (defScope st) f cdv A outer s H E) (ZE K E) →
      PSs (cxOf (L2.CX P w) P w K mg base N qual (defScope st) f cdv A outer s H E) (defBody st) (tS K (ZE K E) b)) :
    FnG P w K mg base (L2.CX P w) (j + 1) f fd ps (spF K (ZE K) (runD k n b)) := by
  have hlen : ∀ vs H Q E, spF K (ZE K) (runD k n b) vs H Q E → vs.length = ps.length := fun vs H Q E h => by
    obtain ⟨ws, S, ρ, R, rw, g⟩ := h
    unfold runD at g
    split at g
    · rename_i hl
      rw [hk, ← hl]
      exact (Paired.length rw).symm
    · exact g.elim
  refine FnG.of F S hlen fun cdv A outer s H vs Q E hr hgd h => ⟨_, hb cdv A outer s H E hr hgd ⟨_, takes_of rfl rfl rfl rfl, fun x S ρ H cls d σ z fl => z cls d fl⟩, ?_⟩
  have hl := hlen _ _ _ _ h
  obtain ⟨ws, S, ρ, R, rw, g⟩ := h
  unfold runD at g
  split at g
  · rename_i hw
    refine ⟨_, S, ρ, R, ?_, gives_imp (gives_bd g) (fun fl S' q ρ' H' e r => ?_) fun _ _ q => q⟩
    · unfold L2.start
      rw [hl, hn, hk]
      exact start_rep rw
    · cases fl with
      | nx δ => exact fun σ re => q ρ' H' .non e r .non
      | rt w => exact fun v rv => q ρ' H' v e r rv
      | bk δ => exact q.elim
      | ct δ => exact q.elim
  · exact g.elim
end
section
variable {X : Cx} {Z : XZ} {pos : Pos} {a : Expr} {es : List Expr} {fr : Env → M (List W)} {x : Str} {p : Pos} {f : Addr} {fd : FuncData} {ps : List Str} {k : Nat} {F : List W → M W}
/-- f(a, ..) of an own def that may raise -/
theorem dcallX (tk : Tk X Z) (FO : FnG X.prog X.w X.K X.mg X.base (L2.CX X.prog X.w) k f fd ps (spF X.K (ZE X.K) F)) (hr : Room k X.A) (hG : X.A.guards = some []) (hg : Gl X x) (hm : X.mg x = some (.ref f)) (hk : PySem.W.keepIn X.K (.ref f) = true) (hb : Binds X.K fd ps [])
    (ha : PA X (a :: es) (tA X.K Z fr)) (hdb : (x == ("__debug__" : Str)) = false := by decide) (he : starEach (a :: es) X.env = (false, eval a X.env) :: starEach es X.env := by rfl) (hpl : (backTo pos (starEach es X.env)).any (·.1) = false := by rfl) :
    PE X (.Call (.Name x p) (a :: es) [] pos) (tE X.K Z (calM fr F)) := by
  obtain ⟨W, hW, hZ⟩ := tk.ex
  refine (peG (E := fun cls d H => ∃ x S ρ, Z x S ρ H ∧ FlX X.K H (Live S ρ) x cls d) FO hr hG hg hm hk hb .nil (passes_call hW fun cls d σ H ⟨x, S, ρ, z, fl⟩ => hZ x S ρ H cls d σ z fl) ha hdb he hpl).imp fun σ H Q h => ?_
  refine (tE.call h).mono fun vs H1 q => ?_
  rw [List.append_nil]
  obtain ⟨ws, S, ρ, R, rw, g⟩ := q
  exact ⟨ws, S, ρ, R, rw, gives_imp g (fun _ _ q => q) fun x S' z ρ' H' e r cls d fl => ⟨x, S', ρ', z ρ' H' e r, fl⟩⟩
end
/-- .. where the arguments are plain data that it does not change, and the answer is plain data: nothing of the store is seen, nothing is left -/
def pureX (F : List W → M W) : List W → M W := fun ws S => match allD ws with
  | some _ => match F ws [] with
    | .ok (.d x) _ => .ok (.d x) S
    | .ex x _ => .ex x S
    | _ => .no
  | none => .no
theorem FlX.less {K : PySem.W.Frag} {H : Hp} {L L' : Addr → Prop} {x : Ex} {cls : Value} {d : Option Addr} (h : FlX K H L x cls d) (hl : ∀ a, L' a → L a) : FlX K H L' x cls d := h.ext (fun _ _ q _ => q) fun a q => .inl (hl a q)
theorem sp_pureX {K : PySem.W.Frag} {F : List W → M W} {vs : List V} {H : Hp} {Q : VK} {E : XK} (h : spF K (ZE K) (pureX F) vs H Q E) : spF K (ZE K) F vs H Q E := by
  obtain ⟨ws, S, ρ, R, rw, g⟩ := h
  unfold pureX at g
  split at g
  · rename_i ds ed
    have R0 : Rel K [] ⟨[], fun a => Live S ρ a⟩ H := ⟨rfl, fun a q => R.tracked q, fun a q z => by obtain ⟨n, o, h1, _⟩ := z; simp at h1, fun n o q => by simp at q, fun n m a o u q => by simp at q⟩
    have hl : Live [] ⟨[], fun a => Live S ρ a⟩ = Live S ρ := by
      funext a
      refine propext ⟨fun q => ?_, fun q => .inr q⟩
      rcases q with ⟨n, o, h1, _⟩ | q
      · simp at h1
      · exact q
    refine ⟨ws, [], ⟨[], fun a => Live S ρ a⟩, R0, by rw [hl]; exact RWs_plain ed rw, ?_⟩
    -- what is kept for the caller
    have up : ∀ (S0 : Sto) (ρ' : Pl) (H' : Hp), Ext [] ⟨[], fun a => Live S ρ a⟩ H S0 ρ' H' → Ext S ρ H S ρ H' ∧ Rel K S ρ H' ∧ ∀ a, Live S ρ a → Live S0 ρ' a := fun S0 ρ' H' ex => by
      have keep : ∀ (a : Addr) (o : HO), H a = some o → H' a = some o := fun a o q => ex.stab a o q fun z => by
        obtain ⟨n, o, h1, _⟩ := z; simp at h1
      have e2 : Ext S ρ H S ρ H' := ⟨fun _ _ q => q, fun a o q _ => keep a o q, fun _ q => .inl q, rfl, fun a o u q => keep a _ q⟩
      refine ⟨e2, ⟨R.len, fun a q => ?_, R.dj, fun n o q1 q2 => ?_, R.inj⟩, fun a q => .inr (by rw [ex.grd]; exact q)⟩
      · obtain ⟨o, h⟩ := R.gt a q; exact ⟨o, keep a o h⟩
      · obtain ⟨a, ho, z1, z2, z3⟩ := R.ob n o q1 q2
        exact ⟨a, ho, z1, keep a ho z2, z3.ext e2⟩
    split at g
    · rename_i x S0 e
      rw [e]
      intro ρ' H' v ex r' rv
      obtain ⟨e2, r2, hlv⟩ := up S0 ρ' H' ex
      have rv : Rp K H' (Live S0 ρ') v x := rv
      exact g ρ H' v e2 r2 (Rp.ext (fun a o q _ => q) (fun a q => .inl (hlv a q)) x v rv)
    · rename_i x S0 e
      rw [e]
      intro ρ' H' ex r' cls d fl
      obtain ⟨e2, r2, hlv⟩ := up S0 ρ' H' ex
      exact g ρ H' e2 r2 cls d (fl.less hlv)
    · exact g.elim
  · exact g.elim
theorem fn_pureX {P : Program} {w : World} {K : PySem.W.Frag} {mg : Str → Option Value} {base : Heap} {CX : CXT} {k : Nat} {f : Addr} {fd : FuncData} {ps : List Str} {F : List W → M W}
    (h : FnG P w K mg base CX k f fd ps (spF K (ZE K) F)) : FnG P w K mg base CX k f fd ps (spF K (ZE K) (pureX F)) := h.imp fun _ _ _ _ q => sp_pureX q
end DL
/-! DL21: a caught error that is looked at: its fields, its class. -/
namespace DL
open PySem PySem.Spec PyProof.Rows L2

/-- what an own error class says, for its fields to be read and its class to be asked -/
structure ErrK (K : PySem.W.Frag) (x : Str) : Prop where
  ok : ∀ C : Addr, PySem.W.nsIn K mainGlobals x = some (some (.ref C)) → ExcC K C
/-- e.f of a caught error whose class is one of xs -/
def fldM (xs : List Str) (f : Str) (w : W) : M W := fun S => match w with
  | .e x => if x.cls ∈ xs then (match x.fs.lookup f with | some v => .ok (.d v) S | none => .no) else .no
  | _ => .no
theorem mem_of_lookup {f : Str} {v : D} : ∀ {fs : List (Str × D)}, fs.lookup f = some v → (f, v) ∈ fs
  | [], h => by cases h
  | (g, u) :: fs, h => by
    rw [List.lookup_cons] at h
    split at h
    · rename_i e
      have : f = g := by simpa using e
      subst this
      cases h
      exact List.mem_cons_self
    · exact List.mem_cons_of_mem _ (mem_of_lookup h)
section
variable {X : Cx} {Z : XZ} {e : Expr} {fe : Env → M W} {f : Str} {pos : Pos}
theorem dfld {xs : List Str} (hE : ∀ x ∈ xs, ErrK X.K x) (hN : ∀ x ∈ xs, ∀ C : Addr, PySem.W.nsIn X.K mainGlobals x = some (some (.ref C)) → PySem.W.findIn X.K (.ref C) f = some none) (he : PE X e (tE X.K Z fe)) (hb : attributeBase e f X.env (eval e X.env) = eval e X.env := by rfl) :
    PE X (.Attribute e f pos) (tE X.K Z fun δ => bd (fe δ) (fldM xs f)) := by
  refine ⟨fun pins s σ H Q I h => ?_⟩
  have h1 := tH.bind (Rα := RW X.K) (f := fe) (g := fun _ w => fldM xs f w) h Stb.env
  refine attr_of hb (thn (he.run pins s σ H _ I h1) fun u s1 hh => ?_)
  obtain ⟨v0, H1, I1, ru, ⟨δ, w⟩, S, ρ, R, ⟨_, rw⟩, g⟩ := hh
  have g : Gives (fldM xs f w S) _ _ := g
  unfold fldM at g
  split at g
  · rename_i x
    split at g
    · rename_i hx
      split at g
      · rename_i y hy
        obtain ⟨a, rfl, cls, d, ⟨C, dd, fs, hn, rfl, rfl, hdd, ld, hfs⟩, ha, la⟩ := rw
        obtain rfl : u = Value.ref a := ru
        obtain ⟨v, hv, rv⟩ := hfs _ (mem_of_lookup hy)
        have EK := (hE _ hx).ok C hn
        obtain ⟨oe, hoe, hz, vs, hd⟩ := (show ∃ oe, s1.heap.get? a = some oe ∧ Zc (.ref C) (some dd) oe ∧ ∃ vs, oe.data = .fields vs from (show ObjOk X.prog X.w H1 s1.heap a (.ext fun h => ∃ oe, h.get? a = some oe ∧ Zc (.ref C) (some dd) oe ∧ ∃ vs, oe.data = .fields vs) from I1.hok a _ ha).1)
        have hx' : ObjOk X.prog X.w H1 s1.heap dd (.xd fs) := I1.hok dd _ hdd
        obtain ⟨mA, hns, hr⟩ := hx'
        obtain ⟨od, ho, hl⟩ := lookIn_ns hns
        obtain ⟨u', hu, ru'⟩ := RelO.some_of (v := v) (o := mA f) (by rw [← hv]; exact hr f)
        have J : PySem.W.InstAt s1.heap a oe C (some od) := ⟨hoe, hz.1, by unfold PySem.W.notCls; rw [hd] <;> rfl, by rw [hz.2]; exact ho⟩
        exact HandSPX.exc_get I1.kIn J EK.hg EK.hk EK.hs (PySem.W.findObj_own EK.hd (hN _ hx C hn) rfl (by rw [hl, hu])) (handed_of ru') ⟨v, H1, I1.tok _, ru', g ρ H1 v Ext.refl R rv⟩
      · exact g.elim
    · exact g.elim
  · exact g.elim
/-- isinstance(e, C) of a caught error: what the class of each says -/
def isiEM (tb : List (Str × Bool)) (w : W) : M W := fun S => match w with
  | .e x => match tb.lookup x.cls with | some b => .ok (okb b) S | none => .no
  | _ => .no
theorem mem_of_lookup' {f : Str} {v : Bool} : ∀ {fs : List (Str × Bool)}, fs.lookup f = some v → (f, v) ∈ fs
  | [], h => by cases h
  | (g, u) :: fs, h => by
    rw [List.lookup_cons] at h
    split at h
    · rename_i e
      have : f = g := by simpa using e
      subst this
      cases h
      exact List.mem_cons_self
    · exact List.mem_cons_of_mem _ (mem_of_lookup' h)
def rIsX (K : PySem.W.Frag) (Cy : Addr) : List V → Hp → VK → Prop := fun xs H Q => ∃ (a C : Addr) (d : Option Addr) (b : Bool), xs = [.ref a, .ref Cy] ∧ H a = some (excAt a (.ref C) d) ∧ ExcC K C ∧ PySem.W.kitOne K (.ref C) (.ref Cy) = some b ∧ d.isSome = true ∧ (∃ dd fs, d = some dd ∧ H dd = some (.xd fs)) ∧ Q (.bl b) H
theorem call_isX {Cy : Addr} : CallR X (.builtin "isinstance") (rIsX X.K Cy) := by
  intro pins s σ H xs us Q I r h
  obtain ⟨a, C, d, b, rfl, ha, EK, e, _, ⟨dd, fs, rfl, hdd⟩, q⟩ := h
  cases r with
  | cons rx rr =>
    cases rr with
    | cons rt rr =>
      cases rr
      cases rx
      cases rt
      obtain ⟨oe, hoe, hz, vs, hd⟩ := (show ObjOk X.prog X.w H s.heap a (.ext fun h => ∃ oe, h.get? a = some oe ∧ Zc (.ref C) (some dd) oe ∧ ∃ vs, oe.data = .fields vs) from I.hok a _ ha).1
      have hx' : ObjOk X.prog X.w H s.heap dd (.xd fs) := I.hok dd _ hdd
      obtain ⟨mA, hns, hr⟩ := hx'
      obtain ⟨od, ho, hl⟩ := lookIn_ns hns
      have J : PySem.W.InstAt s.heap a oe C (some od) := ⟨hoe, hz.1, by unfold PySem.W.notCls; rw [hd] <;> rfl, by rw [hz.2]; exact ho⟩
      exact PySem.W.kia_one (PySem.W.kitx_exc (by obtain ⟨cd, hc, _⟩ := PySem.W.any_some EK.hd; rw [hc]; rfl) EK.hg EK.hk EK.hs EK.ha EK.hn EK.ht EK.hm) I.kIn J e (fun z => nomatch z) fun tk => ⟨.bl b, H, I.kept (t' := tk) fun _ _ z => z, rfl, q⟩
theorem disiE {tb : List (Str × Bool)} {y : Str} {Cy : Addr} {p p2 : Pos} (hE : ∀ q ∈ tb, ErrK X.K q.1) (hK : ∀ q ∈ tb, ∀ C : Addr, PySem.W.nsIn X.K mainGlobals q.1 = some (some (.ref C)) → PySem.W.kitOne X.K (.ref C) (.ref Cy) = some q.2) (hg : Gl X "isinstance") (hm : X.mg "isinstance" = none) (hgy : Gl X y) (hmy : X.mg y = some (.ref Cy)) (ha : PE X e (tE X.K Z fe))
    (hdy : (y == ("__debug__" : Str)) = false := by decide) (he : starEach [e, .Name y p2] X.env = (false, eval e X.env) :: starEach [.Name y p2] X.env := by rfl) (hpl : (backTo pos (starEach [.Name y p2] X.env)).any (·.1) = false := by rfl) :
    PE X (.Call (.Name "isinstance" p) [e, .Name y p2] [] pos) (tE X.K Z fun δ => bd (fe δ) (isiEM tb)) := by
  have hT : PE X (.Name y p2) (tC (.ref Cy)) := pe_glob hgy hmy rfl hdy
  refine (pe_callB (r := rIsX X.K Cy) call_isX hg hm (by decide +kernel) (pa_cons ha (pa_cons hT pa_nil) he) (he := he) (hpl := hpl)).imp fun σ H Q h => ?_
  refine (tH.bind (Rα := RW X.K) (f := fe) (g := fun _ w => isiEM tb w) h Stb.env).mono fun v H1 ⟨⟨δ, w⟩, S, ρ, R, ⟨r0, r1⟩, g⟩ => ?_
  change Gives (isiEM tb w S) _ _ at g
  unfold isiEM at g
  split at g
  · rename_i x
    split at g
    · rename_i b hb
      obtain ⟨a, rfl, cls, d, ⟨C, dd, fs, hn, rfl, rfl, hdd, ld, hfs⟩, hha, la⟩ := r1
      have hmem := mem_of_lookup' hb
      exact ⟨a, C, some dd, b, rfl, hha, (hE _ hmem).ok C hn, hK _ hmem C hn, rfl, ⟨dd, fs, rfl, hdd⟩, g ρ H1 (.bl b) Ext.refl R (.bl b)⟩
    · exact g.elim
  · exact g.elim
end
end DL
/-! DL22: an error that a try has caught stands on, tracked. -/
namespace DL
open PySem PySem.Spec PyProof.Rows L2

section
variable {X : Cx} {pins : List (Addr × Obj)} {σ : List (Option V)} {H : Hp} {s : Shared}
/-- what stands in the heap, made since the entry, is tracked from now on -/
theorem inv_track {a : Addr} {o : HO} {oa : Obj} (I : Inv X pins σ H s) (ha : H a = none) (h0 : X.s_0.heap.get? a = none) (hp : ∀ p ∈ X.pn ++ pins, p.1 ≠ a) (nL : a ≠ X.env.locals) (hoa : s.heap.get? a = some oa) (hnc : ∀ v, oa.data ≠ .cell v)
    (new : ObjOk X.prog X.w (upd H a o) s.heap a o) : Inv X pins σ (upd H a o) s := by
  have ne0 : ∀ {b : Addr} {u : Obj}, X.s_0.heap.get? b = some u → b ≠ a := fun {b u} e z => by rw [z, h0] at e; cases e
  refine ⟨I.ok, I.os, I.bare, ⟨I.base.keep, I.base.slot, fun b u e n x => ?_, I.base.there, fun b xs e => ?_, fun b u v e => ?_, fun b ps e => ?_⟩, I.loc, I.cell, ?_, fun x c e => ?_, fun p q => ?_, fun b u e => ?_, I.len⟩
  · rw [upd_ne (ne0 e)]; exact I.base.free b u e n x
  · have := I.base.tups b xs e
    rw [upd_ne (ne_of_none this ha)]; exact this
  · have := I.base.frzs b u v e
    rw [upd_ne (ne_of_none this ha)]; exact this
  · obtain ⟨more, this⟩ := I.base.tbls b ps e
    exact ⟨more, by rw [upd_ne (ne_of_none this ha)]; exact this⟩
  · rw [upd_ne (Ne.symm nL)]; exact I.free
  · have hc : c ≠ a := fun z => by
      obtain ⟨v, oc, q1, q2⟩ := I.cell x c e
      rw [z, hoa] at q1
      cases q1
      exact hnc _ q2
    rw [upd_ne hc]; exact I.freeC x c e
  · obtain ⟨q1, q2, q3⟩ := I.pin p q
    exact ⟨q1, by rw [upd_ne (hp p q)]; exact q2, q3⟩
  · by_cases hb : b = a
    · subst hb
      rw [upd_same] at e
      cases e
      exact new
    · rw [upd_ne hb] at e
      exact (I.hok b u e).stay (fun _ _ _ q => q) (fun c q => by rw [upd_ne (ne_of_none q ha)]; exact q) (fun c xs q => by rw [upd_ne (ne_of_none q ha)]; exact q)
theorem excAt_ok {P : Program} {w : World} {H : Hp} {h : Heap} {a : Addr} {cls : Value} {d : Option Addr} {oe : Obj} (e : h.get? a = some oe) (z : Zc cls d oe) (hd : ∃ vs, oe.data = .fields vs) : ObjOk P w H h a (excAt a cls d) :=
  ⟨⟨oe, e, z, hd⟩, ⟨oe, e⟩, fun _ _ ⟨o, q, r⟩ k => ⟨o, k o q, r⟩⟩
end
end DL
/-! DL23: try: .. / except C as n: .., where what is caught is looked at behind the suite. -/
namespace DL
open PySem PySem.Spec PyProof.Rows L2

theorem not_frame {B h : Heap} {l : List PySem.Env} {a : Addr} {Z : Obj → Prop} (f : HandSPX.FlyingZ B l a Z h) : a ∉ frs l := by
  obtain ⟨o, vs, e, _, dt⟩ := f.there
  intro m
  obtain ⟨_, u, e', nf⟩ := f.2.2.1.mem m
  cases e.symm.trans e'
  exact nf vs dt
section
variable {X : Cx} {pins : List (Addr × Obj)} {σ : L2.St} {H : Hp} {sI : Shared} {B : Heap} {a : Addr}
theorem new_at_entry (J : Inv X pins σ H sI) (hex : X.ex = []) (nb : ∀ b o, sI.heap.get? b = some o → b ∉ frs X.stack → B.get? b = some o) (hB : B.get? a = none) (nf : a ∉ frs X.stack) :
    X.s_0.heap.get? a = none ∧ ∀ p ∈ X.pn ++ pins, p.1 ≠ a := by
  have no : ∀ o, sI.heap.get? a ≠ some o := fun o e => by
    have := nb a o e nf
    rw [hB] at this; cases this
  refine ⟨?_, fun p hp z => no p.2 (z ▸ (J.pin p hp).1)⟩
  cases e : X.s_0.heap.get? a with
  | none => rfl
  | some o =>
    obtain ⟨u, hu⟩ := J.base.there a o e (by rw [hex]; simp)
    exact (no u hu).elim
end
/-- what the clause wishes of an error of the body: it is taken, and behind the suite its object is known -/
def wKeep (K : PySem.W.Frag) (n : Nat) (c : Value) (i : Nat) (ts : TS) (D : Ends) : WX := fun cls d σ H => σ.length = n → PySem.W.exmOne K cls c = some true ∧
  ∀ a, H a = none → ts { nx := fun σ' H' => H' a = none → D.nx (σ'.set i none) (upd H' a (excAt a cls d)), rt := fun _ _ => False } (σ.set i (some (.ref a))) H
section
variable {X : Cx} {pins : List (Addr × Obj)} {x n : Str} {c : Value} {i : Nat} {body suite : List Stmt} {b₀ : Stmt} {np pos pos' : Pos} {tb : WX → TS} {ts : TS} {D : Ends}
theorem caught_lands {u : Value} {s' : Shared} {xe : Value → Shared → Prop} (ok : X.Ok) (hs : X.stack = X.env :: X.outer) (hf : X.env.frame = some X.env.locals) (hN : X.N.Nodup) (hi : X.N[i]? = some n) (hln : X.env.kindOf n = some .local) (hex : X.ex = [])
    (hg : Gl X x) (hm : X.mg x = some c) (hd : (x == ("__debug__" : Str)) = false) (hsu : ∀ (a : Addr) (q : Addr × Obj) (pn : List (Addr × Obj)), PSs (X.suite a (q :: pn)) (b₀ :: suite) ts) (xx : XE (X.tr (X.pn ++ pins) xe) (wKeep X.K X.N.length c i ts D) u s') :
    wpAny (model X.prog X.w) X.A (noteFrame u X.env) (fun _ s₂ => wpAny (model X.prog X.w) X.A (setFlight u none) (fun _ s₃ => wpAny (model X.prog X.w) X.A (handleBy u X.env [.ExceptHandler (some (.Name x np)) (some n) (b₀ :: suite) pos']) (SP X pins D) X.xe s₃) X.xe s₂) X.xe s' := by
  obtain ⟨a, B, sI, pn', σ', H', cls, d, rfl, J', nb, up, sky, na, os, ag, hw⟩ := xx
  have J : Inv X pins σ' H' sI := J'.ofTry ok
  obtain ⟨hyes, hts⟩ := hw J.len
  have nb' : ∀ b o, sI.heap.get? b = some o → b ∉ frs X.stack → B.get? b = some o := nb
  refine Sky.land Zc.steady (by rw [ok.frames, hs]) hf (by rw [← hs]; exact sky) fun h1 fl1 up1 => ?_
  have nf := not_frame fl1
  have nL : a ≠ X.env.locals := fun z => nf (List.mem_filterMap.mpr ⟨X.env, .head _, by rw [hf, z]⟩)
  have nF : a ∉ X.fs := fun z => by
    obtain ⟨e, m, q⟩ := List.mem_filterMap.mp z
    exact nf (List.mem_filterMap.mpr ⟨e, .tail _ m, q⟩)
  have at1 : Inv X pins σ' H' { s' with heap := h1 } := J.landed nb' fl1.1 (up.trans up1) os ag
  obtain ⟨o1, v1, e1, z1, t1⟩ := fl1.there
  have S1 := at1.suite e1 t1 na nL nF
  have m1 := PySem.W.exm_one (M := model X.prog X.w) (e := a) at1.kIn (fun A Q E s k q => wpAny_typeOf_ref (k _ _ e1) (z1.1.symm ▸ q)) hyes
  refine wpAny_handleBy_cons (codeAny_handlers_test (ld_glob (X := X.suite a ((a, o1) :: (X.pn ++ pins))) S1 hg hm (m1.here ?_) hd)) (fun z => by cases z)
  refine codeAny_handlers_suite_as (HandSPX.lands_againZ fl1 fun h2 fl2 up2 => ?_)
  have at2 : Inv X pins σ' H' { s' with heap := h2 } := J.landed nb' fl2.1 ((up.trans up1).trans up2) os ag
  obtain ⟨o2, v2, e2, z2, t2⟩ := fl2.there
  refine store_ok (X := X.suite a ((a, o2) :: (X.pn ++ pins))) (v := .ref a) (at2.suite e2 t2 na nL nF) hN hi (.inl hln) rfl (fun s3 I3 => ?_) (.inr hln)
  refine wpAny_mono ((hsu a (a, o2) (X.pn ++ pins)).run [] s3 _ H' _ I3 (hts a na)) (fun f s4 q => ?_) (fun _ _ z => z.elim)
  cases f with
  | next =>
    obtain ⟨σ4, H4, I4, q4⟩ := q
    refine gone_ok (X := X.suite a ((a, o2) :: (X.pn ++ pins))) I4 hN hi hln fun s5 I5 => ?_
    obtain ⟨p1, p2, p3, p4, p5⟩ := I5.pin (a, o2) (List.mem_append_left _ (.head _))
    obtain ⟨n1, n2⟩ := new_at_entry J hex nb' fl1.2.1 (by rw [hs]; exact nf)
    exact ⟨_, _, inv_track (I5.unsuite ok) p2 n1 n2 nL p1 p5 (excAt_ok p1 z2 ⟨_, t2⟩), q4 p2⟩
  | brk =>
    obtain ⟨_, _, _, z⟩ := q
    exact False.elim z
  | cont =>
    obtain ⟨_, _, _, z⟩ := q
    exact False.elim z
  | ret u =>
    obtain ⟨_, _, _, _, _, z⟩ := q
    exact False.elim z
/-- try: body / except x as n: suite; what is caught stands on behind it -/
theorem ps_keep (hs : X.stack = X.env :: X.outer) (hf : X.env.frame = some X.env.locals) (hN : X.N.Nodup) (hi : X.N[i]? = some n) (hln : X.env.kindOf n = some .local) (hex : X.ex = []) (hg : Gl X x) (hm : X.mg x = some c) (hd : (x == ("__debug__" : Str)) = false)
    (hb : ∀ (W : WX) (pn : List (Addr × Obj)) (xe : Value → Shared → Prop), Takes (X.tr pn xe) W → PSs (X.tr pn xe) body (tb W)) (hsu : ∀ (a : Addr) (q : Addr × Obj) (pn : List (Addr × Obj)), PSs (X.suite a (q :: pn)) (b₀ :: suite) ts) :
    PS X (.Try body [.ExceptHandler (some (.Name x np)) (some n) (b₀ :: suite) pos'] [] [] pos) (fun D σ H => tb (wKeep X.K X.N.length c i ts D) D σ H) := by
  constructor
  intro pins s σ H D I h
  have ok := I.ok
  have run := (hb (wKeep X.K X.N.length c i ts D) (X.pn ++ pins) _ (fun u s' xx => caught_lands (np := np) (pos' := pos') ok hs hf hN hi hln hex hg hm hd hsu xx)).run [] s σ H D (I.toTry _) h
  refine wpAny_Try_except (wpAny_mono run (fun f s1 q => ?_) (fun _ _ z => z))
  cases f with
  | next =>
    obtain ⟨σ1, H1, J, q⟩ := q
    exact wpAny_execs_nil ⟨σ1, H1, J.ofTry ok, q⟩
  | ret u =>
    obtain ⟨v, σ1, H1, J, r, q⟩ := q
    exact ⟨v, σ1, H1, J.ofTry ok, r, q⟩
  | brk =>
    obtain ⟨σ1, H1, J, q⟩ := q
    exact ⟨σ1, H1, J.ofTry ok, q⟩
  | cont =>
    obtain ⟨σ1, H1, J, q⟩ := q
    exact ⟨σ1, H1, J.ofTry ok, q⟩
end
end DL
/-! DL24: a lambda, with or without a default, called by the def that gets it. -/
namespace DL
open PySem PySem.Spec PyProof.Rows L2 LamX NdefX

/-- where a lambda's defaults lie -/
def DfltAt (h : Heap) (dV : Value) : List Value → Prop
  | [] => dV = .none
  | u :: us => ∃ T, dV = .ref T ∧ h.get? T = some (PySem.W.kdv_tup (u :: us))
theorem DfltAt.imp {h h' : Heap} {dV : Value} {us : List Value} (d : DfltAt h dV us) (k : ∀ T o, dV = .ref T → h.get? T = some o → h'.get? T = some o) : DfltAt h' dV us := by
  cases us with
  | nil => exact d
  | cons u us =>
    obtain ⟨T, e, q⟩ := d
    exact ⟨T, e, k T _ e q⟩
/-- how a lambda binds when it is called without arguments -/
def BindL (params : Arguments) (body : Expr) (scope : Scope) (ps : List Str) (vs : List V) : Prop := ∀ (s : Shared) (q : Str) (cl : List (Str × Addr)) (dV doc pm cdv ctv : Value) (us : List Value), Vals vs us → DfltAt s.heap dV us →
  BindsTo s (PySem.W.kdv_fn "<lambda>" q params (.expr body) scope cl dV doc pm cdv ctv) ⟨[], []⟩ (ps.zip us)
/-- a lambda's object, out of the walk's sight -/
structure LamAt (H : Hp) (fs : List Addr) (h : Heap) (f c' : Addr) (q : Str) (params : Arguments) (body : Expr) (scope : Scope) (cl : List (Str × Addr)) (vs : List V) : Prop where
  ob : ∃ us dV doc pm ctv, Vals vs us ∧ h.get? f = some (PySem.W.kdv_obj "<lambda>" q params (.expr body) scope cl dV doc pm c' ctv) ∧ DfltAt h dV us ∧ ∀ T, dV = .ref T → (∃ o, h.get? T = some o) ∧ H T = none ∧ T ∉ fs
  fn : H f = none
  nf : f ∉ fs
theorem LamAt.un {H HZ : Hp} {fs : List Addr} {h h' : Heap} {f c' : Addr} {q : Str} {params : Arguments} {body : Expr} {scope : Scope} {cl : List (Str × Addr)} {vs : List V} (L : LamAt H fs h f c' q params body scope cl vs) (u : Un fs [] H HZ h h') :
    LamAt HZ fs h' f c' q params body scope cl vs := by
  obtain ⟨us, dV, doc, pm, ctv, rv, e, d, z⟩ := L.ob
  have kT : ∀ T o, dV = .ref T → h.get? T = some o → h'.get? T = some o := fun T o hT q => u.keep T o q (z T hT).2.1 (z T hT).2.2 (by simp)
  refine ⟨⟨us, dV, doc, pm, ctv, rv, u.keep f _ e L.fn L.nf (by simp), d.imp kT, fun T hT => ?_⟩, u.free f _ e L.fn (by simp), L.nf⟩
  obtain ⟨⟨o, q⟩, n1, n2⟩ := z T hT
  exact ⟨⟨o, kT T o hT q⟩, u.free T o q n1 (by simp), n2⟩
theorem cells_un {cl : List (Str × Addr)} {fr : List Str} {ws : List (Option V)} {H HZ : Hp} {fs : List Addr} {h h' : Heap} (C : CellsAt cl fr ws h H) (u : Un fs [] H HZ h h') : CellsAt cl fr ws h' HZ := by
  have kp : ∀ y c, cl.lookup y = some c → ∀ v, h.IsCell c v → h'.IsCell c v := fun y c e v z => by
    obtain ⟨o, ho, hd⟩ := z
    obtain ⟨sl, q⟩ := u.any ho (C.all y c e).1 (by simp)
    exact ⟨_, q, hd⟩
  refine ⟨C.len, fun y c e => ?_, C.inj, fun i y e => ?_⟩
  · obtain ⟨n, v, z⟩ := C.all y c e
    obtain ⟨o, ho, _⟩ := id z
    exact ⟨u.free c o ho n (by simp), v, kp y c e v z⟩
  · obtain ⟨c, hc, hv⟩ := C.has i y e
    refine ⟨c, hc, fun v ev => ?_⟩
    obtain ⟨w, r, z⟩ := hv v ev
    exact ⟨w, r, kp y c hc _ z⟩
section
variable {X : Cx} {pins : List (Addr × Obj)} {σ : L2.St} {H : Hp} {s : Shared} {L : Addr → Prop} {c P : Addr} {q : Str} {params : Arguments} {body : Expr} {scope : Scope} {pos : Pos} {dV : Value} {us : List Value} {vs : List V} {E : Value → Shared → Prop} {Q : Value → Shared → Prop}
theorem no_frame (I : Inv X pins σ H s) {f : Addr} (hf : s.heap.objs.size ≤ f) : f ∉ frs X.stack := fun z => by
  rcases List.mem_cons.mp (I.stkSub _ z) with e | e
  · exact absurd (Nat.lt_of_lt_of_le (e ▸ I.lt) hf) (Nat.lt_irrefl _)
  · exact I.nofs hf e
/-- what is known behind the making of a lambda -/
def Made (X : Cx) (pins : List (Addr × Obj)) (σ : L2.St) (H : Hp) (L : Addr → Prop) (P : Addr) (q : Str) (params : Arguments) (body : Expr) (scope : Scope) (vs : List V) (f c' : Addr) (H1 : Hp) (s' : Shared) : Prop :=
  Inv X pins σ H1 s' ∧ (∀ b o, H b = some o → b ≠ P → H1 b = some o) ∧ (∃ o, H1 P = some o ∧ RT H1 L q o) ∧ LamAt H1 (frs X.stack) s'.heap f c' q params body scope (cloFrom X.env.cells scope.names []) vs ∧ H1 c' = some (CodeO c' q)
theorem lam_tail (I : Inv X pins σ H s) (TB : TabB X.base X.mg c P) (hcode : X.env.code = .ref c) (hT : ∃ o, H P = some o ∧ RT H L q o) (hL : ∀ a, L a → ∃ o, H a = some o) (hfree : ∀ y ∈ scope.names, y.2 = .free → ∃ c, X.env.cells.lookup y.1 = some c)
    (rv : Vals vs us) (hd : DfltAt s.heap dV us) (hdT : ∀ T, dV = .ref T → (∃ o, s.heap.get? T = some o) ∧ H T = none ∧ T ∉ frs X.stack) (h : ∀ f c' H1 s', Made X pins σ H L P q params body scope vs f c' H1 s' → Q (.ref f) s') :
    wpAny (model X.prog X.w) X.A (makeTail "<lambda>" q params (.expr body) scope X.env dV .none none pos pos.line) Q E s := by
  obtain ⟨o, hP, ps, rfl, ht, ha⟩ := hT
  have old := I.hok P _ hP
  cases hc : codeAmong pos ps.toList with
  | some cv =>
    obtain ⟨c', rfl, hco, hl⟩ := ha pos cv hc
    refine PySem.W.kdv_makeTailHit (mg := X.mg) (c := c) (P := P) (closure_ok hfree) I.ok.glob (I.mod.glob.keeps I.bk) hcode (TB.code.keeps I.bk) old ht hc (TB.bm.keeps I.bk) fun ctv doc h' tk hk hsz => ?_
    refine h _ c' H _ ⟨I.kept fun b o e => Heap.get?_push_of_some _ (hk b o e), fun _ _ e _ => e, ⟨_, hP, ps, rfl, ht, ha⟩, ⟨⟨us, dV, doc, _, ctv, rv, Heap.get?_push_size _ rfl, hd.imp fun T o _ e => Heap.get?_push_of_some _ (hk T o e), fun T z => ?_⟩, I.hok.fresh hsz, no_frame I hsz⟩, hco⟩
    obtain ⟨⟨o, e⟩, n⟩ := hdT T z
    exact ⟨⟨o, Heap.get?_push_of_some _ (hk T o e)⟩, n⟩
  | none =>
    refine PySem.W.kdv_makeTail (mg := X.mg) (c := c) (P := P) (closure_ok hfree) I.ok.glob (I.mod.glob.keeps I.bk) hcode (TB.code.keeps I.bk) old ht hc TB.gP (TB.bm.keeps I.bk) fun c' ctv doc h' tk hx hge hlt hrec htb => ?_
    obtain ⟨c2, oc, vs, t, e2, hoc, hdo, hv⟩ := hrec
    cases e2
    have nC : H c' = none := I.hok.fresh hge
    have hsz : s.heap.objs.size ≤ h'.objs.size := Nat.le_trans hge (Nat.le_of_lt hlt)
    have lo : ∀ b o, s.heap.get? b = some o → H b = none → h'.get? b = some o := fun b o e n => hx b o (fun z => by rw [z, hP] at n; cases n) e
    have J := inv_table (t' := tk) (more := #[rawInt pos.line, rawInt pos.col, .ref c']) (h' := h'.push (PySem.W.kdv_obj "<lambda>" q params (.expr body) scope (cloFrom X.env.cells scope.names []) dV doc ((X.mg "__name__").getD .none) c' ctv)) I hP
      (fun b o hb e => Heap.get?_push_of_some _ (hx b o hb e)) (Heap.get?_push_of_some _ htb) hge ⟨oc, vs, t, Heap.get?_push_of_some _ hoc, hdo, hv⟩
    have stay : ∀ b o, H b = some o → b ≠ P → upd (upd H P (.tbl (ps ++ #[rawInt pos.line, rawInt pos.col, .ref c']))) c' (CodeO c' q) b = some o := fun b o e n => by
      rw [upd_ne (ne_of_none e nC), upd_ne n]; exact e
    have nw : ∀ b, H b = none → b ≠ c' → upd (upd H P (.tbl (ps ++ #[rawInt pos.line, rawInt pos.col, .ref c']))) c' (CodeO c' q) b = none := fun b e n => by
      rw [upd_ne n, upd_ne (fun z => by rw [z, hP] at e; cases e)]; exact e
    refine h _ c' _ _ ⟨J, stay, ⟨_, by rw [upd_ne (ne_of_none hP nC), upd_same], _, rfl, ?_, fun p' cv hcv => ?_⟩, ⟨⟨us, dV, doc, _, ctv, rv, Heap.get?_push_size _ rfl, hd.imp fun T o z e => Heap.get?_push_of_some _ (lo T o e (hdT T z).2.1), fun T z => ?_⟩, ?_, no_frame I hsz⟩, upd_same⟩
    · rw [Array.toList_append]
      exact PySem.TriplesOk_snoc _ _ _ _ ht
    · rw [Array.toList_append] at hcv
      rcases among_app _ ht hcv with z | z
      · obtain ⟨c0, e1, e2, e3⟩ := ha p' cv z
        exact ⟨c0, e1, stay _ _ e2 (fun z => by rw [z, hP] at e2; exact codeO_ne _ (Option.some.inj e2).symm), e3⟩
      · refine ⟨c', z, upd_same, fun l => ?_⟩
        obtain ⟨o, e⟩ := hL _ l
        rw [nC] at e; cases e
    · obtain ⟨⟨o, e⟩, n1, n2⟩ := hdT T z
      exact ⟨⟨o, Heap.get?_push_of_some _ (lo T o e n1)⟩, nw T n1 (Nat.ne_of_lt (Nat.lt_of_lt_of_le (Heap.lt_size e) hge)), n2⟩
    · exact nw _ (I.hok.fresh hsz) (Nat.ne_of_gt hlt)
/-- a lambda's defaults: none, or one whole number -/
def DfltsAre (params : Arguments) (env : PySem.Env) (vs : List V) : Prop := (vs = [] ∧ defaultsOf params env = ([], [])) ∨ ∃ (i : Int) (j : Nat) (cp : Pos), vs = [V.int i] ∧ params.defaults = [Expr.Constant (.int i) j cp] ∧ params.kw_defaults = []
theorem lam_eval (I : Inv X pins σ H s) (TB : TabB X.base X.mg c P) (hcode : X.env.code = .ref c) (hT : ∃ o, H P = some o ∧ RT H L (X.env.qual ++ "<lambda>") o) (hL : ∀ a, L a → ∃ o, H a = some o) (hfree : ∀ y ∈ scope.names, y.2 = .free → ∃ c, X.env.cells.lookup y.1 = some c)
    (hdf : DfltsAre params X.env vs) (h : ∀ f c' H1 s', Made X pins σ H L P (X.env.qual ++ "<lambda>") params body scope vs f c' H1 s' → Q (.ref f) s') :
    wpAny (model X.prog X.w) X.A (eval (.Lambda params body scope pos) X.env) Q X.xe s := by
  rcases hdf with ⟨rfl, e⟩ | ⟨i, j, cp, rfl, e1, e2⟩
  · refine PySem.W.kla_eval e ?_
    rw [makeFunction_eq]
    simp only [List.zip_nil_right, List.filterMap_nil, List.isEmpty_nil, if_true, pure_bind]
    exact lam_tail I TB hcode hT hL hfree .nil rfl (fun T z => by cases z) h
  · refine PySem.W.kdv_lam (by rw [e1]; rfl) e2 ?_
    rw [e1]
    have hrun := (pe_int (X := X) (pos := cp) (i := i) (j := j)).run pins s σ H (fun v H1 => v = .int i ∧ H1 = H) I ⟨rfl, rfl⟩
    refine PySem.W.kdv_all1 (wpAny_mono hrun (fun u s1 hh => ?_) (fun _ _ z => ?_))
    case refine_2 => exact z
    obtain ⟨v, H1, I1, r1, ev, eH⟩ := hh
    refine PySem.W.kdv_all0 ?_
    subst ev
    subst eH
    rw [makeFunction_eq]
    simp only [List.zip_nil_right, List.filterMap_nil, List.isEmpty_nil, if_true, pure_bind, List.isEmpty_cons, Bool.false_eq_true, if_false]
    refine wpAny_bind (wpAny_newTextTuple ?_)
    have I2 : Inv X pins σ H1 { s1 with heap := s1.heap.push (PySem.W.kdv_tup [u]) } := I1.kept (t' := s1.toks) fun b o e => Heap.get?_push_of_some _ e
    refine lam_tail I2 TB hcode hT hL hfree (us := [u]) (.cons r1 .nil) ⟨_, rfl, Heap.get?_push_size _ rfl⟩ (fun T z => ?_) h
    cases z
    exact ⟨⟨_, Heap.get?_push_size _ rfl⟩, I1.hok.fresh (Nat.le_refl _), no_frame I1 (Nat.le_refl _)⟩
/-- x(), in the def that got the lambda -/
theorem lam_act {CXg : CXT} {Eg : XK} {Ng : List Str} {qg : Str} {sg : Scope} {g f c' : Addr} {cdg : Value} {k i : Nat} {a : Str} {pn : List (Addr × Obj)} {xe : Value → Shared → Prop} {W : WX} {E : XK} {tb : TE} {p1 p2 : Pos} {N ps fr : List Str} {js : List Nat}
    (I : Inv X pins σ H s) (S : NScope N ps fr scope) (hfree : ∀ y ∈ scope.names, y.2 = .free → X.env.scope.names.lookup y.1 = some .cell ∨ X.env.scope.names.lookup y.1 = some .free) (hfr : ∀ y ∈ fr, (y, NameKind.free) ∈ scope.names) (hjs : js.map (fun j => X.N[j]?) = fr.map some)
    (La : LamAt H (frs X.stack) s.heap f c' (X.env.qual ++ "<lambda>") params body scope (cloFrom X.env.cells scope.names []) vs) (hl : vs.length = ps.length) (hbind : BindL params body scope ps vs)
    (tk : Takes ((cxOf CXg X.prog X.w X.K X.mg X.base Ng qg sg g cdg X.A X.stack s H Eg).tr pn xe) W) (hW : ∀ cls d σ' H', E cls d H' → W cls d σ' H') (hr : Room (k + 1) (X.A.deeper (envOfC qg sg s.heap.objs.size g cdg)))
    (hbody : ∀ (A : Around) (outer : List PySem.Env) (s : Shared) (H : Hp), A.guards = X.A.guards → Room k (A.deeper (envF ⟨"<lambda>", X.env.qual ++ "<lambda>", params, [], scope, cloFrom X.env.cells scope.names [], c'⟩ f s.heap.objs.size)) →
      PE (ncx (L2.CX X.prog X.w) X.prog X.w X.K X.mg X.base N ⟨"<lambda>", X.env.qual ++ "<lambda>", params, [], scope, cloFrom X.env.cells scope.names [], c'⟩ f A outer s H E) body tb)
    (hN : Ng[i]? = some a) (hv : Vis sg a) (hd : (a == ("__debug__" : Str)) = false) (hcd : (a == ("__classdict__" : Str)) = false) :
    PE ((cxOf CXg X.prog X.w X.K X.mg X.base Ng qg sg g cdg X.A X.stack s H Eg).tr pn xe) (.Call (.Name a p1) [] [] p2)
      (fun σZ HZ Q => σZ[i]? = some (some (.ref f)) ∧ HZ c' = some (CodeO c' (X.env.qual ++ "<lambda>")) ∧ tb (startF N vs (js.map (slotAt σ))) HZ Q) := by
  constructor
  intro pinsZ sZ σZ HZ Q IZ h
  obtain ⟨hs, hc, ht⟩ := h
  refine wpAny_Call_Name_kw (thn ((pe_var (pos := p1) (i := i) hN hv hd hcd).run pinsZ sZ σZ HZ (fun v H1 => v = .ref f ∧ H1 = HZ) IZ ⟨.ref f, hs, rfl, rfl⟩) fun u s1 hh => ?_)
  obtain ⟨v, H1, I1, r1, ev, eH⟩ := hh
  subst ev
  subst eH
  obtain rfl : u = Value.ref f := r1
  have un : Un (frs X.stack) [] H H1 s.heap s1.heap := I1.base
  obtain ⟨us, dV, doc, pm, ctv, rv, of1, hd1, _⟩ := (La.un un).ob
  have C := cells_un (cells_of I (Caps.made I.ok hfree hfr hjs)) un
  have rc : codeAny (model X.prog X.w) (X.A.deeper (envOfC qg sg s.heap.objs.size g cdg)) (.call (.ref f) ⟨[], []⟩) (CR (L2.CX X.prog X.w) (envOfC qg sg s.heap.objs.size g cdg :: X.stack) X.prog X.w H1 s1 Q E) s1 := by
    refine PySem.W.kla_callFunE hr.depth of1 rfl S.co S.gen rfl (codeO_at I1.hok hc) (hbind s1 _ _ dV doc pm _ ctv us rv hd1 _ _ _ _ ?_)
    refine wpAny_newFunctionEnv S.nocell (fun y hy => S.par y.1 (List.of_mem_zip hy).1) (fun h₁ hns hsb => ⟨I1.nolimit.fresh _ hsb, ?_⟩) S.kind
    have kp : ∀ b o, s1.heap.get? b = some o → h₁.get? b = some o := fun b o e => hsb.extBut b o (Nat.ne_of_lt (Heap.lt_size e)) (Heap.get?_push_of_some _ e)
    show codeAny _ _ (.expr body (envF ⟨"<lambda>", X.env.qual ++ "<lambda>", params, [], scope, cloFrom X.env.cells scope.names [], c'⟩ f s1.heap.objs.size)) _ _
    have J := inv_startN (CX := L2.CX X.prog X.w) (E := E) (N := N) (F := ⟨"<lambda>", X.env.qual ++ "<lambda>", params, [], scope, cloFrom X.env.cells scope.names [], c'⟩) (f := f) (tk := s1.toks + (ps.zip us).length) S hr.hd I1.env0 hl rv C hns kp
    refine PySem.W.kla_codeExpr (wpAny_mono ((hbody (X.A.deeper (envOfC qg sg s.heap.objs.size g cdg)) _ s1 H1 rfl (hr.deeper _)).run [] _ _ H1 Q J ht) (fun v s' hq => ?_) fun _ _ z => z)
    obtain ⟨w', H', J', rv', z⟩ := hq
    exact ⟨w', H', J'.os, J'.bare, J'.base, J'.hok, rv', z⟩
  refine PySem.W.callWith_F0 ⟨_, _, _, _, of1⟩ (wpAny_call (codeAny_mono rc fun r s' hq => ?_))
  have z := after_call (passes_call tk hW) I1 hq
  cases r with
  | error e => exact z
  | ok fl => cases fl <;> first | exact z | exact z.elim
end
/-- the reading of x(lambda: ..): TT is what the def makes of what it gets -/
def tLamD (P : Addr) (q : Str) (TT : (XK → Hp → VK → Prop) → Hp → VK → Prop) (N : List Str) (vs : List V) (js : List Nat) (t : XK → TE) : TE := fun σ H Q => ∃ L : Addr → Prop, (∃ o, H P = some o ∧ RT H L q o) ∧ (∀ a, L a → ∃ o, H a = some o) ∧
  ∀ H1, (∀ b o, H b = some o → b ≠ P → H1 b = some o) → (∃ o, H1 P = some o ∧ RT H1 L q o) → TT (fun E H' Q' => t E (startF N vs (js.map (slotAt σ))) H' Q') H1 Q
theorem pe_lamC {X : Cx} {TT : (XK → Hp → VK → Prop) → Hp → VK → Prop} {x a : Str} {g c P : Addr} {k : Nat} {pg : Arguments} {bg : List Stmt} {sg : Scope} {dV kV doc pm cdv ct oc : Value} {an od : Option Addr} {osl : Array (Option Value)} {Ng N ps fr : List Str} {js : List Nat} {vs : List V}
    {params : Arguments} {body : Expr} {scope : Scope} {t : XK → TE} {p lpos pos : Pos} (hg : Gl X x) (hm : X.mg x = some (.ref g)) (hk : PySem.W.keepIn X.K (.ref g) = true)
    (lk : X.K.lookup g = some ⟨oc, od, .func (PySem.W.fnOf x x pg bg sg dV kV doc pm an cdv ct), osl⟩) (hcg : PySem.W.codeIn X.K cdv x = true) (hb : L2.Binds X.K (PySem.W.fnOf x x pg bg sg dV kV doc pm an cdv ct) [a] []) (Sg : FnScope Ng [a] sg) (hNg : Ng[0]? = some a) (hva : Vis sg a)
    (hG : GivesTo X Ng x sg g cdv bg a (X.env.qual ++ "<lambda>") TT) (TB : TabB X.base X.mg c P) (hcode : X.env.code = .ref c) (hr : Room (k + 2) X.A)
    (S : NScope N ps fr scope) (hfree : ∀ y ∈ scope.names, y.2 = .free → X.env.scope.names.lookup y.1 = some .cell ∨ X.env.scope.names.lookup y.1 = some .free) (hfr : ∀ y ∈ fr, (y, NameKind.free) ∈ scope.names) (hjs : js.map (fun j => X.N[j]?) = fr.map some)
    (hl : vs.length = ps.length) (hdf : DfltsAre params X.env vs) (hbind : BindL params body scope ps vs)
    (hbody : ∀ (A : Around) (outer : List PySem.Env) (s : Shared) (H : Hp) (E : XK) (f c' : Addr), A.guards = X.A.guards → Room k (A.deeper (envF ⟨"<lambda>", X.env.qual ++ "<lambda>", params, [], scope, cloFrom X.env.cells scope.names [], c'⟩ f s.heap.objs.size)) →
      PE (ncx (L2.CX X.prog X.w) X.prog X.w X.K X.mg X.base N ⟨"<lambda>", X.env.qual ++ "<lambda>", params, [], scope, cloFrom X.env.cells scope.names [], c'⟩ f A outer s H E) body (t E))
    (hdb : (x == ("__debug__" : Str)) = false := by decide) (hd : (a == ("__debug__" : Str)) = false := by decide) (hcd : (a == ("__classdict__" : Str)) = false := by decide) :
    PE X (.Call (.Name x p) [.Lambda params body scope lpos] [] pos) (tLamD P (X.env.qual ++ "<lambda>") TT N vs js t) := by
  constructor
  intro pins s σ H Q I h
  obtain ⟨L, hT, hL, h⟩ := h
  refine wpAny_Call_Name_kw (ld_glob I hg hm (PySem.W.callWith_K (h₀ := X.base) I.ok.mod.kin hk ?_ (by rfl) (by rfl)) hdb)
  show wpAny _ _ (spliced ((false, eval (.Lambda params body scope lpos) X.env) :: backTo pos (starEach [] X.env))) _ _ s
  refine Calls.spliced_cons (lam_eval I TB hcode hT hL (fun y hy e => (hfree y hy e).elim (fun z => I.ok.has _ (.inl z)) fun z => I.ok.has _ (.inr z)) hdf fun f c' H1 s' md => Calls.spliced_nil ?_)
  obtain ⟨I1, st, T1, La, hco⟩ := md
  refine ⟨I1.kIn, ?_⟩
  have rc : codeAny (model X.prog X.w) X.A (.call (.ref g) ⟨[.ref f], []⟩) (CR C8.CX0 X.stack X.prog X.w H1 s' Q C8.E0) s' := by
    refine run_ofS (N := Ng) (ps := [a]) (us := [.ref f]) (vs := [.ref f]) lk hcg Sg hr I1.env0 (hb s' [.ref f] I1.kIn rfl) (.cons rfl .nil) rfl fun hr' => ?_
    obtain ⟨t', ht', hq'⟩ := hG f c' s' H1 Q _ (fun W pn xe E p1 p2 tk hW => lam_act (i := 0) I1 S hfree hfr hjs La hl hbind tk hW hr' (fun A outer s H hg2 hr2 => hbody A outer s H E f c' hg2 hr2) hNg hva hd hcd) hco (h H1 st T1)
    exact ⟨t', ht'.nox, hq'⟩
  refine wpAny_call (codeAny_mono rc fun r s2 hq => ?_)
  cases r with
  | error e => exact (show False from hq).elim
  | ok fl =>
    cases fl with
    | ret u => exact I1.after hq
    | next => exact False.elim hq
    | brk => exact False.elim hq
    | cont => exact False.elim hq
end DL
/-! DL25: _law_heard(lambda: ..): what a call gives, or the error that it raises. -/
namespace DL
open PySem PySem.Spec PyProof.Rows L2 LamX NdefX

/-- the names of a lambda's body: its parameters, then what it captures -/
def lamW (ws : List W) (js : List Nat) (δ : Env) : Env := ws.map some ++ js.map (fun j => (δ[j]?).join)
theorem lamW_rep {K : PySem.W.Frag} {ρ : Pl} {H : Hp} {L : Addr → Prop} {δ : Env} {σ : L2.St} {N : List Str} {ws : List W} {vs : List V} {js : List Nat} (re : REnv K ρ H L δ σ) (rw : RWs K ρ H L ws vs) (hn : N.length = ws.length + js.length) :
    REnv K ρ H L (lamW ws js δ) (startF N vs (js.map (slotAt σ))) := by
  have hl := Paired.length rw
  have e : startF N vs (js.map (slotAt σ)) = vs.map some ++ js.map (slotAt σ) := by
    unfold startF
    rw [show N.length - vs.length - (js.map (slotAt σ)).length = 0 by rw [List.length_map]; omega]
    simp
  rw [e]
  unfold lamW
  refine ⟨by simp [hl], fun i w h => ?_⟩
  by_cases hi : i < ws.length
  · rw [List.getElem?_append_left (by simpa using hi), List.getElem?_map] at h
    cases e : ws[i]? with
    | none => rw [e] at h; cases h
    | some w' =>
      rw [e] at h
      cases h
      obtain ⟨v, h1, h2⟩ := Paired.at' rw e
      exact ⟨v, by rw [List.getElem?_append_left (by simp; omega), List.getElem?_map, h1]; rfl, h2⟩
  · rw [List.getElem?_append_right (by simpa using hi), List.length_map, List.getElem?_map] at h
    rw [List.getElem?_append_right (by simp; omega), List.length_map, List.getElem?_map, ← hl]
    cases e : js[i - ws.length]? with
    | none => rw [e] at h; cases h
    | some j =>
      rw [e] at h
      have h : (δ[j]?).join = some w := Option.some.inj h
      have h2 : δ[j]? = some (some w) := by
        cases e2 : δ[j]? with
        | none => rw [e2] at h; cases h
        | some o => rw [e2] at h; rw [show o = some w from h]
      obtain ⟨v, q1, q2⟩ := re.2 j w h2
      exact ⟨v, congrArg some (slotAt_of q1), q2⟩
/-- a def's end -/
def finM : Fl → M W
  | .nx _ => pr (.d .none)
  | .rt w => pr w
  | _ => no
/-- what _law_heard makes of an answer, of an error -/
def restR (f : Env → M Fl) (w : W) : M W := bd (f [none, some w, some (.d .none), none]) finM
def restE (errs : List Str) (f : Env → M Fl) (x : Ex) : M W := if x.cls ∈ errs then bd (f [none, none, some (.e x), none]) finM else no
def heardM (P : Addr) (q : Str) (errs : List Str) (f : Env → M Fl) (ws : List W) (js : List Nat) (fb : Env → M W) : Env → M W := fun δ (S : Sto) => match (S[0]? : Option Ob) with
  | some (.tab P' q') => if P' = P ∧ q' = q then (match fb (lamW ws js δ) S with
    | .ok w S' => noEx (restR f w) S'
    | .ex x S' => noEx (restE errs f x) S'
    | .no => .no) else .no
  | _ => .no
def AnsQ (K : PySem.W.Frag) (Q : VK) (S : Sto) (ρ : Pl) (H : Hp) (x : Res W) : Prop := Gives x (fun w2 S2 => ∀ (ρ2 : Pl) (H2 : Hp) (v2 : V), Ext S ρ H S2 ρ2 H2 → Rel K S2 ρ2 H2 → RW K ρ2 H2 (Live S2 ρ2) w2 v2 → Q v2 H2) (fun _ _ => False)
def GoO (K : PySem.W.Frag) (f : Env → M Fl) (Q : VK) : VK := fun v H => ∃ (w : W) (S : Sto) (ρ : Pl), Rel K S ρ H ∧ RW K ρ H (Live S ρ) w v ∧ AnsQ K Q S ρ H (restR f w S)
def GoE (K : PySem.W.Frag) (errs : List Str) (f : Env → M Fl) (Q : VK) : XK := fun cls d H => ∃ (x : Ex) (S : Sto) (ρ : Pl), Rel K S ρ H ∧ FlX K H (Live S ρ) x cls d ∧ AnsQ K Q S ρ H (restE errs f x S)
def TTH (K : PySem.W.Frag) (errs : List Str) (f : Env → M Fl) : (XK → Hp → VK → Prop) → Hp → VK → Prop := fun tl H Q => ∀ (H2 : Hp) (E : XK) (Q' : VK), (∀ b o, H b = some o → H2 b = some o) → (∀ cls d H', GoE K errs f Q cls d H' → E cls d H') → (∀ v H', GoO K f Q v H' → Q' v H') → tl E H2 Q'
theorem restE_mem {errs : List Str} {f : Env → M Fl} {x : Ex} {S : Sto} {P : W → Sto → Prop} {E : Ex → Sto → Prop} (g : Gives (restE errs f x S) P E) : x.cls ∈ errs ∧ Gives (bd (f [none, none, some (.e x), none]) finM S) P E := by
  unfold restE at g
  split at g
  · exact ⟨‹_›, g⟩
  · exact g.elim
/-- what comes behind, from the readings of the statements behind -/
theorem rest_ends {K : PySem.W.Frag} {Q : VK} {S : Sto} {ρ : Pl} {H : Hp} {f : Env → M Fl} {δ : Env} (g : AnsQ K Q S ρ H (bd (f δ) finM S)) : SGives K ZF { nx := fun _ H' => Q .non H', rt := Q } S ρ H (f δ S) := by
  refine gives_imp (gives_bd g) (fun fl S' q ρ' H' e r => ?_) fun _ _ z => z.elim
  cases fl with
  | nx δ' => exact fun σ re => q ρ' H' .non e r .non
  | rt w => exact fun v rv => q ρ' H' v e r rv
  | bk _ => exact q.elim
  | ct _ => exact q.elim
section
variable {X : Cx} {q e : Str} {sg : Scope} {g CM : Addr} {cdg : Value} {rest : List Stmt} {f : Env → M Fl} {errs : List Str} {k1 k2 j1 j2 : Nat} {p1 p2 p3 p4 p5 p6 p7 p8 p9 p10 p11 p12 p13 p14 p15 p16 p17 : Pos}
abbrev hN4 : List Str := ["ask", "found", "caught", "error"]
abbrev hCx (X : Cx) (sg : Scope) (g : Addr) (cdg : Value) (s : Shared) (H : Hp) : Cx := (cxOf C8.CX0 X.prog X.w X.K X.mg X.base hN4 "_law_heard" sg g cdg X.A X.stack s H C8.E0).nox
theorem heard_gives (hx0 : sg.names.lookup ("ask" : Str) = some .local) (hx1 : sg.names.lookup ("found" : Str) = some .local) (hx2 : sg.names.lookup ("caught" : Str) = some .local) (hx3 : sg.names.lookup ("error" : Str) = some .local) (hge : sg.names.lookup e = some .globalImplicit) (hde : (e == ("__debug__" : Str)) = false) (hme : X.mg e = some (.ref CM))
    (hE : ∀ x ∈ errs, ∀ C : Addr, PySem.W.nsIn X.K mainGlobals x = some (some (.ref C)) → PySem.W.exmOne X.K (.ref C) (.ref CM) = some true)
    (hw : ∀ (s : Shared) (H : Hp), swappedStores [.Tuple [.Name "found" p1, .Name "caught" p2] k1 p3] (.Tuple [.Constant .none j1 p4, .Constant .none j2 p5] k2 p6) (hCx X sg g cdg s H).env = pure none)
    (hs : ∀ (s : Shared) (H : Hp), swapsWithSole [.Tuple [.Name "found" p1, .Name "caught" p2] k1 p3] (.Tuple [.Constant .none j1 p4, .Constant .none j2 p5] k2 p6) p7.line (hCx X sg g cdg s H).env = pure false)
    (hs2 : ∀ (s : Shared) (H : Hp), swapsWith (.Call (.Name "ask" p9) [] [] p10) (some (.Name "found" p8)) p11.line (hCx X sg g cdg s H).env = pure false)
    (hs3 : ∀ (s : Shared) (H : Hp), swapsWith (.Name "error" p14) (some (.Name "caught" p13)) p15.line (hCx X sg g cdg s H).env = pure false)
    (hrest : ∀ (s : Shared) (H : Hp), PSs (hCx X sg g cdg s H) rest (tS X.K ZF f)) :
    GivesTo X hN4 "_law_heard" sg g cdg (.Assign [.Tuple [.Name "found" p1, .Name "caught" p2] k1 p3] (.Tuple [.Constant .none j1 p4, .Constant .none j2 p5] k2 p6) p7 ::
      .Try [.Assign [.Name "found" p8] (.Call (.Name "ask" p9) [] [] p10) p11] [.ExceptHandler (some (.Name e p12)) (some "error") [.Assign [.Name "caught" p13] (.Name "error" p14) p15] p16] [] [] p17 :: rest) "ask" q (TTH X.K errs f) := by
  intro f0 c' s H Q tl act hc h
  have hN : hN4.Nodup := by decide
  have body : ∀ (W : WX) (pn : List (Addr × Obj)) (xe : Value → Shared → Prop), Takes ((hCx X sg g cdg s H).tr pn xe) W → PSs ((hCx X sg g cdg s H).tr pn xe) [.Assign [.Name "found" p8] (.Call (.Name "ask" p9) [] [] p10) p11]
      (fun D σ H => ∃ Ech : XK, (∀ cls d σ' H', Ech cls d H' → W cls d σ' H') ∧ σ[0]? = some (some (.ref f0)) ∧ H c' = some (CodeO c' q) ∧ tl Ech H fun v H1 => D.nx (σ.set 1 (some v)) H1) := fun W pn xe tk => ⟨fun pins s' σ H' D I h' => by
    obtain ⟨Ech, hW, h1, h2, h3⟩ := h'
    exact (pss_one (ps_set (X := (hCx X sg g cdg s H).tr pn xe) (i := 1) hN rfl (.inl hx1) (act W pn xe Ech p9 p10 tk hW) (hs2 s H) (.inr hx1))).run pins s' σ H' D I ⟨h1, h2, h3⟩⟩
  have suite : ∀ (a : Addr) (r : Addr × Obj) (pn : List (Addr × Obj)), PSs ((hCx X sg g cdg s H).suite a (r :: pn)) [.Assign [.Name "caught" p13] (.Name "error" p14) p15] (fun D σ H => ∃ v, σ[3]? = some (some v) ∧ D.nx (σ.set 2 (some v)) H) := fun a r pn =>
    pss_one (ps_set (X := (hCx X sg g cdg s H).suite a (r :: pn)) (i := 2) hN rfl (.inl hx2) (pe_var (i := 3) rfl (.inl hx3)) (hs3 s H) (.inr hx2))
  refine ⟨_, pss_cons (ps_asg (X := hCx X sg g cdg s H) (pe_tup (pa_cons pe_non (pa_cons pe_non pa_nil))) (pg_tup rfl (pgs_cons (pg_name (i := 1) hN rfl (.inl hx1) (.inr hx1)) (pgs_cons (pg_name (i := 2) hN rfl (.inl hx2) (.inr hx2)) pgs_nil))) (hs s H) (hw s H))
    (pss_cons (ps_keep (X := hCx X sg g cdg s H) (i := 3) rfl rfl hN rfl hx3 rfl hge hme hde body suite) (hrest s H)), ?_⟩
  refine ⟨(by decide : 2 ≤ sizeLine), fun p hp => ⟨p, [.non, .non], rfl, .of upd_same, rfl, .non, [.non], rfl, .non, [], rfl, rfl, ?_⟩⟩
  have ex : ∀ b o, H b = some o → upd H p (.tup [V.non, V.non]) b = some o := fun b o e => by rw [upd_ne (ne_of_none e hp)]; exact e
  refine ⟨GoE X.K errs f Q, fun cls d σ' H' z => ?_, rfl, ex _ _ hc, h _ _ _ ex (fun _ _ _ z => z) fun v H1 z => ?_⟩
  · obtain ⟨x, S, ρ, R, fl, ga⟩ := z
    obtain ⟨hx, ga⟩ := restE_mem ga
    intro hlen
    obtain ⟨C, dd, fs, n1, rfl, n3, n4, n5, n6⟩ := id fl
    have hlen : σ'.length = 4 := hlen
    refine ⟨hE _ hx C n1, fun a na => ⟨.ref a, by simp [hlen], fun na' => ?_⟩⟩
    have e1 : Ext S ρ H' S ρ (upd H' a (excAt a (.ref C) d)) := Ext.frz na
    have R1 := R.frz (o := excAt a (.ref C) d) na
    refine ⟨[none, none, some (.e x), none], S, ρ, R1, ⟨by simp [hlen], fun i w hi => ?_⟩, (rest_ends ga).ext e1⟩
    match i, hi with
    | 2, hi =>
      cases hi
      exact ⟨.ref a, by simp [hlen], a, rfl, .ref C, d, fl.ext e1.stabL e1.newL, upd_same, R.notLive na⟩
    | 0, hi => cases hi
    | 1, hi => cases hi
    | 3, hi => cases hi
    | n + 4, hi => simp at hi
  · obtain ⟨w, S, ρ, R, rw, ga⟩ := z
    refine ⟨[none, some w, some (.d .none), none], S, ρ, R, ⟨rfl, fun i w' hi => ?_⟩, rest_ends ga⟩
    match i, hi with
    | 1, hi =>
      cases hi
      exact ⟨v, rfl, rw⟩
    | 2, hi =>
      cases hi
      exact ⟨.non, rfl, .non⟩
    | 0, hi => cases hi
    | 3, hi => cases hi
    | n + 4, hi => simp at hi
end
/-- the table grows: all else is kept -/
theorem rel_tab {K : PySem.W.Frag} {S : Sto} {ρ : Pl} {H H1 : Hp} {P : Addr} {q : Str} {i : Nat} (R : Rel K S ρ H) (h0 : S[i]? = some (.tab P q)) (ext : ∀ b o, H b = some o → b ≠ P → H1 b = some o) (hT : ∃ o, H1 P = some o ∧ RT H1 (Live S ρ) q o) : Ext S ρ H S ρ H1 ∧ Rel K S ρ H1 := by
  obtain ⟨a0, ho, k1, k2, k3, k4⟩ := R.ob i _ h0 rfl
  subst k3
  have lv : Liv S ρ a0 := ⟨i, _, h0, rfl, k1⟩
  have e1 : Ext S ρ H S ρ H1 := ⟨fun _ _ h => h, fun a o h l => ext a o h fun z => l (z ▸ lv), fun _ h => .inl h, rfl, fun a o u h => ext a _ h fun z => by
    obtain ⟨ps, z2, _⟩ := k4
    rw [z, k2, z2] at h
    cases h⟩
  refine ⟨e1, R.len, fun a h => ?_, R.dj, fun n o h1 h2 => ?_, R.inj⟩
  · obtain ⟨o, z⟩ := R.gt a h
    exact ⟨o, ext a o z fun e => R.dj a h (e ▸ lv)⟩
  · by_cases hn : n = i
    · subst hn
      rw [h0] at h1
      cases h1
      obtain ⟨o, z1, z2⟩ := hT
      exact ⟨a0, o, k1, z1, rfl, z2⟩
    · obtain ⟨a, hu, q1, q2, q3⟩ := R.ob n o h1 h2
      exact ⟨a, hu, q1, ext a hu q2 fun e => hn (R.inj n i a o _ h1 h2 h0 rfl q1 (e ▸ k1)), q3.ext e1⟩
/-- _law_heard(lambda: body), in the def whose table of code objects stands at P -/
theorem dheard {X : Cx} {Z : XZ} {x a : Str} {g c P : Addr} {k : Nat} {pg : Arguments} {bg : List Stmt} {sg : Scope} {dV kV doc pm cdv ct oc : Value} {an od : Option Addr} {osl : Array (Option Value)} {Ng N ps fr : List Str} {js : List Nat} {ws : List W} {vs : List V} {q : Str}
    {params : Arguments} {body : Expr} {scope : Scope} {fb : Env → M W} {f : Env → M Fl} {errs : List Str} {p lpos pos : Pos} (hg : Gl X x) (hm : X.mg x = some (.ref g)) (hk : PySem.W.keepIn X.K (.ref g) = true)
    (lk : X.K.lookup g = some ⟨oc, od, .func (PySem.W.fnOf x x pg bg sg dV kV doc pm an cdv ct), osl⟩) (hcg : PySem.W.codeIn X.K cdv x = true) (hb : L2.Binds X.K (PySem.W.fnOf x x pg bg sg dV kV doc pm an cdv ct) [a] []) (Sg : FnScope Ng [a] sg) (hNg : Ng[0]? = some a) (hva : Vis sg a)
    (hG : GivesTo X Ng x sg g cdv bg a (X.env.qual ++ "<lambda>") (TTH X.K errs f)) (TB : TabB X.base X.mg c P) (hcode : X.env.code = .ref c) (hr : Room (k + 2) X.A) (hq : q = X.env.qual ++ "<lambda>")
    (S : NScope N ps fr scope) (hfree : ∀ y ∈ scope.names, y.2 = .free → X.env.scope.names.lookup y.1 = some .cell ∨ X.env.scope.names.lookup y.1 = some .free) (hfr : ∀ y ∈ fr, (y, NameKind.free) ∈ scope.names) (hjs : js.map (fun j => X.N[j]?) = fr.map some)
    (rv : ∀ ρ H L, RWs X.K ρ H L ws vs) (hn : N.length = ws.length + js.length) (hl : vs.length = ps.length) (hdf : DfltsAre params X.env vs) (hbind : BindL params body scope ps vs)
    (hbody : ∀ (A : Around) (outer : List PySem.Env) (s : Shared) (H : Hp) (E : XK) (f c' : Addr), A.guards = X.A.guards → Room k (A.deeper (envF ⟨"<lambda>", X.env.qual ++ "<lambda>", params, [], scope, cloFrom X.env.cells scope.names [], c'⟩ f s.heap.objs.size)) →
      PE (ncx (L2.CX X.prog X.w) X.prog X.w X.K X.mg X.base N ⟨"<lambda>", X.env.qual ++ "<lambda>", params, [], scope, cloFrom X.env.cells scope.names [], c'⟩ f A outer s H E) body (tE X.K (ZE X.K E) fb))
    (hdb : (x == ("__debug__" : Str)) = false := by decide) (hd : (a == ("__debug__" : Str)) = false := by decide) (hcd : (a == ("__classdict__" : Str)) = false := by decide) :
    PE X (.Call (.Name x p) [.Lambda params body scope lpos] [] pos) (tE X.K Z (heardM P q errs f ws js fb)) := by
  subst hq
  refine (pe_lamC (vs := vs) (t := fun E => tE X.K (ZE X.K E) fb) hg hm hk lk hcg hb Sg hNg hva hG TB hcode hr S hfree hfr hjs hl hdf hbind hbody hdb hd hcd).imp fun σ H Q h => ?_
  obtain ⟨δ, S0, ρ, R, re, gv⟩ := h
  unfold heardM at gv
  split at gv
  case h_2 => exact gv.elim
  rename_i P' q' h0
  split at gv
  case isFalse => exact gv.elim
  rename_i hPq
  obtain ⟨rfl, rfl⟩ := hPq
  obtain ⟨a0, ho, k1, k2, k3, k4⟩ := R.ob 0 _ h0 rfl
  subst k3
  refine ⟨Live S0 ρ, ⟨ho, k2, k4⟩, fun b l => R.tracked l, fun H0 ext hT H1 E Q' ext2 hE hQ => ?_⟩
  obtain ⟨o1, t1, t2⟩ := hT
  obtain ⟨e1, R1⟩ := rel_tab R h0 (fun b o e n => ext2 _ _ (ext b o e n)) ⟨o1, ext2 _ _ t1, t2.ext (fun a o e _ => ext2 a o e) fun a l => .inl l⟩
  have re1 : REnv X.K ρ H1 (Live S0 ρ) δ σ := Stb.env _ _ _ _ _ _ _ _ re e1
  refine ⟨lamW ws js δ, S0, ρ, R1, lamW_rep re1 (rv _ _ _) hn, ?_⟩
  cases eb : fb (lamW ws js δ) S0 with
  | ok w S' =>
    rw [eb] at gv
    intro ρ' H' v e2 R2 rw
    refine hQ v H' ⟨w, S', ρ', R2, rw, gives_imp (noEx_gives (E' := fun _ _ => False) gv) (fun w2 S2 z ρ2 H2 v2 e3 R3 rw2 => ?_) fun _ _ z => z⟩
    exact z ρ2 H2 v2 ((e1.trans e2).trans e3) R3 rw2
  | ex y S' =>
    rw [eb] at gv
    intro ρ' H' e2 R2 cls d fl
    refine hE cls d H' ⟨y, S', ρ', R2, fl, gives_imp (noEx_gives (E' := fun _ _ => False) gv) (fun w2 S2 z ρ2 H2 v2 e3 R3 rw2 => ?_) fun _ _ z => z⟩
    exact z ρ2 H2 v2 ((e1.trans e2).trans e3) R3 rw2
  | no => rw [eb] at gv; exact gv.elim
end DL
/-! DL26: the end of a law whose def makes lambdas: it has a table of code objects. -/
namespace DL
open PySem PySem.Spec PyProof.Rows L2 LamX NdefX

/-- the law's promise: a list of so many ints is handed in, its table is empty, True comes out -/
def spT (K : PySem.W.Frag) (P : Addr) : Sp := fun vs H Q _ => ∃ (a : Addr) (ns : List Int), vs = [.ref a] ∧ QF K H (fun b => b = P) a (ns.map V.int) ∧ ns.length ≤ 63 ∧ H P = some (.tbl #[]) ∧ ∀ H', Q (.bl true) H'
theorem spT_of {K : PySem.W.Frag} {ZZ : XK → XZ} {P : Addr} {q : Str} {F : List W → M W} (h : ∀ ns : List Int, ns.length ≤ 63 → ∃ S, F [.s ns] [.tab P q] = .ok (.d (.bool true)) S) : ∀ vs H Q E, spT K P vs H Q E → spF K ZZ F vs H Q E := by
  rintro vs H Q E ⟨a, ns, rfl, qf, hl, hP, hq⟩
  obtain ⟨S, e⟩ := h ns hl
  have lv : ∀ b, Live [.tab P q] ⟨[P], fun _ => False⟩ b → b = P := fun b z => by
    rcases z with ⟨n, o, z1, z2, z3⟩ | z
    · match n, z1, z3 with
      | 0, _, z3 => cases z3; rfl
      | n + 1, z1, _ => simp at z1
    · exact z.elim
  refine ⟨[.s ns], [.tab P q], ⟨[P], fun _ => False⟩, ⟨rfl, fun _ z => z.elim, fun _ z => z.elim, fun n o z1 z2 => ?_, fun n m b o u z1 z2 z3 z4 z5 z6 => ?_⟩, .cons ⟨a, rfl, qf.ext (fun _ _ z _ => z) fun b z => .inl (lv b z)⟩ .nil, ?_⟩
  · match n, z1 with
    | 0, z1 =>
      cases z1
      exact ⟨P, _, rfl, hP, rfl, #[], rfl, True.intro, fun pos cv hc => by simp [codeAmong] at hc⟩
    | n + 1, z1 => simp at z1
  · match n, m, z1, z3 with
    | 0, 0, _, _ => rfl
    | n + 1, _, z1, _ => simp at z1
    | 0, m + 1, _, z3 => simp at z3
  · rw [e]
    intro ρ' H' v _ _ rv
    cases rv
    exact hq H'
section
variable {Pr : Program} {w : World} {K : PySem.W.Frag} {mg mb : Str → Option Value} {k : Nat} {fa a c P : Addr} {fd : FuncData} {x : Str} {s₁ : Shared} {vs : List Value} {ns : List Int}
/-- the call of the law behind the top, where H tracks its table, and the script at most besides -/
theorem end_fromT {H : Hp} (KX : K.In s₁.heap) (hns : s₁.heap.Ns mainGlobals mg) (hb : s₁.heap.Ns builtinsNs mb) (hbb : ∀ x : Str, x ≠ "__name__" → mb x = bootBuiltins x) (hlim : s₁.heap.NoLimit) (hg : s₁.gens = #[])
    (hT : s₁.heap.get? P = some { cls := .none, data := .fields #[] }) (nT : K.lookup P = none) (C : PySem.W.CodeHd s₁.heap c P)
    (hbm : ∃ (bm : Addr) (ob : Obj), mg "__builtins__" = some (.ref bm) ∧ bm ≠ builtinsNs ∧ s₁.heap.get? bm = some ob ∧ ob.cls = .type "module" ∧ ob.dict = some builtinsNs ∧ ob.data = .plain)
    (ha : s₁.heap.get? a = some { cls := .type "list", data := .seq vs.toArray }) (hl : ns.length ≤ 63) (hr : Room k callerA)
    (F : ∀ base : Heap, K.In base → base.Ns mainGlobals mg → TabB base mg c P → FnG Pr w K mg base CX0 k fa fd [x] (spT K P)) (hbind : ∀ (s : Shared) (u : Value), BindsTo s fd ⟨[u], []⟩ [(x, u)])
    (hS : QF K H (fun b => b = P) a (ns.map V.int)) (hok : HOk Pr w H s₁.heap) (hP : H P = some (.tbl #[])) (hO : ∀ b u, H b = some u → (b = a ∧ (∃ o xs, u = .frz o (.lst xs)) ∧ K.lookup a = none) ∨ b = P) :
    codeAny (model Pr w) callerA (.call (.ref fa) ⟨[.ref a], []⟩) (fun r s' => r = .ok (.ret (.bool true)) ∧ OldK s₁.heap s'.heap ∧ s'.os = s₁.os ∧ AllBare s'.gens) s₁ := by
  have stands : ∀ {b : Addr} {o : Obj}, s₁.heap.get? b = some o → H b = none → (hidT s₁.heap H).get? b = some o := fun e n => hidT_get e n
  have untracked : ∀ {b : Addr} {o : Obj}, s₁.heap.get? b = some o → (∀ us n, o.data ≠ .seq us n) → o.data ≠ .fields #[] → H b = none := fun {b o} e n1 n2 => by
    cases q : H b with
    | none => rfl
    | some u =>
      rcases hO b u q with ⟨rfl, _⟩ | rfl
      · rw [ha] at e; cases e; exact (n1 _ _ rfl).elim
      · rw [hT] at e; cases e; exact (n2 rfl).elim
  have isDict : ∀ {b : Addr} {m : Str → Option Value}, s₁.heap.Ns b m → (hidT s₁.heap H).Ns b m := fun {b m} z => by
    obtain ⟨o, es, ep, e, d, r⟩ := z
    exact ⟨o, es, ep, stands e (untracked e (fun _ _ z => by rw [d] at z; cases z) fun z => by rw [d] at z; cases z), d, r⟩
  have KB : K.In (hidT s₁.heap H) := fun b o e => stands (KX b o e) (by
    cases q : H b with
    | none => rfl
    | some u =>
      rcases hO b u q with ⟨rfl, _, z⟩ | rfl
      · rw [z] at e; cases e
      · rw [nT] at e; cases e)
  have NB := isDict hns
  obtain ⟨mc, l1, l2⟩ := hlim
  have MB : Mod K mg (hidT s₁.heap H) := ⟨KB, NB, ⟨mb, isDict hb, hbb⟩, ⟨mc, isDict l1, l2⟩⟩
  have gP : mainGlobals ≠ P := fun z => by
    obtain ⟨o, es, ep, e, d, _⟩ := hns
    rw [z, hT] at e; cases e; cases d
  have TB : TabB (hidT s₁.heap H) mg c P := by
    obtain ⟨o, us, file, tf, flags, tg, inF, text, tt, e1, r1, r2, r3, rr⟩ := C
    obtain ⟨bm, ob, b1, b2, b3, b4, b5, b6⟩ := hbm
    refine ⟨⟨o, us, file, tf, flags, tg, inF, text, tt, stands e1 (untracked e1 (fun _ _ z => by rw [r2] at z; cases z) fun z => ?_), r1, r2, r3, rr⟩, ⟨bm, ob, b1, b2, fun z => ?_, fun z => ?_, stands b3 (untracked b3 (fun _ _ z => by rw [b6] at z; cases z) fun z => by rw [b6] at z; cases z), b4, b5, b6⟩, gP⟩
    · rw [r2] at z; cases z; simp at r3
    · obtain ⟨o', es, ep, e, d, _⟩ := hns
      rw [z, e] at b3; cases b3; rw [d] at b6; cases b6
    · rw [z, hT] at b3; cases b3; cases b6
  have E : Env0 Pr w K mg (hidT s₁.heap H) callerA [] s₁ H := ⟨rfl, MB, fun b o e => of_hidT e, Nat.le_of_eq (hidT_size _ _), trivial, fun b z => by simp [frs] at z, hok, .of_eq hg⟩
  have R := (F _ KB NB TB).run callerA [] s₁ H ⟨[.ref a], []⟩ [.ref a] [.ref a] (fun v _ => v = .bl true) E0 hr rfl E (hbind s₁ (.ref a)) (.cons rfl .nil) ⟨a, ns, rfl, hS, hl, hP, fun _ => rfl⟩
  refine codeAny_mono R fun r s' h => ?_
  cases r with
  | error e => exact h.elim
  | ok fl =>
    cases fl with
    | ret u =>
      obtain ⟨v, H', os, bare, un, hok', rv, q⟩ := h
      have q' : v = .bl true := q
      subst q'
      cases (show u = Value.bool true from rv)
      have other : ∀ b o, b ≠ P → s₁.heap.get? b = some o → s'.heap.get? b = some o := fun b o nb e => by
        cases q : H b with
        | none => exact un.keep b o e q (by simp [frs]) (by simp)
        | some u =>
          rcases hO b u q with ⟨_, ⟨ob, xs, rfl⟩, _⟩ | z
          · have before := (hok b _ q).1
            have after := (hok' b _ (un.frzs b ob _ q)).1
            rw [e] at before; cases before
            exact after
          · exact (nb z).elim
      obtain ⟨more, hm⟩ := un.tbls P #[] hP
      have hm : s'.heap.get? P = some { cls := .none, data := .fields (#[] ++ more) } := hok' P _ hm
      refine ⟨rfl, ⟨fun b o e => ?_, fun b o e => ?_⟩, os, bare⟩
      · by_cases hb : b = P
        · subst hb
          rw [hT] at e
          cases e
          exact .inr (.inl ⟨(C.tab hT).isCodeTable, rfl, #[], more, rfl, hm⟩)
        · exact .inl (other b o hb e)
      · by_cases hb : b = P
        · subst hb; exact ⟨_, hm⟩
        · exact ⟨o, other b o hb e⟩
    | next => exact h.elim
    | brk => exact h.elim
    | cont => exact h.elim
theorem end_callT (KX : K.In s₁.heap) (hns : s₁.heap.Ns mainGlobals mg) (hb : s₁.heap.Ns builtinsNs mb) (hbb : ∀ x : Str, x ≠ "__name__" → mb x = bootBuiltins x) (hlim : s₁.heap.NoLimit) (hg : s₁.gens = #[])
    (hT : s₁.heap.get? P = some { cls := .none, data := .fields #[] }) (nT : K.lookup P = none) (C : PySem.W.CodeHd s₁.heap c P)
    (hbm : ∃ (bm : Addr) (ob : Obj), mg "__builtins__" = some (.ref bm) ∧ bm ≠ builtinsNs ∧ s₁.heap.get? bm = some ob ∧ ob.cls = .type "module" ∧ ob.dict = some builtinsNs ∧ ob.data = .plain)
    (ha : s₁.heap.get? a = some { cls := .type "list", data := .seq vs.toArray }) (hi : IntsAre vs ns) (hl : ns.length ≤ 63) (hr : Room k callerA)
    (F : ∀ base : Heap, K.In base → base.Ns mainGlobals mg → TabB base mg c P → FnG Pr w K mg base CX0 k fa fd [x] (spT K P)) (hbind : ∀ (s : Shared) (u : Value), BindsTo s fd ⟨[u], []⟩ [(x, u)]) :
    codeAny (model Pr w) callerA (.call (.ref fa) ⟨[.ref a], []⟩) (fun r s' => r = .ok (.ret (.bool true)) ∧ OldK s₁.heap s'.heap ∧ s'.os = s₁.os ∧ AllBare s'.gens) s₁ := by
  have rv := vals_ints hi
  have many : ns.length = vs.length := by
    have := rv.length
    simpa using this
  have small : vs.length ≤ sizeLine := by
    have : (63 : Nat) ≤ sizeLine := by decide
    omega
  have aP : a ≠ P := fun z => by
    rw [z, hT] at ha
    cases (Option.some.inj ha)
  have t0 : upd (fun _ => none) P (.tbl #[]) P = some (HO.tbl #[]) := upd_same
  cases hk : K.lookup a with
  | some o =>
    have e := KX a o hk
    rw [ha] at e
    cases e
    have only : ∀ b u, upd (fun _ => none) P (.tbl #[]) b = some u → b = P ∧ u = .tbl #[] := fun b u z => by
      by_cases e : b = P
      · subst e; rw [t0] at z; cases z; exact ⟨rfl, rfl⟩
      · rw [upd_ne e] at z; cases z
    refine end_fromT (H := upd (fun _ => none) P (.tbl #[])) KX hns hb hbb hlim hg hT nT C hbm ha hl hr F hbind (.inr ⟨_, vs.toArray, _, hk, rfl, rfl, rfl, by simpa using small, by simpa using rv⟩) (fun b u z => ?_) t0 fun b u z => .inr (only b u z).1
    obtain ⟨rfl, rfl⟩ := only b u z
    exact hT
  | none =>
    have only : ∀ b u, upd (upd (fun _ => none) P (.tbl #[])) a (.frz { cls := .type "list", data := .seq vs.toArray } (.lst (ns.map V.int))) b = some u →
        (b = a ∧ u = .frz { cls := .type "list", data := .seq vs.toArray } (.lst (ns.map V.int))) ∨ (b = P ∧ u = .tbl #[]) := fun b u z => by
      by_cases e : b = a
      · subst e; rw [upd_same] at z; cases z; exact .inl ⟨rfl, rfl⟩
      · rw [upd_ne e] at z
        by_cases e2 : b = P
        · subst e2; rw [upd_same] at z; cases z; exact .inr ⟨rfl, rfl⟩
        · rw [upd_ne e2] at z; cases z
    refine end_fromT (H := upd (upd (fun _ => none) P (.tbl #[])) a (.frz { cls := .type "list", data := .seq vs.toArray } (.lst (ns.map V.int)))) KX hns hb hbb hlim hg hT nT C hbm ha hl hr F hbind
      (.inl ⟨.inr ⟨_, upd_same⟩, aP⟩) (fun b u z => ?_) (by rw [upd_ne (Ne.symm aP)]; exact t0) fun b u z => ?_
    · rcases only b u z with ⟨rfl, rfl⟩ | ⟨rfl, rfl⟩
      · exact ⟨ha, by rw [List.length_map]; omega, vs, _, rv, ha⟩
      · exact hT
    · rcases only b u z with ⟨rfl, rfl⟩ | ⟨rfl, rfl⟩
      · exact .inl ⟨rfl, ⟨_, _, rfl⟩, hk⟩
      · exact .inr rfl
end
/-- the goal that the head leaves, from the promise of the law's def, whose code object's table is known -/
theorem end_ofT {l : PySem.W.OpenLaw} {k : Nat} {q : Program} {loose : List Str} {XP : (Str → Option Value) → Heap → Prop} {YP : World → Heap → Prop} {d : DefRec} {K : Params → PySem.W.Frag}
    (hn : l.most = some 63) (hdf : d.params.defaults = []) (hr : Room k callerA) (hY : ∀ (w : World) (h : Heap), YP w h → (K w.params).In h)
    (F : ∀ (w : World) (mg : Str → Option Value) (fa : Addr) (h : Heap), YP w h → (K w.params).In h → h.Ns mainGlobals mg → mg d.name = some (.ref fa) →
      ∃ (fd : FuncData) (c P : Addr), h.get? P = some { cls := .none, data := .fields #[] } ∧ (K w.params).lookup P = none ∧ PySem.W.CodeHd h c P ∧ (∀ (s : Shared) (u : Value), BindsTo s fd ⟨[u], []⟩ [("script", u)]) ∧
        ∀ base : Heap, (K w.params).In base → base.Ns mainGlobals mg → TabB base mg c P → FnG l.prog w (K w.params) mg base CX0 k fa fd ["script"] (spT (K w.params) P)) :
    PySem.W.WalkO q loose XP YP l.row.toRowW d [] (fun f vs => PySem.call f vs) := by
  refine Att.attach_call hn hdf fun w s₀ s₁ mg mb fa o pm cd doc a vs ns G Y ho hd hcd hmg hobj hints hlen hg => ?_
  have KX := hY w _ Y
  obtain ⟨fd, c, P, hT, nT, C, hb, hF⟩ := F w mg fa _ Y KX G.T.g hmg
  exact end_callT KX G.T.g G.T.b G.T.builtins G.T.nolimit hg hT nT C G.T.bmain hobj hints hlen hr hF hb
end DL
/-! DL27: max with and without a default, join, built-ins with keywords; defs that may raise, where they do not. -/
namespace DLM
open PySem
section
variable {prog : Program} {w : World} {A : Around} {R : Result → Shared → Prop} {I S : Addr} {fp wr : List Addr} {n : Nat} {P : Nat → Value → Prop} {St : Nat → Heap → Prop} {bt : Nat → Nat → Bool} {d : Value}
/-- the list that keeps the best so far -/
def bestO (old : Option Value) (c : Nat) : Obj := { cls := .type "list", dict := none, data := .seq (old.elim #[] fun v => #[v, v]) c, slots := #[] }
theorem loopD (W : Walks prog w A.in1 I fp wr n P St) (hcmp : CmpOf prog w A.in1 .Gt P bt) (hSf : S ∉ fp) : ∀ (m j : Nat) (s : Shared) (old : Option Value) (c : Nat), n - j = m → j ≤ n → St j s.heap → (old = none → j = 0) → (∀ v, old = some v → 0 < j ∧ P (argBest bt (j - 1)) v) →
    s.heap.get? S = some (bestO old c) → (∀ v h' tk, ((n = 0 ∧ v = d) ∨ (0 < n ∧ P (argBest bt (n - 1)) v)) → (∀ b o, b ∉ wr → b ≠ S → s.heap.get? b = some o → h'.get? b = some o) → R (.ok (.ret v)) { s with heap := h', toks := tk }) →
    codeAny (model prog w) A (.builtin "max.loop" ⟨[.ref I, .none, .ref S], [("default", d)]⟩) R s := by
  have hSw : S ∉ wr := fun h => hSf (W.sub _ h)
  have same : (toString "max" ++ toString ".loop" : String) = "max.loop" := by decide
  intro m
  induction m with
  | zero =>
    intro j s old c hm hj hst h0 h1 hS hR
    have e : j = n := by omega
    subst e
    refine codeAny_builtin F.entry_max_loop ?_
    rw [Around.under_plainId F.plain_max_loop _]
    show wpAny _ A.in1 (seqItems? (.ref S) >>= _) _ _ s
    refine wpAny_bind (wpAny_seqItems hS rfl ?_)
    show wpAny _ A.in1 (tryCatch (pyNext (.ref I)) _ >>= _) _ _ s
    refine wpAny_bind (wpAny_tryCatch (W.done s _ _ hst fun h' tk k => ?_))
    cases old with
    | none =>
      show wpAny _ A.in1 (rule _ >>= fun _ => ret d) _ _ _
      exact wpAny_bind (wpAny_rule (wpAny_pure (hR d h' tk (.inl ⟨h0 rfl, rfl⟩) fun b o hb _ e => k b o hb e)))
    | some v =>
      obtain ⟨p1, p2⟩ := h1 v rfl
      show wpAny _ A.in1 (updateSeq S (fun _ => #[]) >>= _) _ _ _
      have hS2 : h'.get? S = some { cls := .type "list", dict := none, data := .seq #[v, v] c, slots := #[] } := k S _ hSw hS
      refine wpAny_bind (wpAny_updateSeq hS2 rfl (wpAny_bind (wpAny_letGo (wpAny_pure ?_))))
      exact hR v _ tk (.inr ⟨p1, p2⟩) fun b o hb hbS e => (Heap.get?_update_other _ _ (Ne.symm hbS)).trans (k b o hb e)
  | succ m ih =>
    intro j s old c hm hj hst h0 h1 hS hR
    have lt : j < n := by omega
    refine codeAny_builtin F.entry_max_loop ?_
    rw [Around.under_plainId F.plain_max_loop _]
    show wpAny _ A.in1 (seqItems? (.ref S) >>= _) _ _ s
    refine wpAny_bind (wpAny_seqItems hS rfl ?_)
    show wpAny _ A.in1 (tryCatch (pyNext (.ref I)) _ >>= _) _ _ s
    refine wpAny_bind (wpAny_tryCatch (W.item j s _ _ lt hst fun v h' tk hP hst' k => ?_))
    have hS' := k S _ hSw hS
    have next : ∀ (h2 : Heap) (u : Value) (c2 : Nat), St (j + 1) h2 → P (argBest bt j) u → h2.get? S = some (bestO (some u) c2) → (∀ b o, b ∉ wr → b ≠ S → s.heap.get? b = some o → h2.get? b = some o) →
        codeAny (model prog w) A (.builtin "max.loop" ⟨[.ref I, .none, .ref S], [("default", d)]⟩) R { s with heap := h2, toks := tk } := fun h2 u c2 st2 hp2 hS2 k2 =>
      ih (j + 1) _ (some u) c2 (by omega) lt st2 (fun z => by cases z) (fun v' z => by cases z; exact ⟨Nat.succ_pos _, hp2⟩) hS2 fun v' h3 tk3 hv k3 => hR v' h3 tk3 hv fun b o hb hbS e => k3 b o hb hbS (k2 b o hb hbS e)
    cases old with
    | none =>
      have e0 := h0 rfl
      subst e0
      show wpAny _ A.in1 (updateSeq S (fun _ => #[v, v]) >>= _) _ _ _
      refine wpAny_bind (wpAny_updateSeq hS' rfl ?_)
      rw [same]
      refine wpAny_pure ⟨plainId_quiet F.plain_max_loop _, next _ v _ (W.frame _ _ _ hst' fun b hb o e => ?_) hP (Heap.get?_update_self _ hS' rfl) fun b o hb hbS e => ?_⟩
      · exact (Heap.get?_update_other _ _ (fun h : S = b => hSf (by rw [h]; exact hb))).trans e
      · exact (Heap.get?_update_other _ _ (Ne.symm hbS)).trans (k b o hb e)
    | some u =>
      obtain ⟨p1, p2⟩ := h1 u rfl
      obtain ⟨i, rfl⟩ : ∃ i, j = i + 1 := ⟨j - 1, by omega⟩
      have p2 : P (argBest bt i) u := p2
      show wpAny _ A.in1 (tryCatch (holding [v, v] (richCompare .Gt v u >>= _)) _ >>= _) _ _ _
      refine wpAny_bind (wpAny_tryCatch (wpAny_holding (wpAny_bind (hcmp (i + 1) (argBest bt i) v u _ _ _ hP p2 ?_))))
      refine wpAny_bind (wpAny_holding (wpAny_truthy_bool (wpAny_bind (wpAny_letGo (wpAny_pure ?_)))))
      cases hb : bt (i + 1) (argBest bt i) with
      | true =>
        simp only [if_true]
        have hS2 : h'.get? S = some { cls := .type "list", dict := none, data := .seq #[u, u] c, slots := #[] } := hS'
        refine wpAny_bind (wpAny_updateSeq hS2 rfl (wpAny_bind (wpAny_letGo ?_)))
        rw [same]
        refine wpAny_pure ⟨plainId_quiet F.plain_max_loop _, next _ v _ (W.frame _ _ _ hst' fun b hb o e => ?_) (by simp only [argBest, hb, if_true]; exact hP) (Heap.get?_update_self _ hS' rfl) fun b o hb hbS e => ?_⟩
        · exact (Heap.get?_update_other _ _ (fun h : S = b => hSf (by rw [h]; exact hb))).trans e
        · exact (Heap.get?_update_other _ _ (Ne.symm hbS)).trans (k b o hb e)
      | false =>
        simp only [Bool.false_eq_true, if_false]
        refine wpAny_bind (wpAny_letGo ?_)
        rw [same]
        exact wpAny_pure ⟨plainId_quiet F.plain_max_loop _, next _ u c hst' (by simp only [argBest, hb, Bool.false_eq_true, if_false]; exact p2) hS' fun b o hb hbS e => k b o hb e⟩
end
section
variable {prog : Program} {w : World} {A : Around} {E : Value → Shared → Prop} {s : Shared}
/-- a built-in with keywords that goes on by itself -/
theorem call_tree_kw {id : String} {b : Builtin} {args : List Value} {kw : List (Str × Value)} {Q : Value → Shared → Prop} (hk : builtinKind id = none) (hp : plainId id = true) (hb : entryFor table id = some b) (ha : argsOk id ⟨args, kw⟩)
    (hc : wpAny (model prog w) A.in1 (b ⟨args, kw⟩) (fun fin s' => match fin with
      | .done f => (match (Except.ok f : Result) with | .ok (.ret v) => Q v s' | .ok _ => False | .error e => E e s')
      | .again c' => c'.quiet = true ∧ codeAny (model prog w) A c' (fun r s' => match r with | .ok (.ret v) => Q v s' | .ok _ => False | .error e => E e s') s') E s) :
    wpAny (model prog w) A (call (.builtin id) args kw) Q E s := by
  refine wpAny_call (codeAny_call_builtin hp hb ?_)
  unfold checkBuiltinCall
  rw [hk]
  dsimp only
  cases hs : Manifest.signature? id with
  | none => exact wpAny_pure hc
  | some sig =>
    unfold argsOk at ha
    rw [hs] at ha
    have h2 : Bind.checkArgs id sig ⟨args, kw⟩ = pure () := ha
    show wpAny _ A.in1 (Bind.checkArgs id sig ⟨args, kw⟩) _ _ s
    rw [h2]
    exact wpAny_pure hc
theorem args_maxD (a d : Value) : argsOk "max" ⟨[a], [("default", d)]⟩ := by unfold argsOk; kernel_rfl
theorem max_intD {l : Addr} {xs : Array (Int × Tok)} {d : Value} {Q : Value → Shared → Prop} (hh : A.handled = none) (hl : s.heap.IsList l (intItems xs))
    (h : ∀ v h' tk, ((xs.size = 0 ∧ v = d) ∨ (0 < xs.size ∧ (intItems xs)[argBest (fun i j => decide (numAt xs i > numAt xs j)) (xs.size - 1)]? = some v)) → (∀ b o, s.heap.get? b = some o → h'.get? b = some o) → Q v { s with heap := h', toks := tk }) :
    wpAny (model prog w) A (call (.builtin "max") [.ref l] [("default", d)]) Q E s := by
  refine call_tree_kw F.kind_max F.plain_max F.entry_max (args_maxD _ _) ?_
  show wpAny _ A.in1 (Builtin.Builtins.bindParams "max" ["key", "default"] 0 ⟨[], [("default", d)]⟩ >>= _) _ _ s
  refine wpAny_bind (wpAny_of_eq (show Builtin.Builtins.bindParams "max" ["key", "default"] 0 ⟨[], [("default", d)]⟩ = pure [none, some d] from rfl) ?_)
  refine wpAny_bind (wpAny_pure (wpAny_bind (iter_intList hl fun s₂ e st hfp hlI => ?_)))
  subst e
  refine wpAny_bind (wpAny_newObj_type ?_)
  have hSf := fun hm => Nat.lt_irrefl _ (hfp _ hm)
  have same : (toString "max" ++ toString ".loop" : String) = "max.loop" := by decide
  have W := Walks.list (prog := prog) (w := w) (A := A.in1) hh s.heap.objs.size l hlI (intItems xs)
  rw [same]
  refine wpAny_pure ⟨plainId_quiet F.plain_max_loop _, loopD W (CmpOf.ints_gt (numAt xs) (fun _ _ => intItems_at)) hSf _ 0 _ none _ rfl (Nat.zero_le _) (W.frame _ _ _ st fun b _ o e => Heap.get?_push_of_some _ e) (fun _ => rfl) (fun v z => by cases z) (Heap.get?_push_size _ rfl) fun v h' tk hv k => ?_⟩
  refine h v h' tk (by simpa [intItems] using hv) (old_kept fun b o hb e => k b o (by simpa using hb) (fun z => ?_) (Heap.get?_push_of_some _ e))
  have lt := Heap.lt_size e
  rw [z] at lt
  exact Nat.lt_irrefl _ lt
end
end DLM
/-! DL28: rules over DL27; what is known of own errors. -/
namespace DL
open PySem PySem.Spec PyProof.Rows L2

/-! ### max -/
def intsOf : List D → Option (List Int)
  | [] => some []
  | .int i :: ds => (intsOf ds).map (i :: ·)
  | _ :: _ => none
theorem intsOf_rep {K : PySem.W.Frag} {H : Hp} {L : Addr → Prop} : ∀ {ds : List D} {vs : List V} {ns : List Int}, intsOf ds = some ns → RpA K H L vs ds → vs = ns.map V.int
  | [], _, ns, h, r => by cases r; simp [intsOf] at h; subst h; rfl
  | d :: ds, _, ns, h, r => by
    cases r with
    | cons a b =>
      cases d with
      | int i =>
        simp only [intsOf, Option.map_eq_some_iff] at h
        obtain ⟨ms, h1, rfl⟩ := h
        cases a
        rw [intsOf_rep h1 b]
        rfl
      | none => simp [intsOf] at h
      | bool _ => simp [intsOf] at h
      | str _ => simp [intsOf] at h
      | list _ => simp [intsOf] at h
      | tuple _ => simp [intsOf] at h
      | dict _ => simp [intsOf] at h
theorem intsOf_map : ∀ ns : List Int, intsOf (ns.map .int) = some ns
  | [] => rfl
  | n :: ns => by simp [intsOf, intsOf_map ns]
def maxOf (d : Int) : List Int → Int
  | [] => d
  | x :: xs => xs.foldl max x
theorem foldl_max : ∀ (xs : List Int) (x : Int), (xs.foldl max x = x ∨ xs.foldl max x ∈ xs) ∧ x ≤ xs.foldl max x ∧ ∀ a ∈ xs, a ≤ xs.foldl max x
  | [], x => ⟨.inl rfl, Int.le_refl _, fun a h => by simp at h⟩
  | y :: ys, x => by
    obtain ⟨h1, h2, h3⟩ := foldl_max ys (max x y)
    refine ⟨?_, Int.le_trans (Int.le_max_left x y) h2, fun a ha => ?_⟩
    · rcases h1 with h1 | h1
      · rw [List.foldl_cons, h1]
        rcases Int.le_total x y with q | q
        · exact .inr (by rw [Int.max_eq_right q]; exact .head _)
        · exact .inl (Int.max_eq_left q)
      · exact .inr (.tail _ h1)
    · rcases List.mem_cons.mp ha with rfl | ha
      · exact Int.le_trans (Int.le_max_right x a) h2
      · exact h3 a ha
theorem maxOf_eq {d M : Int} {ns : List Int} (h : M ∈ ns) (hs : ∀ a ∈ ns, a ≤ M) : maxOf d ns = M := by
  cases ns with
  | nil => simp at h
  | cons x xs =>
    obtain ⟨h1, h2, h3⟩ := foldl_max xs x
    refine Int.le_antisymm ?_ ?_
    · rcases h1 with e | e
      · show xs.foldl max x ≤ M
        rw [e]; exact hs _ (.head _)
      · exact hs _ (.tail _ e)
    · rcases List.mem_cons.mp h with rfl | e
      · exact h2
      · exact h3 _ e
/-- max(xs, default=k) -/
def maxDM (ws ks : List W) : M W := fun S => match ws, ks with
  | [.d (.list ds)], [.d (.int k)] => (match intsOf ds with
    | some ns => .ok (.d (.int (maxOf k ns))) S
    | none => .no)
  | _, _ => .no
/-- max(xs) -/
def maxM (ws : List W) : M W := fun S => match ws with
  | [.d (.list ds)] => (match intsOf ds with
    | some ns => if 0 < ns.length then .ok (.d (.int (maxOf 0 ns))) S else .no
    | none => .no)
  | _ => .no
def rkM (K : PySem.W.Frag) (Z : XZ) (fo : List W → List W → M W) : List V → List V → Hp → VK → Prop := fun xs zs H Q => tH K Z (rP (RWs K) (RWs K)) (RW K) (fun p => fo p.1 p.2) (xs, zs) H Q
section
variable {X : Cx} {Z : XZ} {pos : Pos} {a e o : Expr} {es : List Expr} {fr fk : Env → M (List W)} {fa : Env → M W}
theorem c_maxD (hc : X.calm = true) : CallRK X (.builtin "max") ["default"] (rkM X.K Z maxDM) := by
  intro pins s σ H xs zs us ws Q I rv rz h
  obtain ⟨⟨w1, w2⟩, S, ρ, R, ⟨r1, r2⟩, g⟩ := h
  change Gives (maxDM w1 w2 S) _ _ at g
  change RWs X.K ρ H (Live S ρ) w1 xs at r1
  change RWs X.K ρ H (Live S ρ) w2 zs at r2
  unfold maxDM at g
  split at g
  · rename_i ds k
    split at g
    · rename_i ns en
      cases r1 with
      | cons x y =>
        cases y
        cases r2 with
        | cons x2 y2 =>
          cases y2
          cases x2
          cases x with
          | lst q ra =>
            have ev := intsOf_rep en ra
            subst ev
            obtain ⟨u, rfl, ru⟩ := rz.one
            obtain ⟨its, rvi, hl, _⟩ := I.list q.sq
            rw [Vals.ref1 rv]
            have hi := rvi.ints
            obtain ⟨qs, eq⟩ := hi.allInts.items
            have hn : numsOf (intItems qs).toList = ns := by rw [← eq]; exact hi.numsOf
            rw [nums_intItems] at hn
            rw [eq] at hl
            refine DLM.max_intD (I.ok.hd hc) hl.isList fun v h' tk hv hk => ?_
            rcases hv with ⟨h0, rfl⟩ | ⟨h0, hv⟩
            · have e0 : ns = [] := by
                rw [← hn]
                have : qs.toList = [] := by
                  apply List.eq_nil_of_length_eq_zero
                  simpa using h0
                rw [this]; rfl
              subst e0
              exact ⟨.int k, H, I.kept hk, ru, g ρ H (.int k) Ext.refl R (.int k)⟩
            · obtain ⟨t, rfl⟩ := intItems_at hv
              obtain ⟨h1, h2⟩ := argBest_gt (numAt qs) (qs.size - 1)
              have em : maxOf k ns = numAt qs (argBest (fun i j => decide (numAt qs i > numAt qs j)) (qs.size - 1)) := by
                refine maxOf_eq ?_ fun a ha => ?_
                · rw [← hn, numAt_eq]; exact PySem.getD_mem (by rw [List.length_map, Array.length_toList]; omega)
                · rw [← hn] at ha
                  obtain ⟨j, hj, rfl⟩ := mem_getD ha
                  rw [List.length_map, Array.length_toList] at hj
                  rw [← numAt_eq]; exact h2 j (by omega)
              rw [em] at g
              exact ⟨.int _, H, I.kept hk, ⟨t, rfl⟩, g ρ H (.int _) Ext.refl R (.int _)⟩
    · exact g.elim
  · exact g.elim
theorem c_max (hc : X.calm = true) : CallR X (.builtin "max") (rcM X.K Z maxM) := by
  rintro pins s σ H xs us Q I rv ⟨ws, S, ρ, R, r1, g⟩
  unfold maxM at g
  split at g
  · rename_i ds
    split at g
    · rename_i ns en
      split at g
      · rename_i hp
        cases r1 with
        | cons x y =>
          cases y
          cases x with
          | lst q ra =>
            have ev := intsOf_rep en ra
            subst ev
            refine cr_max hc pins s σ H _ us Q I rv ⟨_, ns, rfl, q.sq, hp, fun m h1 h2 => ?_⟩
            rw [← maxOf_eq (d := 0) h1 h2]
            exact g ρ H (.int _) Ext.refl R (.int _)
      · exact g.elim
    · exact g.elim
  · exact g.elim
abbrev calBK (fr fk : Env → M (List W)) (fo : List W → List W → M W) : Env → M W := fun δ => bd (fr δ) fun xs => bd (fk δ) fun ys => fo xs ys
/-- a built-in called with keywords -/
theorem dcallBK {id : String} {x : Str} {p : Pos} {ks : List Str} {kws : List Keyword} {fo : List W → List W → M W} (hc : CallRK X (.builtin id) ks (rkM X.K Z fo)) (hg : Gl X x) (hm : X.mg x = none) (hv : bootBuiltins x = some (.builtin id)) (ha : PA X (e :: es) (tA X.K Z fr)) (hk : PK X kws (tA X.K Z fk))
    (hn : x ≠ "__name__" := by decide) (hdb : (x == ("__debug__" : Str)) = false := by decide) (he : backTo pos (starEach (e :: es) X.env) = (false, eval e X.env) :: backTo pos (starEach es X.env) := by rfl) (hpl : (backTo pos (starEach (e :: es) X.env)).any (·.1) = false := by rfl)
    (hall : (backToKw pos (keywordEach kws X.env)).all (·.1.isSome) = true := by rfl) (hnone : (backToKw pos (keywordEach kws X.env)).any (·.1.isNone) = false := by rfl) (hks : (backToKw pos (keywordEach kws X.env)).filterMap (·.1) = ks := by rfl) :
    PE X (.Call (.Name x p) (e :: es) kws pos) (tE X.K Z (calBK fr fk fo)) := by
  refine (pe_callBK hc hg hm hv ha hk hn hdb he hpl hall hnone hks).imp fun σ H Q h => ?_
  refine (tH.bind (Rα := RWs X.K) (f := fr) (g := fun δ xs => bd (fk δ) fun ys => fo xs ys) h Stb.env).mono fun vs H1 h1 => ?_
  have h2 := tH.bind (Rα := RWs X.K) (f := fun p : Env × List W => fk p.1) (g := fun p ys => fo p.2 ys) h1 (Stb.env.p Stb.ws)
  refine (tH.map (RA' := REnv X.K) (m := fk) (f := Prod.fst) (g := Prod.fst) h2 fun _ _ _ _ _ q => q.1).mono fun us H2 h3 => ?_
  exact tH.map (RA' := rP (RWs X.K) (RWs X.K)) (m := fun p : List W × List W => fo p.1 p.2) (f := fun q : (Env × List W) × List W => (q.1.2, q.2)) (g := fun q : (L2.St × List V) × List V => (q.1.2, q.2)) h3 fun _ _ _ _ _ q => ⟨q.1.2, q.2⟩
/-! ### join -/
def strsOf : List D → Option (List Str)
  | [] => some []
  | .str x :: ds => (strsOf ds).map (x :: ·)
  | _ :: _ => none
theorem strsOf_rep {K : PySem.W.Frag} {H : Hp} {L : Addr → Prop} : ∀ {ds : List D} {vs : List V} {ns : List Str}, strsOf ds = some ns → RpA K H L vs ds → vs = ns.map V.str ∧ ∀ x ∈ ns, okS x = true
  | [], _, ns, h, r => by cases r; simp [strsOf] at h; subst h; exact ⟨rfl, fun x h => by simp at h⟩
  | d :: ds, _, ns, h, r => by
    cases r with
    | cons a b =>
      cases d with
      | str i =>
        simp only [strsOf, Option.map_eq_some_iff] at h
        obtain ⟨ms, h1, rfl⟩ := h
        obtain ⟨e, ho⟩ := strsOf_rep h1 b
        cases a with
        | str _ o => exact ⟨by rw [e]; rfl, fun x hx => by rcases List.mem_cons.mp hx with rfl | hx; exact o; exact ho x hx⟩
      | none => simp [strsOf] at h
      | bool _ => simp [strsOf] at h
      | int _ => simp [strsOf] at h
      | list _ => simp [strsOf] at h
      | tuple _ => simp [strsOf] at h
      | dict _ => simp [strsOf] at h
theorem strsOf_map : ∀ ns : List Str, strsOf (ns.map .str) = some ns
  | [] => rfl
  | n :: ns => by simp [strsOf, strsOf_map ns]
theorem okS_join {a : Str} (ha : okS a = true) : ∀ {ys : List Str}, (∀ y ∈ ys, okS y = true) → okS (Str.join a ys) = true
  | [], _ => (by decide +kernel : okS Str.empty = true)
  | [y], h => h y (.head _)
  | y :: z :: ys, h => by
    show okS (y ++ a ++ Str.join a (z :: ys)) = true
    exact okS_app (okS_app (h y (.head _)) ha) (okS_join ha fun x hx => h x (.tail _ hx))
def chkS (w : W) : M Unit := fun S => match w with
  | .d (.str _) => .ok () S
  | _ => .no
theorem chkS_ok {K : PySem.W.Frag} : ChkOk K "str" chkS := by
  intro w S ρ H v P E R r g
  unfold chkS at g
  split at g
  · cases r with
    | str x o => exact ⟨rfl, g⟩
  · exact g.elim
def joinM (w : W) (ws : List W) : M W := fun S => match w, ws with
  | .d (.str a), [.d (.list ds)] => (match strsOf ds with
    | some ys => if (ys.map (·.length)).sum + ys.length * a.length ≤ 16777216 then .ok (.d (.str (Str.join a ys))) S else .no
    | none => .no)
  | _, _ => .no
theorem m_join : MtR X "str.join" (rmM X.K Z joinM) := by
  rintro pins s σ H x xs v us Q I rx rxs ⟨⟨w, ws⟩, S, ρ, R, ⟨r1, r2⟩, g⟩
  change Gives (joinM w ws S) _ _ at g
  change RW X.K ρ H (Live S ρ) w x at r1
  change RWs X.K ρ H (Live S ρ) ws xs at r2
  unfold joinM at g
  split at g
  · rename_i a ds
    split at g
    · rename_i ys ey
      split at g
      · rename_i hl
        cases r1 with
        | str _ oa =>
          cases r2 with
          | cons x y =>
            cases y
            cases x with
            | lst q ra =>
              obtain ⟨ev, ho⟩ := strsOf_rep ey ra
              subst ev
              refine mt_join pins s σ H _ _ v us Q I rx rxs ⟨a, _, ys, rfl, rfl, .inl q.sq, hl, ?_⟩
              rw [TL.join_eq]
              exact g ρ H (.str _) Ext.refl R (.str _ (okS_join oa ho))
      · exact g.elim
    · exact g.elim
  · exact g.elim
end
/-! ### a def that may raise, where it does not -/
theorem fn_noEx {P : Program} {w : World} {K : PySem.W.Frag} {mg : Str → Option Value} {base : Heap} {k : Nat} {f : Addr} {fd : FuncData} {ps : List Str} {F : List W → M W}
    (h : FnG P w K mg base (L2.CX P w) k f fd ps (spF K (ZE K) F)) : FnG P w K mg base CX0 k f fd ps (spF K (fun _ => ZF) fun ws => noEx (F ws)) := by
  have to : ∀ vs H Q E, spF K (fun _ => ZF) (fun ws => noEx (F ws)) vs H Q E → spF K (ZE K) F vs H Q E0 := fun vs H Q E q => by
    obtain ⟨ws, S, ρ, R, rw, g⟩ := q
    exact ⟨ws, S, ρ, R, rw, noEx_gives g⟩
  refine ⟨fun vs H Q E q => h.len _ _ _ _ (to _ _ _ _ q), fun A outer s H args us vs Q E hr hg e0 hb hv q => ?_⟩
  refine codeAny_mono (h.run A outer s H args us vs Q E0 hr hg e0 hb hv (to _ _ _ _ q)) fun r s' z => ?_
  cases r with
  | ok fl => cases fl <;> exact z
  | error e =>
    obtain ⟨_, _, _, _, _, _, _, _, _, _, _, _, z⟩ := z
    exact z.elim
/-! ### what the written part says of the errors -/
/-- an own error that is raised: its field, its message -/
structure RaiseTx (P : Program) (K : PySem.W.Frag) (mg : Str → Option Value) (x f msg : Str) : Prop where
  ex : ∃ (C fI : Addr) (q : Str) (params : Arguments) (body : List Stmt) (sc : Scope), DLE.SupTxt P K mg C fI q f params body sc ∧ DLE.InitForm q f msg fI params body sc ∧ mg x = some (.ref C) ∧ PySem.W.nsIn K mainGlobals x = some (some (.ref C))
/-- a class that is asked for by isinstance, of errors of the classes told -/
structure KindTx (K : PySem.W.Frag) (mg : Str → Option Value) (y : Str) (tb : List (Str × Bool)) : Prop where
  ex : ∃ Cy : Addr, mg y = some (.ref Cy) ∧ ∀ q ∈ tb, ∀ C : Addr, PySem.W.nsIn K mainGlobals q.1 = some (some (.ref C)) → PySem.W.kitOne K (.ref C) (.ref Cy) = some q.2
  ek : ∀ q ∈ tb, ErrK K q.1
structure CatchTx (K : PySem.W.Frag) (mg : Str → Option Value) (y : Str) (errs : List Str) : Prop where
  ex : ∃ Cy : Addr, mg y = some (.ref Cy) ∧ ∀ x ∈ errs, ∀ C : Addr, PySem.W.nsIn K mainGlobals x = some (some (.ref C)) → PySem.W.exmOne K (.ref C) (.ref Cy) = some true
structure FieldTx (K : PySem.W.Frag) (x f : Str) : Prop where
  ek : ErrK K x
  no : ∀ C : Addr, PySem.W.nsIn K mainGlobals x = some (some (.ref C)) → PySem.W.findIn K (.ref C) f = some none
section
variable {X : Cx} {Z : XZ} {pos : Pos} {a e : Expr} {fa fe : Env → M W} {x f msg : Str} {p p2 pos2 : Pos} {k : Nat}
theorem ds_raiseT (T : RaiseTx X.prog X.K X.mg x f msg) (hc : X.calm = true) (tk : Tk X Z) (hr : Room k X.A) (ha : PE X a (tE X.K Z fa)) (hg : Gl X x) (hdb : (x == ("__debug__" : Str)) = false := by decide)
    (he : starEach (a :: []) X.env = (false, eval a X.env) :: starEach [] X.env := by rfl) (hpl : (backTo pos (starEach [] X.env)).any (·.1) = false := by rfl) :
    PS X (.Raise (some (.Call (.Name x p) [a] [] pos)) none pos2) (tS X.K Z (raiseM x f fa)) := by
  obtain ⟨C, fI, q, params, body, sc, h1, h2, h3, h4⟩ := T.ex
  exact ds_raise hc tk h1 h2 h3 h4 hr ha hg hdb he hpl
theorem disiT {tb : List (Str × Bool)} {y : Str} (T : KindTx X.K X.mg y tb) (hg : Gl X "isinstance") (hm : X.mg "isinstance" = none) (hgy : Gl X y) (ha : PE X e (tE X.K Z fe))
    (hdy : (y == ("__debug__" : Str)) = false := by decide) (he : starEach [e, .Name y p2] X.env = (false, eval e X.env) :: starEach [.Name y p2] X.env := by rfl) (hpl : (backTo pos (starEach [.Name y p2] X.env)).any (·.1) = false := by rfl) :
    PE X (.Call (.Name "isinstance" p) [e, .Name y p2] [] pos) (tE X.K Z fun δ => bd (fe δ) (isiEM tb)) := by
  obtain ⟨Cy, h1, h2⟩ := T.ex
  exact disiE T.ek h2 hg hm hgy h1 ha hdy he hpl
/-- fields of no class: never read -/
theorem dfld0 (he : PE X e (tE X.K Z fe)) (hb : attributeBase e f X.env (eval e X.env) = eval e X.env := by rfl) : PE X (.Attribute e f pos) (tE X.K Z fun δ => bd (fe δ) (fldM [] f)) := dfld (fun x h => by simp at h) (fun x h => by simp at h) he hb
theorem dfld1 (T : FieldTx X.K x f) (he : PE X e (tE X.K Z fe)) (hb : attributeBase e f X.env (eval e X.env) = eval e X.env := by rfl) : PE X (.Attribute e f pos) (tE X.K Z fun δ => bd (fe δ) (fldM [x] f)) :=
  dfld (fun y h => by rw [List.mem_singleton.mp h]; exact T.ek) (fun y h C z => by rw [List.mem_singleton.mp h] at z; exact T.no C z) he hb
end
end DL
/-! DL29: the facts of own errors, out of what the head leaves. -/
namespace DL
open PySem PySem.Spec PyProof.Rows L2 LamX NdefX

/-- a class's first def -/
def initOf (s : Stmt) : Stmt := match s with
  | .ClassDef _ _ _ (b :: _) _ _ _ _ _ _ _ => b
  | s => s
section
variable {P : Program} {K : PySem.W.Frag} {h : Heap} {mg : Str → Option Value} {x y f msg q : Str} {st : Stmt} {C Cy fI N cda cc : Addr} {nm qn : Str} {bs bm : List Value} {sn : List Str} {sub : List Value} {ab : Bool} {col : Option Bool} {dd : Option Addr} {k0 k1 k2 k3 k5 : Option Value}
  {oc : Value} {od : Option Addr} {doc pm : Value} {an : Option Addr} {ct : Value} {osl : Array (Option Value)} {ccl : Value} {cdd : Option Addr} {vs : Array Value} {ccs : Array (Option Value)} {file : Str} {tf : Tok} {cl : Value} {cld : Option Addr} {csl : Array (Option Value)} {b : Bool}
theorem raise_mk (X : K.In h) (G : h.Ns mainGlobals mg) (B : ∀ fI : Addr, DLE.InitForm q f msg fI (defArgs st) (defBody st) (defScope st)) (top : (P.main.scope.names.lookup ("super" : Str)).isSome = false)
    (n : PySem.W.nsIn K mainGlobals x = some (some (.ref C))) (lC : K.lookup C = some (excClassObj nm qn C N bs bm true sn sub ab col dd k0 k1 k2 k3 k5 "ValueError.__new__")) (hbm : HandSPX.refsVE bm = true)
    (sa : PySem.W.findIn K (.ref C) "__setattr__" = some (some (.builtin "object.__setattr__"))) (noN : PySem.W.findIn K (.ref C) f = some none) (iC : PySem.W.findIn K (.ref C) "__init__" = some (some (.ref fI)))
    (lf : K.lookup fI = some ⟨oc, od, .func (PySem.W.fnX "__init__" q (defArgs st) (defBody st) (defScope st) [("__class__", cc)] .none .none doc pm an (.ref cda) ct), osl⟩)
    (tC : PySem.W.typeIn K (.ref fI) = some (.type "function")) (kC : PySem.W.keepIn K (.ref C) = true) (exC : PySem.W.subIn K (.ref C) (.type "BaseException") = some true) (tyC : PySem.W.typeIn K (.ref C) = some (.type "type"))
    (sup : PySem.W.ks_superIn K C C "__init__" = some (some (.builtin "ValueError.__init__"))) (subV : PySem.W.subIn K (.ref C) (.type "ValueError") = some true) (any : PySem.W.nsIn K cStatics "thirdparty.any" = some none) (ms : PySem.W.nsIn K mainGlobals "super" = some none)
    (mroC : PySem.W.mroIn K C (.ref C) = some true) (cd : PySem.W.codeIn K (.ref cda) q = true) (lcd : K.lookup cda = some ⟨ccl, cdd, .fields vs, ccs⟩) (lv : vs[2]? = some (.str file tf)) (hfile : ((P.main.file : Str) == file) = true) (lcc : K.lookup cc = some ⟨cl, cld, .cell (some (.ref C)), csl⟩) :
    RaiseTx P K mg x f msg :=
  ⟨C, fI, q, _, _, _, ⟨⟨nm, qn, N, bs, bm, sn, sub, ab, col, dd, k0, k1, k2, k3, k5, lC, hbm⟩, sa, noN, iC, tC, kC, exC, tyC, sup, subV, any, PySem.W.mg_none_of X G ms, top, mroC, ⟨oc, od, doc, pm, an, cda, cc, ct, osl, ccl, cdd, vs, ccs, file, tf, cl, cld, csl, lf, cd, lcd, lv, hfile, lcc⟩⟩, B fI, PySem.W.mg_of X G n, n⟩
theorem exc_mk (h1 : PySem.W.findIn K (.ref C) "__getattribute__" = some (some (.builtin "BaseException.__getattribute__"))) (h2 : PySem.W.findIn K (.ref C) "__getattr__" = some none) (h3 : PySem.W.subIn K (.ref C) (.type "BaseException") = some true) (h4 : PySem.W.hasDictIn K C = true)
    (h5 : PySem.W.findIn K (.ref C) "__class__" = some (some (.builtin "object.__class__"))) (h6 : PySem.W.specialIn K (.builtin "object.__class__") "__get__" = some (some (.builtin "getset_descriptor.__get__"))) (h7 : PySem.W.takesIn K (.builtin "object.__class__") = some true) (h8 : PySem.W.mroIn K C (.type "object") = some true) : ExcC K C :=
  ⟨h1, h2, h3, h4, h5, h6, h7, h8⟩
theorem errK_mk (n : PySem.W.nsIn K mainGlobals x = some (some (.ref C))) (e : ExcC K C) : ErrK K x := ⟨fun C' z => by rw [n] at z; cases z; exact e⟩
theorem kind_nil (X : K.In h) (G : h.Ns mainGlobals mg) (ny : PySem.W.nsIn K mainGlobals y = some (some (.ref Cy))) : KindTx K mg y [] := ⟨⟨Cy, PySem.W.mg_of X G ny, fun q z => by simp at z⟩, fun q z => by simp at z⟩
theorem kind_cons (X : K.In h) (G : h.Ns mainGlobals mg) (ny : PySem.W.nsIn K mainGlobals y = some (some (.ref Cy))) (n : PySem.W.nsIn K mainGlobals x = some (some (.ref C))) (e : ErrK K x) (k : PySem.W.kitOne K (.ref C) (.ref Cy) = some b) {tb : List (Str × Bool)} (T : KindTx K mg y tb) : KindTx K mg y ((x, b) :: tb) := by
  obtain ⟨⟨C2, m2, r⟩, ek⟩ := T
  have e2 := (PySem.W.mg_of X G ny).symm.trans m2
  cases e2
  refine ⟨⟨Cy, PySem.W.mg_of X G ny, fun q hq C' z => ?_⟩, fun q hq => ?_⟩
  · rcases List.mem_cons.mp hq with rfl | hq
    · rw [n] at z; cases z; exact k
    · exact r q hq C' z
  · rcases List.mem_cons.mp hq with rfl | hq
    · exact e
    · exact ek q hq
theorem catch_nil (X : K.In h) (G : h.Ns mainGlobals mg) (ny : PySem.W.nsIn K mainGlobals y = some (some (.ref Cy))) : CatchTx K mg y [] := ⟨⟨Cy, PySem.W.mg_of X G ny, fun q z => by simp at z⟩⟩
theorem catch_cons (X : K.In h) (G : h.Ns mainGlobals mg) (ny : PySem.W.nsIn K mainGlobals y = some (some (.ref Cy))) (n : PySem.W.nsIn K mainGlobals x = some (some (.ref C))) (k : PySem.W.exmOne K (.ref C) (.ref Cy) = some true) {tb : List Str} (T : CatchTx K mg y tb) : CatchTx K mg y (x :: tb) := by
  obtain ⟨⟨C2, m2, r⟩⟩ := T
  have e2 := (PySem.W.mg_of X G ny).symm.trans m2
  cases e2
  refine ⟨⟨Cy, PySem.W.mg_of X G ny, fun q hq C' z => ?_⟩⟩
  rcases List.mem_cons.mp hq with rfl | hq
  · rw [n] at z; cases z; exact k
  · exact r q hq C' z
theorem field_mk (n : PySem.W.nsIn K mainGlobals x = some (some (.ref C))) (e : ErrK K x) (noN : PySem.W.findIn K (.ref C) f = some none) : FieldTx K x f := ⟨e, fun C' z => by rw [n] at z; cases z; exact noN⟩
/-- the code of the law's def, where it is looked at -/
theorem code_mk {f : Addr} {c : Value} {fd : FuncData} (l : K.lookup f = some ⟨oc, od, .func fd, osl⟩) (e : fd.code = c) : ∀ cdv, CodeOf K f cdv → cdv = c := fun cdv z => by
  obtain ⟨_, _, fd2, _, l2, e2⟩ := z
  rw [l] at l2
  cases l2
  exact e2.symm.trans e
end
theorem bl_max : bootBuiltins "max" = some (.builtin "max") := by decide +kernel
/-! ### lambdas bind -/
theorem bindL0 {params : Arguments} {body : Expr} {scope : Scope} (h : ∀ (q : Str) (cl : List (Str × Addr)) (doc pm cdv ctv : Value), bindArgs (PySem.W.kdv_fn "<lambda>" q params (.expr body) scope cl .none doc pm cdv ctv) ⟨[], []⟩ = pure []) : BindL params body scope [] [] := by
  intro s q cl dV doc pm cdv ctv us rv d
  cases rv
  have d : dV = .none := d
  subst d
  exact .of_eq (h q cl doc pm cdv ctv)
theorem bindL1 {params : Arguments} {body : Expr} {scope : Scope} {a : Str} {v : V} (h : ∀ (q : Str) (cl : List (Str × Addr)) (T : Addr) (doc pm cdv ctv : Value), ∃ k : Option (Array Value) → Sem (List (Str × Value)), bindArgs (PySem.W.kdv_fn "<lambda>" q params (.expr body) scope cl (.ref T) doc pm cdv ctv) ⟨[], []⟩ = seqItems? (.ref T) >>= k ∧ ∀ u : Value, k (some [u].toArray) = pure [(a, u)]) :
    BindL params body scope [a] [v] := by
  intro s q cl dV doc pm cdv ctv us rv d
  cases rv with
  | cons r rn =>
    cases rn
    obtain ⟨T, rfl, ho⟩ := d
    obtain ⟨k, h1, h2⟩ := h q cl T doc pm cdv ctv
    exact .of_defaults rfl ho rfl h1 (h2 _)
/-- _law_heard, called with a lambda, where it is known what stands behind the try -/
theorem dheardT {X : Cx} {Z : XZ} {g c P : Addr} {fd : FuncData} {st : Stmt} {k : Nat} {N ps fr : List Str} {js : List Nat} {ws : List W} {vs : List V} {q : Str}
    {params : Arguments} {body : Expr} {scope : Scope} {fb : Env → M W} {f : Env → M Fl} {errs : List Str} {p lpos pos : Pos} (D : DefOk X.K X.mg "_law_heard" st ["ask"] g fd) (hg : Gl X "_law_heard") (Sg : FnScope hN4 ["ask"] (defScope st)) (hva : Vis (defScope st) "ask")
    (hG : ∀ cdg : Value, GivesTo X hN4 "_law_heard" (defScope st) g cdg (defBody st) "ask" (X.env.qual ++ "<lambda>") (TTH X.K errs f)) (TB : TabB X.base X.mg c P) (hcode : X.env.code = .ref c) (hr : Room (k + 2) X.A) (hq : q = X.env.qual ++ "<lambda>")
    (S : NScope N ps fr scope) (hsc : ndefB X.env.scope scope fr = true) (hjs : js.map (fun j => X.N[j]?) = fr.map some)
    (rv : ∀ ρ H L, RWs X.K ρ H L ws vs) (hn : N.length = ws.length + js.length) (hl : vs.length = ps.length) (hdf : DfltsAre params X.env vs) (hbind : BindL params body scope ps vs)
    (hbody : ∀ (A : Around) (outer : List PySem.Env) (s : Shared) (H : Hp) (E : XK) (f c' : Addr), A.guards = X.A.guards → Room k (A.deeper (envF ⟨"<lambda>", X.env.qual ++ "<lambda>", params, [], scope, cloFrom X.env.cells scope.names [], c'⟩ f s.heap.objs.size)) →
      PE (ncx (L2.CX X.prog X.w) X.prog X.w X.K X.mg X.base N ⟨"<lambda>", X.env.qual ++ "<lambda>", params, [], scope, cloFrom X.env.cells scope.names [], c'⟩ f A outer s H E) body (tE X.K (ZE X.K E) fb)) :
    PE X (.Call (.Name "_law_heard" p) [.Lambda params body scope lpos] [] pos) (tE X.K Z (heardM P q errs f ws js fb)) := by
  obtain ⟨oc, od, kV, doc, pm, an, cdv, ct, osl, hfd, lk, hcd⟩ := D.fn.ex
  have hb := D.bd
  subst hfd
  exact dheard (dV := .none) hg D.mg (keep_ok D) lk hcd hb Sg rfl hva (hG cdv) TB hcode hr hq S (ndef_free hsc) (ndef_fr hsc) hjs rv hn hl hdf hbind hbody
end DL
/-! DL30: the law's own code object. -/
namespace DL
open PySem PySem.Spec PyProof.Rows L2 LamX NdefX

/-- the law's code object is at ca, its table at PT -/
structure CodeTx (K : PySem.W.Frag) (h : Heap) (mg : Str → Option Value) (x : Str) (ca PT : Addr) : Prop where
  code : ∃ f : Addr, mg x = some (.ref f) ∧ ∀ cdv, CodeOf K f cdv → cdv = .ref ca
  tab : h.get? PT = some { cls := .none, data := .fields #[] }
  no : K.lookup PT = none
  hd : PySem.W.CodeHd h ca PT
theorem codeTx_mk {K : PySem.W.Frag} {h : Heap} {mg : Str → Option Value} {x : Str} {ca PT f : Addr} {oc : Value} {od : Option Addr} {fd : FuncData} {osl : Array (Option Value)} {ts : List Addr} (X : K.In h) (G : h.Ns mainGlobals mg) (tabs : ∀ P ∈ ts, h.get? P = some (PySem.W.tabObj #[])) (hm : PT ∈ ts)
    (a : PySem.W.nsIn K mainGlobals x = some (some (.ref f))) (l : K.lookup f = some ⟨oc, od, .func fd, osl⟩) (e : fd.code = .ref ca) (no : K.lookup PT = none) (hd : PySem.W.codeHdIn K ca PT = true) : CodeTx K h mg x ca PT :=
  ⟨⟨f, PySem.W.mg_of X G a, code_mk l e⟩, tabs PT hm, no, PySem.W.codeHd_of_K X hd⟩
section
variable {K : PySem.W.Frag} {C Cy : Addr} {oc : Value} {od : Option Addr} {cd : ClassData} {osl : Array (Option Value)} {b : Bool} {t : Value}
theorem kit_eq : PySem.W.kitOne K t t = some true := by
  unfold PySem.W.kitOne
  rw [if_pos (by simp)]
theorem kitCls_mk (l : K.lookup Cy = some ⟨oc, od, .cls cd, osl⟩) (ty : PySem.W.typeIn K (.ref Cy) = some (.type "type")) (sb : PySem.W.subIn K t (.ref Cy) = some b) : PySem.W.kitCls K t (.ref Cy) = some b := by
  have e : PySem.W.clsIn K Cy = some cd := by unfold PySem.W.clsIn; rw [l]
  show (if ((PySem.W.clsIn K Cy).isSome && PySem.W.typeIn K (.ref Cy) == some (.type "type")) = true then PySem.W.subIn K t (.ref Cy) else none) = some b
  rw [if_pos (by rw [e, ty]; simp)]
  exact sb
theorem kit_ne (l : K.lookup Cy = some ⟨oc, od, .cls cd, osl⟩) (ty : PySem.W.typeIn K (.ref Cy) = some (.type "type")) (sb : PySem.W.subIn K t (.ref Cy) = some b) (ne : (t == Value.ref Cy) = false) : PySem.W.kitOne K t (.ref Cy) = some b := by
  unfold PySem.W.kitOne
  rw [if_neg (by rw [ne]; simp)]
  exact kitCls_mk l ty sb
theorem exm_mk (bx : PySem.W.subIn K (.ref Cy) (.type "BaseException") = some true) (l : K.lookup Cy = some ⟨oc, od, .cls cd, osl⟩) (ty : PySem.W.typeIn K (.ref Cy) = some (.type "type")) (sb : PySem.W.subIn K t (.ref Cy) = some b) : PySem.W.exmOne K t (.ref Cy) = some b := by
  unfold PySem.W.exmOne
  rw [if_pos (by rw [bx]; rfl)]
  exact kitCls_mk l ty sb
end
end DL
/-! DL31: instances of own classes: made, their fields read and written, their methods called. -/
namespace DL
open PySem PySem.Spec PyProof.Rows L2

/-- the class of that name stands at C -/
abbrev AtC (K : PySem.W.Frag) (c : Str) (C : Addr) : Prop := PySem.W.nsIn K mainGlobals c = some (some (.ref C))
/-- the field f of instances of the classes told -/
structure FldTx (K : PySem.W.Frag) (f : Str) (cs : List Str) : Prop where
  ok : ∀ c ∈ cs, ∀ C, AtC K c C → Cls K C ∧ NoAttr K C f
def putFW (f : Str) (w : W) : List (Str × W) → List (Str × W)
  | [] => [(f, w)]
  | (g, x) :: r => if g = f then (g, w) :: r else (g, x) :: putFW f w r
abbrev FP (K : PySem.W.Frag) (ρ : Pl) (H : Hp) (L : Addr → Prop) : Str × W → Str × V → Prop := fun p q => p.1 = q.1 ∧ RW K ρ H L p.2 q.2
theorem putFW_rep {K : PySem.W.Frag} {ρ : Pl} {H : Hp} {L : Addr → Prop} {f : Str} {w : W} {v : V} (r : RW K ρ H L w v) : ∀ {fs : List (Str × W)} {us : List (Str × V)}, Paired (FP K ρ H L) fs us → Paired (FP K ρ H L) (putFW f w fs) (putF f v us)
  | _, _, .nil => .cons ⟨rfl, r⟩ .nil
  | (g, x) :: _, (g', y) :: _, .cons a b => by
    have e : g = g' := a.1
    subst e
    show Paired _ (if g = f then _ else _) (if g = f then _ else _)
    by_cases h : g = f
    · rw [if_pos h, if_pos h]; exact .cons ⟨rfl, r⟩ b
    · rw [if_neg h, if_neg h]; exact .cons ⟨rfl, a.2⟩ (putFW_rep r b)
theorem lookFW {K : PySem.W.Frag} {ρ : Pl} {H : Hp} {L : Addr → Prop} {f : Str} : ∀ {fs : List (Str × W)} {us : List (Str × V)}, Paired (FP K ρ H L) fs us → (∀ w, fs.lookup f = some w → ∃ v, us.lookup f = some v ∧ RW K ρ H L w v) ∧ (fs.lookup f = none → us.lookup f = none)
  | _, _, .nil => ⟨fun _ h => by simp [List.lookup] at h, fun _ => rfl⟩
  | (g, x) :: _, (g', y) :: _, .cons a b => by
    have e : g = g' := a.1
    subst e
    obtain ⟨h1, h2⟩ := lookFW (f := f) b
    rw [List.lookup_cons, List.lookup_cons]
    cases q : f == g with
    | true => exact ⟨fun w h => by cases h; exact ⟨y, rfl, a.2⟩, fun h => by cases h⟩
    | false => exact ⟨h1, h2⟩
/-- the instance at a place of the store -/
theorem obj_at {K : PySem.W.Frag} {S : Sto} {ρ : Pl} {H : Hp} {n : Nat} {c : Str} {fs : List (Str × W)} {v : V} (R : Rel K S ρ H) (rw : RW K ρ H (Live S ρ) (.r n) v) (e : S[n]? = some (.obj c fs)) :
    ∃ (a C dx : Addr) (us : List (Str × V)), v = .ref a ∧ ρ.adr[n]? = some a ∧ AtC K c C ∧ H a = some (.ins C dx us) ∧ Paired (FP K ρ H (Live S ρ)) fs us := by
  obtain ⟨a, h1, rfl⟩ := rw
  obtain ⟨a', ho, k1, k2, C, dx, us, k3, rfl, k5⟩ := R.ob n _ e rfl
  rw [h1] at k1
  cases k1
  exact ⟨a, C, dx, us, rfl, h1, k3, k2, k5⟩
/-- x.f -/
def ofldM (cs : List Str) (f : Str) (w : W) : M W := fun S => match w with
  | .r n => (match S[n]? with
    | some (.obj c fs) => if c ∈ cs then (match fs.lookup f with | some y => .ok y S | none => .no) else .no
    | _ => .no)
  | _ => .no
/-- x.f = y -/
def oputM (cs : List Str) (f : Str) (w y : W) : M Unit := fun S => match w with
  | .r n => (match S[n]? with
    | some (.obj c fs) => if c ∈ cs ∧ fs.length < 1000 then .ok () (S.set n (.obj c (putFW f y fs))) else .no
    | _ => .no)
  | _ => .no
abbrev ofsM (cs : List Str) (f : Str) (fa fv : Env → M W) : Env → M Fl := fun δ => bd (fv δ) fun y => bd (fa δ) fun w => bd (oputM cs f w y) fun _ => pr (.nx δ)
section
variable {X : Cx} {Z : XZ} {e o value : Expr} {fe fa fv : Env → M W} {f : Str} {pos pos' : Pos} {cs : List Str}
theorem dofld (T : FldTx X.K f cs) (he : PE X e (tE X.K Z fe)) (hb : attributeBase e f X.env (eval e X.env) = eval e X.env := by rfl) : PE X (.Attribute e f pos) (tE X.K Z fun δ => bd (fe δ) (ofldM cs f)) := by
  refine (pe_fld he hb).imp fun σ H Q h => ?_
  refine (tH.bind (Rα := RW X.K) (f := fe) (g := fun _ w => ofldM cs f w) h Stb.env).mono fun v H1 ⟨⟨δ, w⟩, S, ρ, R, ⟨_, rw⟩, g⟩ => ?_
  change Gives (ofldM cs f w S) _ _ at g
  change RW X.K ρ H1 (Live S ρ) w v at rw
  unfold ofldM at g
  split at g
  · split at g
    · rename_i c fs es
      split at g
      · rename_i hc
        split at g
        · rename_i y hy
          obtain ⟨a, C, dx, us, rfl, h1, h2, h3, h4⟩ := obj_at R rw es
          obtain ⟨u, hu, ru⟩ := (lookFW h4).1 _ hy
          exact ⟨a, C, dx, us, u, rfl, h3, (T.ok _ hc C h2).1, (T.ok _ hc C h2).2, hu, g ρ H1 u Ext.refl R ru⟩
        · exact g.elim
      · exact g.elim
    · exact g.elim
  · exact g.elim
theorem ds_ofld (T : FldTx X.K f cs) (ho : PE X o (tE X.K Z fa)) (hv : PE X value (tE X.K Z fv)) (hs : swapsWith value (some (.Attribute o f pos')) pos.line X.env = pure false := by rfl) :
    PS X (.Assign [.Attribute o f pos'] value pos) (tS X.K Z (ofsM cs f fa fv)) := by
  refine (ps_fld ho hv hs).imp fun D σ H h => ?_
  refine (tS.bind (Rα := RW X.K) (f := fv) (g := fun δ y => bd (fa δ) fun w => bd (oputM cs f w y) fun _ => pr (.nx δ)) h).mono fun y' H1 ⟨δ, y, S, ρ, R, re, ry, g⟩ => ?_
  refine ⟨δ, S, ρ, R, re, gives_imp (gives_bd g) (fun w S2 q ρ2 H2 x e2 R2 rw => ?_) fun _ _ q => q⟩
  have q := gives_bd q
  change Gives (oputM cs f w y S2) _ _ at q
  unfold oputM at q
  split at q
  · split at q
    · rename_i c fs es
      split at q
      · rename_i hc
        obtain ⟨a, C, dx, us, rfl, h1, h2, h3, h4⟩ := obj_at R2 rw es
        have hl : us.length = fs.length := (Paired.length h4).symm
        refine ⟨a, C, dx, us, rfl, h3, (T.ok _ hc.1 C h2).1, (T.ok _ hc.1 C h2).2, by rw [hl]; exact hc.2, ?_⟩
        have ry2 := ry.ext e2
        have ro : RO X.K ρ2 H2 (Live S2 ρ2) a (.obj c (putFW f y fs)) (.ins C dx (putF f y' us)) := ⟨C, dx, _, h2, rfl, putFW_rep ry2 h4⟩
        have e3 : Ext S2 ρ2 H2 (S2.set _ (.obj c (putFW f y fs))) ρ2 (upd H2 a (.ins C dx (putF f y' us))) := Ext.put R2 es rfl h1
        exact q ρ2 _ (e2.trans e3) (R2.put es rfl h1 ro) σ (Stb.env _ _ _ _ _ _ _ _ re (e2.trans e3))
      · exact q.elim
    · exact q.elim
  · exact q.elim
end
/-! ### methods -/
/-- the method m of a receiver none of whose fields is called so -/
def rcvM (tb : List (Str × (List W → M W))) (m : Str) (w : W) : M (List W → M W) := fun S => match w with
  | .r n => (match S[n]? with
    | some (.obj c fs) => (match fs.lookup m with
      | none => (match tb.lookup c with | some F => .ok F S | none => .no)
      | some _ => .no)
    | _ => .no)
  | _ => .no
abbrev omM (tb : List (Str × (List W → M W))) (m : Str) (fa : Env → M W) (fr : Env → M (List W)) : Env → M W := fun δ => bd (fa δ) fun w => bd (rcvM tb m w) fun F => bd (fr δ) fun ws => F (w :: ws)
/-- the method m of the class named c, as it may be called here: it lets no error out -/
structure MetAt (X : Cx) (Z : XZ) (m c : Str) (F : List W → M W) : Prop where
  ok : ∀ C, AtC X.K c C → Cls X.K C ∧ ∃ (CX : CXT) (E : XK) (ZZ : XK → XZ) (f : Addr) (fd : FuncData) (ps : List Str) (k : Nat) (G : List W → M W), Meth X.K C m f ∧ FnG X.prog X.w X.K X.mg X.base CX k f fd ps (spF X.K ZZ G) ∧ Room k X.A ∧ Binds X.K fd ps [] ∧ Passes CX X E ∧
    ∀ (vs : List V) (H : Hp) (Q : VK), tH X.K Z (RWs X.K) (RW X.K) F vs H Q → spF X.K ZZ G vs H Q E
abbrev MetsAt (X : Cx) (Z : XZ) (m : Str) (tb : List (Str × (List W → M W))) : Prop := ∀ c F, tb.lookup c = some F → MetAt X Z m c F
/-- what the written part says of a method -/
structure MetOk (K : PySem.W.Frag) (c m q : Str) (st : Stmt) (ps : List Str) (f : Addr) (fd : FuncData) : Prop where
  fn : FunA K m q st f fd
  cl : ∀ C, AtC K c C → Cls K C ∧ Meth K C m f
  bd : Binds K fd ps []
section
variable {X : Cx} {Z : XZ} {m c q : Str} {st : Stmt} {ps : List Str} {f : Addr} {fd : FuncData} {k : Nat} {F : List W → M W} {tb : List (Str × (List W → M W))} {o a : Expr} {es : List Expr} {fa : Env → M W} {fr : Env → M (List W)} {pos apos : Pos}
theorem mets_nil : MetsAt X Z m [] := fun c F h => by simp [List.lookup] at h
theorem mets_cons (h : MetAt X Z m c F) (t : MetsAt X Z m tb) : MetsAt X Z m ((c, F) :: tb) := fun d G e => by
  rw [List.lookup_cons] at e
  cases q : d == c with
  | true => rw [q] at e; cases e; rw [beq_iff_eq.mp q]; exact h
  | false => rw [q] at e; exact t d G e
theorem met_at (M : MetOk X.K c m q st ps f fd) (FO : FnG X.prog X.w X.K X.mg X.base CX0 k f fd ps (spF X.K (fun _ => ZF) F)) (hr : Room k X.A) : MetAt X Z m c fun ws => noEx (F ws) :=
  ⟨fun C h => ⟨(M.cl C h).1, CX0, E0, _, f, fd, ps, k, F, (M.cl C h).2, FO, hr, M.bd, pass0, fun vs H Q ⟨ws, S, ρ, R, rw, g⟩ => ⟨ws, S, ρ, R, rw, noEx_gives (E' := fun _ _ => ∀ _ _, _ → _ → False) g⟩⟩⟩
theorem met_atX (tk : Tk X Z) (M : MetOk X.K c m q st ps f fd) (FO : FnG X.prog X.w X.K X.mg X.base (L2.CX X.prog X.w) k f fd ps (spF X.K (ZE X.K) F)) (hr : Room k X.A) : MetAt X Z m c F := by
  obtain ⟨W, hW, hZ⟩ := tk.ex
  exact ⟨fun C h => ⟨(M.cl C h).1, _, (fun cls d H => ∃ x S ρ, Z x S ρ H ∧ FlX X.K H (Live S ρ) x cls d), _, f, fd, ps, k, F, (M.cl C h).2, FO, hr, M.bd, passes_call hW fun cls d σ H ⟨x, S, ρ, z, fl⟩ => hZ x S ρ H cls d σ z fl, fun vs H Q ⟨ws, S, ρ, R, rw, g⟩ =>
    ⟨ws, S, ρ, R, rw, gives_imp g (fun _ _ q => q) fun x S' z ρ' H' e r cls d fl => ⟨x, S', ρ', z ρ' H' e r, fl⟩⟩⟩⟩
/-- the receiver's reading, split -/
theorem om_split {σ : L2.St} {H : Hp} {Q : VK} (h : tE X.K Z (omM tb m fa fr) σ H Q) : tE X.K Z fa σ H fun x H1 => ∃ (a C dx : Addr) (us : List (Str × V)) (c : Str) (F : List W → M W), x = .ref a ∧ H1 a = some (.ins C dx us) ∧ us.lookup m = none ∧ AtC X.K c C ∧ tb.lookup c = some F ∧
    tA X.K Z fr σ H1 fun vs H2 => tH X.K Z (RWs X.K) (RW X.K) F (x :: vs) H2 Q := by
  refine (tH.bind (Rα := RW X.K) (f := fa) (g := fun δ w => bd (rcvM tb m w) fun F => bd (fr δ) fun ws => F (w :: ws)) h Stb.env).mono fun x H1 ⟨⟨δ, w⟩, S, ρ, R, ⟨re, rw⟩, g⟩ => ?_
  replace g := gives_bd g
  change Gives (rcvM tb m w S) _ _ at g
  change RW X.K ρ H1 (Live S ρ) w x at rw
  unfold rcvM at g
  split at g
  · rename_i n
    split at g
    · rename_i c fs es
      split at g
      · rename_i hm
        split at g
        · rename_i F eF
          obtain ⟨a, C, dx, us, rfl, h1, h2, h3, h4⟩ := obj_at R rw es
          refine ⟨a, C, dx, us, c, F, rfl, h3, (lookFW h4).2 hm, h2, eF, δ, S, ρ, R, re, gives_imp (gives_bd g) (fun ws S2 q ρ2 H2 vs e2 R2 rws => ?_) fun _ _ q => q⟩
          exact ⟨.r n :: ws, S2, ρ2, R2, .cons (rw.ext e2) rws, gives_imp q (fun _ _ z ρ3 H3 v e3 R3 r3 => z ρ3 H3 v (e2.trans e3) R3 r3) fun _ _ z ρ3 H3 e3 R3 => z ρ3 H3 (e2.trans e3) R3⟩
        · exact g.elim
      · exact g.elim
    · exact g.elim
  · exact g.elim
/-- o.m(a, ..) -/
theorem dometh {pl : Sem Bool} (ho : PE X o (tE X.K Z fa)) (T : MetsAt X Z m tb) (hG : X.A.guards = some []) (ha : PA X (a :: es) (tA X.K Z fr))
    (hst : starEach (a :: es) X.env = (false, eval a X.env) :: starEach es X.env := by rfl) (hpl : (backTo pos (starEach es X.env)).any (·.1) = false := by rfl)
    (ht : eval (.Call (.Attribute o m apos) (a :: es) [] pos) X.env = (do
      let r ← eval o X.env
      standAt apos.atName
      let (g, one) ← holding [r] (getMethod r m pl)
      callWith pos g one (backTo pos (starEach (a :: es) X.env)) (backToKw pos (keywordEach [] X.env))) := by rfl) :
    PE X (.Call (.Attribute o m apos) (a :: es) [] pos) (tE X.K Z (omM tb m fa fr)) := by
  constructor
  intro pins s σ H Q I h
  refine PySem.W.methodCall_KW (pl := pl) (wpAny_mono (ho.run pins s σ H _ I (om_split h)) (fun u s1 z => ?_) fun _ _ z => z) ht
  obtain ⟨x, H1, I1, rx, b, C, dx, us, c, F, rfl, hb, hl, hC, eF, q⟩ := z
  obtain rfl : u = Value.ref b := rx
  obtain ⟨cl, CX, E, ZZ, f, fd, ps, k, G, hM, FO, hr, hbd, hx, hsp⟩ := (T c F eF).ok C hC
  refine getmeth_ok I1 hb cl hM hl (PySem.W.callWith_K (first := [.ref b]) (h₀ := X.base) I.ok.mod.kin hM.kp (wpAny_mono (ha.run pos pins s1 σ H1 _ I1 q) (fun ws s2 z => ?_) fun _ _ z => z) hst hpl)
  obtain ⟨vs, H2, I2, rv, q2⟩ := z
  exact ⟨I2.kIn, callG (us := .ref b :: ws) (vs := .ref b :: vs) (dvs := []) (ds := []) FO hr hG hbd .nil hx I2 (.cons rfl rv) (by rw [List.append_nil]; exact hsp _ _ _ q2)⟩
/-- o.m() -/
theorem dometh0 {pl : Sem Bool} (ho : PE X o (tE X.K Z fa)) (T : MetsAt X Z m tb) (hG : X.A.guards = some [])
    (ht : eval (.Call (.Attribute o m apos) [] [] pos) X.env = (do
      let r ← eval o X.env
      standAt apos.atName
      let (g, one) ← holding [r] (getMethod r m pl)
      callWith pos g one (backTo pos (starEach [] X.env)) (backToKw pos (keywordEach [] X.env))) := by rfl) :
    PE X (.Call (.Attribute o m apos) [] [] pos) (tE X.K Z (omM tb m fa nilM)) := by
  constructor
  intro pins s σ H Q I h
  refine PySem.W.methodCall_KW (pl := pl) (wpAny_mono (ho.run pins s σ H _ I (om_split h)) (fun u s1 z => ?_) fun _ _ z => z) ht
  obtain ⟨x, H1, I1, rx, b, C, dx, us, c, F, rfl, hb, hl, hC, eF, q⟩ := z
  obtain rfl : u = Value.ref b := rx
  obtain ⟨cl, CX, E, ZZ, f, fd, ps, k, G, hM, FO, hr, hbd, hx, hsp⟩ := (T c F eF).ok C hC
  obtain ⟨δ, S, ρ, R, re, g⟩ := q
  have q2 := g ρ H1 [] Ext.refl R .nil
  exact getmeth_ok I1 hb cl hM hl (PySem.W.callWith_K0 (first := [.ref b]) I1.kIn hM.kp (callG (us := [.ref b]) (vs := [.ref b]) (dvs := []) (ds := []) FO hr hG hbd .nil hx I1 (.cons rfl .nil) (hsp _ _ _ q2)))
end
/-! ### making -/
/-- C(..): a place for the instance, then __init__ -/
def makM (c : Str) (F : List W → M W) (ws : List W) : M W := fun S => match F (.r S.length :: ws) (S ++ [.obj c []]) with
  | .ok (.d .none) S' => .ok (.r S.length) S'
  | .ok _ _ => .no
  | .ex x S' => .ex x S'
  | .no => .no
/-- what the written part says of a class that is made -/
structure MakOk (K : PySem.W.Frag) (mg : Str → Option Value) (c q : Str) (st : Stmt) (ps : List Str) (f : Addr) (fd : FuncData) : Prop where
  ex : ∃ C, mg c = some (.ref C) ∧ AtC K c C ∧ Mk K C f
  fn : FunA K "__init__" q st f fd
  bd : Binds K fd ps []
/-- the class named c, as it may be made here -/
structure MakAt (X : Cx) (Z : XZ) (c : Str) (dws : List W) (F : List W → M W) : Prop where
  ok : ∃ (C : Addr) (CX : CXT) (E : XK) (ZZ : XK → XZ) (f : Addr) (fd : FuncData) (ps : List Str) (k : Nat) (G : List W → M W) (dvs : List V) (ds : List Value), X.mg c = some (.ref C) ∧ AtC X.K c C ∧ Mk X.K C f ∧ FnG X.prog X.w X.K X.mg X.base CX k f fd ps (spF X.K ZZ G) ∧ Room (k + 1) X.A ∧ Binds X.K fd ps ds ∧ Vals dvs ds ∧
    (∀ ρ H L, RWs X.K ρ H L dws dvs) ∧ Passes CX X E ∧ ∀ (vs : List V) (H : Hp) (Q : VK), tH X.K Z (RWs X.K) (RW X.K) F vs H Q → spF X.K ZZ G vs H Q E
section
variable {X : Cx} {Z : XZ} {c q : Str} {st : Stmt} {ps : List Str} {f : Addr} {fd : FuncData} {k : Nat} {F : List W → M W} {o a : Expr} {es : List Expr} {fa : Env → M W} {fr : Env → M (List W)} {p pos : Pos} {dws : List W}
theorem mak_at (M : MakOk X.K X.mg c q st ps f fd) (FO : FnG X.prog X.w X.K X.mg X.base CX0 k f fd ps (spF X.K (fun _ => ZF) F)) (hr : Room (k + 1) X.A) : MakAt X Z c [] fun ws => noEx (F ws) := by
  obtain ⟨C, h1, h2, h3⟩ := M.ex
  exact ⟨C, CX0, E0, _, f, fd, ps, k, F, [], [], h1, h2, h3, FO, hr, M.bd, .nil, fun _ _ _ => .nil, pass0, fun vs H Q ⟨ws, S, ρ, R, rw, g⟩ => ⟨ws, S, ρ, R, rw, noEx_gives (E' := fun _ _ => ∀ _ _, _ → _ → False) g⟩⟩
theorem mak_atX (tk : Tk X Z) (M : MakOk X.K X.mg c q st ps f fd) (FO : FnG X.prog X.w X.K X.mg X.base (L2.CX X.prog X.w) k f fd ps (spF X.K (ZE X.K) F)) (hr : Room (k + 1) X.A) : MakAt X Z c [] F := by
  obtain ⟨C, h1, h2, h3⟩ := M.ex
  obtain ⟨W, hW, hZ⟩ := tk.ex
  exact ⟨C, _, (fun cls d H => ∃ x S ρ, Z x S ρ H ∧ FlX X.K H (Live S ρ) x cls d), _, f, fd, ps, k, F, [], [], h1, h2, h3, FO, hr, M.bd, .nil, fun _ _ _ => .nil, passes_call hW fun cls d σ H ⟨x, S, ρ, z, fl⟩ => hZ x S ρ H cls d σ z fl, fun vs H Q ⟨ws, S, ρ, R, rw, g⟩ =>
    ⟨ws, S, ρ, R, rw, gives_imp g (fun _ _ q => q) fun x S' z ρ' H' e r cls d fl => ⟨x, S', ρ', z ρ' H' e r, fl⟩⟩⟩
theorem under_make (A : Around) (C : Addr) (us : List Value) (kw : List (Str × Value)) : (A.under (.builtin "type.__call__" ⟨.ref C :: us, kw⟩)).guards = A.guards := by
  have e : (Code.builtin "type.__call__" ⟨.ref C :: us, kw⟩).guards = [] := by
    have : (Code.builtin "type.__call__" ⟨.ref C :: us, kw⟩).isGuard = false := by show guardIds.contains "type.__call__" = false; decide
    unfold Code.guards
    rw [this]; rfl
  show pushGuards (Code.guards (Code.builtin "type.__call__" ⟨.ref C :: us, kw⟩)) A.guards = A.guards
  rw [e]; rfl
/-- an instance is made by its class -/
theorem make_run {pins : List (Addr × Obj)} {σ : L2.St} {H : Hp} {s : Shared} {Q : VK} {us : List Value} {vs : List V} (T : MakAt X Z c dws F) {C : Addr} (hC : X.mg c = some (.ref C)) (hG : X.A.guards = some []) (I : Inv X pins σ H s) (r : Vals vs us)
    (h : tH X.K Z (RWs X.K) (RW X.K) (fun ws => makM c F (ws ++ dws)) vs H Q) : PySem.W.keepIn X.K (.ref C) = true ∧ wpAny (model X.prog X.w) X.A (call (.ref C) us) (EP X pins σ Q) X.xe s := by
  obtain ⟨C', CX, E, ZZ, f, fd, ps, k, G, dvs, ds, h1, h2, h3, FO, hr, hbd, hd, hdw, hx, hsp⟩ := T.ok
  rw [hC] at h1
  cases h1
  obtain ⟨ws, S, ρ, R, rws, g⟩ := h
  refine ⟨h3.kp, ?_⟩
  have nx : H (s.heap.objs.size + 1) = none := I.hok.fresh (Nat.le_succ _)
  have nd : H s.heap.objs.size = none := I.hok.fresh (Nat.le_refl _)
  have ne : s.heap.objs.size ≠ s.heap.objs.size + 1 := Nat.ne_of_lt (Nat.lt_succ_self _)
  have e1 : Ext S ρ H S ρ (upd H s.heap.objs.size (.own (s.heap.objs.size + 1))) := Ext.frz nd
  have R1 := R.frz (o := .own (s.heap.objs.size + 1)) nd
  have nx1 : upd H s.heap.objs.size (HO.own (s.heap.objs.size + 1)) (s.heap.objs.size + 1) = none := by rw [upd_ne (Ne.symm ne)]; exact nx
  have e2 : Ext S ρ (upd H s.heap.objs.size (.own (s.heap.objs.size + 1))) (S ++ [.obj c []]) (ρ.add (s.heap.objs.size + 1)) (upd (upd H s.heap.objs.size (.own (s.heap.objs.size + 1))) (s.heap.objs.size + 1) (.ins C s.heap.objs.size [])) := Ext.new R1 nx1
  have R2 : Rel X.K (S ++ [.obj c []]) (ρ.add (s.heap.objs.size + 1)) (upd (upd H s.heap.objs.size (.own (s.heap.objs.size + 1))) (s.heap.objs.size + 1) (.ins C s.heap.objs.size [])) := R1.new nx1 ⟨C, _, [], h2, rfl, .nil⟩
  have e12 := e1.trans e2
  have self : RW X.K (ρ.add (s.heap.objs.size + 1)) (upd (upd H s.heap.objs.size (.own (s.heap.objs.size + 1))) (s.heap.objs.size + 1) (.ins C s.heap.objs.size [])) (Live (S ++ [.obj c []]) (ρ.add (s.heap.objs.size + 1))) (.r S.length) (.ref (s.heap.objs.size + 1)) := by
    refine ⟨_, ?_, rfl⟩
    show (ρ.adr ++ [_])[S.length]? = _
    rw [List.getElem?_append_right (by rw [R.len]; exact Nat.le_refl _), R.len, Nat.sub_self]; rfl
  have hq : spF X.K ZZ G (.ref (s.heap.objs.size + 1) :: (vs ++ dvs)) (upd (upd H s.heap.objs.size (.own (s.heap.objs.size + 1))) (s.heap.objs.size + 1) (.ins C s.heap.objs.size [])) (fun v H2 => v = .non ∧ Q (.ref (s.heap.objs.size + 1)) H2) E := by
    refine hsp _ _ _ ⟨.r S.length :: (ws ++ dws), _, _, R2, .cons self (Paired.app' (rws.ext e12) (hdw _ _ _)), ?_⟩
    change Gives (makM c F (ws ++ dws) S) _ _ at g
    unfold makM at g
    cases e : F (.r S.length :: (ws ++ dws)) (S ++ [.obj c []]) with
    | ok w S' =>
      rw [e] at g
      intro ρ' H' v e3 R3 rv
      cases w with
      | d y =>
        cases y with
        | none =>
          have rv : Rp X.K H' (Live S' ρ') v .none := rv
          cases rv
          refine ⟨rfl, g ρ' H' (.ref (s.heap.objs.size + 1)) (e12.trans e3) R3 (self.ext e3)⟩
        | bool _ => exact g.elim
        | int _ => exact g.elim
        | str _ => exact g.elim
        | list _ => exact g.elim
        | tuple _ => exact g.elim
        | dict _ => exact g.elim
      | r n => exact g.elim
      | s n => exact g.elim
      | e y => exact g.elim
    | ex x S' =>
      rw [e] at g
      intro ρ' H' e3 R3
      exact g ρ' H' (e12.trans e3) R3
    | no => rw [e] at g; exact g.elim
  have I2 := Inv.made (C := C) I
  have r2 : Vals (V.ref (s.heap.objs.size + 1) :: (vs ++ dvs)) (Value.ref (s.heap.objs.size + 1) :: (us ++ ds)) := .cons rfl (r.append hd)
  have hl : ((Value.ref (s.heap.objs.size + 1) :: us) ++ ds).length = ps.length := by
    rw [← FO.len _ _ _ _ hq]
    exact r2.length.symm
  have run := FO.run (X.A.under (.builtin "type.__call__" ⟨.ref C :: us, []⟩)) X.stack _ _ ⟨.ref (s.heap.objs.size + 1) :: us, []⟩ _ _ _ E (hr.make C us []) ((under_make X.A C us []).trans hG) (I2.env0.make C us []) (hbd _ (Value.ref (s.heap.objs.size + 1) :: us) I2.kIn hl) r2 hq
  refine wpAny_call (make_map (f := f) I.kIn h3.makes h3.init (beq_iff_eq.mp h3.fn) (codeAny_mono run fun r s' z => ?_))
  have z2 := after_call hx I2 z
  cases r with
  | error e => exact z2
  | ok fl =>
    cases fl with
    | ret u =>
      obtain ⟨v, H', I3, rv, ev, q3⟩ := z2
      subst ev
      exact ⟨rv, V.ref (s.heap.objs.size + 1), H', I3, rfl, q3⟩
    | next => exact z2.elim
    | brk => exact z2.elim
    | cont => exact z2.elim
/-- C(a, ..) -/
theorem domake (T : MakAt X Z c dws F) (hG : X.A.guards = some []) (hg : Gl X c) (ha : PA X (a :: es) (tA X.K Z fr)) (hdb : (c == ("__debug__" : Str)) = false := by decide)
    (he : starEach (a :: es) X.env = (false, eval a X.env) :: starEach es X.env := by rfl) (hpl : (backTo pos (starEach es X.env)).any (·.1) = false := by rfl) :
    PE X (.Call (.Name c p) (a :: es) [] pos) (tE X.K Z (calM fr fun ws => makM c F (ws ++ dws))) := by
  obtain ⟨C, _, _, _, _, _, _, _, _, _, _, hC, _, hMk, _⟩ := T.ok
  refine ⟨fun pins s σ H Q I h => wpAny_Call_Name_kw (ld_glob I hg hC (PySem.W.callWith_K (h₀ := X.base) I.ok.mod.kin hMk.kp (wpAny_mono (ha.run pos pins s σ H _ I (tE.call h)) (fun us s1 z => ?_) fun _ _ z => z) he hpl) hdb)⟩
  obtain ⟨vs, H1, I1, r, q⟩ := z
  exact ⟨I1.kIn, (make_run T hC hG I1 r q).2⟩
/-- C() -/
theorem domake0 (T : MakAt X Z c dws F) (hG : X.A.guards = some []) (hg : Gl X c) (hdb : (c == ("__debug__" : Str)) = false := by decide) :
    PE X (.Call (.Name c p) [] [] pos) (tE X.K Z (calM nilM fun ws => makM c F (ws ++ dws))) := by
  obtain ⟨C, _, _, _, _, _, _, _, _, _, _, hC, _, hMk, _⟩ := T.ok
  refine ⟨fun pins s σ H Q I h => wpAny_Call_Name_kw (ld_glob I hg hC (PySem.W.callWith_K0 I.kIn hMk.kp ?_) hdb)⟩
  obtain ⟨δ, S, ρ, R, re, g⟩ := h
  exact (make_run (us := []) (vs := []) T hC hG I .nil ⟨[], S, ρ, R, .nil, g⟩).2
end
end DL
/-! DL32: sorted(xs, key=f): f any callable that keeps what the walk knows; its keys are texts. -/
namespace DL
open PySem PySem.Spec PyProof.Rows L2

/-! ### the plain side: a stable sort by texts -/
section
variable {α : Type}
def insK (p : Str × α) : List (Str × α) → List (Str × α)
  | [] => [p]
  | q :: r => if q.1.cps.toList < p.1.cps.toList then q :: insK p r else p :: q :: r
def sortK : List (Str × α) → List (Str × α)
  | [] => []
  | p :: r => insK p (sortK r)
def leK (p q : Str × α) : Bool := decide (p.1.cps.toList ≤ q.1.cps.toList)
theorem insK_skip (p : Str × α) : ∀ (l r : List (Str × α)), (∀ b ∈ l, leK p b = false) → insK p (l ++ r) = l ++ insK p r
  | [], _, _ => rfl
  | b :: l, r, h => by
    have hb := h b (.head _)
    unfold leK at hb
    rw [decide_eq_false_iff_not] at hb
    have lt : b.1.cps.toList < p.1.cps.toList := List.not_le.mp hb
    show (if _ then _ else _) = _
    rw [if_pos lt]
    exact congrArg (List.cons b) (insK_skip p l r fun c hc => h c (.tail _ hc))
theorem leK_trans (a b c : Str × α) (h1 : leK a b = true) (h2 : leK b c = true) : leK a c = true := by
  unfold leK at *
  rw [decide_eq_true_eq] at *
  exact List.le_trans h1 h2
theorem leK_total (a b : Str × α) : (leK a b || leK b a) = true := by
  unfold leK
  rw [Bool.or_eq_true, decide_eq_true_eq, decide_eq_true_eq]
  exact List.le_total _ _
theorem insK_put (p : Str × α) : ∀ (r : List (Str × α)), (∀ b ∈ r, leK p b = true) → insK p r = p :: r
  | [], _ => rfl
  | b :: r, h => by
    have hb := h b (.head _)
    unfold leK at hb
    rw [decide_eq_true_eq] at hb
    show (if _ then _ else _) = _
    rw [if_neg (fun z => (List.not_le.mpr z) hb)]
theorem sortK_merge : ∀ l : List (Str × α), l.mergeSort leK = sortK l
  | [] => by simp [sortK]
  | p :: r => by
    obtain ⟨l1, l2, h1, h2, h3⟩ := List.mergeSort_cons (le := leK) leK_trans leK_total p r
    have ih := sortK_merge r
    have hs : ((p :: r).mergeSort leK).Pairwise (fun a b => leK a b = true) := List.pairwise_mergeSort leK_trans leK_total _
    show _ = insK p (sortK r)
    rw [← ih, h2, insK_skip p l1 l2 fun b hb => by simpa using h3 b hb, insK_put p l2, h1]
    intro b hb
    rw [h1, List.pairwise_append] at hs
    exact (List.pairwise_cons.mp hs.2.1).1 b hb
theorem mem_insK (p : Str × α) : ∀ (l : List (Str × α)) (b : Str × α), b ∈ insK p l ↔ b = p ∨ b ∈ l
  | [], b => by simp [insK]
  | q :: r, b => by
    unfold insK
    split
    · rw [List.mem_cons, mem_insK p r b, List.mem_cons]
      constructor
      · rintro (h | h | h)
        · exact .inr (.inl h)
        · exact .inl h
        · exact .inr (.inr h)
      · rintro (h | h | h)
        · exact .inr (.inl h)
        · exact .inl h
        · exact .inr (.inr h)
    · simp
theorem mem_sortK : ∀ (l : List (Str × α)) (b : Str × α), b ∈ sortK l ↔ b ∈ l
  | [], b => by simp [sortK]
  | p :: r, b => by
    show b ∈ insK p (sortK r) ↔ _
    rw [mem_insK, mem_sortK r b, List.mem_cons]
theorem length_insK (p : Str × α) : ∀ l : List (Str × α), (insK p l).length = l.length + 1
  | [] => rfl
  | q :: r => by
    unfold insK
    split
    · simp [length_insK p r]
    · rfl
theorem length_sortK : ∀ l : List (Str × α), (sortK l).length = l.length
  | [] => rfl
  | p :: r => by
    show (insK p (sortK r)).length = _
    rw [length_insK, length_sortK r]; rfl
end
theorem insK_pair {α β : Type} {R : α → β → Prop} {k : Str} {x : α} {y : β} (h : R x y) : ∀ {l : List (Str × α)} {m : List (Str × β)}, Paired (fun p q => p.1 = q.1 ∧ R p.2 q.2) l m → Paired (fun p q => p.1 = q.1 ∧ R p.2 q.2) (insK (k, x) l) (insK (k, y) m)
  | _, _, .nil => .cons ⟨rfl, h⟩ .nil
  | _, _, .cons (a := a) (b := b) r t => by
    have e : a.1 = b.1 := r.1
    unfold insK
    by_cases q : a.1.cps.toList < k.cps.toList
    · rw [if_pos q, if_pos (by rw [← e]; exact q)]
      exact .cons r (insK_pair h t)
    · rw [if_neg q, if_neg (by rw [← e]; exact q)]
      exact .cons ⟨rfl, h⟩ (.cons r t)
theorem sortK_pair {α β : Type} {R : α → β → Prop} : ∀ {l : List (Str × α)} {m : List (Str × β)}, Paired (fun p q => p.1 = q.1 ∧ R p.2 q.2) l m → Paired (fun p q => p.1 = q.1 ∧ R p.2 q.2) (sortK l) (sortK m)
  | _, _, .nil => .nil
  | (k, x) :: _, (k', y) :: _, .cons r t => by
    have e : k = k' := r.1
    subst e
    exact insK_pair r.2 (sortK_pair t)
/-! ### the machine's side -/
section
variable {X : Cx} {pins : List (Addr × Obj)} {σ : L2.St} {H : Hp} {s : Shared}
/-- out of the walk's sight, and ours -/
structure Ours (X : Cx) (pins : List (Addr × Obj)) (b : Addr) : Prop where
  low : X.s_0.heap.objs.size ≤ b
  loc : b ≠ X.env.locals
  cel : ∀ x c, X.env.cells.lookup x = some c → c ≠ b
  pin : ∀ p ∈ X.pn ++ pins, p.1 ≠ b
  fs : b ∉ X.fs
theorem ours_of (I : Inv X pins σ H s) {b : Addr} (h : s.heap.objs.size ≤ b) : Ours X pins b := by
  refine ⟨Nat.le_trans I.sz h, fun z => absurd (Nat.lt_of_lt_of_le (z ▸ I.lt) h) (Nat.lt_irrefl _), fun x c e z => ?_, fun p hp z => ?_, I.nofs h⟩
  · obtain ⟨v, o, ho, _⟩ := I.cell x c e
    exact absurd (Nat.lt_of_lt_of_le (z ▸ Heap.lt_size ho) h) (Nat.lt_irrefl _)
  · exact absurd (Nat.lt_of_lt_of_le (z ▸ Heap.lt_size (I.pin p hp).1) h) (Nat.lt_irrefl _)
theorem keyed_rest {A : Around} {kS a : Addr} {f : Value} {vs : List Value} {ks : List Str} {e1 : Nat} {E : Value → Shared → Prop} {P : PySem.Fin → Shared → Prop}
    (I : Inv X ((kS, seqObj "list" #[] 0) :: (a, seqObj "list" #[] e1) :: pins) σ H s) (oK : Ours X pins kS) (oA : Ours X pins a) (hka : kS ≠ a) (hlen : ks.length = vs.length) (hZ : vs.length ≤ sizeLine) (hu : A.units < cLine)
    (turn : ∀ (i : Nat) (v : Value) (k : Str), vs[i]? = some v → ks[i]? = some k → ∀ (pins' : List (Addr × Obj)) (s : Shared) (H1 : Hp), (∀ p ∈ pins, p ∈ pins') → Inv X pins' σ H1 s → (∀ b o, H b = some o → H1 b = some o) →
      wpAny (model X.prog X.w) A (call f [v]) (fun u s' => ∃ (H' : Hp) (t : Tok), Inv X pins' σ H' s' ∧ (∀ b o, H1 b = some o → H' b = some o) ∧ u = .str k t) (fun _ _ => False) s)
    (h : ∀ (H1 : Hp) (s' : Shared) (out : List Value) (c : Nat), Inv X pins σ H1 s' → (∀ b o, H b = some o → H1 b = some o) → H1 a = none → s'.heap.get? a = some (seqObj "list" out.toArray c) → PySem.W.KeyedOut false (ks.map PyData.str) vs out → P (.done (.ret .none)) s') :
    wpAny (model X.prog X.w) A (ksk_rest a f false vs.toArray e1 (.ref kS)) P E s := by
  unfold ksk_rest
  refine wpAny_bind (wpAny_rule ?_)
  first
    | rw [List.forIn_toArray]
    | (rw [← Array.forIn_toList]; simp only [List.toList_toArray])
    | rw [← Array.forIn_toList]
  refine wpAny_bind (ksk_fold (fun i s1 => ∃ (H1 : Hp) (got : Array Value) (c : Nat), Inv X ((kS, seqObj "list" got c) :: (a, seqObj "list" #[] e1) :: pins) σ H1 s1 ∧ (∀ b o, H b = some o → H1 b = some o) ∧ PySem.W.EachIs (fun v k => ∃ t, v = Value.str k t) got.toList (ks.take i)) vs 0 s
    ⟨H, #[], 0, I, fun _ _ z => z, by rw [List.take_zero]; exact .nil⟩ ?turn ?done)
  case turn =>
    rintro j x s1 hx ⟨H1, got, c, I1, ext, hk⟩
    rw [Nat.zero_add] at hk ⊢
    have jlt : j < vs.length := (List.getElem?_eq_some_iff.mp hx).1
    obtain ⟨k, hkj⟩ : ∃ k, ks[j]? = some k := ⟨_, List.getElem?_eq_getElem (hlen ▸ jlt)⟩
    have few : got.size ≤ vs.length := by
      have q := hk.length
      rw [Array.length_toList, List.length_take] at q
      omega
    refine wpAny_bind (wpAny_attempt (wpAny_mono (turn j x k hx hkj _ s1 H1 (fun p hp => .tail _ (.tail _ hp)) I1 ext) (fun u s2 z => ?_) fun _ _ z => z.elim))
    obtain ⟨H2, t, I2, ext2, rfl⟩ := z
    dsimp only
    have gk := (I2.pin (kS, seqObj "list" got c) (List.mem_append_right _ (.head _))).1
    have ga := I2.pin (a, seqObj "list" #[] e1) (List.mem_append_right _ (.tail _ (.head _)))
    have nk := (I2.pin (kS, seqObj "list" got c) (List.mem_append_right _ (.head _))).2.1
    have same := Heap.SameBut.update s2.heap kS (Obj.mapSeq (·.push (Value.str k t)))
    obtain ⟨c2, hc2⟩ : ∃ c2, (s2.heap.update kS (Obj.mapSeq (·.push (Value.str k t)))).get? kS = some (seqObj "list" (got.push (Value.str k t)) c2) := ⟨_, get?_update_seq gk (·.push (Value.str k t))⟩
    have I3 : Inv X ((a, seqObj "list" #[] e1) :: pins) σ H2 s2 := I2.pins_of fun p hp => I2.pin p (List.mem_append_right _ (.tail _ hp))
    have I4 := I3.turned (t' := s2.toks) (it := kS) (h' := s2.heap.update kS (Obj.mapSeq (·.push (Value.str k t)))) (fun b o nb e => (same.2 b nb).trans e) nk oK.loc (.inr oK.low) oK.cel fun p hp => by
      rcases List.mem_append.mp hp with q | q
      · exact oK.pin p (List.mem_append_left _ q)
      · rcases List.mem_cons.mp q with rfl | q
        · exact Ne.symm hka
        · exact oK.pin p (List.mem_append_right _ q)
    have I5 : Inv X ((kS, seqObj "list" (got.push (Value.str k t)) c2) :: (a, seqObj "list" #[] e1) :: pins) σ H2 { s2 with heap := s2.heap.update kS (Obj.mapSeq (·.push (Value.str k t))) } := I4.pins_of fun p hp => by
      rcases List.mem_cons.mp hp with rfl | q
      · exact ⟨hc2, nk, oK.loc, oK.fs, fun v z => by cases z⟩
      · exact I4.pin p (List.mem_append_right _ q)
    refine wpAny_bind (listUpdate_at gk rfl ?_ (Nat.le_trans few hZ) (Nat.le_trans (Nat.le_of_eq (Array.size_push ..)) (Nat.succ_le_succ (Nat.le_trans few hZ))))
    refine wpAny_pure ⟨rfl, H2, _, c2, I5, fun b o z => ext2 b o (ext b o z), ?_⟩
    rw [List.take_add_one, hkj, Array.toList_push]
    exact PySem.W.each_snoc ⟨t, rfl⟩ hk
  case done =>
    rintro s1 ⟨H1, got, c, I1, ext, hk⟩
    rw [Nat.zero_add, List.take_of_length_le (by omega)] at hk
    have hsz : got.size = vs.length := by
      have q := hk.length
      rw [Array.length_toList] at q
      omega
    have pk := I1.pin (kS, seqObj "list" got c) (List.mem_append_right _ (.head _))
    have pa := I1.pin (a, seqObj "list" #[] e1) (List.mem_append_right _ (.tail _ (.head _)))
    have reads : PySem.W.EachIs (fun v d => ∃ as, Reads s1.heap v d as) got.toList (ks.map PyData.str) := by
      have conv : ∀ {us : List Value} {zs : List Str}, PySem.W.EachIs (fun v k => ∃ t, v = Value.str k t) us zs → PySem.W.EachIs (fun v d => ∃ as, Reads s1.heap v d as) us (zs.map PyData.str) := by
        intro us zs q
        induction q with
        | nil => exact .nil
        | cons r _ ih => obtain ⟨t, rfl⟩ := r; exact .cons ⟨[], .str _ t⟩ ih
      exact conv hk
    have allS : ∀ d ∈ ks.map PyData.str, ∃ z, d = PyData.str z := fun d hd => by obtain ⟨z, _, e⟩ := List.mem_map.mp hd; exact ⟨z, e.symm⟩
    have hal : PySem.W.AllAlike (ks.map PyData.str) := fun d hd d' hd' => by
      obtain ⟨z, rfl⟩ := allS d hd
      obtain ⟨z', rfl⟩ := allS d' hd'
      simp [PySem.W.alike]
    have hso : PySem.W.Sortable (ks.map PyData.str) := .inr fun d hd => by
      obtain ⟨z, rfl⟩ := allS d hd
      exact ⟨fun q => (by cases q), fun xs q => (by cases q)⟩
    refine wpAny_bind (listItems_at pk.1 rfl ?_)
    refine PySem.W.keyH_end (κ := PySem.W.dataKind s1.heap (ks.map PyData.str)) (h₁ := PySem.W.hideAll s1.heap [kS]) (fun b o nb q => PySem.W.of_hideAll _ q) (PySem.W.hideAll_none _ (.head _)) pk.1 pa.1 hka
      (PySem.W.SortsAt.data reads hal hso fun d hd => by obtain ⟨z, rfl⟩ := allS d hd; simpa [PyData.depth] using hu) hsz hZ fun h' tk c2 keep out => ?_
    have kp : ∀ b o, b ∉ [kS, a] → s1.heap.get? b = some o → h'.get? b = some o := fun b o nb q => by
      simp only [List.mem_cons, List.not_mem_nil, or_false, not_or] at nb
      exact keep b o nb.2 (PySem.W.hideAll_get _ q (by simp [nb.1]))
    have I2 : Inv X pins σ H1 s1 := I1.pins_of fun p hp => I1.pin p (List.mem_append_right _ (.tail _ (.tail _ hp)))
    have hch : ∀ b ∈ [kS, a], Ours X pins b := fun b hb => by
      rcases List.mem_cons.mp hb with rfl | hb
      · exact oK
      · rw [List.mem_singleton.mp hb]; exact oA
    have hn : ∀ b ∈ [kS, a], H1 b = none := fun b hb => by
      rcases List.mem_cons.mp hb with rfl | hb
      · exact pk.2.1
      · rw [List.mem_singleton.mp hb]; exact pa.2.1
    have nn : ∀ {b u}, H1 b = some u → b ∉ [kS, a] := fun {b u} e z => by rw [hn b z] at e; cases e
    have I3 : Inv X pins σ H1 { s1 with heap := h', gens := s1.gens, drawn := s1.drawn, toks := tk } := I2.step (ch := [kS, a]) (fun b hb => ⟨.inr (hch b hb).low, (hch b hb).loc, (hch b hb).cel, (hch b hb).pin⟩) (fun b o _ _ nb q _ => kp b o nb q) (fun b o _ _ nb q _ => ⟨o.slots, kp b o nb q⟩)
      (fun _ _ _ _ z => z) (fun b o nb q => ⟨o, kp b o nb q⟩) (fun _ _ z => z) (fun _ _ _ z => z) (fun b ps z => ⟨#[], by rw [z]; simp⟩) (fun m hm => by
        obtain ⟨o, es, ep, ho, r⟩ := hm
        exact ⟨o, es, ep, kp _ o (fun z => (hch _ z).loc rfl) ho, r⟩)
      (fun b u z => (I2.hok b u z).stay (fun c w hc q => kp c w (by
        rcases hc with rfl | hc
        · exact nn z
        · exact nn hc) q) (fun _ q => q) fun _ _ q => q) I2.bare
    exact h H1 _ _ c2 I3 ext pa.2.1 out ⟨s1.heap, got.toList, hal, rfl, reads⟩
theorem zip_strs {α : Type} : ∀ {ks : List Str} {xs : List α}, ks.length = xs.length → (ks.zip xs).map (fun p => PyData.str p.1) = ks.map PyData.str
  | [], _, _ => rfl
  | _ :: _, [], h => by simp at h
  | k :: ks, x :: xs, h => by
    exact congrArg (List.cons (PyData.str k)) (zip_strs (ks := ks) (xs := xs) (by simpa using h))
theorem zip_each {ks : List Str} : ∀ {xs : List V} {us : List Value}, Vals xs us → ∀ {ks : List Str}, ks.length = xs.length → PySem.W.EachIs (fun (u : Value) (p : Str × V) => RelV p.2 u) us (ks.zip xs)
  | _, _, .nil, [], _ => .nil
  | _, _, .nil, _ :: _, h => by simp at h
  | _, _, .cons r t, [], h => by simp at h
  | _, _, .cons r t, k :: ks, h => .cons r (zip_each (ks := ks) t (by simpa using h))
theorem each_vals : ∀ {us : List Value} {ps : List (Str × V)}, PySem.W.EachIs (fun (u : Value) (p : Str × V) => RelV p.2 u) us ps → Vals (ps.map Prod.snd) us
  | _, _, .nil => .nil
  | _, _, .cons r t => .cons r (each_vals t)
/-- sorted(l, key=f) -/
theorem sorted_keyed {l f : Addr} {xs : List V} {ks : List Str} {Q : VK} (I : Inv X pins σ H s) (hs : SqL X.K H l xs) (hlen : ks.length = xs.length) (hu : X.A.units + 2 < cLine)
    (turn : ∀ (i : Nat) (x : V) (v : Value) (k : Str), xs[i]? = some x → RelV x v → ks[i]? = some k → ∀ (pins' : List (Addr × Obj)) (s : Shared) (H1 : Hp), (∀ p ∈ pins, p ∈ pins') → Inv X pins' σ H1 s → (∀ b o, H b = some o → H1 b = some o) →
      wpAny (model X.prog X.w) X.A.in1.in1 (call (.ref f) [v]) (fun u s' => ∃ (H' : Hp) (t : Tok), Inv X pins' σ H' s' ∧ (∀ b o, H1 b = some o → H' b = some o) ∧ u = .str k t) (fun _ _ => False) s)
    (q : ∀ (H' : Hp) (a : Addr), (∀ b o, H b = some o → H' b = some o) → H' a = none → Q (.ref a) (upd H' a (.lst ((sortK (ks.zip xs)).map Prod.snd)))) :
    wpAny (model X.prog X.w) X.A (call (.builtin "sorted") [.ref l] [(Str.ofString "key", .ref f)]) (EP X pins σ Q) X.xe s := by
  obtain ⟨its, rv, hl, hz⟩ := I.list hs
  have hZ : its.length ≤ sizeLine := by rw [← rv.length]; exact hz
  refine PySem.W.sorted_of_sort hl.isList hZ (ksk_s1 _ _) (fun _ => ksk_l1 _ _) fun E' => ?_
  rw [ksk_t1]
  have ho := PySem.W.copyHeap_at s.heap its
  obtain ⟨e1, ho1⟩ : ∃ e1, ((PySem.W.copyHeap s.heap its).update (s.heap.objs.size + 1) (Obj.mapSeq fun _ => (#[] : Array Value))).get? (s.heap.objs.size + 1) = some (seqObj "list" #[] e1) := ⟨_, get?_update_seq ho fun _ => #[]⟩
  unfold ksk_tree
  refine wpAny_bind (listItems_at ho rfl ?_)
  refine wpAny_bind (listUpdate_at ho rfl ?_ (by rw [List.size_toArray]; exact hZ) (Nat.zero_le _))
  refine wpAny_bind (seqEpoch_at ho1 rfl ?_)
  refine wpAny_bind (wpAny_newTuple ?_ hZ)
  refine wpAny_bind (wpAny_newList ?_ (Nat.zero_le _))
  refine wpAny_holding ?_
  have up : ∀ b o, s.heap.get? b = some o → (PySem.W.sortingHeap (PySem.W.copyHeap s.heap its) (s.heap.objs.size + 1) its).get? b = some o := fun b o e => PySem.W.sorting_copy_old e
  have I0 : Inv X pins σ H { s with heap := PySem.W.sortingHeap (PySem.W.copyHeap s.heap its) (s.heap.objs.size + 1) its } := I.kept (t' := s.toks) up
  have alt : s.heap.objs.size + 1 < (PySem.W.copyHeap s.heap its).objs.size := Heap.lt_size ho
  have kge : s.heap.objs.size + 1 < (((PySem.W.copyHeap s.heap its).update (s.heap.objs.size + 1) (Obj.mapSeq fun _ => (#[] : Array Value))).push (seqObj "tuple" its.toArray 0)).objs.size := by
    rw [size_push', Heap.size_update]; omega
  have oA : Ours X pins (s.heap.objs.size + 1) := ours_of I (Nat.le_succ _)
  have oK : Ours X pins (((PySem.W.copyHeap s.heap its).update (s.heap.objs.size + 1) (Obj.mapSeq fun _ => (#[] : Array Value))).push (seqObj "tuple" its.toArray 0)).objs.size := ours_of I (by omega)
  have nA : H (s.heap.objs.size + 1) = none := I.hok.fresh (Nat.le_succ _)
  have nK : H (((PySem.W.copyHeap s.heap its).update (s.heap.objs.size + 1) (Obj.mapSeq fun _ => (#[] : Array Value))).push (seqObj "tuple" its.toArray 0)).objs.size = none := I.hok.fresh (by omega)
  have gA : (PySem.W.sortingHeap (PySem.W.copyHeap s.heap its) (s.heap.objs.size + 1) its).get? (s.heap.objs.size + 1) = some (seqObj "list" #[] e1) := Heap.get?_push_of_some _ (Heap.get?_push_of_some _ ho1)
  have gK : (PySem.W.sortingHeap (PySem.W.copyHeap s.heap its) (s.heap.objs.size + 1) its).get? (((PySem.W.copyHeap s.heap its).update (s.heap.objs.size + 1) (Obj.mapSeq fun _ => (#[] : Array Value))).push (seqObj "tuple" its.toArray 0)).objs.size = some (seqObj "list" #[] 0) := Heap.get?_push_size _ rfl
  have I1 : Inv X ((_, seqObj "list" #[] 0) :: (s.heap.objs.size + 1, seqObj "list" #[] e1) :: pins) σ H { s with heap := PySem.W.sortingHeap (PySem.W.copyHeap s.heap its) (s.heap.objs.size + 1) its } := I0.pins_of fun p hp => by
    rcases List.mem_cons.mp hp with rfl | hp
    · exact ⟨gK, nK, oK.loc, oK.fs, fun v z => by cases z⟩
    · rcases List.mem_cons.mp hp with rfl | hp
      · exact ⟨gA, nA, oA.loc, oA.fs, fun v z => by cases z⟩
      · exact I0.pin p (List.mem_append_right _ hp)
  refine keyed_rest (ks := ks) I1 oK oA (Nat.ne_of_gt kge) (hlen.trans rv.length) hZ hu (fun i v k hv hk pins' s' H1 hp J ext => ?_) fun H1 s' out c J ext na ha ko => ⟨rfl, ?_⟩
  · obtain ⟨x, hx⟩ : ∃ x, xs[i]? = some x := ⟨_, List.getElem?_eq_getElem (by rw [rv.length]; exact (List.getElem?_eq_some_iff.mp hv).1)⟩
    obtain ⟨u, hu', ru⟩ := Paired.at' (vals_pair rv) hx
    rw [hv] at hu'
    cases hu'
    exact turn i x v k hx ru hk pins' s' H1 hp J ext
  · have ko' : PySem.W.KeyedOut false ((ks.zip xs).map fun p => PyData.str p.1) its out := by rw [zip_strs hlen]; exact ko
    have each := PySem.W.keyedOut_each (β := Str × V) (fun p => PyData.str p.1) ko' (zip_each (ks := ks) rv hlen)
    rw [PySem.W.dataLe_str] at each
    have each : PySem.W.EachIs (fun (u : Value) (p : Str × V) => RelV p.2 u) out ((ks.zip xs).mergeSort leK) := each
    rw [sortK_merge] at each
    have vo := each_vals each
    have lo : ((sortK (ks.zip xs)).map Prod.snd).length ≤ sizeLine := by
      rw [List.length_map, length_sortK, List.length_zip, hlen, Nat.min_self]; exact hz
    have h0 : X.s_0.heap.get? (s.heap.objs.size + 1) = none := Heap.get?_none_of_le oA.low
    refine ⟨.ref (s.heap.objs.size + 1), _, inv_track (o := .lst ((sortK (ks.zip xs)).map Prod.snd)) J na h0 oA.pin oA.loc ha (fun v z => by cases z) ⟨lo, out, c, vo, ha⟩, rfl, q H1 _ ext na⟩
end
end DL
/-! DL33: sorted(xs, key=f), f an own def or a lambda without captured names. -/
namespace DL
open PySem PySem.Spec PyProof.Rows L2 LamX NdefX

/-- the keys of all -/
def keysM (G : D → Option Str) : List D → Option (List Str)
  | [] => some []
  | d :: ds => match G d with
    | some k => (keysM G ds).map (k :: ·)
    | none => none
theorem keysM_at {G : D → Option Str} : ∀ {ds : List D} {ks : List Str}, keysM G ds = some ks → ks.length = ds.length ∧ ∀ (i : Nat) (k : Str), ks[i]? = some k → ∃ d, ds[i]? = some d ∧ G d = some k
  | [], _, h => by cases h; exact ⟨rfl, fun i k z => by simp at z⟩
  | d :: ds, ks, h => by
    unfold keysM at h
    split at h
    · rename_i k e
      simp only [Option.map_eq_some_iff] at h
      obtain ⟨ks', h1, rfl⟩ := h
      obtain ⟨h2, h3⟩ := keysM_at h1
      refine ⟨by simp [h2], fun i k' z => ?_⟩
      match i, z with
      | 0, z => cases z; exact ⟨d, rfl, e⟩
      | i + 1, z => exact h3 i k' (by simpa using z)
    · cases h
/-- the key that a def gives -/
def keyF (F : List W → M W) (d : D) : Option Str := match F [.d d] [] with
  | .ok (.d (.str k)) _ => some k
  | _ => none
/-- .. that a lambda's body gives -/
def keyL (fb : Env → M W) (d : D) : Option Str := match fb [some (.d d)] [] with
  | .ok (.d (.str k)) _ => some k
  | _ => none
def sortKM (G : D → Option Str) (w : W) : M W := fun S => match toD w S with
  | some (.list ds) => (match keysM G ds with
    | some ks => .ok (.d (.list ((sortK (ks.zip ds)).map Prod.snd))) S
    | none => .no)
  | _ => .no
theorem sortKM_list {G : D → Option Str} {w : W} {S : Sto} {P : W → Sto → Prop} {E : Ex → Sto → Prop} (g : Gives (sortKM G w S) P E) : ∃ ds ks, toD w S = some (.list ds) ∧ keysM G ds = some ks ∧ P (.d (.list ((sortK (ks.zip ds)).map Prod.snd))) S := by
  unfold sortKM at g
  split at g
  · rename_i ds e
    split at g
    · rename_i ks ek
      exact ⟨ds, ks, e, ek, g⟩
    · exact g.elim
  · exact g.elim
/-- .. by a lambda, in the def whose table of code objects is the i-th -/
def sortLM (i : Nat) (P : Addr) (q : Str) (fb : Env → M W) (w : W) : M W := fun S => match (S[i]? : Option Ob) with
  | some (.tab P' q') => if P' = P ∧ q' = q then sortKM (keyL fb) w S else .no
  | _ => .no
theorem rp_sorted {K : PySem.W.Frag} {H : Hp} {L : Addr → Prop} {ks : List Str} : ∀ {vs : List V} {ds : List D}, RpA K H L vs ds → ∀ {ks : List Str}, ks.length = ds.length → Paired (fun (p : Str × V) (q : Str × D) => p.1 = q.1 ∧ Rp K H L p.2 q.2) (ks.zip vs) (ks.zip ds)
  | _, [], h, [], _ => by cases h; exact .nil
  | _, [], h, _ :: _, q => by simp at q
  | _, _ :: _, h, [], q => by simp at q
  | _, d :: ds, h, k :: ks, q => by
    cases h with
    | cons a b => exact .cons ⟨rfl, a⟩ (rp_sorted (ks := ks) b (by simpa using q))
theorem rpA_of {K : PySem.W.Frag} {H : Hp} {L : Addr → Prop} : ∀ {ps : List (Str × V)} {qs : List (Str × D)}, Paired (fun (p : Str × V) (q : Str × D) => p.1 = q.1 ∧ Rp K H L p.2 q.2) ps qs → RpA K H L (ps.map Prod.snd) (qs.map Prod.snd)
  | _, _, .nil => .nil
  | _, _, .cons r t => .cons r.2 (rpA_of t)
theorem rpA_at {K : PySem.W.Frag} {H : Hp} {L : Addr → Prop} : ∀ {vs : List V} {ds : List D} {i : Nat} {v : V} {d : D}, RpA K H L vs ds → vs[i]? = some v → ds[i]? = some d → Rp K H L v d
  | _, [], i, v, d, h, e, q => by simp at q
  | _, _ :: _, 0, v, d, h, e, q => by
    cases h with
    | cons a b => cases e; cases q; exact a
  | _, _ :: _, i + 1, v, d, h, e, q => by
    cases h with
    | cons a b => exact rpA_at b (by simpa using e) (by simpa using q)
/-- nothing of the store is seen -/
theorem rel_nil {K : PySem.W.Frag} {S : Sto} {ρ : Pl} {H H1 : Hp} (R : Rel K S ρ H) (ext : ∀ b o, H b = some o → H1 b = some o) : Rel K [] ⟨[], fun a => Live S ρ a⟩ H1 ∧ Live [] ⟨[], fun a => Live S ρ a⟩ = Live S ρ := by
  refine ⟨⟨rfl, fun a q => ?_, fun a q z => ?_, fun n o q => by simp at q, fun n m a o u q => by simp at q⟩, ?_⟩
  · obtain ⟨o, z⟩ := R.tracked q
    exact ⟨o, ext a o z⟩
  · obtain ⟨n, o, h1, _⟩ := z
    simp at h1
  · funext a
    refine propext ⟨fun q => ?_, fun q => .inr q⟩
    rcases q with ⟨n, o, h1, _⟩ | q
    · simp at h1
    · exact q
theorem ext_nil {S0 : Sto} {ρ0 ρ' : Pl} {H1 H' : Hp} {g : Addr → Prop} (e : Ext [] ⟨[], g⟩ H1 S0 ρ' H') : ∀ b o, H1 b = some o → H' b = some o := fun b o q => e.stab b o q fun z => by
  obtain ⟨n, u, h1, _⟩ := z
  simp at h1
theorem rel_all {K : PySem.W.Frag} {S : Sto} {ρ : Pl} {H H1 : Hp} (R : Rel K S ρ H) (ext : ∀ b o, H b = some o → H1 b = some o) : Ext S ρ H S ρ H1 ∧ Rel K S ρ H1 := by
  have e1 : Ext S ρ H S ρ H1 := ⟨fun _ _ q => q, fun a o q _ => ext a o q, fun _ q => .inl q, rfl, fun a o u q => ext a _ q⟩
  refine ⟨e1, R.len, fun a q => ?_, R.dj, fun n o q1 q2 => ?_, R.inj⟩
  · obtain ⟨o, h⟩ := R.gt a q; exact ⟨o, ext a o h⟩
  · obtain ⟨a, ho, z1, z2, z3⟩ := R.ob n o q1 q2
    exact ⟨a, ho, z1, ext a ho z2, z3.ext e1⟩
theorem room2 {k : Nat} {A : Around} (h : Room k A) : A.units + 2 < cLine := by have := h.un; omega
section
variable {X : Cx} {Z : XZ} {pos p kpos lpos : Pos} {a : Expr} {es : List Expr} {fa : Env → M W} {k : Nat} {pins : List (Addr × Obj)} {σ : L2.St} {H : Hp} {s : Shared} {Q : VK}
/-- sorted, where the keys' texts are known -/
theorem sort_run {l f : Addr} {S : Sto} {ρ : Pl} {G : D → Option Str} {w : W} (I : Inv X pins σ H s) (R : Rel X.K S ρ H) (rw : RW X.K ρ H (Live S ρ) w (.ref l)) (hu : X.A.units + 2 < cLine)
    (turn : ∀ (x : V) (u : Value) (d : D) (k : Str), Rp X.K H (Live S ρ) x d → RelV x u → G d = some k → ∀ (pins' : List (Addr × Obj)) (s : Shared) (H1 : Hp), (∀ p ∈ pins, p ∈ pins') → Inv X pins' σ H1 s → (∀ b o, H b = some o → H1 b = some o) →
      wpAny (model X.prog X.w) X.A.in1.in1 (call (.ref f) [u]) (fun u s' => ∃ (H' : Hp) (t : Tok), Inv X pins' σ H' s' ∧ (∀ b o, H1 b = some o → H' b = some o) ∧ u = .str k t) (fun _ _ => False) s)
    (g : Gives (sortKM G w S) (fun w S' => ∀ (ρ' : Pl) (H' : Hp) (v : V), Ext S ρ H S' ρ' H' → Rel X.K S' ρ' H' → RW X.K ρ' H' (Live S' ρ') w v → Q v H') (fun x S' => ∀ (ρ' : Pl) (H' : Hp), Ext S ρ H S' ρ' H' → Rel X.K S' ρ' H' → Z x S' ρ' H')) :
    wpAny (model X.prog X.w) X.A (call (.builtin "sorted") [.ref l] [(Str.ofString "key", .ref f)]) (EP X pins σ Q) X.xe s := by
  obtain ⟨ds, ks, ed, ek, g⟩ := sortKM_list g
  obtain ⟨p, xs, ep, ql, ra⟩ := (toD_items R rw).1 ds ed
  cases ep
  obtain ⟨hl, hk⟩ := keysM_at ek
  refine sorted_keyed (ks := ks) I (.of ql) (hl.trans ra.length.symm) hu (fun i x u k hx ru hki pins' s' H1 hp J ext => ?_) fun H1 b ext nb => ?_
  · obtain ⟨d, hd, hg⟩ := hk i k hki
    exact turn x u d k (rpA_at ra hx hd) ru hg pins' s' H1 hp J ext
  · obtain ⟨e1, R1⟩ := rel_all R ext
    have e2 : Ext S ρ H1 S ρ (upd H1 b (.lst ((sortK (ks.zip xs)).map Prod.snd))) := Ext.frz nb
    have R2 := R1.frz (o := .lst ((sortK (ks.zip xs)).map Prod.snd)) nb
    refine g ρ _ (.ref b) (e1.trans e2) R2 ?_
    have ra1 := RpA.ext (e1.trans e2).stabL (e1.trans e2).newL _ _ ra
    exact .lst ⟨upd_same, R1.notLive nb⟩ (rpA_of (sortK_pair (rp_sorted (ks := ks) ra1 hl)))
theorem in1_env0 {P : Program} {w : World} {K : PySem.W.Frag} {mg : Str → Option Value} {base : Heap} {A : Around} {outer : List PySem.Env} (e : Env0 P w K mg base A outer s H) : Env0 P w K mg base A.in1 outer s H := e.in1
/-- a def's call, on plain data, under a built-in -/
theorem turn_def {S : Sto} {ρ : Pl} {H1 : Hp} {x : V} {u : Value} {d : D} {kk : Str} {f : Addr} {fd : FuncData} {q : Str} {F : List W → M W} (FO : FnG X.prog X.w X.K X.mg X.base CX0 k f fd [q] (spF X.K (fun _ => ZF) F)) (hr : Room (k + 2) X.A) (hG : X.A.guards = some []) (hb : L2.Binds X.K fd [q] [])
    (R : Rel X.K S ρ H) (rx : Rp X.K H (Live S ρ) x d) (ru : RelV x u) (hg : keyF F d = some kk) (J : Inv X pins σ H1 s) (ext : ∀ b o, H b = some o → H1 b = some o) :
    wpAny (model X.prog X.w) X.A.in1.in1 (call (.ref f) [u]) (fun u s' => ∃ (H' : Hp) (t : Tok), Inv X pins σ H' s' ∧ (∀ b o, H1 b = some o → H' b = some o) ∧ u = .str kk t) (fun _ _ => False) s := by
  obtain ⟨e1, R1⟩ := rel_all R ext
  obtain ⟨R0, hl⟩ := rel_nil R ext
  have rx1 : Rp X.K H1 (Live [] ⟨[], fun a => Live S ρ a⟩) x d := by rw [hl]; exact Rp.ext e1.stabL e1.newL _ _ rx
  unfold keyF at hg
  split at hg
  · rename_i k0 S0 eF
    cases hg
    have sp : spF X.K (fun _ => ZF) F [x] H1 (fun v H' => v = .str kk ∧ ∀ b o, H1 b = some o → H' b = some o) E0 := by
      refine ⟨[.d d], [], _, R0, .cons rx1 .nil, ?_⟩
      rw [eF]
      intro ρ' H' v e r rv
      have rv : Rp X.K H' (Live S0 ρ') v (.str kk) := rv
      cases rv
      exact ⟨rfl, ext_nil (ρ0 := ρ') e⟩
    refine wpAny_call (codeAny_mono (FO.run X.A.in1.in1 X.stack s H1 ⟨[u], []⟩ [u] [x] _ _ (hr.in1.in1) hG (J.env0.in1.in1) (hb s [u] J.kIn rfl) (.cons ru .nil) sp) fun r s' z => ?_)
    cases r with
    | error e => exact z
    | ok fl =>
      cases fl with
      | ret w =>
        obtain ⟨v, H', J', rv, ev, ex⟩ := J.after z
        subst ev
        obtain ⟨t, rfl⟩ := (show ∃ t, w = Value.str kk t from rv)
        exact ⟨H', t, J', ex, rfl⟩
      | next => exact z
      | brk => exact z
      | cont => exact z
  · cases hg
/-- sorted(e, key=f), f an own def -/
theorem dsortF {p0 : Pos} {x q : Str} {f : Addr} {fd : FuncData} {F : List W → M W} (FO : FnG X.prog X.w X.K X.mg X.base CX0 k f fd [q] (spF X.K (fun _ => ZF) F)) (hr : Room (k + 2) X.A) (hG : X.A.guards = some []) (hb : L2.Binds X.K fd [q] []) (hgs : Gl X "sorted") (hms : X.mg "sorted" = none) (hg : Gl X x) (hm : X.mg x = some (.ref f))
    (ha : PE X a (tE X.K Z fa)) (hdx : (x == ("__debug__" : Str)) = false := by decide) (he : starEach [a] X.env = (false, eval a X.env) :: starEach [] X.env := by rfl)
    (heb : backTo pos (starEach [a] X.env) = (false, eval a X.env) :: backTo pos (starEach [] X.env) := by rfl) (hpl : (backTo pos (starEach [a] X.env)).any (·.1) = false := by rfl)
    (hall : (backToKw pos (keywordEach [⟨some "key", .Name x p, kpos⟩] X.env)).all (·.1.isSome) = true := by rfl) (hnone : (backToKw pos (keywordEach [⟨some "key", .Name x p, kpos⟩] X.env)).any (·.1.isNone) = false := by rfl)
    (hks : (backToKw pos (keywordEach [⟨some "key", .Name x p, kpos⟩] X.env)).filterMap (·.1) = [Str.ofString "key"] := by rfl) :
    PE X (.Call (.Name "sorted" p0) [a] [⟨some "key", .Name x p, kpos⟩] pos) (tE X.K Z fun δ => bd (fa δ) (sortKM (keyF F))) := by
  have hc : CallRK X (.builtin "sorted") [Str.ofString "key"] (fun xs zs H Q => zs = [.ref f] ∧ ∃ x, xs = [x] ∧ tH X.K Z (RW X.K) (RW X.K) (sortKM (keyF F)) x H Q) := by
    rintro pins s σ H xs zs us ws Q I rv rz ⟨rfl, x, rfl, w, S, ρ, R, rw, g⟩
    obtain ⟨u, rfl, ru⟩ := rv.one
    obtain rfl := Vals.ref1 rz
    obtain ⟨ds, ks, ed, _, _⟩ := sortKM_list g
    obtain ⟨l, ys, ex, _, _⟩ := (toD_items R rw).1 ds ed
    subst ex
    cases ru
    exact sort_run I R rw (room2 hr) (fun y u d kk rp ru hk pins' s' H1 hp J ext => turn_def FO hr hG hb R rp ru hk J ext) g
  have hT : PE X (.Name x p) (tC (.ref f)) := pe_glob hg hm rfl hdx
  refine (pe_callBK hc hgs hms (by decide +kernel) (pa_cons ha pa_nil he) (pk_cons hT pk_nil) (he := heb) (hpl := hpl) (hall := hall) (hnone := hnone) (hks := hks)).imp fun σ H Q h => ?_
  refine (tH.bind (Rα := RW X.K) (f := fa) (g := fun _ w => sortKM (keyF F) w) h Stb.env).mono fun v H1 h1 => ?_
  exact ⟨rfl, v, rfl, tH.map (RA' := RW X.K) (m := sortKM (keyF F)) (f := Prod.snd) (g := Prod.snd) h1 fun _ _ _ _ _ q => q.2⟩
end
end DL
/-! DL34: sorted(xs, key=lambda x: ..). -/
namespace DL
open PySem PySem.Spec PyProof.Rows L2 LamX NdefX

section
variable {X : Cx} {Z : XZ} {pins : List (Addr × Obj)} {σ : L2.St} {H : Hp} {s : Shared} {q : Str} {params : Arguments} {body : Expr} {scope : Scope} {pos p0 kpos lpos : Pos} {a : Expr} {fa fb : Env → M W} {k : Nat} {x1 : Str}
/-- a lambda's call, on plain data, under a built-in -/
theorem turn_lam {S : Sto} {ρ : Pl} {H1 : Hp} {x : V} {u : Value} {d : D} {kk : Str} {f c' : Addr} {doc pm ctv : Value} (Sc : NScope [x1] [x1] [] scope) (hfree : ∀ y ∈ scope.names, y.2 = .free → X.env.scope.names.lookup y.1 = some .cell ∨ X.env.scope.names.lookup y.1 = some .free)
    (hbind : ∀ (q : Str) (cl : List (Str × Addr)) (doc pm cdv ctv u : Value), bindArgs (PySem.W.kdv_fn "<lambda>" q params (.expr body) scope cl .none doc pm cdv ctv) ⟨[u], []⟩ = pure [(x1, u)]) (hr : Room (k + 3) X.A)
    (hbody : ∀ (A : Around) (outer : List PySem.Env) (s : Shared) (H : Hp) (E : XK) (f c' : Addr), A.guards = X.A.guards → Room k (A.deeper (envF ⟨"<lambda>", q, params, [], scope, cloFrom X.env.cells scope.names [], c'⟩ f s.heap.objs.size)) →
      PE (ncx CX0 X.prog X.w X.K X.mg X.base [x1] ⟨"<lambda>", q, params, [], scope, cloFrom X.env.cells scope.names [], c'⟩ f A outer s H E) body (tE X.K ZF fb))
    (ho : s.heap.get? f = some (PySem.W.kdv_obj "<lambda>" q params (.expr body) scope (cloFrom X.env.cells scope.names []) .none doc pm c' ctv)) (hc : H1 c' = some (CodeO c' q))
    (R : Rel X.K S ρ H) (rx : Rp X.K H (Live S ρ) x d) (ru : RelV x u) (hg : keyL fb d = some kk) (J : Inv X pins σ H1 s) (ext : ∀ b o, H b = some o → H1 b = some o) :
    wpAny (model X.prog X.w) X.A.in1.in1 (call (.ref f) [u]) (fun u s' => ∃ (H' : Hp) (t : Tok), Inv X pins σ H' s' ∧ (∀ b o, H1 b = some o → H' b = some o) ∧ u = .str kk t) (fun _ _ => False) s := by
  obtain ⟨e1, R1⟩ := rel_all R ext
  obtain ⟨R0, hl⟩ := rel_nil R ext
  have rx1 : Rp X.K H1 (Live [] ⟨[], fun a => Live S ρ a⟩) x d := by rw [hl]; exact Rp.ext e1.stabL e1.newL _ _ rx
  have hr2 : Room (k + 1) X.A.in1.in1 := hr.in1.in1
  unfold keyL at hg
  split at hg
  · rename_i k0 S0 eF
    cases hg
    have ht : tE X.K ZF fb (startF [x1] [x] []) H1 (fun v H' => v = .str kk ∧ ∀ b o, H1 b = some o → H' b = some o) := by
      refine ⟨[some (.d d)], [], _, R0, ⟨rfl, fun i w z => ?_⟩, ?_⟩
      · match i, z with
        | 0, z => cases z; exact ⟨x, rfl, rx1⟩
        | i + 1, z => simp at z
      · rw [eF]
        intro ρ' H' v e r rv
        have rv : Rp X.K H' (Live S0 ρ') v (.str kk) := rv
        cases rv
        exact ⟨rfl, ext_nil (ρ0 := ρ') e⟩
    have C := cells_of J (Caps.made (fr := []) (js := []) J.ok hfree (fun y hy => by simp at hy) rfl)
    have rc : codeAny (model X.prog X.w) X.A.in1.in1 (.call (.ref f) ⟨[u], []⟩) (CR CX0 X.stack X.prog X.w H1 s (fun v H' => v = .str kk ∧ ∀ b o, H1 b = some o → H' b = some o) E0) s := by
      refine PySem.W.kla_callFunE hr2.depth ho rfl Sc.co Sc.gen rfl (codeO_at J.hok hc) ((BindsTo.of_eq (binds := [(x1, u)]) (hbind _ _ doc pm _ ctv u)) _ _ _ _ ?_)
      refine wpAny_newFunctionEnv Sc.nocell (fun y hy => by rw [List.mem_singleton.mp hy]; exact Sc.par x1 (.head _)) (fun h₁ hns hsb => ⟨J.nolimit.fresh _ hsb, ?_⟩) Sc.kind
      have kp : ∀ b o, s.heap.get? b = some o → h₁.get? b = some o := fun b o e => hsb.extBut b o (Nat.ne_of_lt (Heap.lt_size e)) (Heap.get?_push_of_some _ e)
      show codeAny _ _ (.expr body (envF ⟨"<lambda>", q, params, [], scope, cloFrom X.env.cells scope.names [], c'⟩ f s.heap.objs.size)) _ _
      have J2 := inv_startN (CX := CX0) (E := E0) (N := [x1]) (F := ⟨"<lambda>", q, params, [], scope, cloFrom X.env.cells scope.names [], c'⟩) (f := f) (tk := s.toks + ([x1].zip [u]).length) Sc hr2.hd (J.env0.in1.in1) (vs := [x]) rfl (.cons ru .nil) C hns kp
      refine PySem.W.kla_codeExpr (wpAny_mono ((hbody X.A.in1.in1 X.stack s H1 E0 f c' rfl (hr2.deeper _)).run [] _ _ H1 _ J2 ht) (fun v s' hq => ?_) fun _ _ z => z)
      obtain ⟨w', H', J', rv', z⟩ := hq
      exact ⟨w', H', J'.os, J'.bare, J'.base, J'.hok, rv', z⟩
    refine wpAny_call (codeAny_mono rc fun r s' z => ?_)
    cases r with
    | error e => exact z
    | ok fl =>
      cases fl with
      | ret w =>
        obtain ⟨v, H', J', rv, ev, ex⟩ := J.after z
        subst ev
        obtain ⟨t, rfl⟩ := (show ∃ t, w = Value.str kk t from rv)
        exact ⟨H', t, J', ex, rfl⟩
      | next => exact z
      | brk => exact z
      | cont => exact z
  · cases hg
theorem out_fs (I : Inv X pins σ H s) {f : Addr} (h : f ∉ frs X.stack) : f ∉ X.fs := fun z => h (by
  rcases I.ok.stk with e | ⟨e, hf⟩
  · rw [e]; exact z
  · rw [e]
    unfold frs
    rw [List.filterMap_cons, hf]
    exact List.mem_cons_of_mem _ z)
/-- sorted(e, key=lambda x: body) -/
theorem dsortL {i : Nat} {P c : Addr} (TB : TabB X.base X.mg c P) (hcode : X.env.code = .ref c) (hq : q = X.env.qual ++ "<lambda>") (Sc : NScope [x1] [x1] [] scope) (hsc : ndefB X.env.scope scope [] = true) (hdf : defaultsOf params X.env = ([], []))
    (hbind : ∀ (q : Str) (cl : List (Str × Addr)) (doc pm cdv ctv u : Value), bindArgs (PySem.W.kdv_fn "<lambda>" q params (.expr body) scope cl .none doc pm cdv ctv) ⟨[u], []⟩ = pure [(x1, u)]) (hr : Room (k + 3) X.A) (hgs : Gl X "sorted") (hms : X.mg "sorted" = none)
    (ha : PE X a (tE X.K Z fa))
    (hbody : ∀ (A : Around) (outer : List PySem.Env) (s : Shared) (H : Hp) (E : XK) (f c' : Addr), A.guards = X.A.guards → Room k (A.deeper (envF ⟨"<lambda>", q, params, [], scope, cloFrom X.env.cells scope.names [], c'⟩ f s.heap.objs.size)) →
      PE (ncx CX0 X.prog X.w X.K X.mg X.base [x1] ⟨"<lambda>", q, params, [], scope, cloFrom X.env.cells scope.names [], c'⟩ f A outer s H E) body (tE X.K ZF fb))
    (he : starEach [a] X.env = (false, eval a X.env) :: starEach [] X.env := by rfl)
    (heb : backTo pos (starEach [a] X.env) = (false, eval a X.env) :: backTo pos (starEach [] X.env) := by rfl) (hpl : (backTo pos (starEach [a] X.env)).any (·.1) = false := by rfl)
    (hall : (backToKw pos (keywordEach [⟨some "key", .Lambda params body scope lpos, kpos⟩] X.env)).all (·.1.isSome) = true := by rfl) (hnone : (backToKw pos (keywordEach [⟨some "key", .Lambda params body scope lpos, kpos⟩] X.env)).any (·.1.isNone) = false := by rfl)
    (hks : (backToKw pos (keywordEach [⟨some "key", .Lambda params body scope lpos, kpos⟩] X.env)).filterMap (·.1) = [Str.ofString "key"] := by rfl) :
    PE X (.Call (.Name "sorted" p0) [a] [⟨some "key", .Lambda params body scope lpos, kpos⟩] pos) (tE X.K Z fun δ => bd (fa δ) (sortLM i P q fb)) := by
  subst hq
  constructor
  intro pins s σ H Q I h
  have hfree := ndef_free hsc
  have h1 := tH.bind (Rα := RW X.K) (f := fa) (g := fun _ w => sortLM i P (X.env.qual ++ "<lambda>") fb w) h Stb.env
  refine wpAny_Call_Name_kw (ld_blt I hgs hms bl_sorted ?_ (by decide) (by decide))
  refine PyProof.Rows.callWith_kw (wpAny_mono ((pa_cons ha pa_nil he).run pos pins s σ H (fun vs H1 => ∃ v, vs = [v] ∧ tH X.K Z (RW X.K) (RW X.K) (sortLM i P (X.env.qual ++ "<lambda>") fb) v H1 Q) I ?_) (fun us s1 z => ?_) fun _ _ z => z) heb hpl hall hnone
  · exact h1.mono fun v H1 q => ⟨v, rfl, tH.map (RA' := RW X.K) (m := sortLM i P (X.env.qual ++ "<lambda>") fb) (f := Prod.snd) (g := Prod.snd) q fun _ _ _ _ _ z => z.2⟩
  · obtain ⟨vs, H1, I1, rv, v, rfl, w, S, ρ, R, rw, g⟩ := z
    obtain ⟨u, rfl, ru⟩ := rv.one
    rw [hks]
    show wpAny _ _ (evalAll ((do let v ← eval (.Lambda params body scope lpos) X.env; standAt pos; pure v) :: [])) _ _ s1
    unfold sortLM at g
    split at g
    case h_2 => exact g.elim
    rename_i P' q' hi
    split at g
    case isFalse => exact g.elim
    rename_i hPq
    obtain ⟨rfl, rfl⟩ := hPq
    obtain ⟨a0, hob, k1, k2, k3, k4⟩ := R.ob i _ hi rfl
    subst k3
    refine wpAny_evalAll_cons (wpAny_bind (lam_eval (vs := []) (L := Live S ρ) I1 TB hcode ⟨hob, k2, k4⟩ (fun b l => R.tracked l) (fun y hy e => ?_) (.inl ⟨rfl, hdf⟩) fun f c' H2 s2 made => wpAny_bind (wpAny_standAt (wpAny_pure (wpAny_evalAll_nil ?_)))))
    · rcases hfree y hy e with z | z
      · exact I1.ok.has _ (.inl z)
      · exact I1.ok.has _ (.inr z)
    · obtain ⟨I2, ext, ⟨o2, t1, t2⟩, La, hco⟩ := made
      obtain ⟨e1, R2⟩ := rel_tab R hi ext ⟨o2, t1, t2⟩
      obtain ⟨us2, dV, doc, pm, ctv, rv2, ob, hd, _⟩ := La.ob
      cases rv2
      have hd : dV = .none := hd
      subst hd
      have rw2 : RW X.K ρ H2 (Live S ρ) w v := rw.ext e1
      have nloc : f ≠ X.env.locals := fun z => by
        obtain ⟨m, ⟨o, es, ep, q1, q2, _⟩, _⟩ := I2.loc
        rw [← z, ob] at q1
        cases q1
        cases q2
      have I3 : Inv X ((f, PySem.W.kdv_obj "<lambda>" (X.env.qual ++ "<lambda>") params (.expr body) scope (cloFrom X.env.cells scope.names []) .none doc pm c' ctv) :: pins) σ H2 s2 := I2.pins_of fun p hp => by
        rcases List.mem_cons.mp hp with rfl | hp
        · exact ⟨ob, La.fn, nloc, out_fs I2 La.nf, fun v z => by cases z⟩
        · exact I2.pin p (List.mem_append_right _ hp)
      obtain ⟨ds, ks, ed, _, _⟩ := sortKM_list g
      obtain ⟨l, ys, ex, _, _⟩ := (toD_items R2 rw2).1 ds ed
      subst ex
      obtain rfl : u = Value.ref l := ru
      refine wpAny_mono (sort_run (Z := Z) (G := keyL fb) (Q := Q) I3 R2 rw2 (room2 hr) (fun y u d kk rp ru hk pins' s' H3 hp J ext3 => ?_) (gives_imp g (fun w3 S3 z ρ3 H3 v3 e3 R3 r3 => z ρ3 H3 v3 (e1.trans e3) R3 r3) fun x S3 z ρ3 H3 e3 R3 => z ρ3 H3 (e1.trans e3) R3)) (fun u' s' z => ?_) fun _ _ z => z
      · exact turn_lam (q := X.env.qual ++ "<lambda>") Sc hfree hbind hr hbody (J.pin _ (List.mem_append_right _ (hp _ (.head _)))).1 (ext3 _ _ hco) R2 rp ru hk J ext3
      · obtain ⟨v', H', J, r, q⟩ := z
        exact ⟨v', H', J.pins_of fun p hp => J.pin p (List.mem_append_right _ (.tail _ hp)), r, q⟩
end
end DL
/-! DL35: defs that see the tables of code objects alone of the store; defaults; calls that are never reached. -/
namespace DL
open PySem PySem.Spec PyProof.Rows L2 LamX NdefX

/-! ### the first places of the store: tables -/
def tabsSame : Nat → Sto → Sto → Bool
  | 0, _, _ => true
  | n + 1, .tab _ q :: S, .tab _ q' :: S' => (q == q') && tabsSame n S S'
  | _ + 1, _, _ => false
theorem tabsSame_at : ∀ {n : Nat} {S S' : Sto}, tabsSame n S S' = true → ∀ i, i < n → ∃ P P' q, S[i]? = some (.tab P q) ∧ S'[i]? = some (.tab P' q)
  | 0, _, _, _, i, h => by omega
  | n + 1, S, S', h, i, hi => by
    unfold tabsSame at h
    split at h
    case h_1 hz => cases hz
    case h_2 =>
      rename_i hz
      cases hz
      simp only [Bool.and_eq_true, beq_iff_eq] at h
      obtain ⟨rfl, h⟩ := h
      match i with
      | 0 => exact ⟨_, _, _, rfl, rfl⟩
      | i + 1 =>
        obtain ⟨P, P', q, h1, h2⟩ := tabsSame_at h i (by omega)
        exact ⟨P, P', q, by simpa using h1, by simpa using h2⟩
    case h_3 => cases h
def plT (T : Nat) (S : Sto) (ρ : Pl) : Pl := ⟨ρ.adr.take T, fun a => Live S ρ a ∧ ¬ Liv (S.take T) ⟨ρ.adr.take T, fun _ => False⟩ a⟩
section
variable {K : PySem.W.Frag} {T : Nat} {S S' : Sto} {ρ ρ' : Pl} {H H' : Hp}
theorem take_at {α : Type} {xs : List α} {n : Nat} {x : α} (h : (xs.take T)[n]? = some x) : n < T ∧ xs[n]? = some x := by
  rw [List.getElem?_take] at h
  split at h
  · exact ⟨‹_›, h⟩
  · cases h
theorem at_take {α : Type} {xs : List α} {n : Nat} {x : α} (hn : n < T) (h : xs[n]? = some x) : (xs.take T)[n]? = some x := by
  rw [List.getElem?_take, if_pos hn]; exact h
theorem liv_take {g : Addr → Prop} {a : Addr} (h : Liv (S.take T) ⟨ρ.adr.take T, g⟩ a) : ∃ n, n < T ∧ ∃ o, S[n]? = some o ∧ o.live = true ∧ ρ.adr[n]? = some a := by
  obtain ⟨n, o, h1, h2, h3⟩ := h
  exact ⟨n, (take_at h1).1, o, (take_at h1).2, h2, (take_at h3).2⟩
theorem liv_takeL {g : Addr → Prop} {a : Addr} (h : Liv (S.take T) ⟨ρ.adr.take T, g⟩ a) : Liv S ρ a := by
  obtain ⟨n, _, o, h1, h2, h3⟩ := liv_take h
  exact ⟨n, o, h1, h2, h3⟩
theorem live_take : Live (S.take T) (plT T S ρ) = Live S ρ := by
  funext a
  refine propext ⟨fun q => ?_, fun q => ?_⟩
  · rcases q with q | q
    · exact .inl (liv_takeL q)
    · exact q.1
  · by_cases z : Liv (S.take T) (plT T S ρ) a
    · exact .inl z
    · exact .inr ⟨q, z⟩
theorem rel_take (R : Rel K S ρ H) (hT : ∀ i, i < T → ∃ P q, S[i]? = some (.tab P q)) : Rel K (S.take T) (plT T S ρ) H := by
  refine ⟨by simp [plT, R.len], fun a q => R.tracked q.1, fun a q z => q.2 z, fun n o h1 h2 => ?_, fun n m a o u h1 h2 h3 h4 h5 h6 => ?_⟩
  · obtain ⟨hn, h1⟩ := take_at h1
    obtain ⟨a, ho, k1, k2, k3⟩ := R.ob n o h1 h2
    obtain ⟨P, q, e⟩ := hT n hn
    rw [h1] at e
    cases e
    exact ⟨a, ho, at_take hn k1, k2, by rw [live_take]; exact k3⟩
  · exact R.inj n m a o u (take_at h1).2 h2 (take_at h3).2 h4 (take_at h5).2 (take_at h6).2
theorem take_up (R : Rel K S ρ H) (hs : tabsSame T S S' = true) (e : Ext (S.take T) (plT T S ρ) H S' ρ' H') (r : Rel K S' ρ' H') : Ext S ρ H S ρ H' ∧ Rel K S ρ H' ∧ ∀ a, Live S ρ a → Live S' ρ' a := by
  have at_ := tabsSame_at hs
  have sub : ∀ a, Live S ρ a → Live S' ρ' a := fun a q => by
    rw [← live_take (T := T)] at q
    rcases q with q | q
    · obtain ⟨n, hn, o, h1, h2, h3⟩ := liv_take q
      obtain ⟨P, P', qq, z1, z2⟩ := at_ n hn
      exact .inl ⟨n, _, z2, rfl, e.pre n a (at_take hn h3)⟩
    · exact .inr (by rw [e.grd]; exact q)
  have e2 : Ext S ρ H S ρ H' := ⟨fun _ _ q => q, fun a o q l => e.stab a o q fun z => l (liv_takeL z), fun _ q => .inl q, rfl, fun a o u q => e.fz a o u q⟩
  refine ⟨e2, ⟨R.len, fun a q => ?_, R.dj, fun n o h1 h2 => ?_, R.inj⟩, sub⟩
  · obtain ⟨o, h⟩ := R.gt a q
    exact ⟨o, e2.stab a o h (R.dj a q)⟩
  · obtain ⟨a, ho, k1, k2, k3⟩ := R.ob n o h1 h2
    by_cases hn : n < T
    · obtain ⟨P, P', qq, z1, z2⟩ := at_ n hn
      rw [h1] at z1
      cases z1
      obtain ⟨a2, ho2, m1, m2, m3, m4⟩ := r.ob n _ z2 rfl
      have : ρ'.adr[n]? = some a := e.pre n a (at_take hn k1)
      rw [this] at m1
      cases m1
      exact ⟨a, ho2, k1, m2, k3.1, RT.ext m4 (fun _ _ q _ => q) fun b l => .inl (sub b l)⟩
    · have l : ¬ Liv (S.take T) (plT T S ρ) a := fun z => by
        obtain ⟨m, hm, u, h3, h4, h5⟩ := liv_take z
        have := R.inj n m a o u h1 h2 h3 h4 k1 h5
        omega
      exact ⟨a, ho, k1, e.stab a ho k2 l, k3.ext e2⟩
end
/-- of the store a def sees the tables alone; of what it makes there nothing is left -/
def pureT (T : Nat) (F : List W → M W) : List W → M W := fun ws S => match allD ws with
  | some _ => (match F ws (S.take T) with
    | .ok (.d x) S' => if tabsSame T S S' = true then .ok (.d x) S else .no
    | .ex x S' => if tabsSame T S S' = true then .ex x S else .no
    | _ => .no)
  | none => .no
section
variable {K : PySem.W.Frag} {T : Nat} {F : List W → M W} {vs : List V} {H : Hp} {Q : VK} {E : XK}
theorem same_left {S S' : Sto} (h : tabsSame T S S' = true) : ∀ i, i < T → ∃ P q, S[i]? = some (.tab P q) := fun i hi => by
  obtain ⟨P, _, q, z, _⟩ := tabsSame_at h i hi
  exact ⟨P, q, z⟩
theorem sp_pureT (h : spF K (ZE K) (pureT T F) vs H Q E) : spF K (ZE K) F vs H Q E := by
  obtain ⟨ws, S, ρ, R, rw, g⟩ := h
  unfold pureT at g
  split at g
  · rename_i ds ed
    split at g
    · rename_i x S' e
      split at g
      · rename_i hs
        refine ⟨ws, S.take T, plT T S ρ, rel_take R (same_left hs), by rw [live_take]; exact RWs_plain ed rw, ?_⟩
        rw [e]
        intro ρ' H' v ex r' rv
        obtain ⟨e2, r2, sub⟩ := take_up R hs ex r'
        have rv : Rp K H' (Live S' ρ') v x := rv
        exact g ρ H' v e2 r2 (Rp.ext (fun _ _ q _ => q) (fun a q => .inl (sub a q)) x v rv)
      · exact g.elim
    · rename_i x S' e
      split at g
      · rename_i hs
        refine ⟨ws, S.take T, plT T S ρ, rel_take R (same_left hs), by rw [live_take]; exact RWs_plain ed rw, ?_⟩
        rw [e]
        intro ρ' H' ex r' cls d fl
        obtain ⟨e2, r2, sub⟩ := take_up R hs ex r'
        exact g ρ H' e2 r2 cls d (fl.less sub)
      · exact g.elim
    · exact g.elim
  · exact g.elim
theorem sp_pureT0 (h : spF K (fun _ => ZF) (pureT T F) vs H Q E) : spF K (fun _ => ZF) F vs H Q E := by
  obtain ⟨ws, S, ρ, R, rw, g⟩ := h
  unfold pureT at g
  split at g
  · rename_i ds ed
    split at g
    · rename_i x S' e
      split at g
      · rename_i hs
        refine ⟨ws, S.take T, plT T S ρ, rel_take R (same_left hs), by rw [live_take]; exact RWs_plain ed rw, ?_⟩
        rw [e]
        intro ρ' H' v ex r' rv
        obtain ⟨e2, r2, sub⟩ := take_up R hs ex r'
        have rv : Rp K H' (Live S' ρ') v x := rv
        exact g ρ H' v e2 r2 (Rp.ext (fun _ _ q _ => q) (fun a q => .inl (sub a q)) x v rv)
      · exact g.elim
    · rename_i x S' e
      split at g
      · rename_i hs
        refine ⟨ws, S.take T, plT T S ρ, rel_take R (same_left hs), by rw [live_take]; exact RWs_plain ed rw, ?_⟩
        rw [e]
        intro ρ' H' ex r'
        obtain ⟨e2, r2, sub⟩ := take_up R hs ex r'
        exact (g ρ H' e2 r2).elim
      · exact g.elim
    · exact g.elim
  · exact g.elim
variable {P : Program} {w : World} {mg : Str → Option Value} {base : Heap} {CX : CXT} {k : Nat} {f : Addr} {fd : FuncData} {ps : List Str}
theorem fn_pureT (h : FnG P w K mg base CX k f fd ps (spF K (fun _ => ZF) F)) : FnG P w K mg base CX k f fd ps (spF K (fun _ => ZF) (pureT T F)) := h.imp fun _ _ _ _ q => sp_pureT0 q
theorem fn_pureTX (h : FnG P w K mg base CX k f fd ps (spF K (ZE K) F)) : FnG P w K mg base CX k f fd ps (spF K (ZE K) (pureT T F)) := h.imp fun _ _ _ _ q => sp_pureT q
end
/-! ### defaults -/
/-- a def's parameters that are left out: their values -/
structure DflOk (K : PySem.W.Frag) (fd : FuncData) (ps : List Str) (dws : List W) : Prop where
  ex : ∃ (dvs : List V) (ds : List Value), L2.Binds K fd ps ds ∧ Vals dvs ds ∧ ∀ ρ H L, RWs K ρ H L dws dvs
/-- a def with defaults, under its name -/
structure DefD (K : PySem.W.Frag) (mg : Str → Option Value) (x : Str) (st : Stmt) (ps : List Str) (f : Addr) (fd : FuncData) : Prop where
  fn : FunA K x x st f fd
  kp : PySem.W.keepIn K (.ref f) = true
  mg : mg x = some (.ref f)
  bd : L2.Binds K fd ps []
section
variable {X : Cx} {Z : XZ} {pos : Pos} {a : Expr} {es : List Expr} {fr : Env → M (List W)} {x : Str} {p : Pos} {f : Addr} {fd : FuncData} {ps : List Str} {k : Nat} {F : List W → M W} {dws : List W}
/-- f(a, ..), the last parameters left out -/
theorem dcallF (FO : FnG X.prog X.w X.K X.mg X.base CX0 k f fd ps (spF X.K (fun _ => ZF) F)) (hr : Room k X.A) (hG : X.A.guards = some []) (hg : Gl X x) (hm : X.mg x = some (.ref f)) (hk : PySem.W.keepIn X.K (.ref f) = true) (hb : DflOk X.K fd ps dws)
    (ha : PA X (a :: es) (tA X.K Z fr)) (hdb : (x == ("__debug__" : Str)) = false := by decide) (he : starEach (a :: es) X.env = (false, eval a X.env) :: starEach es X.env := by rfl) (hpl : (backTo pos (starEach es X.env)).any (·.1) = false := by rfl) :
    PE X (.Call (.Name x p) (a :: es) [] pos) (tE X.K Z (calM fr fun ws => noEx (F (ws ++ dws)))) := by
  obtain ⟨dvs, ds, h1, h2, h3⟩ := hb.ex
  refine (peG FO hr hG hg hm hk h1 h2 pass0 ha hdb he hpl).imp fun σ H Q h => ?_
  refine (tE.call h).mono fun vs H1 ⟨ws, S, ρ, R, rw, g⟩ => ?_
  exact ⟨ws ++ dws, S, ρ, R, Paired.app' rw (h3 _ _ _), noEx_gives (E' := fun _ _ => ∀ _ _, _ → _ → False) g⟩
/-- what is never reached -/
theorem dnever {e : Expr} : PE X e (tE X.K Z fun _ => no) := ⟨fun pins s σ H Q I h => by
  obtain ⟨_, _, _, _, _, g⟩ := h
  exact g.elim⟩
end
end DL
/-! DL36: the end of a law some of whose defs make lambdas: the tables of their code objects. -/
namespace DL
open PySem PySem.Spec PyProof.Rows L2 LamX NdefX

/-- a code object, its table, the name of what is made by it -/
structure Tb where
  c : Addr
  P : Addr
  q : Str
/-- the law's promise: a list of so many ints is handed in, the tables are empty, True comes out -/
def spTs (K : PySem.W.Frag) (Ts : List Tb) : Sp := fun vs H Q _ => ∃ (a : Addr) (ns : List Int), vs = [.ref a] ∧ QF K H (fun b => b ∈ Ts.map Tb.P) a (ns.map V.int) ∧ ns.length ≤ 63 ∧ (∀ t ∈ Ts, H t.P = some (.tbl #[])) ∧ ∀ H', Q (.bl true) H'
def stoT (Ts : List Tb) : Sto := Ts.map fun t => .tab t.P t.q
theorem spTs_of {K : PySem.W.Frag} {ZZ : XK → XZ} {Ts : List Tb} {F : List W → M W} (nd : (Ts.map Tb.P).Nodup) (h : ∀ ns : List Int, ns.length ≤ 63 → ∃ S, F [.s ns] (stoT Ts) = .ok (.d (.bool true)) S) : ∀ vs H Q E, spTs K Ts vs H Q E → spF K ZZ F vs H Q E := by
  rintro vs H Q E ⟨a, ns, rfl, qf, hl, hP, hq⟩
  obtain ⟨S, e⟩ := h ns hl
  have lv : ∀ b, Live (stoT Ts) ⟨Ts.map Tb.P, fun _ => False⟩ b → b ∈ Ts.map Tb.P := fun b z => by
    rcases z with ⟨n, o, z1, z2, z3⟩ | z
    · exact List.mem_of_getElem? z3
    · exact z.elim
  refine ⟨[.s ns], stoT Ts, ⟨Ts.map Tb.P, fun _ => False⟩, ⟨by simp [stoT], fun _ z => z.elim, fun _ z => z.elim, fun n o z1 z2 => ?_, fun n m b o u z1 z2 z3 z4 z5 z6 => ?_⟩, .cons ⟨a, rfl, qf.ext (fun _ _ z _ => z) fun b z => .inl (lv b z)⟩ .nil, ?_⟩
  · have z1 : (Ts.map fun t => Ob.tab t.P t.q)[n]? = some o := z1
    rw [List.getElem?_map, Option.map_eq_some_iff] at z1
    obtain ⟨t, ht, rfl⟩ := z1
    exact ⟨t.P, _, by show (Ts.map Tb.P)[n]? = _; rw [List.getElem?_map, ht]; rfl, hP t (List.mem_of_getElem? ht), rfl, #[], rfl, True.intro, fun pos cv hc => by simp [codeAmong] at hc⟩
  · exact (List.getElem?_inj (List.getElem?_eq_some_iff.mp z5).1 nd).mp (z5.trans z6.symm)
  · rw [e]
    intro ρ' H' v _ _ rv
    cases rv
    exact hq H'
section
variable {Pr : Program} {w : World} {K : PySem.W.Frag} {mg mb : Str → Option Value} {k : Nat} {fa a : Addr} {Ts : List Tb} {fd : FuncData} {x : Str} {s₁ : Shared} {vs : List Value} {ns : List Int}
/-- the call of the law behind the top, where H tracks its table, and the script at most besides -/
theorem end_fromTs {H : Hp} (KX : K.In s₁.heap) (hns : s₁.heap.Ns mainGlobals mg) (hb : s₁.heap.Ns builtinsNs mb) (hbb : ∀ x : Str, x ≠ "__name__" → mb x = bootBuiltins x) (hlim : s₁.heap.NoLimit) (hg : s₁.gens = #[])
    (hT : ∀ t ∈ Ts, s₁.heap.get? t.P = some { cls := .none, data := .fields #[] }) (nT : ∀ t ∈ Ts, K.lookup t.P = none) (C : ∀ t ∈ Ts, PySem.W.CodeHd s₁.heap t.c t.P)
    (hbm : ∃ (bm : Addr) (ob : Obj), mg "__builtins__" = some (.ref bm) ∧ bm ≠ builtinsNs ∧ s₁.heap.get? bm = some ob ∧ ob.cls = .type "module" ∧ ob.dict = some builtinsNs ∧ ob.data = .plain)
    (ha : s₁.heap.get? a = some { cls := .type "list", data := .seq vs.toArray }) (hl : ns.length ≤ 63) (hr : Room k callerA)
    (F : ∀ base : Heap, K.In base → base.Ns mainGlobals mg → (∀ t ∈ Ts, TabB base mg t.c t.P) → FnG Pr w K mg base CX0 k fa fd [x] (spTs K Ts)) (hbind : ∀ (s : Shared) (u : Value), BindsTo s fd ⟨[u], []⟩ [(x, u)])
    (hS : QF K H (fun b => b ∈ Ts.map Tb.P) a (ns.map V.int)) (hok : HOk Pr w H s₁.heap) (hP : ∀ t ∈ Ts, H t.P = some (.tbl #[])) (hO : ∀ b u, H b = some u → (b = a ∧ (∃ o xs, u = .frz o (.lst xs)) ∧ K.lookup a = none) ∨ ∃ t ∈ Ts, b = t.P) :
    codeAny (model Pr w) callerA (.call (.ref fa) ⟨[.ref a], []⟩) (fun r s' => r = .ok (.ret (.bool true)) ∧ OldK s₁.heap s'.heap ∧ s'.os = s₁.os ∧ AllBare s'.gens) s₁ := by
  have stands : ∀ {b : Addr} {o : Obj}, s₁.heap.get? b = some o → H b = none → (hidT s₁.heap H).get? b = some o := fun e n => hidT_get e n
  have untracked : ∀ {b : Addr} {o : Obj}, s₁.heap.get? b = some o → (∀ us n, o.data ≠ .seq us n) → o.data ≠ .fields #[] → H b = none := fun {b o} e n1 n2 => by
    cases q : H b with
    | none => rfl
    | some u =>
      rcases hO b u q with ⟨rfl, _⟩ | ⟨t, ht, rfl⟩
      · rw [ha] at e; cases e; exact (n1 _ _ rfl).elim
      · rw [hT t ht] at e; cases e; exact (n2 rfl).elim
  have isDict : ∀ {b : Addr} {m : Str → Option Value}, s₁.heap.Ns b m → (hidT s₁.heap H).Ns b m := fun {b m} z => by
    obtain ⟨o, es, ep, e, d, r⟩ := z
    exact ⟨o, es, ep, stands e (untracked e (fun _ _ z => by rw [d] at z; cases z) fun z => by rw [d] at z; cases z), d, r⟩
  have KB : K.In (hidT s₁.heap H) := fun b o e => stands (KX b o e) (by
    cases q : H b with
    | none => rfl
    | some u =>
      rcases hO b u q with ⟨rfl, _, z⟩ | ⟨t, ht, rfl⟩
      · rw [z] at e; cases e
      · rw [nT t ht] at e; cases e)
  have NB := isDict hns
  obtain ⟨mc, l1, l2⟩ := hlim
  have MB : Mod K mg (hidT s₁.heap H) := ⟨KB, NB, ⟨mb, isDict hb, hbb⟩, ⟨mc, isDict l1, l2⟩⟩
  have TB : ∀ t ∈ Ts, TabB (hidT s₁.heap H) mg t.c t.P := fun t ht => by
    have gP : mainGlobals ≠ t.P := fun z => by
      obtain ⟨o, es, ep, e, d, _⟩ := hns
      rw [z, hT t ht] at e; cases e; cases d
    obtain ⟨o, us, file, tf, flags, tg, inF, text, tt, e1, r1, r2, r3, rr⟩ := C t ht
    obtain ⟨bm, ob, b1, b2, b3, b4, b5, b6⟩ := hbm
    refine ⟨⟨o, us, file, tf, flags, tg, inF, text, tt, stands e1 (untracked e1 (fun _ _ z => by rw [r2] at z; cases z) fun z => ?_), r1, r2, r3, rr⟩, ⟨bm, ob, b1, b2, fun z => ?_, fun z => ?_, stands b3 (untracked b3 (fun _ _ z => by rw [b6] at z; cases z) fun z => by rw [b6] at z; cases z), b4, b5, b6⟩, gP⟩
    · rw [r2] at z; cases z; simp at r3
    · obtain ⟨o', es, ep, e, d, _⟩ := hns
      rw [z, e] at b3; cases b3; rw [d] at b6; cases b6
    · rw [z, hT t ht] at b3; cases b3; cases b6
  have E : Env0 Pr w K mg (hidT s₁.heap H) callerA [] s₁ H := ⟨rfl, MB, fun b o e => of_hidT e, Nat.le_of_eq (hidT_size _ _), trivial, fun b z => by simp [frs] at z, hok, .of_eq hg⟩
  have R := (F _ KB NB TB).run callerA [] s₁ H ⟨[.ref a], []⟩ [.ref a] [.ref a] (fun v _ => v = .bl true) E0 hr rfl E (hbind s₁ (.ref a)) (.cons rfl .nil) ⟨a, ns, rfl, hS, hl, hP, fun _ => rfl⟩
  refine codeAny_mono R fun r s' h => ?_
  cases r with
  | error e => exact h.elim
  | ok fl =>
    cases fl with
    | ret u =>
      obtain ⟨v, H', os, bare, un, hok', rv, q⟩ := h
      have q' : v = .bl true := q
      subst q'
      cases (show u = Value.bool true from rv)
      have other : ∀ b o, (∀ t ∈ Ts, b ≠ t.P) → s₁.heap.get? b = some o → s'.heap.get? b = some o := fun b o nb e => by
        cases q : H b with
        | none => exact un.keep b o e q (by simp [frs]) (by simp)
        | some u =>
          rcases hO b u q with ⟨_, ⟨ob, xs, rfl⟩, _⟩ | ⟨t, ht, z⟩
          · have before := (hok b _ q).1
            have after := (hok' b _ (un.frzs b ob _ q)).1
            rw [e] at before; cases before
            exact after
          · exact (nb t ht z).elim
      have grown : ∀ t ∈ Ts, ∃ more, s'.heap.get? t.P = some { cls := .none, data := .fields (#[] ++ more) } := fun t ht => by
        obtain ⟨more, hm⟩ := un.tbls t.P #[] (hP t ht)
        exact ⟨more, hok' t.P _ hm⟩
      refine ⟨rfl, ⟨fun b o e => ?_, fun b o e => ?_⟩, os, bare⟩
      · by_cases hb : ∃ t ∈ Ts, b = t.P
        · obtain ⟨t, ht, rfl⟩ := hb
          obtain ⟨more, hm⟩ := grown t ht
          rw [hT t ht] at e
          cases e
          exact .inr (.inl ⟨((C t ht).tab (hT t ht)).isCodeTable, rfl, #[], more, rfl, hm⟩)
        · exact .inl (other b o (fun t ht z => hb ⟨t, ht, z⟩) e)
      · by_cases hb : ∃ t ∈ Ts, b = t.P
        · obtain ⟨t, ht, rfl⟩ := hb
          obtain ⟨more, hm⟩ := grown t ht
          exact ⟨_, hm⟩
        · exact ⟨o, other b o (fun t ht z => hb ⟨t, ht, z⟩) e⟩
    | next => exact h.elim
    | brk => exact h.elim
    | cont => exact h.elim
theorem end_callTs (KX : K.In s₁.heap) (hns : s₁.heap.Ns mainGlobals mg) (hb : s₁.heap.Ns builtinsNs mb) (hbb : ∀ x : Str, x ≠ "__name__" → mb x = bootBuiltins x) (hlim : s₁.heap.NoLimit) (hg : s₁.gens = #[])
    (hT : ∀ t ∈ Ts, s₁.heap.get? t.P = some { cls := .none, data := .fields #[] }) (nT : ∀ t ∈ Ts, K.lookup t.P = none) (C : ∀ t ∈ Ts, PySem.W.CodeHd s₁.heap t.c t.P)
    (hbm : ∃ (bm : Addr) (ob : Obj), mg "__builtins__" = some (.ref bm) ∧ bm ≠ builtinsNs ∧ s₁.heap.get? bm = some ob ∧ ob.cls = .type "module" ∧ ob.dict = some builtinsNs ∧ ob.data = .plain)
    (ha : s₁.heap.get? a = some { cls := .type "list", data := .seq vs.toArray }) (hi : IntsAre vs ns) (hl : ns.length ≤ 63) (hr : Room k callerA)
    (F : ∀ base : Heap, K.In base → base.Ns mainGlobals mg → (∀ t ∈ Ts, TabB base mg t.c t.P) → FnG Pr w K mg base CX0 k fa fd [x] (spTs K Ts)) (hbind : ∀ (s : Shared) (u : Value), BindsTo s fd ⟨[u], []⟩ [(x, u)]) :
    codeAny (model Pr w) callerA (.call (.ref fa) ⟨[.ref a], []⟩) (fun r s' => r = .ok (.ret (.bool true)) ∧ OldK s₁.heap s'.heap ∧ s'.os = s₁.os ∧ AllBare s'.gens) s₁ := by
  have rv := vals_ints hi
  have many : ns.length = vs.length := by
    have := rv.length
    simpa using this
  have small : vs.length ≤ sizeLine := by
    have : (63 : Nat) ≤ sizeLine := by decide
    omega
  have aP : a ∉ Ts.map Tb.P := fun z => by
    obtain ⟨t, ht, e⟩ := List.mem_map.mp z
    have q := hT t ht
    rw [e, ha] at q
    cases (Option.some.inj q)
  have mem : ∀ {b : Addr}, b ∈ Ts.map Tb.P ↔ ∃ t ∈ Ts, b = t.P := fun {b} => by
    rw [List.mem_map]
    exact ⟨fun ⟨t, h, e⟩ => ⟨t, h, e.symm⟩, fun ⟨t, h, e⟩ => ⟨t, h, e.symm⟩⟩
  have isT : ∀ t ∈ Ts, t.P ∈ Ts.map Tb.P := fun t ht => List.mem_map.mpr ⟨t, ht, rfl⟩
  cases hk : K.lookup a with
  | some o =>
    have e := KX a o hk
    rw [ha] at e
    cases e
    refine end_fromTs (Ts := Ts) (H := fun b => if b ∈ Ts.map Tb.P then some (.tbl #[]) else none) KX hns hb hbb hlim hg hT nT C hbm ha hl hr F hbind (.inr ⟨_, vs.toArray, _, hk, rfl, rfl, rfl, by simpa using small, by simpa using rv⟩) (fun b u z => ?_) (fun t ht => if_pos (isT t ht)) fun b u z => .inr ?_
    · by_cases q : b ∈ Ts.map Tb.P
      · have z := (if_pos q).symm.trans z
        cases z
        obtain ⟨t, ht, rfl⟩ := mem.mp q
        exact hT t ht
      · have z := (if_neg q).symm.trans z
        cases z
    · by_cases q : b ∈ Ts.map Tb.P
      · exact mem.mp q
      · have z := (if_neg q).symm.trans z
        cases z
  | none =>
    refine end_fromTs (Ts := Ts) (H := upd (fun b => if b ∈ Ts.map Tb.P then some (.tbl #[]) else none) a (.frz { cls := .type "list", data := .seq vs.toArray } (.lst (ns.map V.int)))) KX hns hb hbb hlim hg hT nT C hbm ha hl hr F hbind
      (.inl ⟨.inr ⟨_, upd_same⟩, aP⟩) (fun b u z => ?_) (fun t ht => ?_) fun b u z => ?_
    · by_cases e : b = a
      · subst e
        rw [upd_same] at z
        cases z
        exact ⟨ha, by rw [List.length_map]; omega, vs, _, rv, ha⟩
      · rw [upd_ne e] at z
        by_cases q : b ∈ Ts.map Tb.P
        · have z := (if_pos q).symm.trans z
          cases z
          obtain ⟨t, ht, rfl⟩ := mem.mp q
          exact hT t ht
        · have z := (if_neg q).symm.trans z
          cases z
    · rw [upd_ne (fun z => aP (by rw [← z]; exact isT t ht))]
      exact if_pos (isT t ht)
    · by_cases e : b = a
      · subst e
        rw [upd_same] at z
        cases z
        exact .inl ⟨rfl, ⟨_, _, rfl⟩, hk⟩
      · rw [upd_ne e] at z
        by_cases q : b ∈ Ts.map Tb.P
        · exact .inr (mem.mp q)
        · have z := (if_neg q).symm.trans z
          cases z
end
/-- the goal that the head leaves, from the promise of the law's def, whose code object's table is known -/
theorem end_ofTs {l : PySem.W.OpenLaw} {k : Nat} {q : Program} {loose : List Str} {XP : (Str → Option Value) → Heap → Prop} {YP : World → Heap → Prop} {d : DefRec} {K : Params → PySem.W.Frag}
    (hn : l.most = some 63) (hdf : d.params.defaults = []) (hr : Room k callerA) (hY : ∀ (w : World) (h : Heap), YP w h → (K w.params).In h)
    (F : ∀ (w : World) (mg : Str → Option Value) (fa : Addr) (h : Heap), YP w h → (K w.params).In h → h.Ns mainGlobals mg → mg d.name = some (.ref fa) →
      ∃ (fd : FuncData) (Ts : List Tb), (∀ t ∈ Ts, h.get? t.P = some { cls := .none, data := .fields #[] }) ∧ (∀ t ∈ Ts, (K w.params).lookup t.P = none) ∧ (∀ t ∈ Ts, PySem.W.CodeHd h t.c t.P) ∧ (∀ (s : Shared) (u : Value), BindsTo s fd ⟨[u], []⟩ [("script", u)]) ∧
        ∀ base : Heap, (K w.params).In base → base.Ns mainGlobals mg → (∀ t ∈ Ts, TabB base mg t.c t.P) → FnG l.prog w (K w.params) mg base CX0 k fa fd ["script"] (spTs (K w.params) Ts)) :
    PySem.W.WalkO q loose XP YP l.row.toRowW d [] (fun f vs => PySem.call f vs) := by
  refine Att.attach_call hn hdf fun w s₀ s₁ mg mb fa o pm cd doc a vs ns G Y ho hd hcd hmg hobj hints hlen hg => ?_
  have KX := hY w _ Y
  obtain ⟨fd, Ts, hT, nT, C, hb, hF⟩ := F w mg fa _ Y KX G.T.g hmg
  exact end_callTs KX G.T.g G.T.b G.T.builtins G.T.nolimit hg hT nT C G.T.bmain hobj hints hlen hr hF hb
end DL
/-! DL37: what may change is walked: lists of the store, item by item as they stand; dicts of the store, frozen meanwhile. Dicts read. -/
namespace DL
open PySem PySem.Spec PyProof.Rows L2

/-! ### walks over what stands in the store -/
/-- at a turn: nothing is known, the end, or an item -/
abbrev Wk := Nat → Sto → Option (Option W)
def WalksG (K : PySem.W.Frag) (J : It) (wk : Wk) (S : Sto) (ρ : Pl) (H : Hp) : Prop :=
  ∀ (i : Nat) (S' : Sto) (ρ' : Pl) (H' : Hp), Ext0 S ρ H S' ρ' H' → Rel K S' ρ' H' →
    (∀ w, wk i S' = some (some w) → J.go i H' ∧ ∀ (x : V) (H2 : Hp), J.yld i H' x H2 → Ext S' ρ' H' S' ρ' H2 ∧ Rel K S' ρ' H2 ∧ RW K ρ' H2 (Live S' ρ') w x) ∧ (wk i S' = some none → J.stop i H')
def tIG (K : PySem.W.Frag) (Z : XZ) (f : Env → M Wk) : TI := fun σ H R => ∃ (δ : Env) (S : Sto) (ρ : Pl), Rel K S ρ H ∧ REnv K ρ H (Live S ρ) δ σ ∧
  Gives (f δ S) (fun wk S' => ∀ (ρ' : Pl) (H' : Hp) (J : It), Ext S ρ H S' ρ' H' → Rel K S' ρ' H' → WalksG K J wk S' ρ' H' → R J H') (fun x S' => ∀ (ρ' : Pl) (H' : Hp), Ext S ρ H S' ρ' H' → Rel K S' ρ' H' → Z x S' ρ' H')
/-- for, n turns at most -/
def forW (wk : Wk) (g : W → Env → M Env) (b : Env → M Fl) : Nat → Nat → Env → M Fl
  | 0, _, _ => no
  | f + 1, i, δ => fun S => match wk i S with
    | some (some w) => bd (g w δ) (fun δ1 => bd (b δ1) fun fl => match fl with
      | .nx δ2 => forW wk g b f (i + 1) δ2
      | .ct δ2 => forW wk g b f (i + 1) δ2
      | .bk δ2 => pr (.nx δ2)
      | .rt w => pr (.rt w)) S
    | some none => .ok (.nx δ) S
    | none => .no
abbrev forWM (n : Nat) (fi : Env → M Wk) (g : W → Env → M Env) (b : Env → M Fl) : Env → M Fl := fun δ => bd (fi δ) fun wk => forW wk g b n 0 δ
section
variable {X : Cx} {Z : XZ} {pos : Pos}
theorem ds_forW {tg iter : Expr} {body : List Stmt} {fi : Env → M Wk} {g : W → Env → M Env} {b : Env → M Fl} (n : Nat) (hp : PassesOwn (model X.prog X.w) X.A X.env X.xe) (hc : X.calm = true) (hi : PI X tg iter (tIG X.K Z fi)) (hg : PG X tg (tG X.K Z g)) (hb : PSs X body (tS X.K Z b))
    (hs : ∀ x, foldedSetIterable iter X.env x = pure x := by intro _; rfl) : PS X (.For tg iter body [] pos) (tS X.K Z (forWM n fi g b)) := by
  refine (ps_for hp hc hi hg hb hs).imp fun D σ H h => ?_
  obtain ⟨δ, S, ρ, r, re, gv⟩ := h
  refine ⟨δ, S, ρ, r, re, gives_imp (gives_bd gv) (fun wk S1 q ρ1 H1 J e1 r1 wl => ?_) fun _ _ q => q⟩
  have q : SGives X.K Z D S1 ρ1 H1 (forW wk g b n 0 δ S1) := SGives.ext e1 q
  refine ⟨fun i m σ' H' => ∃ (δ' : Env) (S' : Sto) (ρ' : Pl), Ext S1 ρ1 H1 S' ρ' H' ∧ Rel X.K S' ρ' H' ∧ REnv X.K ρ' H' (Live S' ρ') δ' σ' ∧ SGives X.K Z D S' ρ' H' (forW wk g b m i δ' S'),
    ⟨n, δ, S1, ρ1, Ext.refl, r1, Stb.env _ _ _ _ _ _ _ _ re e1, q⟩, ?_⟩
  rintro i m σ' H' ⟨δ', S', ρ', e', r', re', q'⟩
  cases m with
  | zero => exact q'.elim
  | succ m =>
    unfold forW at q'
    have wl' := wl i S' ρ' H' e'.to0 r'
    split at q'
    · rename_i w ew
      right
      obtain ⟨hgo, hy⟩ := wl'.1 w ew
      refine ⟨hgo, fun σ2 H2 => ∃ m', m' < m + 1 ∧ ∃ (δ2 : Env) (S2 : Sto) (ρ2 : Pl), Ext S1 ρ1 H1 S2 ρ2 H2 ∧ Rel X.K S2 ρ2 H2 ∧ REnv X.K ρ2 H2 (Live S2 ρ2) δ2 σ2 ∧ SGives X.K Z D S2 ρ2 H2 (forW wk g b m' (i + 1) δ2 S2), fun _ _ z => z, fun x H2 hx => ?_⟩
      obtain ⟨e2, r2, rw2⟩ := hy x H2 hx
      refine ⟨(w, δ'), S', ρ', r2, ⟨rw2, Stb.env _ _ _ _ _ _ _ _ re' e2⟩, gives_imp (gives_bd (SGives.ext e2 q')) (fun δ1 S3 q3 ρ3 H3 σ3 e3 r3 re3 => ?_) fun _ _ q => q⟩
      refine ⟨δ1, S3, ρ3, r3, re3, gives_imp (gives_bd q3) (fun fl S4 q4 ρ4 H4 e4 r4 => ?_) fun _ _ q ρ4 H4 e4 r4 => q ρ4 H4 (e3.trans e4) r4⟩
      have E4 := (e'.trans e2).trans (e3.trans e4)
      cases fl with
      | nx δ2 => exact fun σ4 re4 => ⟨m, by omega, δ2, S4, ρ4, E4, r4, re4, SGives.ext (e3.trans e4) q4⟩
      | ct δ2 => exact fun σ4 re4 => ⟨m, by omega, δ2, S4, ρ4, E4, r4, re4, SGives.ext (e3.trans e4) q4⟩
      | bk δ2 => exact fun σ4 re4 => q4 ρ4 H4 (e3.trans e4) r4 σ4 re4
      | rt w => exact fun v rv => q4 ρ4 H4 (e3.trans e4) r4 v rv
    · rename_i ew
      left
      exact ⟨wl'.2 ew, q' ρ' H' Ext.refl r' σ' re'⟩
    · exact q'.elim
end
/-- a comprehension's items, n turns at most -/
def compW (own : List Nat) (wk : Wk) (g : W → Env → M Env) (t : Env → M Bool) (e : Env → M W) : Nat → Nat → Env → M (List W)
  | 0, _, _ => no
  | f + 1, i, δ => fun S => match wk i S with
    | some (some w) => bd (noEx (g w (wipeE δ own))) (fun δ1 => bd (noEx (t δ1)) fun k => if k = true then bd (noEx (e δ1)) fun y => bd (compW own wk g t e f (i + 1) δ) fun ys => pr (y :: ys) else compW own wk g t e f (i + 1) δ) S
    | some none => .ok [] S
    | none => .no
theorem compW_noex {own : List Nat} {wk : Wk} {g : W → Env → M Env} {t : Env → M Bool} {e : Env → M W} : ∀ (f i : Nat) (δ : Env) (S : Sto) (x : Ex) (S' : Sto), compW own wk g t e f i δ S ≠ .ex x S'
  | 0, _, _, _, _, _ => by intro z; cases z
  | f + 1, i, δ, S, x, S' => by
    unfold compW
    split
    · refine bd_noEx (fun δ1 S1 _ => bd_noEx fun k S2 _ => ?_) x S'
      cases k with
      | true =>
        show ∀ (x : Ex) (S3 : Sto), bd (noEx (e δ1)) (fun y => bd (compW own wk g t e f (i + 1) δ) fun ys => pr (y :: ys)) S2 ≠ .ex x S3
        refine bd_noEx fun y S3 _ x S4 => ?_
        unfold bd
        cases q : compW own wk g t e f (i + 1) δ S3 with
        | ok ys S5 => intro z; cases z
        | ex x' S5 => exact absurd q (compW_noex f (i + 1) δ S3 x' S5)
        | no => intro z; cases z
      | false => exact fun x S3 => compW_noex f (i + 1) δ S2 x S3
    · intro z; cases z
    · intro z; cases z
/-- fin: what is done behind the last turn -/
abbrev lcWM (own : List Nat) (n : Nat) (fi : Env → M Wk) (g : W → Env → M Env) (t : Env → M Bool) (e : Env → M W) : Env → M W := fun δ => bd (fi δ) fun wk => bd (compW own wk g t e n 0 δ) lstM
theorem compW_small {own : List Nat} {wk : Wk} {g : W → Env → M Env} {t : Env → M Bool} {e : Env → M W} {f i : Nat} {δ : Env} {S : Sto} {acc : List W} {P : W → Sto → Prop} {E : Ex → Sto → Prop} (h : Gives (bd (compW own wk g t e f i δ) (fun ys => lstM (acc ++ ys)) S) P E) : acc.length ≤ sizeLine := by
  have h := gives_bd h
  cases q : compW own wk g t e f i δ S with
  | ok ys S5 =>
    rw [q] at h
    have := lstM_small h
    simp at this
    omega
  | ex x' S5 => exact absurd q (compW_noex f i δ S x' S5)
  | no => rw [q] at h; exact h.elim
section
variable {X : Cx} {Z : XZ} {pos : Pos}
theorem tLc_ofW {own : List (Str × Nat)} {n : Nat} {fi : Env → M Wk} {g : W → Env → M Env} {t : Env → M Bool} {e : Env → M W} {gc : TG} {σ : L2.St} {H : Hp} {Q : VK}
    (hgc : ∀ (v : V) (σ : L2.St) (H : Hp) (Q : L2.St → Hp → Prop), tG X.K ZF g v (wipe σ (own.map (·.2))) H Q → gc v (wipe σ (own.map (·.2))) H (fun σ2 H2 => wipe σ2 (own.map (·.2)) = wipe σ (own.map (·.2)) ∧ Q σ2 H2))
    (h : tE X.K Z (lcWM (own.map (·.2)) n fi g t e) σ H Q) : tLc (tIG X.K Z fi) gc (tT X.K ZF t) (tE X.K ZF e) (own.map (·.2)) σ H Q := by
  obtain ⟨δ, S, ρ, r, re, gv⟩ := h
  refine ⟨δ, S, ρ, r, re, gives_imp (gives_bd gv) (fun wk S1 q ρ1 H1 J e1 r1 wl => ?_) fun _ _ q => q⟩
  intro D hD
  have re1 := Stb.env _ _ _ _ _ _ _ _ re e1
  refine ⟨fun i m H' => ∃ (S' : Sto) (ρ' : Pl) (acc : List W) (vs : List V), Ext0 S1 ρ1 H1 S' ρ' H' ∧ ρ'.grd = (ρ1.guard D).grd ∧ Rel X.K S' ρ' H' ∧ H' D = some (.lst vs) ∧ RWs X.K ρ' H' (Live S' ρ') acc vs ∧
    Gives (bd (compW (own.map (·.2)) wk g t e m i δ) (fun ys => lstM (acc ++ ys)) S') (fun w S2 => ∀ (ρ2 : Pl) (H2 : Hp) (v : V), Ext S1 ρ1 H1 S2 ρ2 H2 → Rel X.K S2 ρ2 H2 → RW X.K ρ2 H2 (Live S2 ρ2) w v → Q v H2) (fun _ _ => True),
    ⟨n, S1, ρ1.guard D, [], [], Ext0.guard hD, rfl, r1.guard hD, upd_same, .nil, ?_⟩, ?_⟩
  · refine gives_imp (P := fun w S2 => ∀ (ρ2 : Pl) (H2 : Hp) (v : V), Ext S ρ H S2 ρ2 H2 → Rel X.K S2 ρ2 H2 → RW X.K ρ2 H2 (Live S2 ρ2) w v → Q v H2) (E := fun x S' => ∀ (ρ' : Pl) (H' : Hp), Ext S ρ H S' ρ' H' → Rel X.K S' ρ' H' → Z x S' ρ' H') ?_ (fun w S2 q2 ρ2 H2 v e2 r2 rw2 => q2 ρ2 H2 v (e1.trans e2) r2 rw2) fun _ _ _ => trivial
    exact q
  rintro i m H' ⟨S', ρ', acc, vs, e', hg', r', hv', rv', q'⟩
  have hgD : ρ'.grd D := by rw [hg']; exact .inr rfl
  cases m with
  | zero => exact (gives_bd q').elim
  | succ m =>
    have wl' := wl i S' ρ' H' e' r'
    have q0 := q'
    unfold compW at q0
    cases ew : wk i S' with
    | none =>
      have q0 := gives_bd q0
      simp only [ew] at q0
      exact q0.elim
    | some o =>
      cases o with
      | some w =>
        right
        obtain ⟨hgo, hy⟩ := wl'.1 w ew
        refine ⟨hgo, fun H2 => ∃ m', m' < m + 1 ∧ ∃ (S2 : Sto) (ρ2 : Pl) (acc : List W) (vs : List V), Ext0 S1 ρ1 H1 S2 ρ2 H2 ∧ ρ2.grd = (ρ1.guard D).grd ∧ Rel X.K S2 ρ2 H2 ∧ H2 D = some (.lst vs) ∧ RWs X.K ρ2 H2 (Live S2 ρ2) acc vs ∧
          Gives (bd (compW (own.map (·.2)) wk g t e m' (i + 1) δ) (fun ys => lstM (acc ++ ys)) S2) (fun w S2 => ∀ (ρ2 : Pl) (H2 : Hp) (v : V), Ext S1 ρ1 H1 S2 ρ2 H2 → Rel X.K S2 ρ2 H2 → RW X.K ρ2 H2 (Live S2 ρ2) w v → Q v H2) (fun _ _ => True), fun _ z => z, fun x H2 hx => ?_⟩
        obtain ⟨e2, r2, rw2⟩ := hy x H2 hx
        have E2 := e'.trans e2
        have q1 : Gives (bd (noEx (g w (wipeE δ (own.map (·.2))))) (fun δ1 => bd (bd (noEx (t δ1)) fun k => if k = true then bd (noEx (e δ1)) fun y => bd (compW (own.map (·.2)) wk g t e m (i + 1) δ) fun ys => pr (y :: ys) else compW (own.map (·.2)) wk g t e m (i + 1) δ) fun ys => lstM (acc ++ ys)) S') (fun w S2 => ∀ (ρ2 : Pl) (H2 : Hp) (v : V), Ext S1 ρ1 H1 S2 ρ2 H2 → Rel X.K S2 ρ2 H2 → RW X.K ρ2 H2 (Live S2 ρ2) w v → Q v H2) (fun _ _ => True) := by
          rw [← bd_assoc]
          unfold bd at q0 ⊢
          simp only [ew] at q0
          exact q0
        have re2 : REnv X.K ρ' H2 (Live S' ρ') (wipeE δ (own.map (·.2))) (wipe σ (own.map (·.2))) := REnv.wipe ⟨re1.1, fun i w h => let ⟨v, h1, h2⟩ := re1.2 i w h; ⟨v, h1, h2.ext0 E2⟩⟩ _
        refine hgc x σ H2 _ ⟨(w, wipeE δ (own.map (·.2))), S', ρ', r2, ⟨rw2, re2⟩, gives_imp (noEx_gives (E' := fun _ _ => False) (gives_bd q1)) (fun δ1 S3 q3 ρ3 H3 σ3 e3 r3 re3 => ?_) fun _ _ q => q.elim⟩
        rw [bd_assoc] at q3
        refine ⟨δ1, S3, ρ3, r3, re3, gives_imp (noEx_gives (E' := fun _ _ => False) (gives_bd q3)) (fun k S4 q4 ρ4 H4 v4 e4 r4 ek => ?_) fun _ _ q => q.elim⟩
        cases ek
        have E4 := E2.trans (e3.trans e4)
        have g4 : ρ4.grd = (ρ1.guard D).grd := ((e3.trans e4).grd).trans hg'
        have nD : ∀ {S ρ H}, Rel X.K S ρ H → ρ.grd D → ¬ Liv S ρ D := fun r g => r.dj D g
        have hv2 : H2 D = some (.lst vs) := e2.stab D _ hv' (nD r' hgD)
        have hv4 : H4 D = some (.lst vs) := (e3.trans e4).stab D _ hv2 (nD r2 hgD)
        have rv4 : RWs X.K ρ4 H4 (Live S4 ρ4) acc vs := (rv'.ext e2).ext (e3.trans e4)
        cases k with
        | true =>
          rw [if_pos rfl] at q4 ⊢
          rw [bd_assoc] at q4
          refine ⟨δ1, S4, ρ4, r4, Stb.env _ _ _ _ _ _ _ _ re3 e4, gives_imp (noEx_gives (E' := fun _ _ => False) (gives_bd q4)) (fun y S5 q5 ρ5 H5 v5 e5 r5 rw5 => ?_) fun _ _ q => q.elim⟩
          have g5 : ρ5.grd = (ρ1.guard D).grd := e5.grd.trans g4
          have hgD5 : ρ5.grd D := by rw [g5]; exact .inr rfl
          have hgD4 : ρ4.grd D := by rw [g4]; exact .inr rfl
          have hv5 : H5 D = some (.lst vs) := e5.stab D _ hv4 (nD r4 hgD4)
          rw [bd_assoc] at q5
          have q6 : Gives (bd (compW (own.map (·.2)) wk g t e m (i + 1) δ) (fun ys => lstM ((acc ++ [y]) ++ ys)) S5) (fun w S2 => ∀ (ρ2 : Pl) (H2 : Hp) (v : V), Ext S1 ρ1 H1 S2 ρ2 H2 → Rel X.K S2 ρ2 H2 → RW X.K ρ2 H2 (Live S2 ρ2) w v → Q v H2) (fun _ _ => True) := by
            have z : (fun ys => lstM ((acc ++ [y]) ++ ys)) = fun ys => bd (pr (y :: ys)) fun ys => lstM (acc ++ ys) := by
              funext ys S; simp [bd, pr]
            rw [z]
            exact q5
          have hs := compW_small q6
          have hlen := Paired.length rv4
          refine ⟨vs, hv5, by simp at hs; omega, m, by omega, S5, ρ5, acc ++ [y], vs ++ [v5], ?_, g5, r5.gput hgD5, upd_same, ?_, q6⟩
          · have E5 := E4.trans e5
            exact ⟨E5.pre, fun a o h l => by rw [upd_ne (ne_of_none h hD)]; exact E5.stab a o h l, E5.newl, E5.newg, fun a o u h => by rw [upd_ne (ne_of_none h hD)]; exact E5.fz a o u h⟩
          · have a1 : RWs X.K ρ5 H5 (Live S5 ρ5) acc vs := rv4.ext e5
            have ap : ∀ {ws ws' : List W} {vs vs' : List V} {o : HO}, RWs X.K ρ5 (upd H5 D o) (Live S5 ρ5) ws vs → RWs X.K ρ5 (upd H5 D o) (Live S5 ρ5) ws' vs' → RWs X.K ρ5 (upd H5 D o) (Live S5 ρ5) (ws ++ ws') (vs ++ vs') := fun {ws ws' vs vs' o} p q => by
              induction p with
              | nil => exact q
              | cons a _ ih => exact .cons a ih
            exact ap (Paired.mapP a1 fun _ _ z => RW.gput r5 hgD5 z) (.cons (RW.gput r5 hgD5 rw5) .nil)
        | false =>
          rw [if_neg Bool.false_ne_true] at q4 ⊢
          exact ⟨m, by omega, S4, ρ4, acc, vs, E4, g4, r4, hv4, rv4, q4⟩
      | none =>
        left
        refine ⟨wl'.2 ew, ?_⟩
        have q1 : Gives (lstM (acc ++ []) S') (fun w S2 => ∀ (ρ2 : Pl) (H2 : Hp) (v : V), Ext S1 ρ1 H1 S2 ρ2 H2 → Rel X.K S2 ρ2 H2 → RW X.K ρ2 H2 (Live S2 ρ2) w v → Q v H2) (fun _ _ => True) := by
          have q0 := gives_bd q0
          simp only [ew] at q0
          exact q0
        rw [List.append_nil] at q1
        unfold lstM at q1
        split at q1
        · split at q1
          · rename_i ds ed
            have hsub : ∀ a, ρ1.grd a → ρ'.grd a := fun a h => by rw [hg']; exact .inl h
            have rr := r'.ung hsub
            refine q1 ⟨ρ'.adr, ρ1.grd⟩ H' (.ref D) ⟨e'.pre, e'.stab, e'.newl, rfl, e'.fz⟩ rr ?_
            refine .lst ⟨hv', fun z => ?_⟩ (allD_rep ed (Paired.mapP rv' fun _ _ z => RW.ung hsub z))
            rcases z with z | z
            · exact r'.dj D hgD z
            · obtain ⟨o, ho⟩ := r1.gt D z
              rw [hD] at ho; cases ho
          · exact q1.elim
        · exact q1.elim
theorem dlcW {elt tg iter : Expr} {ifs : List Expr} {scope : Scope} {own : List (Str × Nat)} {fi : Env → M Wk} {g : W → Env → M Env} {t : Env → M Bool} {e : Env → M W} (n : Nat) (hc : X.calm = true) (hN : X.N.Nodup) (hi : PI X tg iter (tIG X.K Z fi)) (ok : BlkOk X.N X.env.scope scope own)
    (hg : ∀ (s : Shared) (H : Hp) (C : Addr) (cl : List (Str × Addr)) (fp : List Addr), PG (X.blk s H scope (compEnvC scope cl C X.env) fp) tg (tR (wipR (own.map (·.2))) X.K ZF g))
    (ht : ∀ (s : Shared) (H : Hp) (C : Addr) (cl : List (Str × Addr)) (fp : List Addr), PTs (X.blk s H scope (compEnvC scope cl C X.env) fp) ifs (tT X.K ZF t))
    (he : ∀ (s : Shared) (H : Hp) (C : Addr) (cl : List (Str × Addr)) (fp : List Addr), PE (X.blk s H scope (compEnvC scope cl C X.env) fp) elt (tE X.K ZF e)) (hs : ∀ x, foldedSetIterable iter X.env x = pure x := by intro _; rfl) :
    PE X (.ListComp elt [⟨tg, iter, ifs, 0⟩] scope pos) (tE X.K Z (lcWM (own.map (·.2)) n fi g t e)) := by
  refine (pe_lc hc hN hi ok hg ht he hs).imp fun σ H Q h => tLc_ofW (fun v σ H Q q => ?_) h
  refine tH.mono q fun σ2 H2 z hr => ?_
  have hr : wipe σ2 (own.map (·.2)) = wipe (wipe σ (own.map (·.2))) (own.map (·.2)) := hr
  rw [wipe_twice] at hr
  exact ⟨hr, z⟩
end
/-! ### lists of the store -/
def liveW (n : Nat) : Wk := fun i S => match S[n]? with
  | some (.lst ws) => some ws[i]?
  | _ => none
def liveM (w : W) : M Wk := fun S => match w with
  | .r n => (match S[n]? with
    | some (.lst _) => .ok (liveW n) S
    | _ => .no)
  | _ => .no
section
variable {X : Cx} {Z : XZ} {pos : Pos} {tg e : Expr} {fa : Env → M W}
theorem di_live (h : PE X e (tE X.K Z fa)) : PI X tg e (tIG X.K Z fun δ => bd (fa δ) liveM) := by
  refine ⟨fun pins s σ H R I hw => ?_⟩
  have hw' : tE X.K Z fa σ H (fun v H1 => ∃ (w : W) (S : Sto) (ρ : Pl), Rel X.K S ρ H1 ∧ RW X.K ρ H1 (Live S ρ) w v ∧
      Gives (liveM w S) (fun wk S' => ∀ (ρ' : Pl) (H' : Hp) (J : It), Ext S ρ H1 S' ρ' H' → Rel X.K S' ρ' H' → WalksG X.K J wk S' ρ' H' → R J H') (fun _ _ => True)) := by
    obtain ⟨δ, S, ρ, r, re, gv⟩ := hw
    refine ⟨δ, S, ρ, r, re, gives_imp (gives_bd gv) (fun w S1 q ρ1 H1 v e1 r1 rw1 => ?_) fun _ _ q => q⟩
    exact ⟨w, S1, ρ1, r1, rw1, gives_imp q (fun ws S2 q2 ρ2 H2 J e2 r2 wk => q2 ρ2 H2 J (e1.trans e2) r2 wk) fun _ _ _ => trivial⟩
  refine thn (h.run pins s σ H _ I hw') fun v s1 ⟨x, H1, I1, r1, w, S, ρ, rel, rw, g⟩ => ?_
  unfold liveM at g
  split at g
  · rename_i n
    split at g
    · rename_i ws0 en
      obtain ⟨a, h1, h2⟩ := rw
      subst h2
      cases r1
      obtain ⟨a', ho, q1, q2, vs, q3, q4⟩ := rel.ob n _ en rfl
      rw [h1] at q1; cases q1
      subst q3
      refine iter_list I1 (.inl (.inl q2)) (g ρ H1 _ Ext.refl rel fun i S' ρ' H' e' r' => ?_)
      have look : ∀ ws, S'[n]? = some (.lst ws) → ∃ vs, H' a = some (.lst vs) ∧ RWs X.K ρ' H' (Live S' ρ') ws vs := fun ws z => by
        obtain ⟨a2, ho2, y1, y2, vs2, y3, y4⟩ := r'.ob n _ z rfl
        rw [e'.pre n a h1] at y1; cases y1
        subst y3
        exact ⟨vs2, y2, y4⟩
      refine ⟨fun w hw => ?_, fun hw => ?_⟩
      · unfold liveW at hw
        split at hw
        · rename_i ws ez
          obtain ⟨vs2, y2, y4⟩ := look ws ez
          obtain ⟨y, z1, z2⟩ := Paired.at' y4 (Option.some.inj hw)
          have sq : SqL X.K H' a vs2 := .inl (.inl y2)
          refine ⟨⟨vs2, y, sq, z1⟩, fun x H2 ⟨hH, hx⟩ => ?_⟩
          subst hH
          have := hx vs2 sq
          rw [z1] at this
          cases this
          exact ⟨Ext.refl, r', z2⟩
        · cases hw
      · unfold liveW at hw
        split at hw
        · rename_i ws ez
          obtain ⟨vs2, y2, y4⟩ := look ws ez
          have hl : ws.length ≤ i := List.getElem?_eq_none_iff.mp (Option.some.inj hw)
          exact ⟨vs2, .inl (.inl y2), by rw [← Paired.length y4]; exact hl⟩
        · cases hw
    · exact g.elim
  · exact g.elim
end
end DL
/-! DL38: _law_heard in its other form: what comes is let go, what is raised is kept. -/
namespace DL
open PySem PySem.Spec PyProof.Rows L2 LamX NdefX

/-- what is made of an answer, of an error: any two ways -/
def heardG (P : Addr) (q : Str) (RR : W → M W) (RE : Ex → M W) (ws : List W) (js : List Nat) (fb : Env → M W) : Env → M W := fun δ (S : Sto) => match (S[0]? : Option Ob) with
  | some (.tab P' q') => if P' = P ∧ q' = q then (match fb (lamW ws js δ) S with
    | .ok w S' => noEx (RR w) S'
    | .ex x S' => noEx (RE x) S'
    | .no => .no) else .no
  | _ => .no
def GoOG (K : PySem.W.Frag) (RR : W → M W) (Q : VK) : VK := fun v H => ∃ (w : W) (S : Sto) (ρ : Pl), Rel K S ρ H ∧ RW K ρ H (Live S ρ) w v ∧ AnsQ K Q S ρ H (RR w S)
def GoEG (K : PySem.W.Frag) (RE : Ex → M W) (Q : VK) : XK := fun cls d H => ∃ (x : Ex) (S : Sto) (ρ : Pl), Rel K S ρ H ∧ FlX K H (Live S ρ) x cls d ∧ AnsQ K Q S ρ H (RE x S)
def TTG (K : PySem.W.Frag) (RR : W → M W) (RE : Ex → M W) : (XK → Hp → VK → Prop) → Hp → VK → Prop := fun tl H Q => ∀ (H2 : Hp) (E : XK) (Q' : VK), (∀ b o, H b = some o → H2 b = some o) → (∀ cls d H', GoEG K RE Q cls d H' → E cls d H') → (∀ v H', GoOG K RR Q v H' → Q' v H') → tl E H2 Q'
/-- the form that lets go of what comes: its names are ask, caught, error and one more -/
def letR (f : Env → M Fl) (_ : W) : M W := bd (f [none, some (.d .none), none, none]) finM
def letE (errs : List Str) (f : Env → M Fl) (x : Ex) : M W := if x.cls ∈ errs then bd (f [none, some (.e x), none, none]) finM else no
theorem letE_mem {errs : List Str} {f : Env → M Fl} {x : Ex} {S : Sto} {P : W → Sto → Prop} {E : Ex → Sto → Prop} (g : Gives (letE errs f x S) P E) : x.cls ∈ errs ∧ Gives (bd (f [none, some (.e x), none, none]) finM S) P E := by
  unfold letE at g
  split at g
  · exact ⟨‹_›, g⟩
  · exact g.elim
section
variable {X : Cx} {q e : Str} {sg : Scope} {g CM : Addr} {cdg : Value} {rest : List Stmt} {f : Env → M Fl} {errs : List Str} {j1 : Nat} {p1 p4 p7 p8 p9 p10 p11 p12 p13 p14 p15 p16 p17 : Pos}
abbrev lN4 : List Str := ["ask", "caught", "error", "word"]
abbrev lCx (X : Cx) (sg : Scope) (g : Addr) (cdg : Value) (s : Shared) (H : Hp) : Cx := (cxOf C8.CX0 X.prog X.w X.K X.mg X.base lN4 "_law_heard" sg g cdg X.A X.stack s H C8.E0).nox
theorem let_gives (hx0 : sg.names.lookup ("ask" : Str) = some .local) (hx1 : sg.names.lookup ("caught" : Str) = some .local) (hx2 : sg.names.lookup ("error" : Str) = some .local) (hge : sg.names.lookup e = some .globalImplicit) (hde : (e == ("__debug__" : Str)) = false) (hme : X.mg e = some (.ref CM))
    (hE : ∀ x ∈ errs, ∀ C : Addr, PySem.W.nsIn X.K mainGlobals x = some (some (.ref C)) → PySem.W.exmOne X.K (.ref C) (.ref CM) = some true)
    (hs1 : ∀ (s : Shared) (H : Hp), swapsWith (.Constant .none j1 p4) (some (.Name "caught" p1)) p7.line (lCx X sg g cdg s H).env = pure false)
    (hs2 : ∀ (s : Shared) (H : Hp), swapsWith (.Call (.Name "ask" p9) [] [] p10) none p11.line (lCx X sg g cdg s H).env = pure false)
    (hs3 : ∀ (s : Shared) (H : Hp), swapsWith (.Name "error" p14) (some (.Name "caught" p13)) p15.line (lCx X sg g cdg s H).env = pure false)
    (hrest : ∀ (s : Shared) (H : Hp), PSs (lCx X sg g cdg s H) rest (tS X.K ZF f)) :
    GivesTo X lN4 "_law_heard" sg g cdg (.Assign [.Name "caught" p1] (.Constant .none j1 p4) p7 ::
      .Try [.Expr (.Call (.Name "ask" p9) [] [] p10) p11] [.ExceptHandler (some (.Name e p12)) (some "error") [.Assign [.Name "caught" p13] (.Name "error" p14) p15] p16] [] [] p17 :: rest) "ask" q (TTG X.K (letR f) (letE errs f)) := by
  intro f0 c' s H Q tl act hc h
  have hN : lN4.Nodup := by decide
  have body : ∀ (W : WX) (pn : List (Addr × Obj)) (xe : Value → Shared → Prop), Takes ((lCx X sg g cdg s H).tr pn xe) W → PSs ((lCx X sg g cdg s H).tr pn xe) [.Expr (.Call (.Name "ask" p9) [] [] p10) p11]
      (fun D σ H => ∃ Ech : XK, (∀ cls d σ' H', Ech cls d H' → W cls d σ' H') ∧ σ[0]? = some (some (.ref f0)) ∧ H c' = some (CodeO c' q) ∧ tl Ech H fun v H1 => D.nx σ H1) := fun W pn xe tk => ⟨fun pins s' σ H' D I h' => by
    obtain ⟨Ech, hW, h1, h2, h3⟩ := h'
    exact (pss_one (ps_expr (X := (lCx X sg g cdg s H).tr pn xe) (act W pn xe Ech p9 p10 tk hW) (hs2 s H))).run pins s' σ H' D I ⟨h1, h2, h3⟩⟩
  have suite : ∀ (a : Addr) (r : Addr × Obj) (pn : List (Addr × Obj)), PSs ((lCx X sg g cdg s H).suite a (r :: pn)) [.Assign [.Name "caught" p13] (.Name "error" p14) p15] (fun D σ H => ∃ v, σ[2]? = some (some v) ∧ D.nx (σ.set 1 (some v)) H) := fun a r pn =>
    pss_one (ps_set (X := (lCx X sg g cdg s H).suite a (r :: pn)) (i := 1) hN rfl (.inl hx1) (pe_var (i := 2) rfl (.inl hx2)) (hs3 s H) (.inr hx1))
  refine ⟨_, pss_cons (ps_set (X := lCx X sg g cdg s H) (i := 1) hN rfl (.inl hx1) pe_non (hs1 s H) (.inr hx1))
    (pss_cons (ps_keep (X := lCx X sg g cdg s H) (i := 2) rfl rfl hN rfl hx2 rfl hge hme hde body suite) (hrest s H)), ?_⟩
  refine ⟨GoEG X.K (letE errs f) Q, fun cls d σ' H' z => ?_, rfl, hc, h _ _ _ (fun _ _ z => z) (fun _ _ _ z => z) fun v H1 z => ?_⟩
  · obtain ⟨x, S, ρ, R, fl, ga⟩ := z
    obtain ⟨hx, ga⟩ := letE_mem ga
    intro hlen
    obtain ⟨C, dd, fs, n1, rfl, n3, n4, n5, n6⟩ := id fl
    have hlen : σ'.length = 4 := hlen
    refine ⟨hE _ hx C n1, fun a na => ⟨.ref a, by simp [hlen], fun na' => ?_⟩⟩
    have e1 : Ext S ρ H' S ρ (upd H' a (excAt a (.ref C) d)) := Ext.frz na
    have R1 := R.frz (o := excAt a (.ref C) d) na
    refine ⟨[none, some (.e x), none, none], S, ρ, R1, ⟨by simp [hlen], fun i w hi => ?_⟩, (rest_ends ga).ext e1⟩
    match i, hi with
    | 1, hi =>
      cases hi
      exact ⟨.ref a, by simp [hlen], a, rfl, .ref C, d, fl.ext e1.stabL e1.newL, upd_same, R.notLive na⟩
    | 0, hi => cases hi
    | 2, hi => cases hi
    | 3, hi => cases hi
    | n + 4, hi => simp at hi
  · obtain ⟨w, S, ρ, R, rw, ga⟩ := z
    refine ⟨[none, some (.d .none), none, none], S, ρ, R, ⟨rfl, fun i w' hi => ?_⟩, rest_ends ga⟩
    match i, hi with
    | 1, hi =>
      cases hi
      exact ⟨.non, rfl, .non⟩
    | 0, hi => cases hi
    | 2, hi => cases hi
    | 3, hi => cases hi
    | n + 4, hi => simp at hi
end
/-- _law_heard(lambda: body), in the def whose table of code objects stands at P; what is made of what comes, of what is raised: RR, RE -/
theorem dheardG {X : Cx} {Z : XZ} {g c P : Addr} {fd : FuncData} {st : Stmt} {k : Nat} {Ng N ps fr : List Str} {js : List Nat} {ws : List W} {vs : List V} {q : Str} {RR : W → M W} {RE : Ex → M W}
    {params : Arguments} {body : Expr} {scope : Scope} {fb : Env → M W} {p lpos pos : Pos} (D : DefOk X.K X.mg "_law_heard" st ["ask"] g fd) (hg : Gl X "_law_heard") (Sg : FnScope Ng ["ask"] (defScope st)) (hNg : Ng[0]? = some ("ask" : Str)) (hva : Vis (defScope st) "ask")
    (hG : ∀ cdg : Value, GivesTo X Ng "_law_heard" (defScope st) g cdg (defBody st) "ask" (X.env.qual ++ "<lambda>") (TTG X.K RR RE)) (TB : TabB X.base X.mg c P) (hcode : X.env.code = .ref c) (hr : Room (k + 2) X.A) (hq : q = X.env.qual ++ "<lambda>")
    (S : NScope N ps fr scope) (hsc : ndefB X.env.scope scope fr = true) (hjs : js.map (fun j => X.N[j]?) = fr.map some)
    (rv : ∀ ρ H L, RWs X.K ρ H L ws vs) (hn : N.length = ws.length + js.length) (hl : vs.length = ps.length) (hdf : DfltsAre params X.env vs) (hbind : BindL params body scope ps vs)
    (hbody : ∀ (A : Around) (outer : List PySem.Env) (s : Shared) (H : Hp) (E : XK) (f c' : Addr), A.guards = X.A.guards → Room k (A.deeper (envF ⟨"<lambda>", X.env.qual ++ "<lambda>", params, [], scope, cloFrom X.env.cells scope.names [], c'⟩ f s.heap.objs.size)) →
      PE (ncx (L2.CX X.prog X.w) X.prog X.w X.K X.mg X.base N ⟨"<lambda>", X.env.qual ++ "<lambda>", params, [], scope, cloFrom X.env.cells scope.names [], c'⟩ f A outer s H E) body (tE X.K (ZE X.K E) fb)) :
    PE X (.Call (.Name "_law_heard" p) [.Lambda params body scope lpos] [] pos) (tE X.K Z (heardG P q RR RE ws js fb)) := by
  obtain ⟨oc, od, kV, doc, pm, an, cdv, ct, osl, hfd, lk, hcd⟩ := D.fn.ex
  have hb := D.bd
  subst hfd
  subst hq
  refine (pe_lamC (vs := vs) (t := fun E => tE X.K (ZE X.K E) fb) hg D.mg (keep_ok D) lk hcd hb Sg hNg hva (hG cdv) TB hcode hr S (ndef_free hsc) (ndef_fr hsc) hjs hl hdf hbind hbody).imp fun σ H Q h => ?_
  obtain ⟨δ, S0, ρ, R, re, gv⟩ := h
  unfold heardG at gv
  split at gv
  case h_2 => exact gv.elim
  rename_i P' q' h0
  split at gv
  case isFalse => exact gv.elim
  rename_i hPq
  obtain ⟨rfl, rfl⟩ := hPq
  obtain ⟨a0, ho, k1, k2, k3, k4⟩ := R.ob 0 _ h0 rfl
  subst k3
  refine ⟨Live S0 ρ, ⟨ho, k2, k4⟩, fun b l => R.tracked l, fun H0 ext hT H1 E Q' ext2 hE hQ => ?_⟩
  obtain ⟨o1, t1, t2⟩ := hT
  obtain ⟨e1, R1⟩ := rel_tab R h0 (fun b o e n => ext2 _ _ (ext b o e n)) ⟨o1, ext2 _ _ t1, t2.ext (fun a o e _ => ext2 a o e) fun a l => .inl l⟩
  have re1 : REnv X.K ρ H1 (Live S0 ρ) δ σ := Stb.env _ _ _ _ _ _ _ _ re e1
  refine ⟨lamW ws js δ, S0, ρ, R1, lamW_rep re1 (rv _ _ _) hn, ?_⟩
  cases eb : fb (lamW ws js δ) S0 with
  | ok w S' =>
    rw [eb] at gv
    intro ρ' H' v e2 R2 rw
    refine hQ v H' ⟨w, S', ρ', R2, rw, gives_imp (noEx_gives (E' := fun _ _ => False) gv) (fun w2 S2 z ρ2 H2 v2 e3 R3 rw2 => ?_) fun _ _ z => z⟩
    exact z ρ2 H2 v2 ((e1.trans e2).trans e3) R3 rw2
  | ex y S' =>
    rw [eb] at gv
    intro ρ' H' e2 R2 cls d fl
    refine hE cls d H' ⟨y, S', ρ', R2, fl, gives_imp (noEx_gives (E' := fun _ _ => False) gv) (fun w2 S2 z ρ2 H2 v2 e3 R3 rw2 => ?_) fun _ _ z => z⟩
    exact z ρ2 H2 v2 ((e1.trans e2).trans e3) R3 rw2
  | no => rw [eb] at gv; exact gv.elim
end DL
/-! DL39: dicts of the store walked and read; split; a written dict. -/
namespace DL
open PySem PySem.Spec PyProof.Rows L2

/-! ### the keys of a dict, frozen meanwhile -/
def keysW (n : Nat) : Wk := fun i S => match S[n]? with
  | some (.dfz kvs) => some (kvs[i]?.map fun kv => .d (kD kv.1))
  | _ => none
def frozM (w : W) : M Wk := fun S => match w with
  | .r n => (match S[n]? with
    | some (.dfz _) => .ok (keysW n) S
    | _ => .no)
  | _ => .no
/-- it may change again -/
def thawM (n : Nat) (w : W) : M W := fun S => match S[n]? with
  | some (.dfz kvs) => .ok w (S.set n (.dct kvs))
  | _ => .no
def lcKM (own : List Nat) (k : Nat) (fa : Env → M W) (g : W → Env → M Env) (t : Env → M Bool) (e : Env → M W) : Env → M W := fun δ S => match fa δ S with
  | .ok (.r n) _ => (match S[n]? with
    | some (.dct kvs) => bd (lcWM own k (fun δ => bd (fa δ) frozM) g t e δ) (thawM n) (S.set n (.dfz kvs))
    | _ => .no)
  | _ => .no
section
variable {K : PySem.W.Frag} {S S' : Sto} {ρ ρ' : Pl} {H H' : Hp}
theorem dfz_at {n : Nat} {kvs : List (Key × W)} {a : Addr} (e : S[n]? = some (.dfz kvs)) (R : Rel K S ρ H) (h1 : ρ.adr[n]? = some a) : ∃ ob kus, H a = some (.frz ob (.dK kus)) ∧ RKV K ρ H (Live S ρ) kvs kus := by
  obtain ⟨a', ho, y1, y2, ob, kus, y3, y4⟩ := R.ob n _ e rfl
  rw [h1] at y1; cases y1
  subst y3
  exact ⟨ob, kus, y2, y4⟩
theorem kD_rep {k : Key} {L : Addr → Prop} (h : okK k = true) : Rp K H L (kV k) (kD k) := by
  cases k with
  | inl i => exact .int i
  | inr x => exact .str x h
theorem walks_keys {n : Nat} {a : Addr} {ob : Obj} {kus : List (Key × V)} (h1 : ρ.adr[n]? = some a) (h2 : H a = some (.frz ob (.dK kus))) : WalksG K (Itk a ob kus) (keysW n) S ρ H := by
  intro i S' ρ' H' e r
  have hz : H' a = some (.frz ob (.dK kus)) := e.fz a ob _ h2
  have look : ∀ kvs, S'[n]? = some (.dfz kvs) → RKV K ρ' H' (Live S' ρ') kvs kus := fun kvs z => by
    obtain ⟨ob2, kus2, y2, y4⟩ := dfz_at z r (e.pre n a h1)
    rw [hz] at y2
    cases y2
    exact y4
  refine ⟨fun w hw => ?_, fun hw => ?_⟩
  · unfold keysW at hw
    split at hw
    · rename_i kvs ez
      have rk := look kvs ez
      cases ek : kvs[i]? with
      | none => rw [ek] at hw; cases hw
      | some kv =>
        rw [ek] at hw
        cases hw
        obtain ⟨ku, z1, z2, z3, z4⟩ := Paired.at' rk ek
        refine ⟨⟨hz, (List.getElem?_eq_some_iff.mp z1).1⟩, fun x H2 ⟨hH, k, v, z5, hx⟩ => ?_⟩
        subst hH
        rw [z1] at z5
        cases z5
        subst hx
        have z2 : kv.1 = k := z2
        rw [← z2]
        exact ⟨Ext.refl, r, kD_rep z3⟩
    · cases hw
  · unfold keysW at hw
    split at hw
    · rename_i kvs ez
      have rk := look kvs ez
      cases ek : kvs[i]? with
      | none =>
        refine ⟨hz, ?_⟩
        rw [← Paired.length rk]
        exact List.getElem?_eq_none_iff.mp ek
      | some kv => rw [ek] at hw; cases hw
    · cases hw
theorem Ext.thaw {n : Nat} {a : Addr} {o u : Ob} {hu : HO} (e : Ext S ρ H S' ρ' H') (la : Liv S ρ a) (nz : ∀ ob v, H a ≠ some (.frz ob v)) (h : S'[n]? = some o) (hl : o.live = true) : Ext S ρ H (S'.set n u) ρ' (upd H' a hu) := by
  refine ⟨e.pre, fun b x q l => ?_, fun b q => e.newl b (live_set h hl q), e.grd, fun b ob v q => ?_⟩
  · rw [upd_ne (fun z => l (by rw [z]; exact la))]
    exact e.stab b x q l
  · rw [upd_ne (fun z => nz ob v (by rw [← z]; exact q))]
    exact e.fz b ob v q
theorem RW.keep {L L' : Addr → Prop} {w : W} {v : V} (h : RW K ρ H L w v) (pre : ∀ (n : Nat) (a : Addr), ρ.adr[n]? = some a → ρ'.adr[n]? = some a) (hs : ∀ a o, H a = some o → ¬ L a → H' a = some o) (hn : ∀ a, L' a → L a ∨ H a = none) : RW K ρ' H' L' w v := by
  cases w with
  | d x => exact Rp.ext hs hn x v h
  | r n => obtain ⟨a, h1, h2⟩ := h; exact ⟨a, pre _ _ h1, h2⟩
  | s ns => obtain ⟨a, h1, h2⟩ := h; exact ⟨a, h1, h2.ext hs hn⟩
  | e x => obtain ⟨a, h1, h2⟩ := h; exact ⟨a, h1, h2.ext hs hn⟩
/-- what is known of the state, when a frozen dict may change again -/
theorem thaw_rel (R : Rel K S ρ H) {n : Nat} {a : Addr} {kvs : List (Key × W)} (h : S[n]? = some (.dfz kvs)) (ha : ρ.adr[n]? = some a) {ob : Obj} {kus : List (Key × V)} (hf : H a = some (.frz ob (.dK kus))) :
    Rel K (S.set n (.dct kvs)) ρ (upd H a (.dK kus)) ∧ ∀ w v, RW K ρ H (Live S ρ) w v → RW K ρ (upd H a (.dK kus)) (Live (S.set n (.dct kvs)) ρ) w v := by
  have la : Liv S ρ a := ⟨n, _, h, rfl, ha⟩
  have hn : n < S.length := (List.getElem?_eq_some_iff.mp h).1
  have sub : ∀ b, Live (S.set n (.dct kvs)) ρ b → Live S ρ b := fun b q => q.elim (fun q => .inl (live_set h rfl q)) .inr
  have key : ∀ w v, RW K ρ H (Live S ρ) w v → RW K ρ (upd H a (.dK kus)) (Live (S.set n (.dct kvs)) ρ) w v := fun w v q =>
    q.keep (fun _ _ z => z) (fun b o z l => by rw [upd_ne (fun e => l (.inl (by rw [e]; exact la)))]; exact z) fun b z => .inl (sub b z)
  have kt : ∀ q ho, RT H (Live S ρ) q ho → RT (upd H a (.dK kus)) (Live (S.set n (.dct kvs)) ρ) q ho := fun q ho z =>
    z.ext (fun b o z l => by rw [upd_ne (fun e => l (.inl (by rw [e]; exact la)))]; exact z) fun b z => .inl (sub b z)
  obtain ⟨ob2, kus2, y2, rk⟩ := dfz_at h R ha
  rw [hf] at y2
  cases y2
  refine ⟨⟨by simp [R.len], fun b q => ?_, fun b q z => R.dj b q (live_set h rfl z), fun m w h1 h2 => ?_, fun m k b w w' h1 h2 h3 h4 h5 h6 => ?_⟩, key⟩
  · by_cases eb : b = a
    · exact ⟨_, by rw [eb]; exact upd_same⟩
    · rw [upd_ne eb]; exact R.gt b q
  · by_cases em : n = m
    · subst em
      rw [List.getElem?_set_self hn] at h1
      cases h1
      exact ⟨a, _, ha, upd_same, kus, rfl, Paired.mapP rk fun _ _ q => ⟨q.1, q.2.1, key _ _ q.2.2⟩⟩
    · rw [List.getElem?_set_ne em] at h1
      obtain ⟨b, hb, q1, q2, q3⟩ := R.ob m w h1 h2
      refine ⟨b, hb, q1, ?_, q3.tr key fun q => kt q hb⟩
      rw [upd_ne (fun z => em (R.inj n m a _ w h rfl h1 h2 ha (by rw [← z]; exact q1)))]; exact q2
  · have old : ∀ (m : Nat) (w : Ob), (S.set n (.dct kvs))[m]? = some w → w.live = true → ∃ w', S[m]? = some w' ∧ w'.live = true := fun m w h1 h2 => by
      by_cases em : n = m
      · subst em; exact ⟨_, h, rfl⟩
      · rw [List.getElem?_set_ne em] at h1; exact ⟨w, h1, h2⟩
    obtain ⟨x, x1, x2⟩ := old m w h1 h2
    obtain ⟨y, y1, y2⟩ := old k w' h3 h4
    exact R.inj m k b x y x1 x2 y1 y2 h5 h6
end
section
variable {X : Cx} {Z : XZ} {pos : Pos} {tg e : Expr} {fa : Env → M W}
theorem di_keys (h : PE X e (tE X.K Z fa)) : PI X tg e (tIG X.K Z fun δ => bd (fa δ) frozM) := by
  refine (pi_keys h).imp fun σ H R hw => ?_
  obtain ⟨δ, S, ρ, r, re, gv⟩ := hw
  refine ⟨δ, S, ρ, r, re, gives_imp (gives_bd gv) (fun w S1 q ρ1 H1 v e1 r1 rw1 => ?_) fun _ _ q => q⟩
  unfold frozM at q
  split at q
  · rename_i n
    split at q
    · rename_i kvs en
      obtain ⟨a, h1, rfl⟩ := rw1
      obtain ⟨ob, kus, k2, rk⟩ := dfz_at en r1 h1
      exact ⟨a, ob, rfl, .inl ⟨kus, k2, q ρ1 H1 _ e1 r1 (walks_keys h1 k2)⟩⟩
    · exact q.elim
  · exact q.elim
/-- [.. for k in d] -/
theorem dlcK {elt iter : Expr} {ifs : List Expr} {scope : Scope} {own : List (Str × Nat)} {g : W → Env → M Env} {t : Env → M Bool} {e : Env → M W} (n : Nat) (hc : X.calm = true) (hN : X.N.Nodup) (hi : PE X iter (tE X.K Z fa)) (ok : BlkOk X.N X.env.scope scope own)
    (hg : ∀ (s : Shared) (H : Hp) (C : Addr) (cl : List (Str × Addr)) (fp : List Addr), PG (X.blk s H scope (compEnvC scope cl C X.env) fp) tg (tR (wipR (own.map (·.2))) X.K ZF g))
    (ht : ∀ (s : Shared) (H : Hp) (C : Addr) (cl : List (Str × Addr)) (fp : List Addr), PTs (X.blk s H scope (compEnvC scope cl C X.env) fp) ifs (tT X.K ZF t))
    (he : ∀ (s : Shared) (H : Hp) (C : Addr) (cl : List (Str × Addr)) (fp : List Addr), PE (X.blk s H scope (compEnvC scope cl C X.env) fp) elt (tE X.K ZF e)) (hs : ∀ x, foldedSetIterable iter X.env x = pure x := by intro _; rfl) :
    PE X (.ListComp elt [⟨tg, iter, ifs, 0⟩] scope pos) (tE X.K Z (lcKM (own.map (·.2)) n fa g t e)) := by
  refine (pe_lock (dlcW (pos := pos) n hc hN (di_keys hi) ok hg ht he hs)).imp fun σ H Q h => ?_
  obtain ⟨δ, S, ρ, R, re, gv⟩ := h
  unfold lcKM at gv
  split at gv
  · rename_i m S0 ef
    split at gv
    · rename_i kvs em
      obtain ⟨a, ho, h1, k2, kus, rfl, rk⟩ := R.ob m _ em rfl
      refine ⟨a, .dK kus, k2, trivial, fun od => ?_⟩
      have e1 : Ext S ρ H (S.set m (.dfz kvs)) ρ (upd H a (.frz od (.dK kus))) := Ext.put R em rfl h1
      have R1 : Rel X.K (S.set m (.dfz kvs)) ρ (upd H a (.frz od (.dK kus))) := R.put em rfl h1 ⟨od, kus, rfl, rk⟩
      refine ⟨δ, S.set m (.dfz kvs), ρ, R1, Stb.env _ _ _ _ _ _ _ _ re e1, gives_imp (gives_bd gv) (fun w S2 q ρ2 H2 v e2 R2 rv => ?_) fun x S2 q ρ2 H2 e2 R2 => q ρ2 H2 (e1.trans e2) R2⟩
      have hz : H2 a = some (.frz od (.dK kus)) := e2.fz a od _ upd_same
      refine ⟨hz, ?_⟩
      unfold thawM at q
      split at q
      · rename_i kvs2 en2
        have h2 : ρ2.adr[m]? = some a := e2.pre m a h1
        obtain ⟨R3, key⟩ := thaw_rel R2 en2 h2 hz
        exact q ρ2 _ v (Ext.thaw (e1.trans e2) ⟨m, _, em, rfl, h1⟩ (R.nofrz em rfl h1) en2 rfl) R3 (key _ _ rv)
      · exact q.elim
    · exact gv.elim
  · exact gv.elim
end
/-! ### d[k], k in d -/
def valW (kvs : List (Key × W)) (k : Key) : Option W := (kvs.find? fun kv => decide (kv.1 = k)).map (·.2)
def kvsOf (w : W) (S : Sto) : Option (List (Key × W)) := match w with
  | .r n => (match S[n]? with
    | some (.dct kvs) => some kvs
    | some (.dfz kvs) => some kvs
    | _ => none)
  | _ => none
def dgetM (x y : W) : M W := fun S => match kvsOf x S, y with
  | some kvs, .d d => (match keyOf d with
    | some k => (match valW kvs k with
      | some w => .ok w S
      | none => .no)
    | none => .no)
  | _, _ => .no
def dinM (y x : W) : M W := fun S => match kvsOf x S, y with
  | some kvs, .d d => (match keyOf d with
    | some k => .ok (okb (valW kvs k).isSome) S
    | none => .no)
  | _, _ => .no
theorem valW_rep {K : PySem.W.Frag} {ρ : Pl} {H : Hp} {L : Addr → Prop} {k : Key} : ∀ {kvs : List (Key × W)} {kus : List (Key × V)}, RKV K ρ H L kvs kus → (∀ w, valW kvs k = some w → ∃ v, valV kus k = some v ∧ RW K ρ H L w v) ∧ (valW kvs k).isSome = (valV kus k).isSome
  | _, _, .nil => ⟨fun w h => by simp [valW] at h, rfl⟩
  | _, _, .cons (a := p) (b := q) r t => by
    obtain ⟨h1, h2⟩ := valW_rep (k := k) t
    have e : p.1 = q.1 := r.1
    unfold valW valV
    rw [List.find?_cons, List.find?_cons]
    by_cases z : p.1 = k
    · rw [decide_eq_true z, decide_eq_true (e.symm.trans z)]
      exact ⟨fun w h => by cases h; exact ⟨q.2, rfl, r.2.2⟩, rfl⟩
    · rw [decide_eq_false z, decide_eq_false (fun y => z (e.trans y))]
      exact ⟨h1, h2⟩
theorem kvs_at {K : PySem.W.Frag} {S : Sto} {ρ : Pl} {H : Hp} {w : W} {v : V} {kvs : List (Key × W)} (e : kvsOf w S = some kvs) (R : Rel K S ρ H) (r : RW K ρ H (Live S ρ) w v) : ∃ a kus, v = .ref a ∧ Rd H a (.dK kus) ∧ RKV K ρ H (Live S ρ) kvs kus := by
  unfold kvsOf at e
  split at e
  · rename_i n
    obtain ⟨a, h1, rfl⟩ := r
    split at e
    · rename_i kvs' en
      cases e
      obtain ⟨a', ho, y1, y2, kus, y3, y4⟩ := R.ob n _ en rfl
      rw [h1] at y1; cases y1
      subst y3
      exact ⟨a, kus, rfl, .inl y2, y4⟩
    · rename_i kvs' en
      cases e
      obtain ⟨ob, kus, y2, y4⟩ := dfz_at en R h1
      exact ⟨a, kus, rfl, .inr ⟨ob, y2⟩, y4⟩
    · cases e
  · cases e
section
variable {X : Cx} {Z : XZ} {pos : Pos} {a b : Expr} {fa fb : Env → M W}
theorem tE.pair {σ : L2.St} {H : Hp} {Q : VK} {fo : W → W → M W} (h : tE X.K Z (binM fa fb fo) σ H Q) : tE X.K Z fa σ H fun x H1 => tE X.K Z fb σ H1 fun y H2 => tH X.K Z (rP (RW X.K) (RW X.K)) (RW X.K) (fun p => fo p.1 p.2) (x, y) H2 Q := tE.two h
theorem ddget (hu : X.A.units + 1 < cLine) (ha : PE X a (tE X.K Z fa)) (hb : PE X b (tE X.K Z fb)) (hs : NoSl b := by exact fun _ _ => rfl) : PE X (.Subscript a b pos) (tE X.K Z (binM fa fb dgetM)) := by
  refine (pe_dget hu ha hb hs).imp fun σ H Q h => (tE.pair h).mono fun x H1 q1 => q1.mono fun y H2 q2 => ?_
  obtain ⟨⟨w1, w2⟩, S, ρ, R, ⟨r1, r2⟩, g⟩ := q2
  change Gives (dgetM w1 w2 S) _ _ at g
  unfold dgetM at g
  split at g
  · rename_i kvs d ek
    split at g
    · rename_i k ekk
      split at g
      · rename_i w ew
        obtain ⟨p, kus, ex, hd, rk⟩ := kvs_at ek R r1
        obtain ⟨ey, _⟩ := keyOf_rep ekk r2
        obtain ⟨v, hv, rv⟩ := (valW_rep (k := k) rk).1 w ew
        exact ⟨p, v, ex, .inl ⟨kus, k, hd, ey, hv.symm⟩, g ρ H2 v Ext.refl R rv⟩
      · exact g.elim
    · exact g.elim
  · exact g.elim
theorem ddin (hu : X.A.units + 1 < cLine) (ha : PE X a (tE X.K Z fa)) (hb : PE X b (tE X.K Z fb)) (hm : behindInMarks .In b = false := by rfl) : PE X (.Compare a [.In] [b] pos) (tE X.K Z (binM fa fb dinM)) := by
  have hc : PC X .In a b (tE X.K Z (binM fa fb dinM)) := ⟨fun pins s σ H Q I h => (pc_din hu ha hb).run pins s σ H Q I ((tE.pair h).mono fun y H1 q1 => q1.mono fun x H2 q2 => by
    obtain ⟨⟨w1, w2⟩, S, ρ, R, ⟨r1, r2⟩, g⟩ := q2
    change Gives (dinM w1 w2 S) _ _ at g
    unfold dinM at g
    split at g
    · rename_i kvs d ek
      split at g
      · rename_i k ekk
        obtain ⟨p, kus, ex, hd, rk⟩ := kvs_at ek R r2
        obtain ⟨ey, _⟩ := keyOf_rep ekk r1
        refine ⟨p, valV kus k, ex, .inl ⟨kus, k, hd, ey, rfl⟩, ?_⟩
        rw [← (valW_rep (k := k) rk).2]
        exact g ρ H2 (.bl _) Ext.refl R (.bl _)
      · exact g.elim
    · exact g.elim)⟩
  exact pe_cmp hc hm
end
/-! ### split -/
def splitM (w : W) (ws : List W) : M W := fun S => match w, ws with
  | .d (.str a), [.d (.str b)] => if (b.length == 0) = false ∧ a.length + 2 ≤ sizeLine ∧ ((Txt.split a b).all okS) = true then .ok (.d (.list ((Txt.split a b).map .str))) S else .no
  | _, _ => .no
section
variable {X : Cx} {Z : XZ}
theorem m_split : MtR X "str.split" (rmM X.K Z splitM) := by
  rintro pins s σ H x xs v us Q I rx rxs ⟨⟨w, ws⟩, S, ρ, R, ⟨r1, r2⟩, g⟩
  change Gives (splitM w ws S) _ _ at g
  change RW X.K ρ H (Live S ρ) w x at r1
  change RWs X.K ρ H (Live S ρ) ws xs at r2
  unfold splitM at g
  split at g
  · rename_i a b
    split at g
    · rename_i hc
      obtain ⟨h1, h2, h3⟩ := hc
      cases r2 with
      | cons y z =>
        cases z
        have r1 : Rp X.K H (Live S ρ) x (.str a) := r1
        have y : Rp X.K H (Live S ρ) _ (.str b) := y
        cases r1
        cases y
        refine mt_split pins s σ H _ _ v us Q I rx rxs ⟨a, b, rfl, rfl, h1, h2, fun p hp => ?_⟩
        exact g ρ _ (.ref p) (Ext.frz hp) (R.frz hp) (.lst ⟨upd_same, R.notLive hp⟩ (RpA.strs fun z hz => List.all_eq_true.mp h3 z hz))
    · exact g.elim
  · exact g.elim
/-- {k: v}, two written texts -/
theorem dd1 {k v : Str} {j1 j2} {p1 p2 pos : Pos} : PE X (.Dict [some (.Constant (.str k) j1 p1)] [.Constant (.str v) j2 p2] pos) (tE X.K Z (cM (.dict [(.str k, .str v)]))) := by
  refine (pe_disp (pps_cons pe_str pe_str pps_nil) rfl rfl (by simp) (by simp)).imp fun σ H Q h p hp => ?_
  obtain ⟨δ, S, ρ, r, re, g⟩ := h
  refine ⟨upd_same, [(.inr k, .str v)], rfl, by simp, ?_⟩
  have e : upd (upd H p (.dK [])) p (.dK (mergeK [] [(.inr k, .str v)])) = upd H p (.dK (mergeK [] [(.inr k, .str v)])) := by
    funext b
    by_cases z : b = p
    · rw [z, upd_same, upd_same]
    · rw [upd_ne z, upd_ne z, upd_ne z]
  rw [e]
  exact g ρ _ (.ref p) (Ext.frz hp) (r.frz hp) (.dct ⟨⟨_, upd_same, rfl⟩, r.notLive hp⟩)
end
end DL
/-! DL40: facts of own classes, of defs with defaults, of tables, out of what the head leaves. -/
namespace DL
open PySem PySem.Spec PyProof.Rows L2 LamX NdefX

/-- a class's k-th statement -/
def memOf (s : Stmt) (k : Nat) : Stmt := match s with
  | .ClassDef _ _ _ b _ _ _ _ _ _ _ => b.getD k s
  | s => s
section
variable {K : PySem.W.Frag} {h : Heap} {mg : Str → Option Value} {c m x q : Str} {st : Stmt} {ps : List Str} {C f T : Addr} {oc : Value} {od an : Option Addr} {sl : Array (Option Value)} {kV dc pm cd ct : Value}
theorem funA_mk {dV : Value} (l : K.lookup f = some ⟨oc, od, .func (PySem.W.fnOf x q (defArgs st) (defBody st) (defScope st) dV kV dc pm an cd ct), sl⟩) (cq : PySem.W.codeIn K cd q = true) : FunA K x q st f (PySem.W.fnOf x q (defArgs st) (defBody st) (defScope st) dV kV dc pm an cd ct) :=
  ⟨oc, od, dV, kV, dc, pm, an, cd, ct, sl, rfl, l, cq⟩
/-- what is asked of every class -/
structure ClsA (K : PySem.W.Frag) (c : Str) (C : Addr) : Prop where
  n : AtC K c C
  cl : Cls K C
theorem clsA_mk (n : PySem.W.nsIn K mainGlobals c = some (some (.ref C))) (pg : PySem.W.plainGet K C Str.empty = true) (hd : PySem.W.hasDictIn K C = true) (po : PySem.W.plainOver K C = true) (sa : PySem.W.findIn K (.ref C) "__setattr__" = some (some (.builtin "object.__setattr__"))) : ClsA K c C := ⟨n, ⟨pg, hd, po, sa⟩⟩
theorem ClsA.of (A : ClsA K c C) {C' : Addr} (h : AtC K c C') : Cls K C' := by
  have e := A.n
  unfold AtC at e h
  rw [e] at h
  cases h
  exact A.cl
theorem met_mk (A : ClsA K c C) (hb : ∀ (kV doc pm : Value) (an : Option Addr) (cdv ct : Value) (us : List Value), us.length = ps.length → bindArgs (PySem.W.fnOf m q (defArgs st) (defBody st) (defScope st) .none kV doc pm an cdv ct) ⟨us, []⟩ = pure (ps.zip us))
    (a : PySem.W.findIn K (.ref C) m = some (some (.ref f))) (i : PySem.W.isFn K (.ref f) = true) (l : K.lookup f = some ⟨oc, od, .func (PySem.W.fnOf m q (defArgs st) (defBody st) (defScope st) .none kV dc pm an cd ct), sl⟩) (cq : PySem.W.codeIn K cd q = true) (k : PySem.W.keepIn K (.ref f) = true) :
    ∃ f fd, MetOk K c m q st ps f fd :=
  ⟨f, _, funA_mk l cq, fun C' h => ⟨A.of h, by
    have e := A.n
    unfold AtC at e h
    rw [e] at h
    cases h
    exact ⟨a, i, k⟩⟩, .all (hb _ _ _ _ _ _)⟩
theorem mak_mk (X : K.In h) (G : h.Ns mainGlobals mg) (A : ClsA K c C) (hb : ∀ (kV doc pm : Value) (an : Option Addr) (cdv ct : Value) (us : List Value), us.length = ps.length → bindArgs (PySem.W.fnOf "__init__" q (defArgs st) (defBody st) (defScope st) .none kV doc pm an cdv ct) ⟨us, []⟩ = pure (ps.zip us))
    (mk : PySem.W.makesIn K C = true) (a : PySem.W.findIn K (.ref C) "__init__" = some (some (.ref f))) (i : PySem.W.isFn K (.ref f) = true) (kc : PySem.W.keepIn K (.ref C) = true)
    (l : K.lookup f = some ⟨oc, od, .func (PySem.W.fnOf "__init__" q (defArgs st) (defBody st) (defScope st) .none kV dc pm an cd ct), sl⟩) (cq : PySem.W.codeIn K cd q = true) :
    ∃ f fd, MakOk K mg c q st ps f fd :=
  ⟨f, _, ⟨C, PySem.W.mg_of X G A.n, A.n, ⟨mk, a, i, kc⟩⟩, funA_mk l cq, .all (hb _ _ _ _ _ _)⟩
theorem fldT_nil {f : Str} : FldTx K f [] := ⟨fun c h => by simp at h⟩
theorem fldT_cons {f : Str} {cs : List Str} (A : ClsA K c C) (no : PySem.W.findIn K (.ref C) f = some none) (t : FldTx K f cs) : FldTx K f (c :: cs) := ⟨fun d hd C' h => by
  rcases List.mem_cons.mp hd with rfl | hd
  · have e := A.n
    unfold AtC at e h
    rw [e] at h
    cases h
    exact ⟨A.cl, no⟩
  · exact t.ok d hd C' h⟩
/-- a def with defaults -/
theorem defD_mk {dvs : List V} {its : List Value} {nz : Nat} {tc : Value} {td : Option Addr} {tsl : Array (Option Value)} (X : K.In h) (G : h.Ns mainGlobals mg)
    (hb : ∀ (T : Addr) (kV doc pm : Value) (an : Option Addr) (cdv ct : Value) (us its : List Value), us.length = ps.length → its.length = dvs.length → ∃ k, bindArgs (PySem.W.fnOf x x (defArgs st) (defBody st) (defScope st) (.ref T) kV doc pm an cdv ct) ⟨us, []⟩ = seqItems? (.ref T) >>= k ∧ k (some its.toArray) = pure (ps.zip (us ++ its.drop dvs.length)))
    (hd : dvs ≠ []) (a : PySem.W.nsIn K mainGlobals x = some (some (.ref f))) (l : K.lookup f = some ⟨oc, od, .func (PySem.W.fnOf x x (defArgs st) (defBody st) (defScope st) (.ref T) kV dc pm an cd ct), sl⟩) (cq : PySem.W.codeIn K cd x = true) (k : PySem.W.keepIn K (.ref f) = true)
    (lT : K.lookup T = some ⟨tc, td, .seq its.toArray nz, tsl⟩) (v : Vals dvs its) :
    ∃ f fd, DefD K mg x st ps f fd ∧ FunD K x x (defArgs st) (defBody st) (defScope st) dvs [] f fd := by
  have F : FunD K x x (defArgs st) (defBody st) (defScope st) dvs [] f (PySem.W.fnOf x x (defArgs st) (defBody st) (defScope st) (.ref T) kV dc pm an cd ct) :=
    ⟨⟨oc, od, .ref T, kV, dc, pm, an, cd, ct, sl, rfl, l, cq, .inr ⟨hd, T, _, its, nz, rfl, lT, rfl, v⟩, .inl rfl⟩, k⟩
  obtain ⟨ds, h1, h2⟩ := F.binds1 (ps := ps) ps.length dvs.length hd (by omega) hb
  rw [List.drop_length] at h1
  cases h1
  exact ⟨f, _, ⟨funA_mk l cq, k, PySem.W.mg_of X G a, h2⟩, F⟩
theorem dfl_mk {dvs : List V} {fd : FuncData} {dws : List W} (F : FunD K x x (defArgs st) (defBody st) (defScope st) dvs [] f fd) (n j : Nat) (hd : dvs ≠ []) (hn : n + (dvs.length - j) = ps.length)
    (hb : ∀ (T : Addr) (kV doc pm : Value) (an : Option Addr) (cdv ct : Value) (us its : List Value), us.length = n → its.length = dvs.length → ∃ k, bindArgs (PySem.W.fnOf x x (defArgs st) (defBody st) (defScope st) (.ref T) kV doc pm an cdv ct) ⟨us, []⟩ = seqItems? (.ref T) >>= k ∧ k (some its.toArray) = pure (ps.zip (us ++ its.drop j)))
    (rw : ∀ ρ H L, RWs K ρ H L dws (dvs.drop j)) : DflOk K fd ps dws := by
  obtain ⟨ds, h1, h2⟩ := F.binds1 (ps := ps) n j hd hn hb
  exact ⟨_, ds, h2, h1, rw⟩
end
/-- the code objects of the defs that make lambdas -/
structure UxT (base : Heap) (mg : Str → Option Value) (K : PySem.W.Frag) (f : Addr) (c P : Addr) : Prop where
  tb : TabB base mg c P
  cd : ∀ cdv, CodeOf K f cdv → cdv = .ref c
theorem code_at {K : PySem.W.Frag} {h : Heap} {mg : Str → Option Value} {x : Str} {ca PT f : Addr} (C : CodeTx K h mg x ca PT) (hm : mg x = some (.ref f)) : ∀ cdv, CodeOf K f cdv → cdv = .ref ca := by
  obtain ⟨⟨f', h1, h2⟩, _, _, _⟩ := C
  rw [hm] at h1
  cases h1
  exact h2
end DL
/-! DL41: more of what denotations come to, in plain Lean. -/
namespace DL
open PySem PySem.Spec PyProof.Rows L2

/-! ### x or y, by truth -/
def truD : D → Bool
  | .none => false
  | .bool b => b
  | .int i => i != 0
  | .str x => (x.length : Int) != 0
  | .list ds => !ds.isEmpty
  | .tuple ds => !ds.isEmpty
  | .dict kvs => !kvs.isEmpty
def truM (w : W) : M Bool := fun S => match w with
  | .d (.str x) => if x.length ≤ sizeLine then .ok (truD (.str x)) S else .no
  | .d d => .ok (truD d) S
  | .r n => (match S[n]? with
    | some (.lst ws) => .ok (!ws.isEmpty) S
    | some (.dct kvs) => .ok (!kvs.isEmpty) S
    | _ => .no)
  | _ => .no
abbrev orX (f g : Env → M W) : Env → M W := fun δ => bd (f δ) fun x => bd (truM x) fun k => if k = true then pr x else g δ
theorem empty_len {α β : Type} {F : α → β → Prop} {xs : List α} {ys : List β} (p : Paired F xs ys) : xs.isEmpty = ys.isEmpty := by cases p <;> rfl
theorem truM_rep {K : PySem.W.Frag} {S : Sto} {ρ : Pl} {H : Hp} {w : W} {v : V} {P : Bool → Sto → Prop} {E : Ex → Sto → Prop} (g : Gives (truM w S) P E) (R : Rel K S ρ H) (r : RW K ρ H (Live S ρ) w v) : ∃ k, TruV K v H k ∧ P k S := by
  unfold truM at g
  split at g
  · rename_i x
    split at g
    · rename_i hl
      have r : Rp K H (Live S ρ) v (.str x) := r
      cases r
      exact ⟨_, ⟨hl, rfl⟩, g⟩
    · exact g.elim
  · rename_i d hd
    have r : Rp K H (Live S ρ) v d := r
    refine ⟨truD d, ?_, g⟩
    cases d with
    | none => cases r; rfl
    | bool b => cases r; rfl
    | int i => cases r; rfl
    | str x => exact (hd x rfl).elim
    | list ds =>
      cases r with
      | @lst a xs _ q ra =>
        refine .inl ⟨xs, q.sq, ?_⟩
        show (!ds.isEmpty) = !xs.isEmpty
        have := ra.length
        cases xs <;> cases ds <;> simp_all
    | tuple ds =>
      cases r with
      | @tup a xs _ q ra =>
        refine .inr (.inl ⟨xs, q.sq, ?_⟩)
        show (!ds.isEmpty) = !xs.isEmpty
        have := ra.length
        cases xs <;> cases ds <;> simp_all
    | dict kvs =>
      cases r with
      | dct q =>
        obtain ⟨⟨kus, e, n⟩, _⟩ := q
        refine .inr (.inr ⟨kus, e, ?_⟩)
        show (!kvs.isEmpty) = !kus.isEmpty
        cases kvs <;> cases kus <;> simp_all
  · rename_i n
    obtain ⟨a, h1, rfl⟩ := r
    split at g
    · rename_i ws e
      obtain ⟨a', ho, y1, y2, vs, y3, y4⟩ := R.ob n _ e rfl
      rw [h1] at y1; cases y1
      subst y3
      exact ⟨_, .inl ⟨vs, .inl (.inl y2), by rw [empty_len y4]⟩, g⟩
    · rename_i kvs e
      obtain ⟨a', ho, y1, y2, kus, y3, y4⟩ := R.ob n _ e rfl
      rw [h1] at y1; cases y1
      subst y3
      exact ⟨_, .inr (.inr ⟨kus, y2, by rw [empty_len y4]⟩), g⟩
    · exact g.elim
  · exact g.elim
theorem dv_orX {X : Cx} {Z : XZ} {pos : Pos} {a b : Expr} {rest : List Expr} {fa fb : Env → M W} (ha : PE X a (tE X.K Z fa)) (hb : PE X (.BoolOp .Or (b :: rest) pos) (tE X.K Z fb)) : PE X (.BoolOp .Or (a :: b :: rest) pos) (tE X.K Z (orX fa fb)) := by
  refine (pe_orT ha hb).imp fun σ H Q h => ?_
  refine (tH.bind (Rα := RW X.K) (f := fa) (g := fun δ x => bd (truM x) fun k => if k = true then pr x else fb δ) h Stb.env).mono fun x H1 ⟨⟨δ, w⟩, S, ρ, R, ⟨re, rw⟩, g⟩ => ?_
  obtain ⟨k, hk, g⟩ := truM_rep (gives_bd g) R rw
  refine ⟨k, hk, ?_⟩
  cases k with
  | true => rw [if_pos rfl] at g ⊢; exact g ρ H1 x Ext.refl R rw
  | false => rw [if_neg Bool.false_ne_true] at g ⊢; exact ⟨δ, S, ρ, R, re, g⟩
namespace Ev
section
variable {f g : Env → M W} {ft gt : Env → M Bool} {δ : Env} {S S1 : Sto}
theorem andV_t (h : f δ S = .ok (okb true) S1) : andV f g δ S = g δ S1 := by unfold andV; rw [bd_ok h]; rfl
theorem andV_f (h : f δ S = .ok (okb false) S1) : andV f g δ S = .ok (okb false) S1 := by unfold andV; rw [bd_ok h]; rfl
theorem orV_t (h : f δ S = .ok (okb true) S1) : orV f g δ S = .ok (okb true) S1 := by unfold orV; rw [bd_ok h]; rfl
theorem orV_f (h : f δ S = .ok (okb false) S1) : orV f g δ S = g δ S1 := by unfold orV; rw [bd_ok h]; rfl
theorem andT_t (h : ft δ S = .ok true S1) : andT ft gt δ S = gt δ S1 := by unfold andT; rw [bd_ok h]; rfl
theorem andT_f (h : ft δ S = .ok false S1) : andT ft gt δ S = .ok false S1 := by unfold andT; rw [bd_ok h]; rfl
theorem orT_t (h : ft δ S = .ok true S1) : orT ft gt δ S = .ok true S1 := by unfold orT; rw [bd_ok h]; rfl
theorem orT_f (h : ft δ S = .ok false S1) : orT ft gt δ S = gt δ S1 := by unfold orT; rw [bd_ok h]; rfl
theorem ifV_t (h : ft δ S = .ok true S1) : ifV ft f g δ S = f δ S1 := by unfold ifV; rw [bd_ok h]; rfl
theorem ifV_f (h : ft δ S = .ok false S1) : ifV ft f g δ S = g δ S1 := by unfold ifV; rw [bd_ok h]; rfl
theorem not_ok {b : Bool} (h : ft δ S = .ok b S1) : notT ft δ S = .ok (!b) S1 := by unfold notT; rw [bd_ok h]; rfl
/-- two tests, both known -/
theorem andT_b {a b : Bool} (h : ft δ S = .ok a S1) (h2 : a = true → gt δ S1 = .ok b S1) : andT ft gt δ S = .ok (a && b) S1 := by
  cases a with
  | true => rw [andT_t h, h2 rfl]; rfl
  | false => rw [andT_f h]; rfl
theorem orT_b {a b : Bool} (h : ft δ S = .ok a S1) (h2 : a = false → gt δ S1 = .ok b S1) : orT ft gt δ S = .ok (a || b) S1 := by
  cases a with
  | true => rw [orT_t h]; rfl
  | false => rw [orT_f h, h2 rfl]; rfl
theorem andV_b {a b : Bool} (h : f δ S = .ok (okb a) S1) (h2 : a = true → g δ S1 = .ok (okb b) S1) : andV f g δ S = .ok (okb (a && b)) S1 := by
  cases a with
  | true => rw [andV_t h, h2 rfl]; rfl
  | false => rw [andV_f h]; rfl
theorem one_ok {fa : Env → M W} {w : W} (h : fa δ S = .ok w S1) : consM fa nilM δ S = .ok [w] S1 := cons_ok h rfl
end
/-- a list or a tuple -/
def sq : Bool → List D → D
  | true, ds => .list ds
  | false, ds => .tuple ds
section
variable {S : Sto} {k : Bool} {ds : List D}
theorem seq_sq : seqOf (.d (sq k ds)) S = some (k, ds.map .d) := by cases k <;> rfl
theorem item_sq {i : Int} {x : D} (h : atI ds i = some x) : itemM (.d (sq k ds)) (.d (.int i)) S = .ok (.d x) S := by
  cases k
  · exact item_t h
  · exact item_l h
theorem len_sq : lenDM [.d (sq k ds)] S = .ok (.d (.int ds.length)) S := by
  cases k <;> simp [sq, lenDM, lenM, seqOf]
theorem iter_sq : iterM (.d (sq k ds)) S = .ok (ds.map .d) S := by cases k <;> rfl
theorem isi_sq : isiM [.lst, .tup] (.d (sq k ds)) S = .ok (okb true) S := by cases k <;> rfl
theorem isi_str_sq : isiM [.str] (.d (sq k ds)) S = .ok (okb false) S := by cases k <;> rfl
theorem eq_str (a b : Str) : eqM (.d (.str a)) (.d (.str b)) S = .ok (okb (decide (a = b))) S := by
  rw [eq_d (by intro q; cases q) (by simp [PyData.depth]) (by simp only [nd]) (by simp only [nd]), eqv_str]
theorem ne_str (a b : Str) : neM (.d (.str a)) (.d (.str b)) S = .ok (okb (!decide (a = b))) S := by
  rw [ne_d (by intro q; cases q) (by simp [PyData.depth]) (by simp only [nd]) (by simp only [nd]), eqv_str]
theorem eqv_int (a b : Int) : PyData.eqv (.int a) (.int b) = decide (a = b) := by
  rw [PyData.eqv]
  by_cases h : a = b
  · subst h; simp
  · simp [h]
theorem eq_int (a b : Int) : eqM (.d (.int a)) (.d (.int b)) S = .ok (okb (decide (a = b))) S := by
  rw [eq_d (by intro q; cases q) (by simp [PyData.depth]) (by simp only [nd]) (by simp only [nd]), eqv_int]
theorem ne_int (a b : Int) : neM (.d (.int a)) (.d (.int b)) S = .ok (okb (!decide (a = b))) S := by
  rw [ne_d (by intro q; cases q) (by simp [PyData.depth]) (by simp only [nd]) (by simp only [nd]), eqv_int]
theorem lt_int (a b : Int) : ltM (.d (.int a)) (.d (.int b)) S = .ok (okb (decide (a < b))) S := rfl
theorem gt_int (a b : Int) : gtM (.d (.int a)) (.d (.int b)) S = .ok (okb (decide (b < a))) S := rfl
theorem le_int (a b : Int) : leM (.d (.int a)) (.d (.int b)) S = .ok (okb (decide (a ≤ b))) S := rfl
theorem ge_int (a b : Int) : geM (.d (.int a)) (.d (.int b)) S = .ok (okb (decide (b ≤ a))) S := rfl
theorem add_int (a b : Int) : addM (.d (.int a)) (.d (.int b)) S = .ok (.d (.int (a + b))) S := rfl
theorem sub_int (a b : Int) : subM (.d (.int a)) (.d (.int b)) S = .ok (.d (.int (a - b))) S := rfl
theorem ndA_strs : ∀ ks : List Str, ndA (ks.map PyData.str) = true
  | [] => by simp only [List.map_nil, ndA]
  | k :: ks => by
    have := ndA_strs ks
    simp only [List.map_cons, ndA, nd, this, Bool.and_self]
theorem in_strT (z : Str) (ks : List Str) : inM (.d (.str z)) (.d (sq k (ks.map .str))) S = .ok (okb (decide (z ∈ ks))) S := by
  cases k
  · show (if _ then _ else _ : Res W) = _
    rw [if_pos ⟨by simp [PyData.depth], by simp only [nd], ndA_strs ks⟩, in_strs]
  · show (if _ then _ else _ : Res W) = _
    rw [if_pos ⟨by simp [PyData.depth], by simp only [nd], ndA_strs ks⟩, in_strs]
theorem notIn_strT (z : Str) (ks : List Str) : notInM (.d (.str z)) (.d (sq k (ks.map .str))) S = .ok (okb (!decide (z ∈ ks))) S := by
  cases k
  · show (if _ then _ else _ : Res W) = _
    rw [if_pos ⟨by simp [PyData.depth], by simp only [nd], ndA_strs ks⟩, in_strs]
  · show (if _ then _ else _ : Res W) = _
    rw [if_pos ⟨by simp [PyData.depth], by simp only [nd], ndA_strs ks⟩, in_strs]
def isN : D → Bool
  | .none => true
  | _ => false
theorem is_n (d : D) : isM (.d d) (.d .none) S = .ok (okb (isN d)) S := by cases d <;> rfl
theorem isnt_n (d : D) : isNotM (.d d) (.d .none) S = .ok (okb (!isN d)) S := by cases d <;> rfl
theorem bools_map : ∀ bs : List Bool, bools (bs.map .bool) = some bs
  | [] => rfl
  | b :: bs => by simp [bools, bools_map bs]
theorem any_ok (bs : List Bool) : anyM [.d (.list (bs.map .bool))] S = .ok (okb (bs.any id)) S := by
  unfold anyM
  simp only [toD, bools_map]
theorem all_ok (bs : List Bool) : allM [.d (.list (bs.map .bool))] S = .ok (okb (bs.all id)) S := by
  unfold allM
  simp only [toD, bools_map]
theorem eq_nil (ds : List D) : eqM (.d (.list ds)) (.d (.list [])) S = .ok (okb ds.isEmpty) S := by
  unfold eqM
  rw [if_pos (show isNil (W.d (PyData.list [])) = true from rfl)]
  simp [seqOf]
theorem nil_lst : (fun δ => bd (nilM δ) lstM : Env → M W) = fun _ S => .ok (.d (.list [])) S := by
  funext δ S
  rfl
end
/-! ### a list of the store, walked as it stands -/
theorem live_at {n i : Nat} {S : Sto} {ws : List W} (h : S[n]? = some (.lst ws)) : liveW n i S = some ws[i]? := by unfold liveW; rw [h]
theorem compW_live {own : List Nat} {g : W → Env → M Env} {t : Env → M Bool} {e : Env → M W} {δ : Env} {S : Sto} {n : Nat} {ws : List W} (hS : S[n]? = some (.lst ws)) (p : W → Bool) (φ : W → W)
    (h : ∀ w ∈ ws, ∃ δ1, g w (wipeE δ own) S = .ok δ1 S ∧ t δ1 S = .ok (p w) S ∧ (p w = true → e δ1 S = .ok (φ w) S)) : ∀ (f i : Nat), i ≤ ws.length → ws.length < f + i → compW own (liveW n) g t e f i δ S = .ok (((ws.drop i).filter p).map φ) S
  | 0, i, hi, hf => by omega
  | f + 1, i, hle, hf => by
    unfold compW
    simp only [live_at hS]
    cases hi : ws[i]? with
    | none =>
      have : ws.length ≤ i := List.getElem?_eq_none_iff.mp hi
      simp [List.drop_eq_nil_of_le this]
    | some w =>
      have hl : i < ws.length := (List.getElem?_eq_some_iff.mp hi).1
      have hw : ws[i] = w := (List.getElem?_eq_some_iff.mp hi).2
      obtain ⟨δ1, h1, h2, h3⟩ := h w (List.mem_of_getElem? hi)
      have ih := compW_live hS p φ h f (i + 1) hl (by omega)
      rw [List.drop_eq_getElem_cons hl, hw]
      simp only
      rw [bd_ok (noEx_ok h1), bd_ok (noEx_ok h2)]
      cases hp : p w with
      | true =>
        simp only [if_true]
        rw [bd_ok (noEx_ok (h3 hp)), bd_ok ih, List.filter_cons_of_pos hp]
        rfl
      | false =>
        simp only [Bool.false_eq_true, if_false]
        rw [ih, List.filter_cons_of_neg (by simp [hp])]
end Ev
end DL
/-! DL42: errors, loops, the pen, picks, in plain Lean. -/
namespace DL.Ev
open PySem PySem.Spec PyProof.Rows L2 DL

theorem bd_ex {α β : Type} {m : M α} {f : α → M β} {S S' : Sto} {x : DL.Ex} (h : m S = .ex x S') : bd m f S = .ex x S' := by unfold bd; rw [h]
theorem run_nx {k n : Nat} {b : Env → M Fl} {ws : List W} {δ : Env} {S S' : Sto} (hl : ws.length = k) (h : b (ws.map some ++ List.replicate (n - k) none) S = .ok (.nx δ) S') : runD k n b ws S = .ok (.d .none) S' := by unfold runD; rw [if_pos hl, bd_ok h]; rfl
theorem run_ex {k n : Nat} {b : Env → M Fl} {ws : List W} {x : DL.Ex} {S S' : Sto} (hl : ws.length = k) (h : b (ws.map some ++ List.replicate (n - k) none) S = .ex x S') : runD k n b ws S = .ex x S' := by unfold runD; rw [if_pos hl, bd_ex h]
theorem cal_ex {fr : Env → M (List W)} {fo : List W → M W} {δ : Env} {ws : List W} {x : DL.Ex} {S S' S'' : Sto} (h : fr δ S = .ok ws S') (h2 : fo ws S' = .ex x S'') : calM fr fo δ S = .ex x S'' := by unfold calM; rw [bd_ok h]; exact h2
theorem seq_ex {f g : Env → M Fl} {δ : Env} {x : DL.Ex} {S S' : Sto} (h : f δ S = .ex x S') : seqM f g δ S = .ex x S' := by unfold seqM; rw [bd_ex h]
theorem pureX_ok {F : List W → M W} {ws : List W} {ds : List D} {x : D} {S S0 : Sto} (hd : allD ws = some ds) (h : F ws [] = .ok (.d x) S0) : pureX F ws S = .ok (.d x) S := by unfold pureX; rw [hd]; simp only [h]
theorem pureX_ex {F : List W → M W} {ws : List W} {ds : List D} {x : DL.Ex} {S S0 : Sto} (hd : allD ws = some ds) (h : F ws [] = .ex x S0) : pureX F ws S = .ex x S := by unfold pureX; rw [hd]; simp only [h]
theorem loop_cons {g : W → Env → M Env} {b : Env → M Fl} {w : W} {ws : List W} {δ δ1 δ2 : Env} {S S1 S2 : Sto} (h1 : g w δ S = .ok δ1 S1) (h2 : b δ1 S1 = .ok (.nx δ2) S2) : forL g b (w :: ws) δ S = forL g b ws δ2 S2 := by
  conv => lhs; unfold forL
  rw [bd_ok h1, bd_ok h2]
theorem loop_rt {g : W → Env → M Env} {b : Env → M Fl} {w v : W} {ws : List W} {δ δ1 : Env} {S S1 S2 : Sto} (h1 : g w δ S = .ok δ1 S1) (h2 : b δ1 S1 = .ok (.rt v) S2) : forL g b (w :: ws) δ S = .ok (.rt v) S2 := by
  conv => lhs; unfold forL
  rw [bd_ok h1, bd_ok h2]
  rfl
theorem lst_small {ds : List D} {S : Sto} (h : ds.length ≤ 1000000) : lstM (ds.map .d) S = .ok (.d (.list ds)) S := lst_ok (allD_map ds) (by rw [List.length_map]; exact Nat.le_trans h small2)
theorem tup_small {ds : List D} {S : Sto} (h : ds.length ≤ 1000000) : tupM (ds.map .d) S = .ok (.d (.tuple ds)) S := tup_ok (allD_map ds) (by rw [List.length_map]; exact Nat.le_trans h small2)
theorem set_same {S : Sto} {n : Nat} {o : Ob} (h : S[n]? = some o) : S.set n o = S := by
  obtain ⟨hl, e⟩ := List.getElem?_eq_some_iff.mp h
  rw [← e]
  exact List.set_getElem_self hl
theorem pen_same {S : Sto} {n : Nat} {c : Int} (h : Pen S n c) : ∃ o, S.set n o = S := by
  obtain ⟨_, _, _, q, _⟩ := h.ex
  exact ⟨_, set_same q⟩
theorem take_set {S : Sto} {n : Nat} {o : Ob} : (S.set n o).take n = S.take n := by
  induction S generalizing n with
  | nil => rfl
  | cons a S ih => cases n with
    | zero => rfl
    | succ n => simp [ih]
theorem heardG_ex {P : Addr} {q : Str} {RR : W → M W} {RE : DL.Ex → M W} {ws : List W} {js : List Nat} {fb : Env → M W} {δ : Env} {S S1 S2 : Sto} {x : DL.Ex} {w : W} (h0 : S[0]? = some (.tab P q)) (hb : fb (lamW ws js δ) S = .ex x S1) (hr : RE x S1 = .ok w S2) : heardG P q RR RE ws js fb δ S = .ok w S2 := by
  unfold heardG
  simp only [h0]
  rw [if_pos ⟨trivial, trivial⟩, hb]
  exact noEx_ok hr
theorem heardG_ok {P : Addr} {q : Str} {RR : W → M W} {RE : DL.Ex → M W} {ws : List W} {js : List Nat} {fb : Env → M W} {δ : Env} {S S1 S2 : Sto} {v w : W} (h0 : S[0]? = some (.tab P q)) (hb : fb (lamW ws js δ) S = .ok v S1) (hr : RR v S1 = .ok w S2) : heardG P q RR RE ws js fb δ S = .ok w S2 := by
  unfold heardG
  simp only [h0]
  rw [if_pos ⟨trivial, trivial⟩, hb]
  exact noEx_ok hr
/-- one of some things -/
abbrev pickF (FD : List W → M W) : List W → M W := runD 2 2 (retM (binM (varM 1) (calM (consM (varM 0) (consM (calM (consM (varM 1) nilM) lenDM) nilM)) fun ws => noEx (FD ws)) itemM))
theorem pick_of {FD : List W → M W} (draw : Draws FD) {S : Sto} {n : Nat} {c : Int} {ds : List D} (h : Pen S n c) (hc : c < 1048576) (h1 : ds ≠ []) (h2 : ds.length < 1000) : ∃ d ∈ ds, ∃ o, pickF FD [.r n, .d (.list ds)] S = .ok (.d d) (S.set n o) ∧ Pen (S.set n o) n (c + 1) := by
  have hp : 0 < ds.length := List.length_pos_iff.mpr h1
  obtain ⟨k, o, e, k1, k2, hp'⟩ := draw S n c (ds.length : Int) h hc (by omega) (by omega)
  obtain ⟨d, hd, ha⟩ := atI_ok k1 k2
  refine ⟨d, hd, o, ?_, hp'⟩
  refine run_rt rfl ?_
  refine ret_ok (bin_ok (x := .d (.list ds)) (y := .d (.int k)) (S1 := S) (S2 := S.set n o) rfl (cal_ok (ws := [.r n, .d (.int (ds.length : Int))]) (S' := S) (cons_ok (S1 := S) rfl (cons_ok (S1 := S) ?_ rfl)) (noEx_ok e)) (item_l ha))
  refine cal_ok (ws := [.d (.list ds)]) (S' := S) rfl ?_
  simp [lenDM, lenM, seqOf]
theorem add_t {a b : List D} {S : Sto} (h : a.length + b.length ≤ 1000000) : addM (.d (.tuple a)) (.d (.tuple b)) S = .ok (.d (.tuple (a ++ b))) S := by
  show tupM (a.map .d ++ b.map .d) S = _
  rw [← List.map_append]
  exact tup_small (by rw [List.length_append]; exact h)
theorem add_l {a b : List D} {S : Sto} (h : a.length + b.length ≤ 1000000) : addM (.d (.list a)) (.d (.list b)) S = .ok (.d (.list (a ++ b))) S := by
  show lstM (a.map .d ++ b.map .d) S = _
  rw [← List.map_append]
  exact lst_small (by rw [List.length_append]; exact h)
theorem cut_mem {α : Type} {xs : List α} {lo hi : Option Int} {x : α} (h : x ∈ cutL xs lo hi) : x ∈ xs := List.mem_of_mem_drop (List.mem_of_mem_take h)
theorem cut_len {α : Type} (xs : List α) (lo hi : Option Int) : (cutL xs lo hi).length ≤ xs.length := by
  unfold cutL
  rw [List.length_take, List.length_drop]
  omega
/-- a comprehension whose items draw -/
theorem comp_penP {own : List Nat} {g : W → Env → M Env} {e : Env → M W} {δ : Env} {n : Nat} {B : Int} (hB : 0 ≤ B) (Q : W → D → Prop) : ∀ (ws : List W) (S : Sto) (c : Int), Pen S n c → c + B * ws.length < 1048576 →
    (∀ w ∈ ws, ∀ (S : Sto) (c : Int), Pen S n c → c + B < 1048576 → ∃ (d : D) (o : Ob) (δ1 : Env), g w (wipeE δ own) S = .ok δ1 S ∧ e δ1 S = .ok (.d d) (S.set n o) ∧ Pen (S.set n o) n (c + B) ∧ Q w d) →
    ∃ (ds : List D) (o : Ob), compL own g yesT e ws δ S = .ok (ds.map .d) (S.set n o) ∧ Pen (S.set n o) n (c + B * ws.length) ∧ Paired Q ws ds
  | [], S, c, h, _, _ => by
    obtain ⟨o, e⟩ := pen_same h
    exact ⟨[], o, by rw [e]; rfl, by rw [e]; exact h.mono (by simp), .nil⟩
  | w :: ws, S, c, h, hc, hR => by
    have e1 : B * ((w :: ws).length : Int) = B * (ws.length : Int) + B := by
      rw [List.length_cons, Int.natCast_add, Int.mul_add]
      simp
    have e2 : 0 ≤ B * (ws.length : Int) := Int.mul_nonneg hB (by omega)
    rw [e1] at hc ⊢
    obtain ⟨d, o, δ1, h1, h2, h3, h4⟩ := hR w (.head _) S c h (by omega)
    obtain ⟨ds, o2, k1, k2, k3⟩ := comp_penP hB Q ws (S.set n o) (c + B) h3 (by omega) fun w q => hR w (.tail _ q)
    rw [set_set] at k1 k2
    refine ⟨d :: ds, o2, ?_, k2.mono (by omega), .cons h4 k3⟩
    unfold compL
    rw [bd_ok (noEx_ok h1), bd_ok (noEx_ok (show yesT δ1 S = .ok true S from rfl))]
    simp only [if_true]
    rw [bd_ok (noEx_ok h2), bd_ok k1]
    rfl
theorem paired_mem {Q : W → D → Prop} {ws : List W} {ds : List D} (h : Paired Q ws ds) : ds.length = ws.length ∧ ∀ d ∈ ds, ∃ w ∈ ws, Q w d := by
  induction h with
  | nil => exact ⟨rfl, fun d q => by cases q⟩
  | cons a _ ih =>
    refine ⟨by simp [ih.1], fun x hx => ?_⟩
    rcases List.mem_cons.mp hx with rfl | hx
    · exact ⟨_, .head _, a⟩
    · obtain ⟨w', q, z⟩ := ih.2 x hx
      exact ⟨w', .tail _ q, z⟩
theorem comp_pen {own : List Nat} {g : W → Env → M Env} {e : Env → M W} {δ : Env} {n : Nat} {B : Int} (hB : 0 ≤ B) (Q : W → D → Prop) (ws : List W) (S : Sto) (c : Int) (h : Pen S n c) (hc : c + B * ws.length < 1048576)
    (hR : ∀ w ∈ ws, ∀ (S : Sto) (c : Int), Pen S n c → c + B < 1048576 → ∃ (d : D) (o : Ob) (δ1 : Env), g w (wipeE δ own) S = .ok δ1 S ∧ e δ1 S = .ok (.d d) (S.set n o) ∧ Pen (S.set n o) n (c + B) ∧ Q w d) :
    ∃ (ds : List D) (o : Ob), compL own g yesT e ws δ S = .ok (ds.map .d) (S.set n o) ∧ Pen (S.set n o) n (c + B * ws.length) ∧ ds.length = ws.length ∧ ∀ d ∈ ds, ∃ w ∈ ws, Q w d := by
  obtain ⟨ds, o, k1, k2, k3⟩ := comp_penP hB Q ws S c h hc hR
  exact ⟨ds, o, k1, k2, paired_mem k3⟩
end DL.Ev
namespace DL.k27
open PySem PySem.Spec PyProof.Rows L2 DL
def topS (i : Nat) : Stmt := PySem.Challenge.pw_modulesmeet_k27_types_refused.main.body.getD i (.Pass ⟨0, 0, 0, 0⟩)
abbrev s_is_listed : Stmt := topS 18
abbrev s_is_name : Stmt := topS 20
abbrev s_words_of : Stmt := topS 29
abbrev s_text_of : Stmt := topS 30
abbrev s_typed_fields : Stmt := topS 40
abbrev s_typed : Stmt := topS 41
abbrev s_is_type : Stmt := topS 42
abbrev s_need_type : Stmt := topS 43
abbrev s_listed : Stmt := topS 46
abbrev s_values_in : Stmt := topS 47
abbrev s_values_of : Stmt := topS 48
abbrev s_has : Stmt := topS 50
abbrev s_within : Stmt := topS 51
abbrev s__law_pen : Stmt := topS 53
abbrev s__law_draw : Stmt := topS 54
abbrev s__law_pick : Stmt := topS 55
abbrev s__law_drawn_kind : Stmt := topS 56
abbrev s__law_heard : Stmt := topS 57
abbrev s__law_is_name : Stmt := topS 58
abbrev s__law_is_type : Stmt := topS 59
abbrev s__law_bent : Stmt := topS 60
abbrev s_law : Stmt := topS 61
abbrev s_Book___init__ : Stmt := memOf (topS 2) 0
abbrev s_Book_put : Stmt := memOf (topS 2) 1
abbrev s_Book_size : Stmt := memOf (topS 2) 7
abbrev s_Book_all_keys : Stmt := memOf (topS 2) 8
abbrev cs_BadType : Stmt := topS 6
def c_WORDS : List Str := ["atom", "call", "case", "either", "else", "ask", "field", "get", "has", "let", "never", "or", "pick", "put", "raise", "record", "tag", "try", "with", "without"]
def errs : List Str := ["BadType"]
def qL_law : Str := (envOfC "law" (defScope s_law) 0 0 .none).qual ++ "<lambda>"
def qL_typed_fields : Str := (envOfC "typed_fields" (defScope s_typed_fields) 0 0 .none).qual ++ "<lambda>"
/-- what the walk leans on -/
structure Tx (P : Program) (K : PySem.W.Frag) (mg : Str → Option Value) (ad : Nat → Addr) (fd : Nat → FuncData) : Prop where
  d_is_listed : DefOk K mg "is_listed" s_is_listed ["value"] (ad 0) (fd 0)
  d_is_name : DefOk K mg "is_name" s_is_name ["value"] (ad 1) (fd 1)
  d_words_of : DefOk K mg "words_of" s_words_of ["value"] (ad 2) (fd 2)
  d_text_of : DefOk K mg "text_of" s_text_of ["value"] (ad 3) (fd 3)
  d_typed_fields : DefOk K mg "typed_fields" s_typed_fields ["rows", "most", "deep"] (ad 4) (fd 4)
  d_typed : DefD K mg "typed" s_typed ["value", "most", "deep"] (ad 5) (fd 5)
  d_is_type : DefOk K mg "is_type" s_is_type ["value"] (ad 6) (fd 6)
  d_need_type : DefOk K mg "need_type" s_need_type ["value", "part"] (ad 7) (fd 7)
  d_listed : DefOk K mg "listed" s_listed ["kind"] (ad 8) (fd 8)
  d_values_in : DefOk K mg "values_in" s_values_in ["kind"] (ad 9) (fd 9)
  d_values_of : DefOk K mg "values_of" s_values_of ["told"] (ad 10) (fd 10)
  d_has : DefOk K mg "has" s_has ["told", "value"] (ad 11) (fd 11)
  d_within : DefOk K mg "within" s_within ["one", "other"] (ad 12) (fd 12)
  d__law_pen : DefOk K mg "_law_pen" s__law_pen ["script"] (ad 13) (fd 13)
  d__law_draw : DefOk K mg "_law_draw" s__law_draw ["pen", "many"] (ad 14) (fd 14)
  d__law_pick : DefOk K mg "_law_pick" s__law_pick ["pen", "some"] (ad 15) (fd 15)
  d__law_drawn_kind : DefOk K mg "_law_drawn_kind" s__law_drawn_kind ["pen", "deep"] (ad 16) (fd 16)
  d__law_heard : DefOk K mg "_law_heard" s__law_heard ["ask"] (ad 17) (fd 17)
  d__law_is_name : DefOk K mg "_law_is_name" s__law_is_name ["value"] (ad 18) (fd 18)
  d__law_is_type : DefOk K mg "_law_is_type" s__law_is_type ["value", "high", "deep"] (ad 19) (fd 19)
  d__law_bent : DefOk K mg "_law_bent" s__law_bent ["pen", "kind"] (ad 20) (fd 20)
  d_law : DefOk K mg "law" s_law ["script"] (ad 21) (fd 21)
  x_Book___init__ : MakOk K mg "Book" "Book.__init__" s_Book___init__ ["self"] (ad 22) (fd 22)
  x_Book_put : MetOk K "Book" "put" "Book.put" s_Book_put ["self", "key", "told"] (ad 23) (fd 23)
  x_Book_size : MetOk K "Book" "size" "Book.size" s_Book_size ["self"] (ad 24) (fd 24)
  x_Book_all_keys : MetOk K "Book" "all_keys" "Book.all_keys" s_Book_all_keys ["self"] (ad 25) (fd 25)
  b_typed_1 : DflOk K (fd 5) ["value", "most", "deep"] [.d (.int 8), .d (.int 0)]
  m_isinstance : mg "isinstance" = none
  m_list : mg "list" = none
  m_tuple : mg "tuple" = none
  m_str : mg "str" = none
  m_len : mg "len" = none
  m_all : mg "all" = none
  m_bool : mg "bool" = none
  m_sorted : mg "sorted" = none
  m_any : mg "any" = none
  m_repr : mg "repr" = none
  m_int : mg "int" = none
  m_abs : mg "abs" = none
  m_range : mg "range" = none
  r_BadType : RaiseTx P K mg "BadType" "part" "bad type"
  k_TooMany : KindTx K mg "TooMany" [("BadType", false)]
  k_NoName : KindTx K mg "NoName" [("BadType", false)]
  k_BadText : KindTx K mg "BadText" [("BadType", false)]
  k_BadType : KindTx K mg "BadType" [("BadType", true)]
  k_BadValue : KindTx K mg "BadValue" [("BadType", false)]
  k_BadSignature : KindTx K mg "BadSignature" [("BadType", false)]
  k_BadModule : KindTx K mg "BadModule" [("BadType", false)]
  k_BadProgram : KindTx K mg "BadProgram" [("BadType", false)]
  k_Misfit : KindTx K mg "Misfit" [("BadType", false)]
  c_MeetError : CatchTx K mg "MeetError" ["BadType"]
  f_BadType_part : FieldTx K "BadType" "part"
  y_kept : FldTx K "kept" ["Book"]
  c_LONGEST : ∃ t, mg "LONGEST" = some (.int 8 t)
  c_WORDS : ∃ a, mg "WORDS" = some (.ref a) ∧ SqTw K a (c_WORDS.map V.str)
  c_LETTERS : ∃ t, mg "LETTERS" = some (.str "abcdefghijklmnopqrstuvwxyz" t)
  c_MOST_FIELDS : ∃ t, mg "MOST_FIELDS" = some (.int 60 t)
  c_MOST_DEEP : ∃ t, mg "MOST_DEEP" = some (.int 24 t)
  c_ATOM : ∃ t, mg "ATOM" = some (.str "atom" t)
  c_NEVER : ∃ t, mg "NEVER" = some (.str "never" t)
  c_TAG : ∃ t, mg "TAG" = some (.str "tag" t)
  c_RECORD : ∃ t, mg "RECORD" = some (.str "record" t)
  c_OR : ∃ t, mg "OR" = some (.str "or" t)
  c_MOST_VALUES : ∃ t, mg "MOST_VALUES" = some (.int 60 t)
/-- the tables of code objects -/
structure Ux (base : Heap) (mg : Str → Option Value) (K : PySem.W.Frag) (ad : Nat → Addr) (c0 P0 c1 P1 : Addr) : Prop where
  u0 : UxT base mg K (ad 21) c0 P0
  u1 : UxT base mg K (ad 4) c1 P1
section
variable {P : Program} {w : World} {K : PySem.W.Frag} {mg : Str → Option Value} {base : Heap} {ad : Nat → Addr} {fd : Nat → FuncData}
theorem kb_0 {f : Addr} {fd : FuncData} (h : DefOk K mg "is_type" s_is_type ["value"] f fd) : KB K fd ["value"] ["value"] (gP 0 1 [0]) (gP 0 1 [0]) (gP 0 1 [0]) :=
  kb_pick h (by decide) fun _ _ _ _ _ _ us ws h1 h2 => match us, ws, h1, h2 with | [], [_], _, _ => rfl
/-! is_listed -/
abbrev N_is_listed : List Str := ["value"]
theorem sc_is_listed : FnScope ["value"] ["value"] (defScope s_is_listed) := ⟨rfl, rfl, rfl, by decide +kernel, rfl, by decide +kernel, by decide +kernel⟩
def st_is_listed_1 : Env → M Fl :=
 (retM (fun δ => bd ((varM 0) δ) (isiM [.lst, .tup])))
def b_is_listed : Env → M Fl :=
 st_is_listed_1
def F_is_listed : List W → M W := pureM (runD 1 1 b_is_listed)
theorem g_is_listed (T : Tx P K mg ad fd) : FnG P w K mg base CX0 1 (ad 0) (fd 0) ["value"] (spF K (fun _ => ZF) F_is_listed) := by
  refine fn_pure (fn_runC T.d_is_listed.fn.any sc_is_listed rfl rfl fun cdv A outer s H E hco hr hG => ?_)
  unfold b_is_listed
  exact (
 (ds_one (ds_ret (disi2 (T := .lst) (U := .tup) rfl T.m_isinstance rfl T.m_list bl_list rfl T.m_tuple bl_tuple (dvar (i := 0))))))
/-! is_name -/
abbrev N_is_name : List Str := ["value", "sign"]
theorem sc_is_name : FnScope ["value", "sign"] ["value"] (defScope s_is_name) := ⟨rfl, rfl, rfl, by decide +kernel, rfl, by decide +kernel, by decide +kernel⟩
def st_is_name_1 : Env → M Fl :=
 (ifM (orT (notT (valT (fun δ => bd ((varM 0) δ) (isiM [.str])))) (orT (notT (valT (chainM (cM (.int 1)) (calM (consM (varM 0) nilM) lenDM) (cM (.int 8)) leM leM))) (valT (binM (varM 0) (cM (.tuple (c_WORDS.map .str))) inM)))) (retM (cM (.bool false))) skipM)
def st_is_name_2 : Env → M Fl :=
 (retM (calM (consM (lcM [1] (fun δ => bd ((varM 0) δ) iterM) (setG 1) yesT (binM (varM 1) (cM (.str "abcdefghijklmnopqrstuvwxyz")) inM)) nilM) allM))
def b_is_name : Env → M Fl :=
 (seqM st_is_name_1
 st_is_name_2)
def F_is_name : List W → M W := pureM (runD 1 2 b_is_name)
theorem g_is_name (T : Tx P K mg ad fd) : FnG P w K mg base CX0 1 (ad 1) (fd 1) ["value"] (spF K (fun _ => ZF) F_is_name) := by
  refine fn_pure (fn_runC T.d_is_name.fn.any sc_is_name rfl rfl fun cdv A outer s H E hco hr hG => ?_)
  unfold b_is_name
  exact (
 (ds_cons (ds_if (dt_bool (dw_or (dt_not (dt_val (disi1 (T := .str) rfl T.m_isinstance rfl T.m_str bl_str (dvar (i := 0))))) (dw_or (dt_not (dt_chain o_le o_le dint (dcallB c_lenD rfl T.m_len bl_len (dacons (dvar (i := 0)) danil)) (dgint T.c_LONGEST rfl))) (dw_or1 (dt_cmp (o_in (room66 hr)) (dvar (i := 0)) (dgstrs T.c_WORDS (by decide +kernel) rfl)))))) (ds_one (ds_ret dbl)) ds_nil)
 (ds_one (ds_ret (dcallB (c_all rfl) rfl T.m_all bl_all (dacons (dlc (own := [("sign", 1)]) rfl sc_is_name.nd (di_val (dvar (i := 0))) (blkOk_by (N := N_is_name) (sc := defScope s_is_name) (by decide +kernel)) (fun _ _ _ _ _ => (dr_name (i := 1) sc_is_name.nd rfl (by first | exact Or.inl rfl | exact Or.inr rfl) (fun _ _ => wipe_set (by decide)))) (fun _ _ _ _ _ => dts_nil) (fun _ _ _ _ _ => (dcmp (o_in (room66 hr)) (dvar (i := 1)) (dgstr T.c_LETTERS (by decide +kernel) rfl)))) danil))))))
/-! words_of -/
abbrev N_words_of : List Str := ["value", "found", "name", "one"]
theorem sc_words_of : FnScope ["value", "found", "name", "one"] ["value"] (defScope s_words_of) := ⟨rfl, rfl, rfl, by decide +kernel, rfl, by decide +kernel, by decide +kernel⟩
def st_words_of_1 (R_words_of : List W → M W) : Env → M Fl :=
 (ifM (valT (binM (varM 0) (cM (.str "atom")) eqM)) (retM (fun δ => bd ((consM (cM (.str "atom")) nilM) δ) lstM)) skipM)
def st_words_of_2 (R_words_of : List W → M W) : Env → M Fl :=
 (ifM (valT (binM (binM (varM 0) (cM (.int 0)) itemM) (cM (.str "tag")) eqM)) (retM (fun δ => bd ((consM (cM (.str "(")) (consM (cM (.str "tag")) (consM (binM (varM 0) (cM (.int 1)) itemM) (starM (calM (consM (binM (varM 0) (cM (.int 2)) itemM) nilM) fun ws => noEx (R_words_of ws)) (consM (cM (.str ")")) nilM))))) δ) lstM)) skipM)
def st_words_of_3 (R_words_of : List W → M W) : Env → M Fl :=
 (asgM (fun δ => bd ((consM (cM (.str "(")) (consM (cM (.str "record")) nilM)) δ) newM) (setG 1))
def st_words_of_4 (R_words_of : List W → M W) : Env → M Fl :=
 (exprM (metM (varM 1) (consM (fun δ => bd ((consM (varM 2) (starM (calM (consM (varM 3) nilM) fun ws => noEx (R_words_of ws)) nilM)) δ) lstM) nilM) chkL extendM))
def body_words_of_1 (R_words_of : List W → M W) : Env → M Fl :=
 (st_words_of_4 R_words_of)
def st_words_of_5 (R_words_of : List W → M W) : Env → M Fl :=
 (retM (fun δ => bd ((starM (varM 1) (consM (cM (.str ")")) nilM)) δ) lstM))
def b_words_of (R_words_of : List W → M W) : Env → M Fl :=
 (seqM (st_words_of_1 R_words_of)
 (seqM (st_words_of_2 R_words_of)
 (seqM (st_words_of_3 R_words_of)
 (seqM (forM (fun δ => bd ((binM (varM 0) (cM (.int 1)) itemM) δ) iterM) (tupG 2 (consG (setG 2) (consG (setG 3) nilG))) (body_words_of_1 R_words_of))
 (st_words_of_5 R_words_of)))))
def F_words_of : Nat → List W → M W
  | 0 => fun _ => no
  | n + 1 => pureM (runD 1 4 (b_words_of (F_words_of n)))
theorem g_words_of (T : Tx P K mg ad fd) : ∀ n : Nat, FnG P w K mg base CX0 (1 + n) (ad 2) (fd 2) ["value"] (spF K (fun _ => ZF) (F_words_of n))
  | 0 => fn_none
  | n + 1 => by
    have ih_words_of := g_words_of T n
    show FnG P w K mg base CX0 (1 + (n + 1)) (ad 2) (fd 2) ["value"] (spF K (fun _ => ZF) (pureM (runD 1 4 (b_words_of (F_words_of n)))))
    refine fn_pure (fn_runC (j := 1 + n) T.d_words_of.fn.any sc_words_of rfl rfl fun cdv A outer s H E hco hr hG => ?_)
    unfold b_words_of
    exact (
 (ds_cons (ds_if (dt_cmp (o_eq (room65 hr)) (dvar (i := 0)) dstr) (ds_one (ds_ret (dlst (dacons dstr danil)))) ds_nil)
 (ds_cons (ds_if (dt_cmp (o_eq (room65 hr)) (dix x_item (dvar (i := 0)) dint) dstr) (ds_one (ds_ret (dlst (dacons dstr (dacons dstr (dacons (dix x_item (dvar (i := 0)) dint) (dastar (dcall (ih_words_of.mono (by omega)) hr hG rfl T.d_words_of.mg (keep_ok T.d_words_of) T.d_words_of.bd (dacons (dix x_item (dvar (i := 0)) dint) danil)) (dacons dstr danil)))))))) ds_nil)
 (ds_cons (ds_set (i := 1) sc_words_of.nd rfl (by first | exact Or.inl rfl | exact Or.inr rfl) (dnew (dacons dstr (dacons dstr danil))))
 (ds_cons (ds_for PassesOwn.never rfl (di_val (dix x_item (dvar (i := 0)) dint)) (dr_any (dr_tup rfl (drs_cons TR.any (dr_name (i := 2) sc_words_of.nd rfl (by first | exact Or.inl rfl | exact Or.inr rfl) (fun _ _ => trivial)) (drs_cons TR.any (dr_name (i := 3) sc_words_of.nd rfl (by first | exact Or.inl rfl | exact Or.inr rfl) (fun _ _ => trivial)) (drs_nil TR.any)))))
 (ds_one (ds_expr (dmet F.plainAttrs_list F.slot_list_extend F.type_list_extend chkL_ok m_extend (dvar (i := 1)) (dacons (dlst (dacons (dvar (i := 2)) (dastar (dcall (ih_words_of.mono (by omega)) hr hG rfl T.d_words_of.mg (keep_ok T.d_words_of) T.d_words_of.bd (dacons (dvar (i := 3)) danil)) danil))) danil)))))
 (ds_one (ds_ret (dlst (dastar (dvar (i := 1)) (dacons dstr danil))))))))))
/-! text_of -/
abbrev N_text_of : List Str := ["value"]
theorem sc_text_of : FnScope ["value"] ["value"] (defScope s_text_of) := ⟨rfl, rfl, rfl, by decide +kernel, rfl, by decide +kernel, by decide +kernel⟩
def st_text_of_1 : Env → M Fl :=
 (retM (metM (cM (.str " ")) (consM (calM (consM (varM 0) nilM) fun ws => noEx ((F_words_of 2) ws)) nilM) chkS joinM))
def b_text_of : Env → M Fl :=
 st_text_of_1
def F_text_of : List W → M W := pureM (runD 1 1 b_text_of)
theorem g_text_of (T : Tx P K mg ad fd) : FnG P w K mg base CX0 4 (ad 3) (fd 3) ["value"] (spF K (fun _ => ZF) F_text_of) := by
  refine fn_pure (fn_runC T.d_text_of.fn.any sc_text_of rfl rfl fun cdv A outer s H E hco hr hG => ?_)
  unfold b_text_of
  exact (
 (ds_one (ds_ret (dmet F.plainAttrs_str F.slot_str_join F.type_str_join chkS_ok m_join dstr (dacons (dcall ((g_words_of T 2).mono (by omega)) hr hG rfl T.d_words_of.mg (keep_ok T.d_words_of) T.d_words_of.bd (dacons (dvar (i := 0)) danil)) danil)))))
/-! typed_fields -/
abbrev N_typed_fields : List Str := ["rows", "most", "deep", "found", "row", "kind", "field", "told", "must"]
theorem sc_typed_fields : FnScope ["rows", "most", "deep", "found", "row", "kind", "field", "told", "must"] ["rows", "most", "deep"] (defScope s_typed_fields) := ⟨rfl, rfl, rfl, by decide +kernel, rfl, by decide +kernel, by decide +kernel⟩
def st_typed_fields_1 (P0 P1 : Addr) (R_typed_fields : List W → M W) (R_typed : List W → M W) : Env → M Fl :=
 (asgM (fun δ => bd (nilM δ) newM) (setG 3))
def st_typed_fields_2 (P0 P1 : Addr) (R_typed_fields : List W → M W) (R_typed : List W → M W) : Env → M Fl :=
 (ifM (valT (binM (calM (consM (varM 0) nilM) lenDM) (cM (.int 60)) gtM)) (retM (cM .none)) skipM)
def st_typed_fields_3 (P0 P1 : Addr) (R_typed_fields : List W → M W) (R_typed : List W → M W) : Env → M Fl :=
 (ifM (orT (notT (valT (calM (consM (varM 4) nilM) fun ws => noEx (F_is_listed ws)))) (orT (valT (binM (calM (consM (varM 4) nilM) lenDM) (cM (.int 3)) neM)) (orT (notT (valT (calM (consM (binM (varM 4) (cM (.int 0)) itemM) nilM) fun ws => noEx (F_is_name ws)))) (notT (valT (fun δ => bd ((binM (varM 4) (cM (.int 2)) itemM) δ) (isiM [.bl]))))))) (retM (cM .none)) skipM)
def st_typed_fields_4 (P0 P1 : Addr) (R_typed_fields : List W → M W) (R_typed : List W → M W) : Env → M Fl :=
 (asgM (calM (consM (binM (varM 4) (cM (.int 1)) itemM) (consM (binM (varM 1) (cM (.int 1)) subM) (consM (binM (varM 2) (cM (.int 1)) addM) nilM))) fun ws => noEx (R_typed ws)) (setG 5))
def st_typed_fields_5 (P0 P1 : Addr) (R_typed_fields : List W → M W) (R_typed : List W → M W) : Env → M Fl :=
 (ifM (orT (valT (binM (varM 5) (cM .none) isM)) (valT (binM (binM (varM 4) (cM (.int 0)) itemM) (lcWM [6, 7, 8] 100000 (fun δ => bd ((varM 3) δ) liveM) (tupG 3 (consG (setG 6) (consG (setG 7) (consG (setG 8) nilG)))) yesT (varM 6)) inM))) (retM (cM .none)) skipM)
def st_typed_fields_6 (P0 P1 : Addr) (R_typed_fields : List W → M W) (R_typed : List W → M W) : Env → M Fl :=
 (exprM (metM (varM 3) (consM (fun δ => bd ((consM (binM (varM 4) (cM (.int 0)) itemM) (consM (varM 5) (consM (binM (varM 4) (cM (.int 2)) itemM) nilM))) δ) tupM) nilM) chkL appendM))
def body_typed_fields_1 (P0 P1 : Addr) (R_typed_fields : List W → M W) (R_typed : List W → M W) : Env → M Fl :=
 (seqM (st_typed_fields_3 P0 P1 R_typed_fields R_typed)
 (seqM (st_typed_fields_4 P0 P1 R_typed_fields R_typed)
 (seqM (st_typed_fields_5 P0 P1 R_typed_fields R_typed)
 (st_typed_fields_6 P0 P1 R_typed_fields R_typed))))
def st_typed_fields_7 (P0 P1 : Addr) (R_typed_fields : List W → M W) (R_typed : List W → M W) : Env → M Fl :=
 (retM (calM (consM (fun δ => bd ((varM 3) δ) (sortLM 1 P1 qL_typed_fields (binM (varM 0) (cM (.int 0)) itemM))) nilM) tupleM))
def b_typed_fields (P0 P1 : Addr) (R_typed_fields : List W → M W) (R_typed : List W → M W) : Env → M Fl :=
 (seqM (st_typed_fields_1 P0 P1 R_typed_fields R_typed)
 (seqM (st_typed_fields_2 P0 P1 R_typed_fields R_typed)
 (seqM (forM (fun δ => bd ((varM 0) δ) iterM) (setG 4) (body_typed_fields_1 P0 P1 R_typed_fields R_typed))
 (st_typed_fields_7 P0 P1 R_typed_fields R_typed))))
/-! typed -/
abbrev N_typed : List Str := ["value", "most", "deep", "inner", "fields", "parts", "part"]
theorem sc_typed : FnScope ["value", "most", "deep", "inner", "fields", "parts", "part"] ["value", "most", "deep"] (defScope s_typed) := ⟨rfl, rfl, rfl, by decide +kernel, rfl, by decide +kernel, by decide +kernel⟩
def st_typed_1 (P0 P1 : Addr) (R_typed_fields : List W → M W) (R_typed : List W → M W) : Env → M Fl :=
 (ifM (orT (valT (binM (varM 1) (cM (.int 0)) eqM)) (valT (binM (varM 2) (cM (.int 24)) eqM))) (retM (cM .none)) skipM)
def st_typed_2 (P0 P1 : Addr) (R_typed_fields : List W → M W) (R_typed : List W → M W) : Env → M Fl :=
 (ifM (valT (fun δ => bd ((varM 0) δ) (isiM [.str]))) (retM (ifV (valT (binM (varM 0) (fun δ => bd ((consM (cM (.str "atom")) (consM (cM (.str "never")) nilM)) δ) tupM) inM)) (varM 0) (cM .none))) skipM)
def st_typed_3 (P0 P1 : Addr) (R_typed_fields : List W → M W) (R_typed : List W → M W) : Env → M Fl :=
 (ifM (orT (notT (valT (calM (consM (varM 0) nilM) fun ws => noEx (F_is_listed ws)))) (orT (valT (binM (calM (consM (varM 0) nilM) lenDM) (fun δ => bd ((consM (cM (.int 2)) (consM (cM (.int 3)) nilM)) δ) tupM) notInM)) (notT (valT (fun δ => bd ((binM (varM 0) (cM (.int 0)) itemM) δ) (isiM [.str])))))) (retM (cM .none)) skipM)
def st_typed_4 (P0 P1 : Addr) (R_typed_fields : List W → M W) (R_typed : List W → M W) : Env → M Fl :=
 (ifM (andT (valT (binM (binM (varM 0) (cM (.int 0)) itemM) (cM (.str "tag")) eqM)) (andT (valT (binM (calM (consM (varM 0) nilM) lenDM) (cM (.int 3)) eqM)) (valT (calM (consM (binM (varM 0) (cM (.int 1)) itemM) nilM) fun ws => noEx (F_is_name ws))))) (seqM (asgM (calM (consM (binM (varM 0) (cM (.int 2)) itemM) (consM (binM (varM 1) (cM (.int 1)) subM) (consM (binM (varM 2) (cM (.int 1)) addM) nilM))) fun ws => noEx (R_typed ws)) (setG 3))
 (retM (ifV (valT (binM (varM 3) (cM .none) isM)) (cM .none) (fun δ => bd ((consM (cM (.str "tag")) (consM (binM (varM 0) (cM (.int 1)) itemM) (consM (varM 3) nilM))) δ) tupM)))) skipM)
def st_typed_5 (P0 P1 : Addr) (R_typed_fields : List W → M W) (R_typed : List W → M W) : Env → M Fl :=
 (ifM (orT (valT (binM (calM (consM (varM 0) nilM) lenDM) (cM (.int 3)) eqM)) (orT (valT (binM (binM (varM 0) (cM (.int 0)) itemM) (fun δ => bd ((consM (cM (.str "record")) (consM (cM (.str "or")) nilM)) δ) tupM) notInM)) (notT (valT (calM (consM (binM (varM 0) (cM (.int 1)) itemM) nilM) fun ws => noEx (F_is_listed ws)))))) (retM (cM .none)) skipM)
def st_typed_6 (P0 P1 : Addr) (R_typed_fields : List W → M W) (R_typed : List W → M W) : Env → M Fl :=
 (ifM (valT (binM (binM (varM 0) (cM (.int 0)) itemM) (cM (.str "record")) eqM)) (seqM (asgM (calM (consM (binM (varM 0) (cM (.int 1)) itemM) (consM (varM 1) (consM (varM 2) nilM))) fun ws => noEx (R_typed_fields ws)) (setG 4))
 (retM (ifV (valT (binM (varM 4) (cM .none) isM)) (cM .none) (fun δ => bd ((consM (cM (.str "record")) (consM (varM 4) nilM)) δ) tupM)))) skipM)
def st_typed_7 (P0 P1 : Addr) (R_typed_fields : List W → M W) (R_typed : List W → M W) : Env → M Fl :=
 (asgM (lcM [6] (fun δ => bd ((binM (varM 0) (cM (.int 1)) itemM) δ) iterM) (setG 6) yesT (calM (consM (varM 6) (consM (varM 1) (consM (binM (varM 2) (cM (.int 1)) addM) nilM))) fun ws => noEx (R_typed ws))) (setG 5))
def st_typed_8 (P0 P1 : Addr) (R_typed_fields : List W → M W) (R_typed : List W → M W) : Env → M Fl :=
 (retM (ifV (valT (calM (consM (lcM [6] (fun δ => bd ((varM 5) δ) iterM) (setG 6) yesT (binM (varM 6) (cM .none) isM)) nilM) anyM)) (cM .none) (fun δ => bd ((consM (cM (.str "or")) (consM (calM (consM (varM 5) nilM) tupleM) nilM)) δ) tupM)))
def b_typed (P0 P1 : Addr) (R_typed_fields : List W → M W) (R_typed : List W → M W) : Env → M Fl :=
 (seqM (st_typed_1 P0 P1 R_typed_fields R_typed)
 (seqM (st_typed_2 P0 P1 R_typed_fields R_typed)
 (seqM (st_typed_3 P0 P1 R_typed_fields R_typed)
 (seqM (st_typed_4 P0 P1 R_typed_fields R_typed)
 (seqM (st_typed_5 P0 P1 R_typed_fields R_typed)
 (seqM (st_typed_6 P0 P1 R_typed_fields R_typed)
 (seqM (st_typed_7 P0 P1 R_typed_fields R_typed)
 (st_typed_8 P0 P1 R_typed_fields R_typed))))))))
mutual
def F_typed_fields (P0 P1 : Addr) : Nat → List W → M W
  | 0 => fun _ => no
  | n + 1 => pureT 2 (runD 3 9 (b_typed_fields P0 P1 (F_typed_fields P0 P1 n) (F_typed P0 P1 n)))
def F_typed (P0 P1 : Addr) : Nat → List W → M W
  | 0 => fun _ => no
  | n + 1 => pureT 2 (runD 3 7 (b_typed P0 P1 (F_typed_fields P0 P1 n) (F_typed P0 P1 n)))
end
theorem gg_typed_fields_typed (T : Tx P K mg ad fd) {c0 P0 c1 P1 : Addr} (U : Ux base mg K ad c0 P0 c1 P1) : ∀ n : Nat, FnG P w K mg base CX0 (4 + n) (ad 4) (fd 4) ["rows", "most", "deep"] (spF K (fun _ => ZF) (F_typed_fields P0 P1 n)) ∧ FnG P w K mg base CX0 (4 + n) (ad 5) (fd 5) ["value", "most", "deep"] (spF K (fun _ => ZF) (F_typed P0 P1 n))
  | 0 => ⟨fn_none, fn_none⟩
  | n + 1 => by
    obtain ⟨ih_typed_fields, ih_typed⟩ := gg_typed_fields_typed T U n
    refine ⟨?_, ?_⟩
    · show FnG P w K mg base CX0 (4 + (n + 1)) (ad 4) (fd 4) ["rows", "most", "deep"] (spF K (fun _ => ZF) (pureT 2 (runD 3 9 (b_typed_fields P0 P1 (F_typed_fields P0 P1 n) (F_typed P0 P1 n)))))
      refine fn_pureT (fn_runC (j := 4 + n) T.d_typed_fields.fn.any sc_typed_fields rfl rfl fun cdv A outer s H E hco hr hG => ?_)
      unfold b_typed_fields
      exact (
 (ds_cons (ds_set (i := 3) sc_typed_fields.nd rfl (by first | exact Or.inl rfl | exact Or.inr rfl) (dnew danil))
 (ds_cons (ds_if (dt_cmp o_gt (dcallB c_lenD rfl T.m_len bl_len (dacons (dvar (i := 0)) danil)) (dgint T.c_MOST_FIELDS rfl)) (ds_one (ds_ret dnon)) ds_nil)
 (ds_cons (ds_for PassesOwn.never rfl (di_val (dvar (i := 0))) (dg_name (i := 4) sc_typed_fields.nd rfl (by first | exact Or.inl rfl | exact Or.inr rfl))
 (ds_cons (ds_if (dt_bool (dw_or (dt_not (dt_val (dcall ((g_is_listed T).mono (by omega)) hr hG rfl T.d_is_listed.mg (keep_ok T.d_is_listed) T.d_is_listed.bd (dacons (dvar (i := 4)) danil)))) (dw_or (dt_cmp (o_ne (room65 hr)) (dcallB c_lenD rfl T.m_len bl_len (dacons (dvar (i := 4)) danil)) dint) (dw_or (dt_not (dt_val (dcall ((g_is_name T).mono (by omega)) hr hG rfl T.d_is_name.mg (keep_ok T.d_is_name) T.d_is_name.bd (dacons (dix x_item (dvar (i := 4)) dint) danil)))) (dw_or1 (dt_not (dt_val (disi1 (T := .bl) rfl T.m_isinstance rfl T.m_bool bl_bool (dix x_item (dvar (i := 4)) dint))))))))) (ds_one (ds_ret dnon)) ds_nil)
 (ds_cons (ds_set (i := 5) sc_typed_fields.nd rfl (by first | exact Or.inl rfl | exact Or.inr rfl) (dcall (ih_typed.mono (by omega)) hr hG rfl T.d_typed.mg T.d_typed.kp T.d_typed.bd (dacons (dix x_item (dvar (i := 4)) dint) (dacons (dop o_sub (dvar (i := 1)) dint) (dacons (dop o_add (dvar (i := 2)) dint) danil)))))
 (ds_cons (ds_if (dt_bool (dw_or (dt_cmp o_is (dvar (i := 5)) dnon) (dw_or1 (dt_cmp (o_in (room66 hr)) (dix x_item (dvar (i := 4)) dint) (dlcW (own := [("field", 6), ("told", 7), ("must", 8)]) 100000 rfl sc_typed_fields.nd (di_live (dvar (i := 3))) (blkOk_by (N := N_typed_fields) (sc := defScope s_typed_fields) (by decide +kernel)) (fun _ _ _ _ _ => (dr_tup rfl (drs_cons TR.wip (dr_name (i := 6) sc_typed_fields.nd rfl (by first | exact Or.inl rfl | exact Or.inr rfl) (fun _ _ => wipe_set (by decide))) (drs_cons TR.wip (dr_name (i := 7) sc_typed_fields.nd rfl (by first | exact Or.inl rfl | exact Or.inr rfl) (fun _ _ => wipe_set (by decide))) (drs_cons TR.wip (dr_name (i := 8) sc_typed_fields.nd rfl (by first | exact Or.inl rfl | exact Or.inr rfl) (fun _ _ => wipe_set (by decide))) (drs_nil TR.wip)))))) (fun _ _ _ _ _ => dts_nil) (fun _ _ _ _ _ => (dvar (i := 6)))))))) (ds_one (ds_ret dnon)) ds_nil)
 (ds_one (ds_expr (dmet F.plainAttrs_list F.slot_list_append F.type_list_append chkL_ok m_append (dvar (i := 3)) (dacons (dtup (dacons (dix x_item (dvar (i := 4)) dint) (dacons (dvar (i := 5)) (dacons (dix x_item (dvar (i := 4)) dint) danil)))) danil))))))))
 (ds_one (ds_ret (dcallTy c_tuple rfl T.m_tuple bl_tuple (dacons (dsortL (i := 1) (k := 0) U.u1.tb (U.u1.cd _ hco) rfl (NdefX.nscope_by (by decide +kernel)) (show NdefX.ndefB (defScope s_typed_fields) _ _ = true from by decide +kernel) rfl (fun _ _ _ _ _ _ _ => rfl) (hr.mono (by omega)) rfl T.m_sorted (dvar (i := 3)) (fun A outer s H E f0 c0 hg2 hr => have hG := hg2.trans hG; (dix x_item (dvar (i := 0)) dint))) danil))))))))
    · show FnG P w K mg base CX0 (4 + (n + 1)) (ad 5) (fd 5) ["value", "most", "deep"] (spF K (fun _ => ZF) (pureT 2 (runD 3 7 (b_typed P0 P1 (F_typed_fields P0 P1 n) (F_typed P0 P1 n)))))
      refine fn_pureT (fn_runC (j := 4 + n) T.d_typed.fn sc_typed rfl rfl fun cdv A outer s H E hco hr hG => ?_)
      unfold b_typed
      exact (
 (ds_cons (ds_if (dt_bool (dw_or (dt_cmp (o_eq (room65 hr)) (dvar (i := 1)) dint) (dw_or1 (dt_cmp (o_eq (room65 hr)) (dvar (i := 2)) (dgint T.c_MOST_DEEP rfl))))) (ds_one (ds_ret dnon)) ds_nil)
 (ds_cons (ds_if (dt_val (disi1 (T := .str) rfl T.m_isinstance rfl T.m_str bl_str (dvar (i := 0)))) (ds_one (ds_ret (dif (dt_cmp (o_in (room66 hr)) (dvar (i := 0)) (dtup (dacons (dgstr T.c_ATOM (by decide +kernel) rfl) (dacons (dgstr T.c_NEVER (by decide +kernel) rfl) danil)))) (dvar (i := 0)) dnon))) ds_nil)
 (ds_cons (ds_if (dt_bool (dw_or (dt_not (dt_val (dcall ((g_is_listed T).mono (by omega)) hr hG rfl T.d_is_listed.mg (keep_ok T.d_is_listed) T.d_is_listed.bd (dacons (dvar (i := 0)) danil)))) (dw_or (dt_cmp (o_notIn (room66 hr)) (dcallB c_lenD rfl T.m_len bl_len (dacons (dvar (i := 0)) danil)) (dtup (dacons dint (dacons dint danil)))) (dw_or1 (dt_not (dt_val (disi1 (T := .str) rfl T.m_isinstance rfl T.m_str bl_str (dix x_item (dvar (i := 0)) dint)))))))) (ds_one (ds_ret dnon)) ds_nil)
 (ds_cons (ds_if (dt_bool (dw_and (dt_cmp (o_eq (room65 hr)) (dix x_item (dvar (i := 0)) dint) (dgstr T.c_TAG (by decide +kernel) rfl)) (dw_and (dt_cmp (o_eq (room65 hr)) (dcallB c_lenD rfl T.m_len bl_len (dacons (dvar (i := 0)) danil)) dint) (dw_and1 (dt_val (dcall ((g_is_name T).mono (by omega)) hr hG rfl T.d_is_name.mg (keep_ok T.d_is_name) T.d_is_name.bd (dacons (dix x_item (dvar (i := 0)) dint) danil))))))) (ds_cons (ds_set (i := 3) sc_typed.nd rfl (by first | exact Or.inl rfl | exact Or.inr rfl) (dcall (ih_typed.mono (by omega)) hr hG rfl T.d_typed.mg T.d_typed.kp T.d_typed.bd (dacons (dix x_item (dvar (i := 0)) dint) (dacons (dop o_sub (dvar (i := 1)) dint) (dacons (dop o_add (dvar (i := 2)) dint) danil)))))
 (ds_one (ds_ret (dif (dt_cmp o_is (dvar (i := 3)) dnon) dnon (dtup (dacons (dgstr T.c_TAG (by decide +kernel) rfl) (dacons (dix x_item (dvar (i := 0)) dint) (dacons (dvar (i := 3)) danil)))))))) ds_nil)
 (ds_cons (ds_if (dt_bool (dw_or (dt_cmp (o_eq (room65 hr)) (dcallB c_lenD rfl T.m_len bl_len (dacons (dvar (i := 0)) danil)) dint) (dw_or (dt_cmp (o_notIn (room66 hr)) (dix x_item (dvar (i := 0)) dint) (dtup (dacons (dgstr T.c_RECORD (by decide +kernel) rfl) (dacons (dgstr T.c_OR (by decide +kernel) rfl) danil)))) (dw_or1 (dt_not (dt_val (dcall ((g_is_listed T).mono (by omega)) hr hG rfl T.d_is_listed.mg (keep_ok T.d_is_listed) T.d_is_listed.bd (dacons (dix x_item (dvar (i := 0)) dint) danil)))))))) (ds_one (ds_ret dnon)) ds_nil)
 (ds_cons (ds_if (dt_cmp (o_eq (room65 hr)) (dix x_item (dvar (i := 0)) dint) (dgstr T.c_RECORD (by decide +kernel) rfl)) (ds_cons (ds_set (i := 4) sc_typed.nd rfl (by first | exact Or.inl rfl | exact Or.inr rfl) (dcall (ih_typed_fields.mono (by omega)) hr hG rfl T.d_typed_fields.mg (keep_ok T.d_typed_fields) T.d_typed_fields.bd (dacons (dix x_item (dvar (i := 0)) dint) (dacons (dvar (i := 1)) (dacons (dvar (i := 2)) danil)))))
 (ds_one (ds_ret (dif (dt_cmp o_is (dvar (i := 4)) dnon) dnon (dtup (dacons (dgstr T.c_RECORD (by decide +kernel) rfl) (dacons (dvar (i := 4)) danil))))))) ds_nil)
 (ds_cons (ds_setLc (i := 5) (own := [("part", 6)]) rfl sc_typed.nd rfl rfl (L2.sw_true rfl rfl rfl (by decide +kernel)) (di_val (dix x_item (dvar (i := 0)) dint)) (blkOk_by (N := N_typed) (sc := defScope s_typed) (by decide +kernel)) (fun _ _ _ _ _ => (dr_name (i := 6) sc_typed.nd rfl (by first | exact Or.inl rfl | exact Or.inr rfl) (fun _ _ => wipe_set (by decide)))) (fun _ _ _ _ _ => dts_nil) (fun _ _ _ _ _ => (dcall (ih_typed.mono (by omega)) hr hG rfl T.d_typed.mg T.d_typed.kp T.d_typed.bd (dacons (dvar (i := 6)) (dacons (dvar (i := 1)) (dacons (dop o_add (dvar (i := 2)) dint) danil))))))
 (ds_one (ds_ret (dif (dt_val (dcallB (c_any rfl) rfl T.m_any bl_any (dacons (dlc (own := [("part", 6)]) rfl sc_typed.nd (di_val (dvar (i := 5))) (blkOk_by (N := N_typed) (sc := defScope s_typed) (by decide +kernel)) (fun _ _ _ _ _ => (dr_name (i := 6) sc_typed.nd rfl (by first | exact Or.inl rfl | exact Or.inr rfl) (fun _ _ => wipe_set (by decide)))) (fun _ _ _ _ _ => dts_nil) (fun _ _ _ _ _ => (dcmp o_is (dvar (i := 6)) dnon))) danil))) dnon (dtup (dacons (dgstr T.c_OR (by decide +kernel) rfl) (dacons (dcallTy c_tuple rfl T.m_tuple bl_tuple (dacons (dvar (i := 5)) danil)) danil))))))))))))))
theorem g_typed_fields (T : Tx P K mg ad fd) {c0 P0 c1 P1 : Addr} (U : Ux base mg K ad c0 P0 c1 P1) (n : Nat) : FnG P w K mg base CX0 (4 + n) (ad 4) (fd 4) ["rows", "most", "deep"] (spF K (fun _ => ZF) (F_typed_fields P0 P1 n)) := (gg_typed_fields_typed T U n).1
theorem g_typed (T : Tx P K mg ad fd) {c0 P0 c1 P1 : Addr} (U : Ux base mg K ad c0 P0 c1 P1) (n : Nat) : FnG P w K mg base CX0 (4 + n) (ad 5) (fd 5) ["value", "most", "deep"] (spF K (fun _ => ZF) (F_typed P0 P1 n)) := (gg_typed_fields_typed T U n).2
/-! is_type -/
abbrev N_is_type : List Str := ["value"]
theorem sc_is_type : FnScope ["value"] ["value"] (defScope s_is_type) := ⟨rfl, rfl, rfl, by decide +kernel, rfl, by decide +kernel, by decide +kernel⟩
def st_is_type_1 (P0 P1 : Addr) : Env → M Fl :=
 (retM (binM (calM (consM (varM 0) nilM) fun ws => noEx ((F_typed P0 P1 52) (ws ++ [.d (.int 8), .d (.int 0)]))) (cM .none) isNotM))
def b_is_type (P0 P1 : Addr) : Env → M Fl :=
 (st_is_type_1 P0 P1)
def F_is_type (P0 P1 : Addr) : List W → M W := pureT 2 (runD 1 1 (b_is_type P0 P1))
theorem g_is_type (T : Tx P K mg ad fd) {c0 P0 c1 P1 : Addr} (U : Ux base mg K ad c0 P0 c1 P1) : FnG P w K mg base CX0 57 (ad 6) (fd 6) ["value"] (spF K (fun _ => ZF) (F_is_type P0 P1)) := by
  refine fn_pureT (fn_runC T.d_is_type.fn.any sc_is_type rfl rfl fun cdv A outer s H E hco hr hG => ?_)
  unfold b_is_type
  exact (
 (ds_one (ds_ret (dcmp o_isNot (dcallF ((g_typed T U 52).mono (by omega)) hr hG rfl T.d_typed.mg T.d_typed.kp T.b_typed_1 (dacons (dvar (i := 0)) danil)) dnon))))
/-! need_type -/
abbrev N_need_type : List Str := ["value", "part", "kind"]
theorem sc_need_type : FnScope ["value", "part", "kind"] ["value", "part"] (defScope s_need_type) := ⟨rfl, rfl, rfl, by decide +kernel, rfl, by decide +kernel, by decide +kernel⟩
def st_need_type_1 (P0 P1 : Addr) : Env → M Fl :=
 (asgM (calM (consM (varM 0) nilM) fun ws => noEx ((F_typed P0 P1 52) (ws ++ [.d (.int 8), .d (.int 0)]))) (setG 2))
def st_need_type_2 (P0 P1 : Addr) : Env → M Fl :=
 (ifM (valT (binM (varM 2) (cM .none) isM)) (raiseM "BadType" "part" (varM 1)) skipM)
def st_need_type_3 (P0 P1 : Addr) : Env → M Fl :=
 (retM (varM 2))
def b_need_type (P0 P1 : Addr) : Env → M Fl :=
 (seqM (st_need_type_1 P0 P1)
 (seqM (st_need_type_2 P0 P1)
 (st_need_type_3 P0 P1)))
def F_need_type (P0 P1 : Addr) : List W → M W := pureT 2 (runD 2 3 (b_need_type P0 P1))
theorem gx_need_type (T : Tx P K mg ad fd) {c0 P0 c1 P1 : Addr} (U : Ux base mg K ad c0 P0 c1 P1) : FnG P w K mg base (L2.CX P w) 57 (ad 7) (fd 7) ["value", "part"] (spF K (ZE K) (F_need_type P0 P1)) := by
  refine fn_pureTX (fn_runX T.d_need_type.fn.any sc_need_type rfl rfl fun cdv A outer s H E hr hG tk => ?_)
  unfold b_need_type
  exact (
 (ds_cons (ds_set (i := 2) sc_need_type.nd rfl (by first | exact Or.inl rfl | exact Or.inr rfl) (dcallF ((g_typed T U 52).mono (by omega)) hr hG rfl T.d_typed.mg T.d_typed.kp T.b_typed_1 (dacons (dvar (i := 0)) danil)))
 (ds_cons (ds_if (dt_cmp o_is (dvar (i := 2)) dnon) (ds_one (ds_raiseT T.r_BadType rfl tk hr (dvar (i := 1)) rfl)) ds_nil)
 (ds_one (ds_ret (dvar (i := 2)))))))
theorem g_need_type (T : Tx P K mg ad fd) {c0 P0 c1 P1 : Addr} (U : Ux base mg K ad c0 P0 c1 P1) : FnG P w K mg base CX0 57 (ad 7) (fd 7) ["value", "part"] (spF K (fun _ => ZF) fun ws => noEx ((F_need_type P0 P1) ws)) := fn_noEx (gx_need_type T U)
/-! Book.__init__ -/
abbrev N_Book___init__ : List Str := ["self"]
theorem sc_Book___init__ : FnScope ["self"] ["self"] (defScope s_Book___init__) := ⟨rfl, rfl, rfl, by decide +kernel, rfl, by decide +kernel, by decide +kernel⟩
def st_Book___init___1 : Env → M Fl :=
 (ofsM ["Book"] "kept" (varM 0) newDM)
def b_Book___init__ : Env → M Fl :=
 st_Book___init___1
def F_Book___init__ : List W → M W := (runD 1 1 b_Book___init__)
theorem g_Book___init__ (T : Tx P K mg ad fd) : FnG P w K mg base CX0 1 (ad 22) (fd 22) ["self"] (spF K (fun _ => ZF) F_Book___init__) := by
  refine fn_runC T.x_Book___init__.fn sc_Book___init__ rfl rfl fun cdv A outer s H E hco hr hG => ?_
  unfold b_Book___init__
  exact (
 (ds_one (ds_ofld T.y_kept (dvar (i := 0)) dnewd)))
/-! Book.put -/
abbrev N_Book_put : List Str := ["self", "key", "told"]
theorem sc_Book_put : FnScope ["self", "key", "told"] ["self", "key", "told"] (defScope s_Book_put) := ⟨rfl, rfl, rfl, by decide +kernel, rfl, by decide +kernel, by decide +kernel⟩
def st_Book_put_1 : Env → M Fl :=
 (subSM (fun δ => bd ((consM (varM 1) (consM (varM 2) nilM)) δ) tupM) (fun δ => bd ((varM 0) δ) (ofldM ["Book"] "kept")) (calM (consM (varM 1) nilM) reprM))
def b_Book_put : Env → M Fl :=
 st_Book_put_1
def F_Book_put : List W → M W := (runD 3 3 b_Book_put)
theorem g_Book_put (T : Tx P K mg ad fd) : FnG P w K mg base CX0 1 (ad 23) (fd 23) ["self", "key", "told"] (spF K (fun _ => ZF) F_Book_put) := by
  refine fn_runC T.x_Book_put.fn sc_Book_put rfl rfl fun cdv A outer s H E hco hr hG => ?_
  unfold b_Book_put
  exact (
 (ds_one (ds_sub (room1 hr) (dtup (dacons (dvar (i := 1)) (dacons (dvar (i := 2)) danil))) (dofld T.y_kept (dvar (i := 0))) (dcallB (c_repr hG (room66 hr)) rfl T.m_repr bl_repr (dacons (dvar (i := 1)) danil)))))
/-! Book.size -/
abbrev N_Book_size : List Str := ["self"]
theorem sc_Book_size : FnScope ["self"] ["self"] (defScope s_Book_size) := ⟨rfl, rfl, rfl, by decide +kernel, rfl, by decide +kernel, by decide +kernel⟩
def st_Book_size_1 : Env → M Fl :=
 (retM (calM (consM (fun δ => bd ((varM 0) δ) (ofldM ["Book"] "kept")) nilM) lenDM))
def b_Book_size : Env → M Fl :=
 st_Book_size_1
def F_Book_size : List W → M W := (runD 1 1 b_Book_size)
theorem g_Book_size (T : Tx P K mg ad fd) : FnG P w K mg base CX0 1 (ad 24) (fd 24) ["self"] (spF K (fun _ => ZF) F_Book_size) := by
  refine fn_runC T.x_Book_size.fn sc_Book_size rfl rfl fun cdv A outer s H E hco hr hG => ?_
  unfold b_Book_size
  exact (
 (ds_one (ds_ret (dcallB c_lenD rfl T.m_len bl_len (dacons (dofld T.y_kept (dvar (i := 0))) danil)))))
/-! Book.all_keys -/
abbrev N_Book_all_keys : List Str := ["self", "text"]
theorem sc_Book_all_keys : FnScope ["self", "text"] ["self"] (defScope s_Book_all_keys) := ⟨rfl, rfl, rfl, by decide +kernel, rfl, by decide +kernel, by decide +kernel⟩
def st_Book_all_keys_1 : Env → M Fl :=
 (retM (lcKM [1] 100000 (fun δ => bd ((varM 0) δ) (ofldM ["Book"] "kept")) (setG 1) yesT (binM (binM (fun δ => bd ((varM 0) δ) (ofldM ["Book"] "kept")) (varM 1) dgetM) (cM (.int 0)) itemM)))
def b_Book_all_keys : Env → M Fl :=
 st_Book_all_keys_1
def F_Book_all_keys : List W → M W := (runD 1 2 b_Book_all_keys)
theorem g_Book_all_keys (T : Tx P K mg ad fd) : FnG P w K mg base CX0 1 (ad 25) (fd 25) ["self"] (spF K (fun _ => ZF) F_Book_all_keys) := by
  refine fn_runC T.x_Book_all_keys.fn sc_Book_all_keys rfl rfl fun cdv A outer s H E hco hr hG => ?_
  unfold b_Book_all_keys
  exact (
 (ds_one (ds_ret (dlcK (own := [("text", 1)]) 100000 rfl sc_Book_all_keys.nd (dofld T.y_kept (dvar (i := 0))) (blkOk_by (N := N_Book_all_keys) (sc := defScope s_Book_all_keys) (by decide +kernel)) (fun _ _ _ _ _ => (dr_name (i := 1) sc_Book_all_keys.nd rfl (by first | exact Or.inl rfl | exact Or.inr rfl) (fun _ _ => wipe_set (by decide)))) (fun _ _ _ _ _ => dts_nil) (fun _ _ _ _ _ => (dix x_item (ddget (room1 hr) (dofld T.y_kept (dvar (i := 0))) (dvar (i := 1))) dint))))))
/-! listed -/
abbrev N_listed : List Str := ["kind", "inner", "found", "part", "some", "one"]
theorem sc_listed : FnScope ["kind", "inner", "found", "part", "some", "one"] ["kind"] (defScope s_listed) := ⟨rfl, rfl, rfl, by decide +kernel, rfl, by decide +kernel, by decide +kernel⟩
def st_listed_1 (R_listed : List W → M W) : Env → M Fl :=
 (ifM (valT (fun δ => bd ((varM 0) δ) (isiM [.str]))) (retM (ifV (valT (binM (varM 0) (cM (.str "atom")) eqM)) (fun δ => bd ((consM (cM (.str "atom")) nilM) δ) lstM) (fun δ => bd (nilM δ) lstM))) skipM)
def st_listed_2 (R_listed : List W → M W) : Env → M Fl :=
 (ifM (valT (binM (binM (varM 0) (cM (.int 0)) itemM) (cM (.str "tag")) eqM)) (seqM (asgM (calM (consM (binM (varM 0) (cM (.int 2)) itemM) nilM) fun ws => noEx (R_listed ws)) (setG 1))
 (retM (ifV (valT (binM (varM 1) (cM .none) isM)) (cM .none) (lcM [5] (fun δ => bd ((varM 1) δ) iterM) (setG 5) yesT (fun δ => bd ((consM (cM (.str "tag")) (consM (binM (varM 0) (cM (.int 1)) itemM) (consM (varM 5) nilM))) δ) tupM))))) skipM)
def st_listed_3 (R_listed : List W → M W) : Env → M Fl :=
 (ifM (valT (binM (binM (varM 0) (cM (.int 0)) itemM) (cM (.str "record")) eqM)) (retM (fun _ => no)) skipM)
def st_listed_4 (R_listed : List W → M W) : Env → M Fl :=
 (asgM (calM nilM fun ws => makM "Book" (fun ws => noEx (F_Book___init__ ws)) (ws ++ [])) (setG 2))
def st_listed_5 (R_listed : List W → M W) : Env → M Fl :=
 (asgM (calM (consM (varM 3) nilM) fun ws => noEx (R_listed ws)) (setG 4))
def st_listed_6 (R_listed : List W → M W) : Env → M Fl :=
 (exprM (omM [("Book", fun ws => noEx (F_Book_put ws))] "put" (varM 2) (consM (varM 5) (consM (cM (.bool true)) nilM))))
def body_listed_1 (R_listed : List W → M W) : Env → M Fl :=
 (st_listed_6 R_listed)
def st_listed_7 (R_listed : List W → M W) : Env → M Fl :=
 (ifM (orT (valT (binM (varM 4) (cM .none) isM)) (valT (binM (omM [("Book", fun ws => noEx (F_Book_size ws))] "size" (varM 2) nilM) (cM (.int 60)) gtM))) (retM (cM .none)) skipM)
def body_listed_2 (R_listed : List W → M W) : Env → M Fl :=
 (seqM (st_listed_5 R_listed)
 (seqM (forM (fun δ => bd ((orX (varM 4) (fun δ => bd (nilM δ) lstM)) δ) iterM) (setG 5) (body_listed_1 R_listed))
 (st_listed_7 R_listed)))
def st_listed_8 (R_listed : List W → M W) : Env → M Fl :=
 (retM (omM [("Book", fun ws => noEx (F_Book_all_keys ws))] "all_keys" (varM 2) nilM))
def b_listed (R_listed : List W → M W) : Env → M Fl :=
 (seqM (st_listed_1 R_listed)
 (seqM (st_listed_2 R_listed)
 (seqM (st_listed_3 R_listed)
 (seqM (st_listed_4 R_listed)
 (seqM (forM (fun δ => bd ((binM (varM 0) (cM (.int 1)) itemM) δ) iterM) (setG 3) (body_listed_2 R_listed))
 (st_listed_8 R_listed))))))
def F_listed : Nat → List W → M W
  | 0 => fun _ => no
  | n + 1 => pureM (runD 1 6 (b_listed (F_listed n)))
theorem g_listed (T : Tx P K mg ad fd) : ∀ n : Nat, FnG P w K mg base CX0 (3 + n) (ad 8) (fd 8) ["kind"] (spF K (fun _ => ZF) (F_listed n))
  | 0 => fn_none
  | n + 1 => by
    have ih_listed := g_listed T n
    show FnG P w K mg base CX0 (3 + (n + 1)) (ad 8) (fd 8) ["kind"] (spF K (fun _ => ZF) (pureM (runD 1 6 (b_listed (F_listed n)))))
    refine fn_pure (fn_runC (j := 3 + n) T.d_listed.fn.any sc_listed rfl rfl fun cdv A outer s H E hco hr hG => ?_)
    unfold b_listed
    exact (
 (ds_cons (ds_if (dt_val (disi1 (T := .str) rfl T.m_isinstance rfl T.m_str bl_str (dvar (i := 0)))) (ds_one (ds_ret (dif (dt_cmp (o_eq (room65 hr)) (dvar (i := 0)) (dgstr T.c_ATOM (by decide +kernel) rfl)) (dlst (dacons (dgstr T.c_ATOM (by decide +kernel) rfl) danil)) (dlst danil)))) ds_nil)
 (ds_cons (ds_if (dt_cmp (o_eq (room65 hr)) (dix x_item (dvar (i := 0)) dint) (dgstr T.c_TAG (by decide +kernel) rfl)) (ds_cons (ds_set (i := 1) sc_listed.nd rfl (by first | exact Or.inl rfl | exact Or.inr rfl) (dcall (ih_listed.mono (by omega)) hr hG rfl T.d_listed.mg (keep_ok T.d_listed) T.d_listed.bd (dacons (dix x_item (dvar (i := 0)) dint) danil)))
 (ds_one (ds_ret (dif (dt_cmp o_is (dvar (i := 1)) dnon) dnon (dlc (own := [("one", 5)]) rfl sc_listed.nd (di_val (dvar (i := 1))) (blkOk_by (N := N_listed) (sc := defScope s_listed) (by decide +kernel)) (fun _ _ _ _ _ => (dr_name (i := 5) sc_listed.nd rfl (by first | exact Or.inl rfl | exact Or.inr rfl) (fun _ _ => wipe_set (by decide)))) (fun _ _ _ _ _ => dts_nil) (fun _ _ _ _ _ => (dtup (dacons (dgstr T.c_TAG (by decide +kernel) rfl) (dacons (dix x_item (dvar (i := 0)) dint) (dacons (dvar (i := 5)) danil)))))))))) ds_nil)
 (ds_cons (ds_if (dt_cmp (o_eq (room65 hr)) (dix x_item (dvar (i := 0)) dint) (dgstr T.c_RECORD (by decide +kernel) rfl)) (ds_one (ds_ret dnever)) ds_nil)
 (ds_cons (ds_set (i := 2) sc_listed.nd rfl (by first | exact Or.inl rfl | exact Or.inr rfl) (domake0 (mak_at T.x_Book___init__ (g_Book___init__ T) (hr.mono (by omega))) hG rfl))
 (ds_cons (ds_for PassesOwn.never rfl (di_val (dix x_item (dvar (i := 0)) dint)) (dg_name (i := 3) sc_listed.nd rfl (by first | exact Or.inl rfl | exact Or.inr rfl))
 (ds_cons (ds_set (i := 4) sc_listed.nd rfl (by first | exact Or.inl rfl | exact Or.inr rfl) (dcall (ih_listed.mono (by omega)) hr hG rfl T.d_listed.mg (keep_ok T.d_listed) T.d_listed.bd (dacons (dvar (i := 3)) danil)))
 (ds_cons (ds_for PassesOwn.never rfl (di_val (dv_orX (dvar (i := 4)) (dv_one (dlst danil)))) (dg_name (i := 5) sc_listed.nd rfl (by first | exact Or.inl rfl | exact Or.inr rfl))
 (ds_one (ds_expr (dometh (dvar (i := 2)) (mets_cons (met_at T.x_Book_put ((g_Book_put T).mono (by omega)) hr) mets_nil) hG (dacons (dvar (i := 5)) (dacons dbl danil))))))
 (ds_one (ds_if (dt_bool (dw_or (dt_cmp o_is (dvar (i := 4)) dnon) (dw_or1 (dt_cmp o_gt (dometh0 (dvar (i := 2)) (mets_cons (met_at T.x_Book_size ((g_Book_size T).mono (by omega)) hr) mets_nil) hG) (dgint T.c_MOST_VALUES rfl))))) (ds_one (ds_ret dnon)) ds_nil)))))
 (ds_one (ds_ret (dometh0 (dvar (i := 2)) (mets_cons (met_at T.x_Book_all_keys ((g_Book_all_keys T).mono (by omega)) hr) mets_nil) hG)))))))))
/-! values_in -/
abbrev N_values_in : List Str := ["kind", "found"]
theorem sc_values_in : FnScope ["kind", "found"] ["kind"] (defScope s_values_in) := ⟨rfl, rfl, rfl, by decide +kernel, rfl, by decide +kernel, by decide +kernel⟩
def st_values_in_1 : Env → M Fl :=
 (asgM (calM (consM (varM 0) nilM) fun ws => noEx ((F_listed 26) ws)) (setG 1))
def st_values_in_2 : Env → M Fl :=
 (ifM (orT (valT (binM (varM 1) (cM .none) isM)) (valT (binM (calM (consM (varM 1) nilM) lenDM) (cM (.int 60)) gtM))) (fun _ _ => .no) skipM)
def st_values_in_3 : Env → M Fl :=
 (retM (calM (consM (fun δ => bd ((varM 1) δ) (sortKM (keyF F_text_of))) nilM) tupleM))
def b_values_in : Env → M Fl :=
 (seqM st_values_in_1
 (seqM st_values_in_2
 st_values_in_3))
def F_values_in : List W → M W := pureM (runD 1 2 b_values_in)
theorem g_values_in (T : Tx P K mg ad fd) : FnG P w K mg base CX0 30 (ad 9) (fd 9) ["kind"] (spF K (fun _ => ZF) F_values_in) := by
  refine fn_pure (fn_runC T.d_values_in.fn.any sc_values_in rfl rfl fun cdv A outer s H E hco hr hG => ?_)
  unfold b_values_in
  exact (
 (ds_cons (ds_set (i := 1) sc_values_in.nd rfl (by first | exact Or.inl rfl | exact Or.inr rfl) (dcall ((g_listed T 26).mono (by omega)) hr hG rfl T.d_listed.mg (keep_ok T.d_listed) T.d_listed.bd (dacons (dvar (i := 0)) danil)))
 (ds_cons (ds_if (dt_bool (dw_or (dt_cmp o_is (dvar (i := 1)) dnon) (dw_or1 (dt_cmp o_gt (dcallB c_lenD rfl T.m_len bl_len (dacons (dvar (i := 1)) danil)) (dgint T.c_MOST_VALUES rfl))))) (ds_one (ds_never fun _ _ => rfl)) ds_nil)
 (ds_one (ds_ret (dcallTy c_tuple rfl T.m_tuple bl_tuple (dacons (dsortF (g_text_of T) (hr.mono (by omega)) hG T.d_text_of.bd rfl T.m_sorted rfl T.d_text_of.mg (dvar (i := 1))) danil)))))))
/-! values_of -/
abbrev N_values_of : List Str := ["told"]
theorem sc_values_of : FnScope ["told"] ["told"] (defScope s_values_of) := ⟨rfl, rfl, rfl, by decide +kernel, rfl, by decide +kernel, by decide +kernel⟩
def st_values_of_1 (P0 P1 : Addr) : Env → M Fl :=
 (retM (calM (consM (calM (consM (varM 0) (consM (cM (.str "told")) nilM)) fun ws => noEx (noEx <| (F_need_type P0 P1) ws)) nilM) fun ws => noEx (F_values_in ws)))
def b_values_of (P0 P1 : Addr) : Env → M Fl :=
 (st_values_of_1 P0 P1)
def F_values_of (P0 P1 : Addr) : List W → M W := pureT 2 (runD 1 1 (b_values_of P0 P1))
theorem g_values_of (T : Tx P K mg ad fd) {c0 P0 c1 P1 : Addr} (U : Ux base mg K ad c0 P0 c1 P1) : FnG P w K mg base CX0 58 (ad 10) (fd 10) ["told"] (spF K (fun _ => ZF) (F_values_of P0 P1)) := by
  refine fn_pureT (fn_runC T.d_values_of.fn.any sc_values_of rfl rfl fun cdv A outer s H E hco hr hG => ?_)
  unfold b_values_of
  exact (
 (ds_one (ds_ret (dcall ((g_values_in T).mono (by omega)) hr hG rfl T.d_values_in.mg (keep_ok T.d_values_in) T.d_values_in.bd (dacons (dcall ((g_need_type T U).mono (by omega)) hr hG rfl T.d_need_type.mg (keep_ok T.d_need_type) T.d_need_type.bd (dacons (dvar (i := 0)) (dacons dstr danil))) danil)))))
/-! has -/
abbrev N_has : List Str := ["told", "value", "kind", "one"]
theorem sc_has : FnScope ["told", "value", "kind", "one"] ["told", "value"] (defScope s_has) := ⟨rfl, rfl, rfl, by decide +kernel, rfl, by decide +kernel, by decide +kernel⟩
def st_has_1 (P0 P1 : Addr) : Env → M Fl :=
 (parM 2 3 (consM (calM (consM (varM 0) (consM (cM (.str "told")) nilM)) (F_need_type P0 P1)) (consM (fun _ => no) nilM)))
def st_has_2 (P0 P1 : Addr) : Env → M Fl :=
 (retM (andV (binM (varM 3) (cM .none) isNotM) (fun _ => no)))
def b_has (P0 P1 : Addr) : Env → M Fl :=
 (seqM (st_has_1 P0 P1)
 (st_has_2 P0 P1))
def F_has (P0 P1 : Addr) : List W → M W := pureT 2 (runD 2 4 (b_has P0 P1))
theorem gx_has (T : Tx P K mg ad fd) {c0 P0 c1 P1 : Addr} (U : Ux base mg K ad c0 P0 c1 P1) : FnG P w K mg base (L2.CX P w) 58 (ad 11) (fd 11) ["told", "value"] (spF K (ZE K) (F_has P0 P1)) := by
  refine fn_pureTX (fn_runX T.d_has.fn.any sc_has rfl rfl fun cdv A outer s H E hr hG tk => ?_)
  unfold b_has
  exact (
 (ds_cons (ds_par (i := 2) (j := 3) rfl sc_has.nd rfl rfl (by decide) rfl rfl (dacons (dcallX tk ((gx_need_type T U).mono (by omega)) hr hG rfl T.d_need_type.mg (keep_ok T.d_need_type) T.d_need_type.bd (dacons (dvar (i := 0)) (dacons dstr danil))) (dacons dnever danil)))
 (ds_one (ds_ret (dv_and (dcmp o_isNot (dvar (i := 3)) dnon) (dv_one dnever))))))
theorem g_has (T : Tx P K mg ad fd) {c0 P0 c1 P1 : Addr} (U : Ux base mg K ad c0 P0 c1 P1) : FnG P w K mg base CX0 58 (ad 11) (fd 11) ["told", "value"] (spF K (fun _ => ZF) fun ws => noEx ((F_has P0 P1) ws)) := fn_noEx (gx_has T U)
/-! within -/
abbrev N_within : List Str := ["one", "other", "mine", "its", "value"]
theorem sc_within : FnScope ["one", "other", "mine", "its", "value"] ["one", "other"] (defScope s_within) := ⟨rfl, rfl, rfl, by decide +kernel, rfl, by decide +kernel, by decide +kernel⟩
def st_within_1 (P0 P1 : Addr) : Env → M Fl :=
 (parM 2 3 (consM (calM (consM (varM 0) (consM (cM (.str "one")) nilM)) (F_need_type P0 P1)) (consM (calM (consM (varM 1) (consM (cM (.str "other")) nilM)) (F_need_type P0 P1)) nilM)))
def st_within_2 (P0 P1 : Addr) : Env → M Fl :=
 (ifM (notT (valT (fun _ => no))) (retM (varM 4)) skipM)
def body_within_1 (P0 P1 : Addr) : Env → M Fl :=
 (st_within_2 P0 P1)
def st_within_3 (P0 P1 : Addr) : Env → M Fl :=
 (retM (cM .none))
def b_within (P0 P1 : Addr) : Env → M Fl :=
 (seqM (st_within_1 P0 P1)
 (seqM (forM (fun δ => bd ((fun _ => no) δ) iterM) (setG 4) (body_within_1 P0 P1))
 (st_within_3 P0 P1)))
def F_within (P0 P1 : Addr) : List W → M W := pureT 2 (runD 2 5 (b_within P0 P1))
theorem gx_within (T : Tx P K mg ad fd) {c0 P0 c1 P1 : Addr} (U : Ux base mg K ad c0 P0 c1 P1) : FnG P w K mg base (L2.CX P w) 58 (ad 12) (fd 12) ["one", "other"] (spF K (ZE K) (F_within P0 P1)) := by
  refine fn_pureTX (fn_runX T.d_within.fn.any sc_within rfl rfl fun cdv A outer s H E hr hG tk => ?_)
  unfold b_within
  exact (
 (ds_cons (ds_par (i := 2) (j := 3) rfl sc_within.nd rfl rfl (by decide) rfl rfl (dacons (dcallX tk ((gx_need_type T U).mono (by omega)) hr hG rfl T.d_need_type.mg (keep_ok T.d_need_type) T.d_need_type.bd (dacons (dvar (i := 0)) (dacons dstr danil))) (dacons (dcallX tk ((gx_need_type T U).mono (by omega)) hr hG rfl T.d_need_type.mg (keep_ok T.d_need_type) T.d_need_type.bd (dacons (dvar (i := 1)) (dacons dstr danil))) danil)))
 (ds_cons (ds_for (passes_of rfl) rfl (di_val dnever) (dg_name (i := 4) sc_within.nd rfl (by first | exact Or.inl rfl | exact Or.inr rfl))
 (ds_one (ds_if (dt_not (dt_val dnever)) (ds_one (ds_ret (dvar (i := 4)))) ds_nil)))
 (ds_one (ds_ret dnon)))))
theorem g_within (T : Tx P K mg ad fd) {c0 P0 c1 P1 : Addr} (U : Ux base mg K ad c0 P0 c1 P1) : FnG P w K mg base CX0 58 (ad 12) (fd 12) ["one", "other"] (spF K (fun _ => ZF) fun ws => noEx ((F_within P0 P1) ws)) := fn_noEx (gx_within T U)
/-! _law_pen -/
abbrev N__law_pen : List Str := ["script"]
theorem sc__law_pen : FnScope ["script"] ["script"] (defScope s__law_pen) := ⟨rfl, rfl, rfl, by decide +kernel, rfl, by decide +kernel, by decide +kernel⟩
def st__law_pen_1 : Env → M Fl :=
 (retM (fun δ => bd ((consM (calM (consM (fun δ => bd ((varM 0) δ) fun x => bd ((fun _ => pr none) δ) fun l => bd ((fun δ => bd ((cM (.int 63)) δ) fun w => bd (intOf w) fun i => pr (some i)) δ) fun u => sliceM x l u) nilM) listDM) (consM (cM (.int 0)) (consM (cM (.int 0)) nilM))) δ) newM))
def b__law_pen : Env → M Fl :=
 st__law_pen_1
def F__law_pen : List W → M W := (runD 1 1 b__law_pen)
theorem g__law_pen (T : Tx P K mg ad fd) : FnG P w K mg base CX0 1 (ad 13) (fd 13) ["script"] (spF K (fun _ => ZF) F__law_pen) := by
  refine fn_runC T.d__law_pen.fn.any sc__law_pen rfl rfl fun cdv A outer s H E hco hr hG => ?_
  unfold b__law_pen
  exact (
 (ds_one (ds_ret (dnew (dacons (dcallTy (c_listD rfl) rfl T.m_list bl_list (dacons (dslice x_slice (dvar (i := 0)) dpo_none (dpo_some dint)) danil)) (dacons dint (dacons dint danil)))))))
/-! _law_draw -/
abbrev N__law_draw : List Str := ["pen", "many", "digit", "at", "cell", "great", "mixed"]
theorem sc__law_draw : FnScope ["pen", "many", "digit", "at", "cell", "great", "mixed"] ["pen", "many"] (defScope s__law_draw) := ⟨rfl, rfl, rfl, by decide +kernel, rfl, by decide +kernel, by decide +kernel⟩
def st__law_draw_1 : Env → M Fl :=
 (ifM (valT (binM (binM (varM 0) (cM (.int 2)) itemM) (cM (.int 0)) gtM)) (seqM (asgM (binM (calM (consM (binM (varM 0) (cM (.int 2)) itemM) nilM) intM) (varM 1) modM) (setG 2))
 (seqM (subSM (binM (calM (consM (binM (varM 0) (cM (.int 2)) itemM) nilM) intM) (varM 1) fdvM) (varM 0) (cM (.int 2)))
 (retM (varM 2)))) skipM)
def st__law_draw_2 : Env → M Fl :=
 (asgM (binM (varM 0) (cM (.int 1)) itemM) (setG 3))
def st__law_draw_3 : Env → M Fl :=
 (subSM (binM (varM 3) (cM (.int 1)) addM) (varM 0) (cM (.int 1)))
def st__law_draw_4 : Env → M Fl :=
 (asgM (binM (binM (cM (.int 45895)) (varM 3) mulM) (cM (.int 3310)) addM) (setG 4))
def st__law_draw_5 : Env → M Fl :=
 (ifM (valT (binM (binM (varM 0) (cM (.int 0)) itemM) (fun δ => bd (nilM δ) lstM) neM)) (asgM (binM (binM (varM 0) (cM (.int 0)) itemM) (binM (calM (consM (varM 3) nilM) intM) (calM (consM (binM (varM 0) (cM (.int 0)) itemM) nilM) lenDM) modM) itemM) (setG 4)) skipM)
def st__law_draw_6 : Env → M Fl :=
 (ifM (andT (valT (binM (varM 3) (calM (consM (binM (varM 0) (cM (.int 0)) itemM) nilM) lenDM) ltM)) (valT (binM (calM (consM (varM 4) nilM) absM) (binM (cM (.int 10)) (cM (.int 18)) powM) geM))) (seqM (asgM (binM (binM (cM (.int 2)) (binM (calM (consM (varM 4) nilM) absM) (binM (cM (.int 10)) (cM (.int 18)) powM) subM) mulM) (calM (consM (binM (varM 4) (cM (.int 0)) ltM) nilM) intM) addM) (setG 5))
 (seqM (subSM (binM (calM (consM (varM 5) nilM) intM) (varM 1) fdvM) (varM 0) (cM (.int 2)))
 (retM (binM (calM (consM (varM 5) nilM) intM) (varM 1) modM)))) skipM)
def st__law_draw_7 : Env → M Fl :=
 (asgM (binM (calM (consM (binM (binM (binM (binM (calM (consM (varM 4) nilM) intM) (cM (.int 2147483563)) modM) (binM (cM (.int 66815)) (varM 3) mulM) addM) (cM (.int 3310)) addM) (cM (.int 3)) powM) nilM) intM) (cM (.int 2147483647)) modM) (setG 6))
def st__law_draw_8 : Env → M Fl :=
 (asgM (binM (calM (consM (binM (binM (binM (binM (varM 6) (binM (binM (cM (.int 2)) (varM 3) mulM) (cM (.int 523)) addM) mulM) (binM (binM (cM (.int 66815)) (varM 3) mulM) (varM 3) mulM) addM) (cM (.int 31)) addM) (cM (.int 5)) powM) nilM) intM) (cM (.int 2147483587)) modM) (setG 6))
def st__law_draw_9 : Env → M Fl :=
 (retM (binM (calM (consM (binM (varM 6) (cM (.int 16)) fdvM) nilM) intM) (varM 1) modM))
def b__law_draw : Env → M Fl :=
 (seqM st__law_draw_1
 (seqM st__law_draw_2
 (seqM st__law_draw_3
 (seqM st__law_draw_4
 (seqM st__law_draw_5
 (seqM st__law_draw_6
 (seqM st__law_draw_7
 (seqM st__law_draw_8
 st__law_draw_9))))))))
def F__law_draw : List W → M W := (runD 2 7 b__law_draw)
theorem g__law_draw (T : Tx P K mg ad fd) : FnG P w K mg base CX0 1 (ad 14) (fd 14) ["pen", "many"] (spF K (fun _ => ZF) F__law_draw) := by
  refine fn_runC T.d__law_draw.fn.any sc__law_draw rfl rfl fun cdv A outer s H E hco hr hG => ?_
  unfold b__law_draw
  exact (
 (ds_cons (ds_if (dt_cmp o_gt (dix x_item (dvar (i := 0)) dint) dint) (ds_cons (ds_set (i := 2) sc__law_draw.nd rfl (by first | exact Or.inl rfl | exact Or.inr rfl) (dop o_mod (dcallTy c_int rfl T.m_int bl_int (dacons (dix x_item (dvar (i := 0)) dint) danil)) (dvar (i := 1))))
 (ds_cons (ds_sub (room1 hr) (dop o_fdv (dcallTy c_int rfl T.m_int bl_int (dacons (dix x_item (dvar (i := 0)) dint) danil)) (dvar (i := 1))) (dvar (i := 0)) dint)
 (ds_one (ds_ret (dvar (i := 2)))))) ds_nil)
 (ds_cons (ds_set (i := 3) sc__law_draw.nd rfl (by first | exact Or.inl rfl | exact Or.inr rfl) (dix x_item (dvar (i := 0)) dint))
 (ds_cons (ds_sub (room1 hr) (dop o_add (dvar (i := 3)) dint) (dvar (i := 0)) dint)
 (ds_cons (ds_set (i := 4) sc__law_draw.nd rfl (by first | exact Or.inl rfl | exact Or.inr rfl) (dop o_add (dop o_mul dint (dvar (i := 3))) dint))
 (ds_cons (ds_if (dt_cmp (o_ne (room65 hr)) (dix x_item (dvar (i := 0)) dint) (dlst danil)) (ds_one (ds_set (i := 4) sc__law_draw.nd rfl (by first | exact Or.inl rfl | exact Or.inr rfl) (dix x_item (dix x_item (dvar (i := 0)) dint) (dop o_mod (dcallTy c_int rfl T.m_int bl_int (dacons (dvar (i := 3)) danil)) (dcallB c_lenD rfl T.m_len bl_len (dacons (dix x_item (dvar (i := 0)) dint) danil)))))) ds_nil)
 (ds_cons (ds_if (dt_bool (dw_and (dt_cmp o_lt (dvar (i := 3)) (dcallB c_lenD rfl T.m_len bl_len (dacons (dix x_item (dvar (i := 0)) dint) danil))) (dw_and1 (dt_cmp o_ge (dcallB c_abs rfl T.m_abs bl_abs (dacons (dvar (i := 4)) danil)) (dop o_pow dint dint))))) (ds_cons (ds_set (i := 5) sc__law_draw.nd rfl (by first | exact Or.inl rfl | exact Or.inr rfl) (dop o_add (dop o_mul dint (dop o_sub (dcallB c_abs rfl T.m_abs bl_abs (dacons (dvar (i := 4)) danil)) (dop o_pow dint dint))) (dcallTy c_int rfl T.m_int bl_int (dacons (dcmp o_lt (dvar (i := 4)) dint) danil))))
 (ds_cons (ds_sub (room1 hr) (dop o_fdv (dcallTy c_int rfl T.m_int bl_int (dacons (dvar (i := 5)) danil)) (dvar (i := 1))) (dvar (i := 0)) dint)
 (ds_one (ds_ret (dop o_mod (dcallTy c_int rfl T.m_int bl_int (dacons (dvar (i := 5)) danil)) (dvar (i := 1))))))) ds_nil)
 (ds_cons (ds_set (i := 6) sc__law_draw.nd rfl (by first | exact Or.inl rfl | exact Or.inr rfl) (dop o_mod (dcallTy c_int rfl T.m_int bl_int (dacons (dop o_pow (dop o_add (dop o_add (dop o_mod (dcallTy c_int rfl T.m_int bl_int (dacons (dvar (i := 4)) danil)) dint) (dop o_mul dint (dvar (i := 3)))) dint) dint) danil)) dint))
 (ds_cons (ds_set (i := 6) sc__law_draw.nd rfl (by first | exact Or.inl rfl | exact Or.inr rfl) (dop o_mod (dcallTy c_int rfl T.m_int bl_int (dacons (dop o_pow (dop o_add (dop o_add (dop o_mul (dvar (i := 6)) (dop o_add (dop o_mul dint (dvar (i := 3))) dint)) (dop o_mul (dop o_mul dint (dvar (i := 3))) (dvar (i := 3)))) dint) dint) danil)) dint))
 (ds_one (ds_ret (dop o_mod (dcallTy c_int rfl T.m_int bl_int (dacons (dop o_fdv (dvar (i := 6)) dint) danil)) (dvar (i := 1))))))))))))))
/-! _law_pick -/
abbrev N__law_pick : List Str := ["pen", "some"]
theorem sc__law_pick : FnScope ["pen", "some"] ["pen", "some"] (defScope s__law_pick) := ⟨rfl, rfl, rfl, by decide +kernel, rfl, by decide +kernel, by decide +kernel⟩
def st__law_pick_1 : Env → M Fl :=
 (retM (binM (varM 1) (calM (consM (varM 0) (consM (calM (consM (varM 1) nilM) lenDM) nilM)) fun ws => noEx (F__law_draw ws)) itemM))
def b__law_pick : Env → M Fl :=
 st__law_pick_1
def F__law_pick : List W → M W := (runD 2 2 b__law_pick)
theorem g__law_pick (T : Tx P K mg ad fd) : FnG P w K mg base CX0 2 (ad 15) (fd 15) ["pen", "some"] (spF K (fun _ => ZF) F__law_pick) := by
  refine fn_runC T.d__law_pick.fn.any sc__law_pick rfl rfl fun cdv A outer s H E hco hr hG => ?_
  unfold b__law_pick
  exact (
 (ds_one (ds_ret (dix x_item (dvar (i := 1)) (dcall ((g__law_draw T).mono (by omega)) hr hG rfl T.d__law_draw.mg (keep_ok T.d__law_draw) T.d__law_draw.bd (dacons (dvar (i := 0)) (dacons (dcallB c_lenD rfl T.m_len bl_len (dacons (dvar (i := 1)) danil)) danil)))))))
/-! _law_drawn_kind -/
abbrev N__law_drawn_kind : List Str := ["pen", "deep", "way", "names", "part", "name"]
theorem sc__law_drawn_kind : FnScope ["pen", "deep", "way", "names", "part", "name"] ["pen", "deep"] (defScope s__law_drawn_kind) := ⟨rfl, rfl, rfl, by decide +kernel, rfl, by decide +kernel, by decide +kernel⟩
def st__law_drawn_kind_1 (R__law_drawn_kind : List W → M W) : Env → M Fl :=
 (asgM (calM (consM (varM 0) (consM (cM (.int 10)) nilM)) fun ws => noEx (F__law_draw ws)) (setG 2))
def st__law_drawn_kind_2 (R__law_drawn_kind : List W → M W) : Env → M Fl :=
 (ifM (orT (valT (binM (varM 1) (cM (.int 0)) eqM)) (valT (binM (varM 2) (cM (.int 2)) ltM))) (retM (calM (consM (varM 0) (consM (fun δ => bd ((consM (cM (.str "atom")) (consM (cM (.str "atom")) (consM (cM (.str "never")) (consM (fun δ => bd ((consM (cM (.str "record")) (consM (fun δ => bd (nilM δ) tupM) nilM)) δ) tupM) (consM (fun δ => bd ((consM (cM (.str "or")) (consM (fun δ => bd (nilM δ) tupM) nilM)) δ) tupM) nilM))))) δ) lstM) nilM)) fun ws => noEx (F__law_pick ws))) skipM)
def st__law_drawn_kind_3 (R__law_drawn_kind : List W → M W) : Env → M Fl :=
 (ifM (valT (binM (varM 2) (cM (.int 5)) ltM)) (retM (fun δ => bd ((consM (cM (.str "tag")) (consM (calM (consM (varM 0) (consM (fun δ => bd ((consM (cM (.str "no")) (consM (cM (.str "yes")) (consM (cM (.str "t")) nilM))) δ) lstM) nilM)) fun ws => noEx (F__law_pick ws)) (consM (calM (consM (varM 0) (consM (binM (varM 1) (cM (.int 1)) subM) nilM)) fun ws => noEx (R__law_drawn_kind ws)) nilM))) δ) tupM)) skipM)
def st__law_drawn_kind_4 (R__law_drawn_kind : List W → M W) : Env → M Fl :=
 (ifM (valT (binM (varM 2) (cM (.int 8)) ltM)) (seqM (asgM (calM (consM (varM 0) (consM (fun δ => bd ((consM (fun δ => bd ((consM (cM (.str "a")) nilM) δ) lstM) (consM (fun δ => bd ((consM (cM (.str "b")) nilM) δ) lstM) (consM (fun δ => bd ((consM (cM (.str "a")) (consM (cM (.str "b")) nilM)) δ) lstM) (consM (fun δ => bd ((consM (cM (.str "b")) (consM (cM (.str "a")) nilM)) δ) lstM) (consM (fun δ => bd ((consM (cM (.str "zz")) (consM (cM (.str "a")) (consM (cM (.str "b")) nilM))) δ) lstM) nilM))))) δ) lstM) nilM)) fun ws => noEx (F__law_pick ws)) (setG 3))
 (retM (fun δ => bd ((consM (cM (.str "record")) (consM (calM (consM (lcM [5] (fun δ => bd ((varM 3) δ) iterM) (setG 5) yesT (fun δ => bd ((consM (varM 5) (consM (calM (consM (varM 0) (consM (binM (varM 1) (cM (.int 1)) subM) nilM)) fun ws => noEx (R__law_drawn_kind ws)) (consM (binM (calM (consM (varM 0) (consM (cM (.int 2)) nilM)) fun ws => noEx (F__law_draw ws)) (cM (.int 0)) eqM) nilM))) δ) tupM)) nilM) tupleM) nilM)) δ) tupM))) skipM)
def st__law_drawn_kind_5 (R__law_drawn_kind : List W → M W) : Env → M Fl :=
 (retM (fun δ => bd ((consM (cM (.str "or")) (consM (calM (consM (lcM [4] (fun δ => bd ((consM (binM (cM (.int 1)) (calM (consM (varM 0) (consM (cM (.int 3)) nilM)) fun ws => noEx (F__law_draw ws)) addM) nilM) δ) rng1M) (setG 4) yesT (calM (consM (varM 0) (consM (binM (varM 1) (cM (.int 1)) subM) nilM)) fun ws => noEx (R__law_drawn_kind ws))) nilM) tupleM) nilM)) δ) tupM))
def b__law_drawn_kind (R__law_drawn_kind : List W → M W) : Env → M Fl :=
 (seqM (st__law_drawn_kind_1 R__law_drawn_kind)
 (seqM (st__law_drawn_kind_2 R__law_drawn_kind)
 (seqM (st__law_drawn_kind_3 R__law_drawn_kind)
 (seqM (st__law_drawn_kind_4 R__law_drawn_kind)
 (st__law_drawn_kind_5 R__law_drawn_kind)))))
def F__law_drawn_kind : Nat → List W → M W
  | 0 => fun _ => no
  | n + 1 => (runD 2 6 (b__law_drawn_kind (F__law_drawn_kind n)))
theorem g__law_drawn_kind (T : Tx P K mg ad fd) : ∀ n : Nat, FnG P w K mg base CX0 (3 + n) (ad 16) (fd 16) ["pen", "deep"] (spF K (fun _ => ZF) (F__law_drawn_kind n))
  | 0 => fn_none
  | n + 1 => by
    have ih__law_drawn_kind := g__law_drawn_kind T n
    show FnG P w K mg base CX0 (3 + (n + 1)) (ad 16) (fd 16) ["pen", "deep"] (spF K (fun _ => ZF) ((runD 2 6 (b__law_drawn_kind (F__law_drawn_kind n)))))
    refine fn_runC (j := 3 + n) T.d__law_drawn_kind.fn.any sc__law_drawn_kind rfl rfl fun cdv A outer s H E hco hr hG => ?_
    unfold b__law_drawn_kind
    exact (
 (ds_cons (ds_set (i := 2) sc__law_drawn_kind.nd rfl (by first | exact Or.inl rfl | exact Or.inr rfl) (dcall ((g__law_draw T).mono (by omega)) hr hG rfl T.d__law_draw.mg (keep_ok T.d__law_draw) T.d__law_draw.bd (dacons (dvar (i := 0)) (dacons dint danil))))
 (ds_cons (ds_if (dt_bool (dw_or (dt_cmp (o_eq (room65 hr)) (dvar (i := 1)) dint) (dw_or1 (dt_cmp o_lt (dvar (i := 2)) dint)))) (ds_one (ds_ret (dcall ((g__law_pick T).mono (by omega)) hr hG rfl T.d__law_pick.mg (keep_ok T.d__law_pick) T.d__law_pick.bd (dacons (dvar (i := 0)) (dacons (dlst (dacons dstr (dacons dstr (dacons dstr (dacons (dtup (dacons dstr (dacons (dtup danil) danil))) (dacons (dtup (dacons dstr (dacons (dtup danil) danil))) danil)))))) danil))))) ds_nil)
 (ds_cons (ds_if (dt_cmp o_lt (dvar (i := 2)) dint) (ds_one (ds_ret (dtup (dacons dstr (dacons (dcall ((g__law_pick T).mono (by omega)) hr hG rfl T.d__law_pick.mg (keep_ok T.d__law_pick) T.d__law_pick.bd (dacons (dvar (i := 0)) (dacons (dlst (dacons dstr (dacons dstr (dacons dstr danil)))) danil))) (dacons (dcall (ih__law_drawn_kind.mono (by omega)) hr hG rfl T.d__law_drawn_kind.mg (keep_ok T.d__law_drawn_kind) T.d__law_drawn_kind.bd (dacons (dvar (i := 0)) (dacons (dop o_sub (dvar (i := 1)) dint) danil))) danil)))))) ds_nil)
 (ds_cons (ds_if (dt_cmp o_lt (dvar (i := 2)) dint) (ds_cons (ds_set (i := 3) sc__law_drawn_kind.nd rfl (by first | exact Or.inl rfl | exact Or.inr rfl) (dcall ((g__law_pick T).mono (by omega)) hr hG rfl T.d__law_pick.mg (keep_ok T.d__law_pick) T.d__law_pick.bd (dacons (dvar (i := 0)) (dacons (dlst (dacons (dlst (dacons dstr danil)) (dacons (dlst (dacons dstr danil)) (dacons (dlst (dacons dstr (dacons dstr danil))) (dacons (dlst (dacons dstr (dacons dstr danil))) (dacons (dlst (dacons dstr (dacons dstr (dacons dstr danil)))) danil)))))) danil))))
 (ds_one (ds_ret (dtup (dacons dstr (dacons (dcallTy c_tuple rfl T.m_tuple bl_tuple (dacons (dlc (own := [("name", 5)]) rfl sc__law_drawn_kind.nd (di_val (dvar (i := 3))) (blkOk_by (N := N__law_drawn_kind) (sc := defScope s__law_drawn_kind) (by decide +kernel)) (fun _ _ _ _ _ => (dr_name (i := 5) sc__law_drawn_kind.nd rfl (by first | exact Or.inl rfl | exact Or.inr rfl) (fun _ _ => wipe_set (by decide)))) (fun _ _ _ _ _ => dts_nil) (fun _ _ _ _ _ => (dtup (dacons (dvar (i := 5)) (dacons (dcall (ih__law_drawn_kind.mono (by omega)) hr hG rfl T.d__law_drawn_kind.mg (keep_ok T.d__law_drawn_kind) T.d__law_drawn_kind.bd (dacons (dvar (i := 0)) (dacons (dop o_sub (dvar (i := 1)) dint) danil))) (dacons (dcmp (o_eq (room65 hr)) (dcall ((g__law_draw T).mono (by omega)) hr hG rfl T.d__law_draw.mg (keep_ok T.d__law_draw) T.d__law_draw.bd (dacons (dvar (i := 0)) (dacons dint danil))) dint) danil)))))) danil)) danil)))))) ds_nil)
 (ds_one (ds_ret (dtup (dacons dstr (dacons (dcallTy c_tuple rfl T.m_tuple bl_tuple (dacons (dlc (own := [("part", 4)]) rfl sc__law_drawn_kind.nd (di_rng1 rfl T.m_range (dacons (dop o_add dint (dcall ((g__law_draw T).mono (by omega)) hr hG rfl T.d__law_draw.mg (keep_ok T.d__law_draw) T.d__law_draw.bd (dacons (dvar (i := 0)) (dacons dint danil)))) danil)) (blkOk_by (N := N__law_drawn_kind) (sc := defScope s__law_drawn_kind) (by decide +kernel)) (fun _ _ _ _ _ => (dr_name (i := 4) sc__law_drawn_kind.nd rfl (by first | exact Or.inl rfl | exact Or.inr rfl) (fun _ _ => wipe_set (by decide)))) (fun _ _ _ _ _ => dts_nil) (fun _ _ _ _ _ => (dcall (ih__law_drawn_kind.mono (by omega)) hr hG rfl T.d__law_drawn_kind.mg (keep_ok T.d__law_drawn_kind) T.d__law_drawn_kind.bd (dacons (dvar (i := 0)) (dacons (dop o_sub (dvar (i := 1)) dint) danil))))) danil)) danil))))))))))
/-! _law_heard -/
abbrev N__law_heard : List Str := ["ask", "caught", "error", "word"]
theorem sc__law_heard : FnScope ["ask", "caught", "error", "word"] ["ask"] (defScope s__law_heard) := ⟨rfl, rfl, rfl, by decide +kernel, rfl, by decide +kernel, by decide +kernel⟩
def f__law_heard : Env → M Fl :=
 (seqM (ifM (valT (binM (varM 1) (cM .none) isM)) (retM (fun δ => bd ((consM (cM (.str "told")) nilM) δ) tupM)) skipM)
 (seqM (ifM (valT (fun δ => bd ((varM 1) δ) (isiEM [("BadType", false)]))) (retM (fun δ => bd ((consM (cM (.str "many")) (consM (fun δ => bd ((varM 1) δ) (fldM [] "what")) (consM (fun δ => bd ((varM 1) δ) (fldM [] "most")) nilM))) δ) tupM)) skipM)
 (seqM (ifM (valT (fun δ => bd ((varM 1) δ) (isiEM [("BadType", false)]))) (retM (fun δ => bd ((consM (cM (.str "name")) (consM (calM (consM (fun δ => bd ((varM 1) δ) (fldM [] "value")) nilM) reprM) nilM)) δ) tupM)) skipM)
 (seqM (ifM (valT (fun δ => bd ((varM 1) δ) (isiEM [("BadType", false)]))) (retM (fun δ => bd ((consM (cM (.str "text")) (consM (fun δ => bd ((varM 1) δ) (fldM [] "line")) (consM (fun δ => bd ((varM 1) δ) (fldM [] "word")) nilM))) δ) tupM)) skipM)
 (seqM (asgM (ifV (valT (fun δ => bd ((varM 1) δ) (isiEM [("BadType", true)]))) (cM (.str "type")) (ifV (valT (fun δ => bd ((varM 1) δ) (isiEM [("BadType", false)]))) (cM (.str "value")) (ifV (valT (fun δ => bd ((varM 1) δ) (isiEM [("BadType", false)]))) (cM (.str "signature")) (cM (.str ""))))) (setG 3))
 (seqM (ifM (valT (binM (varM 3) (cM (.str "")) eqM)) (asgM (ifV (valT (fun δ => bd ((varM 1) δ) (isiEM [("BadType", false)]))) (cM (.str "module")) (ifV (valT (fun δ => bd ((varM 1) δ) (isiEM [("BadType", false)]))) (cM (.str "program")) (ifV (valT (fun δ => bd ((varM 1) δ) (isiEM [("BadType", false)]))) (cM (.str "misfit")) (cM (.str ""))))) (setG 3)) skipM)
 (retM (ifV (valT (binM (varM 3) (cM (.str "")) neM)) (fun δ => bd ((consM (varM 3) (consM (fun δ => bd ((varM 1) δ) (fldM ["BadType"] "part")) nilM)) δ) tupM) (fun δ => bd ((consM (cM (.str "other")) nilM) δ) tupM)))))))))
theorem h__law_heard {X : Cx} (T : Tx X.prog X.K X.mg ad fd) (hr0 : Room 1 X.A) (hG0 : X.A.guards = some []) (cdg : Value) : LamX.GivesTo X lN4 "_law_heard" (defScope s__law_heard) (ad 17) cdg (defBody s__law_heard) "ask" (X.env.qual ++ "<lambda>") (TTG X.K (letR f__law_heard) (letE errs f__law_heard)) := by
  obtain ⟨CM, hm, hE⟩ := T.c_MeetError.ex
  exact let_gives rfl rfl rfl rfl (by decide) hm hE (fun _ _ => rfl) (fun _ _ => rfl) (fun _ _ => rfl) (fun s H => by
 have hr : Room 0 (lCx X (defScope s__law_heard) (ad 17) cdg s H).A := hr0.deeper _
 have hG : (lCx X (defScope s__law_heard) (ad 17) cdg s H).A.guards = some [] := hG0
 unfold f__law_heard
 exact (
 (ds_cons (ds_if (dt_cmp o_is (dvar (i := 1)) dnon) (ds_one (ds_ret (dtup (dacons dstr danil)))) ds_nil)
 (ds_cons (ds_if (dt_val (disiT T.k_TooMany rfl T.m_isinstance rfl (dvar (i := 1)))) (ds_one (ds_ret (dtup (dacons dstr (dacons (dfld0 (dvar (i := 1))) (dacons (dfld0 (dvar (i := 1))) danil)))))) ds_nil)
 (ds_cons (ds_if (dt_val (disiT T.k_NoName rfl T.m_isinstance rfl (dvar (i := 1)))) (ds_one (ds_ret (dtup (dacons dstr (dacons (dcallB (c_repr hG (room66 hr)) rfl T.m_repr bl_repr (dacons (dfld0 (dvar (i := 1))) danil)) danil))))) ds_nil)
 (ds_cons (ds_if (dt_val (disiT T.k_BadText rfl T.m_isinstance rfl (dvar (i := 1)))) (ds_one (ds_ret (dtup (dacons dstr (dacons (dfld0 (dvar (i := 1))) (dacons (dfld0 (dvar (i := 1))) danil)))))) ds_nil)
 (ds_cons (ds_set (i := 3) sc__law_heard.nd rfl (by first | exact Or.inl rfl | exact Or.inr rfl) (dif (dt_val (disiT T.k_BadType rfl T.m_isinstance rfl (dvar (i := 1)))) dstr (dif (dt_val (disiT T.k_BadValue rfl T.m_isinstance rfl (dvar (i := 1)))) dstr (dif (dt_val (disiT T.k_BadSignature rfl T.m_isinstance rfl (dvar (i := 1)))) dstr dstr))))
 (ds_cons (ds_if (dt_cmp (o_eq (room65 hr)) (dvar (i := 3)) dstr) (ds_one (ds_set (i := 3) sc__law_heard.nd rfl (by first | exact Or.inl rfl | exact Or.inr rfl) (dif (dt_val (disiT T.k_BadModule rfl T.m_isinstance rfl (dvar (i := 1)))) dstr (dif (dt_val (disiT T.k_BadProgram rfl T.m_isinstance rfl (dvar (i := 1)))) dstr (dif (dt_val (disiT T.k_Misfit rfl T.m_isinstance rfl (dvar (i := 1)))) dstr dstr))))) ds_nil)
 (ds_one (ds_ret (dif (dt_cmp (o_ne (room65 hr)) (dvar (i := 3)) dstr) (dtup (dacons (dvar (i := 3)) (dacons (dfld1 T.f_BadType_part (dvar (i := 1))) danil))) (dtup (dacons dstr danil)))))))))))))
/-! _law_is_name -/
abbrev N__law_is_name : List Str := ["value", "words", "sign"]
theorem sc__law_is_name : FnScope ["value", "words", "sign"] ["value"] (defScope s__law_is_name) := ⟨rfl, rfl, rfl, by decide +kernel, rfl, by decide +kernel, by decide +kernel⟩
def st__law_is_name_1 : Env → M Fl :=
 (asgM (cM (.str "ask atom call case either else field get has let never or pick put raise record tag try with without")) (setG 1))
def st__law_is_name_2 : Env → M Fl :=
 (ifM (orT (notT (valT (fun δ => bd ((varM 0) δ) (isiM [.str])))) (orT (notT (valT (chainM (cM (.int 1)) (calM (consM (varM 0) nilM) lenDM) (cM (.int 8)) leM leM))) (valT (binM (varM 0) (metM (varM 1) (consM (cM (.str " ")) nilM) chkS splitM) inM)))) (retM (cM (.bool false))) skipM)
def st__law_is_name_3 : Env → M Fl :=
 (retM (binM (lcM [2] (fun δ => bd ((varM 0) δ) iterM) (setG 2) (valT (binM (varM 2) (cM (.str "abcdefghijklmnopqrstuvwxyz")) notInM)) (varM 2)) (fun δ => bd (nilM δ) lstM) eqM))
def b__law_is_name : Env → M Fl :=
 (seqM st__law_is_name_1
 (seqM st__law_is_name_2
 st__law_is_name_3))
def F__law_is_name : List W → M W := pureM (runD 1 3 b__law_is_name)
theorem g__law_is_name (T : Tx P K mg ad fd) : FnG P w K mg base CX0 1 (ad 18) (fd 18) ["value"] (spF K (fun _ => ZF) F__law_is_name) := by
  refine fn_pure (fn_runC T.d__law_is_name.fn.any sc__law_is_name rfl rfl fun cdv A outer s H E hco hr hG => ?_)
  unfold b__law_is_name
  exact (
 (ds_cons (ds_set (i := 1) sc__law_is_name.nd rfl (by first | exact Or.inl rfl | exact Or.inr rfl) dstr)
 (ds_cons (ds_if (dt_bool (dw_or (dt_not (dt_val (disi1 (T := .str) rfl T.m_isinstance rfl T.m_str bl_str (dvar (i := 0))))) (dw_or (dt_not (dt_chain o_le o_le dint (dcallB c_lenD rfl T.m_len bl_len (dacons (dvar (i := 0)) danil)) dint)) (dw_or1 (dt_cmp (o_in (room66 hr)) (dvar (i := 0)) (dmet F.plainAttrs_str F.slot_str_split F.type_str_split chkS_ok m_split (dvar (i := 1)) (dacons dstr danil))))))) (ds_one (ds_ret dbl)) ds_nil)
 (ds_one (ds_ret (dcmp (o_eq (room65 hr)) (dlc (own := [("sign", 2)]) rfl sc__law_is_name.nd (di_val (dvar (i := 0))) (blkOk_by (N := N__law_is_name) (sc := defScope s__law_is_name) (by decide +kernel)) (fun _ _ _ _ _ => (dr_name (i := 2) sc__law_is_name.nd rfl (by first | exact Or.inl rfl | exact Or.inr rfl) (fun _ _ => wipe_set (by decide)))) (fun _ _ _ _ _ => (dts_one (dt_cmp (o_notIn (room66 hr)) (dvar (i := 2)) dstr))) (fun _ _ _ _ _ => (dvar (i := 2)))) (dlst danil)))))))
/-! _law_is_type -/
abbrev N__law_is_type : List Str := ["value", "high", "deep", "names", "row", "part"]
theorem sc__law_is_type : FnScope ["value", "high", "deep", "names", "row", "part"] ["value", "high", "deep"] (defScope s__law_is_type) := ⟨rfl, rfl, rfl, by decide +kernel, rfl, by decide +kernel, by decide +kernel⟩
def st__law_is_type_1 (R__law_is_type : List W → M W) : Env → M Fl :=
 (ifM (orT (valT (binM (varM 1) (cM (.int 0)) eqM)) (valT (binM (varM 2) (cM (.int 0)) eqM))) (retM (cM (.bool false))) skipM)
def st__law_is_type_2 (R__law_is_type : List W → M W) : Env → M Fl :=
 (ifM (valT (fun δ => bd ((varM 0) δ) (isiM [.str]))) (retM (binM (varM 0) (fun δ => bd ((consM (cM (.str "atom")) (consM (cM (.str "never")) nilM)) δ) tupM) inM)) skipM)
def st__law_is_type_3 (R__law_is_type : List W → M W) : Env → M Fl :=
 (ifM (orT (notT (valT (fun δ => bd ((varM 0) δ) (isiM [.lst, .tup])))) (orT (valT (binM (calM (consM (varM 0) nilM) lenDM) (fun δ => bd ((consM (cM (.int 2)) (consM (cM (.int 3)) nilM)) δ) tupM) notInM)) (notT (valT (fun δ => bd ((binM (varM 0) (cM (.int 0)) itemM) δ) (isiM [.str])))))) (retM (cM (.bool false))) skipM)
def st__law_is_type_4 (R__law_is_type : List W → M W) : Env → M Fl :=
 (ifM (valT (binM (calM (consM (varM 0) nilM) lenDM) (cM (.int 3)) eqM)) (retM (andV (binM (binM (varM 0) (cM (.int 0)) itemM) (cM (.str "tag")) eqM) (andV (calM (consM (binM (varM 0) (cM (.int 1)) itemM) nilM) fun ws => noEx (F__law_is_name ws)) (calM (consM (binM (varM 0) (cM (.int 2)) itemM) (consM (binM (varM 1) (cM (.int 1)) subM) (consM (binM (varM 2) (cM (.int 1)) subM) nilM))) fun ws => noEx (R__law_is_type ws))))) skipM)
def st__law_is_type_5 (R__law_is_type : List W → M W) : Env → M Fl :=
 (ifM (orT (valT (binM (binM (varM 0) (cM (.int 0)) itemM) (fun δ => bd ((consM (cM (.str "record")) (consM (cM (.str "or")) nilM)) δ) tupM) notInM)) (notT (valT (fun δ => bd ((binM (varM 0) (cM (.int 1)) itemM) δ) (isiM [.lst, .tup]))))) (retM (cM (.bool false))) skipM)
def st__law_is_type_6 (R__law_is_type : List W → M W) : Env → M Fl :=
 (ifM (valT (binM (binM (varM 0) (cM (.int 0)) itemM) (cM (.str "or")) eqM)) (retM (binM (lcM [5] (fun δ => bd ((binM (varM 0) (cM (.int 1)) itemM) δ) iterM) (setG 5) (notT (valT (calM (consM (varM 5) (consM (varM 1) (consM (binM (varM 2) (cM (.int 1)) subM) nilM))) fun ws => noEx (R__law_is_type ws)))) (varM 5)) (fun δ => bd (nilM δ) lstM) eqM)) skipM)
def st__law_is_type_7 (R__law_is_type : List W → M W) : Env → M Fl :=
 (asgM (fun δ => bd (nilM δ) newM) (setG 3))
def st__law_is_type_8 (R__law_is_type : List W → M W) : Env → M Fl :=
 (ifM (valT (binM (calM (consM (binM (varM 0) (cM (.int 1)) itemM) nilM) lenDM) (cM (.int 60)) gtM)) (retM (cM (.bool false))) skipM)
def st__law_is_type_9 (R__law_is_type : List W → M W) : Env → M Fl :=
 (ifM (orT (notT (valT (fun δ => bd ((varM 4) δ) (isiM [.lst, .tup])))) (orT (valT (binM (calM (consM (varM 4) nilM) lenDM) (cM (.int 3)) neM)) (orT (notT (valT (calM (consM (binM (varM 4) (cM (.int 0)) itemM) nilM) fun ws => noEx (F__law_is_name ws)))) (notT (valT (fun δ => bd ((binM (varM 4) (cM (.int 2)) itemM) δ) (isiM [.bl]))))))) (retM (cM (.bool false))) skipM)
def st__law_is_type_10 (R__law_is_type : List W → M W) : Env → M Fl :=
 (ifM (orT (notT (valT (calM (consM (binM (varM 4) (cM (.int 1)) itemM) (consM (binM (varM 1) (cM (.int 1)) subM) (consM (binM (varM 2) (cM (.int 1)) subM) nilM))) fun ws => noEx (R__law_is_type ws)))) (valT (binM (binM (varM 4) (cM (.int 0)) itemM) (varM 3) inM))) (retM (cM (.bool false))) skipM)
def st__law_is_type_11 (R__law_is_type : List W → M W) : Env → M Fl :=
 (exprM (metM (varM 3) (consM (binM (varM 4) (cM (.int 0)) itemM) nilM) chkL appendM))
def body__law_is_type_1 (R__law_is_type : List W → M W) : Env → M Fl :=
 (seqM (st__law_is_type_9 R__law_is_type)
 (seqM (st__law_is_type_10 R__law_is_type)
 (st__law_is_type_11 R__law_is_type)))
def st__law_is_type_12 (R__law_is_type : List W → M W) : Env → M Fl :=
 (retM (cM (.bool true)))
def b__law_is_type (R__law_is_type : List W → M W) : Env → M Fl :=
 (seqM (st__law_is_type_1 R__law_is_type)
 (seqM (st__law_is_type_2 R__law_is_type)
 (seqM (st__law_is_type_3 R__law_is_type)
 (seqM (st__law_is_type_4 R__law_is_type)
 (seqM (st__law_is_type_5 R__law_is_type)
 (seqM (st__law_is_type_6 R__law_is_type)
 (seqM (st__law_is_type_7 R__law_is_type)
 (seqM (st__law_is_type_8 R__law_is_type)
 (seqM (forM (fun δ => bd ((binM (varM 0) (cM (.int 1)) itemM) δ) iterM) (setG 4) (body__law_is_type_1 R__law_is_type))
 (st__law_is_type_12 R__law_is_type))))))))))
def F__law_is_type : Nat → List W → M W
  | 0 => fun _ => no
  | n + 1 => pureM (runD 3 6 (b__law_is_type (F__law_is_type n)))
theorem g__law_is_type (T : Tx P K mg ad fd) : ∀ n : Nat, FnG P w K mg base CX0 (2 + n) (ad 19) (fd 19) ["value", "high", "deep"] (spF K (fun _ => ZF) (F__law_is_type n))
  | 0 => fn_none
  | n + 1 => by
    have ih__law_is_type := g__law_is_type T n
    show FnG P w K mg base CX0 (2 + (n + 1)) (ad 19) (fd 19) ["value", "high", "deep"] (spF K (fun _ => ZF) (pureM (runD 3 6 (b__law_is_type (F__law_is_type n)))))
    refine fn_pure (fn_runC (j := 2 + n) T.d__law_is_type.fn.any sc__law_is_type rfl rfl fun cdv A outer s H E hco hr hG => ?_)
    unfold b__law_is_type
    exact (
 (ds_cons (ds_if (dt_bool (dw_or (dt_cmp (o_eq (room65 hr)) (dvar (i := 1)) dint) (dw_or1 (dt_cmp (o_eq (room65 hr)) (dvar (i := 2)) dint)))) (ds_one (ds_ret dbl)) ds_nil)
 (ds_cons (ds_if (dt_val (disi1 (T := .str) rfl T.m_isinstance rfl T.m_str bl_str (dvar (i := 0)))) (ds_one (ds_ret (dcmp (o_in (room66 hr)) (dvar (i := 0)) (dtup (dacons dstr (dacons dstr danil)))))) ds_nil)
 (ds_cons (ds_if (dt_bool (dw_or (dt_not (dt_val (disi2 (T := .lst) (U := .tup) rfl T.m_isinstance rfl T.m_list bl_list rfl T.m_tuple bl_tuple (dvar (i := 0))))) (dw_or (dt_cmp (o_notIn (room66 hr)) (dcallB c_lenD rfl T.m_len bl_len (dacons (dvar (i := 0)) danil)) (dtup (dacons dint (dacons dint danil)))) (dw_or1 (dt_not (dt_val (disi1 (T := .str) rfl T.m_isinstance rfl T.m_str bl_str (dix x_item (dvar (i := 0)) dint)))))))) (ds_one (ds_ret dbl)) ds_nil)
 (ds_cons (ds_if (dt_cmp (o_eq (room65 hr)) (dcallB c_lenD rfl T.m_len bl_len (dacons (dvar (i := 0)) danil)) dint) (ds_one (ds_ret (dv_and (dcmp (o_eq (room65 hr)) (dix x_item (dvar (i := 0)) dint) dstr) (dv_and (dcall ((g__law_is_name T).mono (by omega)) hr hG rfl T.d__law_is_name.mg (keep_ok T.d__law_is_name) T.d__law_is_name.bd (dacons (dix x_item (dvar (i := 0)) dint) danil)) (dv_one (dcall (ih__law_is_type.mono (by omega)) hr hG rfl T.d__law_is_type.mg (keep_ok T.d__law_is_type) T.d__law_is_type.bd (dacons (dix x_item (dvar (i := 0)) dint) (dacons (dop o_sub (dvar (i := 1)) dint) (dacons (dop o_sub (dvar (i := 2)) dint) danil))))))))) ds_nil)
 (ds_cons (ds_if (dt_bool (dw_or (dt_cmp (o_notIn (room66 hr)) (dix x_item (dvar (i := 0)) dint) (dtup (dacons dstr (dacons dstr danil)))) (dw_or1 (dt_not (dt_val (disi2 (T := .lst) (U := .tup) rfl T.m_isinstance rfl T.m_list bl_list rfl T.m_tuple bl_tuple (dix x_item (dvar (i := 0)) dint))))))) (ds_one (ds_ret dbl)) ds_nil)
 (ds_cons (ds_if (dt_cmp (o_eq (room65 hr)) (dix x_item (dvar (i := 0)) dint) dstr) (ds_one (ds_ret (dcmp (o_eq (room65 hr)) (dlc (own := [("part", 5)]) rfl sc__law_is_type.nd (di_val (dix x_item (dvar (i := 0)) dint)) (blkOk_by (N := N__law_is_type) (sc := defScope s__law_is_type) (by decide +kernel)) (fun _ _ _ _ _ => (dr_name (i := 5) sc__law_is_type.nd rfl (by first | exact Or.inl rfl | exact Or.inr rfl) (fun _ _ => wipe_set (by decide)))) (fun _ _ _ _ _ => (dts_one (dt_not (dt_val (dcall (ih__law_is_type.mono (by omega)) hr hG rfl T.d__law_is_type.mg (keep_ok T.d__law_is_type) T.d__law_is_type.bd (dacons (dvar (i := 5)) (dacons (dvar (i := 1)) (dacons (dop o_sub (dvar (i := 2)) dint) danil)))))))) (fun _ _ _ _ _ => (dvar (i := 5)))) (dlst danil)))) ds_nil)
 (ds_cons (ds_set (i := 3) sc__law_is_type.nd rfl (by first | exact Or.inl rfl | exact Or.inr rfl) (dnew danil))
 (ds_cons (ds_if (dt_cmp o_gt (dcallB c_lenD rfl T.m_len bl_len (dacons (dix x_item (dvar (i := 0)) dint) danil)) dint) (ds_one (ds_ret dbl)) ds_nil)
 (ds_cons (ds_for PassesOwn.never rfl (di_val (dix x_item (dvar (i := 0)) dint)) (dg_name (i := 4) sc__law_is_type.nd rfl (by first | exact Or.inl rfl | exact Or.inr rfl))
 (ds_cons (ds_if (dt_bool (dw_or (dt_not (dt_val (disi2 (T := .lst) (U := .tup) rfl T.m_isinstance rfl T.m_list bl_list rfl T.m_tuple bl_tuple (dvar (i := 4))))) (dw_or (dt_cmp (o_ne (room65 hr)) (dcallB c_lenD rfl T.m_len bl_len (dacons (dvar (i := 4)) danil)) dint) (dw_or (dt_not (dt_val (dcall ((g__law_is_name T).mono (by omega)) hr hG rfl T.d__law_is_name.mg (keep_ok T.d__law_is_name) T.d__law_is_name.bd (dacons (dix x_item (dvar (i := 4)) dint) danil)))) (dw_or1 (dt_not (dt_val (disi1 (T := .bl) rfl T.m_isinstance rfl T.m_bool bl_bool (dix x_item (dvar (i := 4)) dint))))))))) (ds_one (ds_ret dbl)) ds_nil)
 (ds_cons (ds_if (dt_bool (dw_or (dt_not (dt_val (dcall (ih__law_is_type.mono (by omega)) hr hG rfl T.d__law_is_type.mg (keep_ok T.d__law_is_type) T.d__law_is_type.bd (dacons (dix x_item (dvar (i := 4)) dint) (dacons (dop o_sub (dvar (i := 1)) dint) (dacons (dop o_sub (dvar (i := 2)) dint) danil)))))) (dw_or1 (dt_cmp (o_in (room66 hr)) (dix x_item (dvar (i := 4)) dint) (dvar (i := 3)))))) (ds_one (ds_ret dbl)) ds_nil)
 (ds_one (ds_expr (dmet F.plainAttrs_list F.slot_list_append F.type_list_append chkL_ok m_append (dvar (i := 3)) (dacons (dix x_item (dvar (i := 4)) dint) danil)))))))
 (ds_one (ds_ret dbl))))))))))))
/-! _law_bent -/
abbrev N__law_bent : List Str := ["pen", "kind", "odd", "at", "part"]
theorem sc__law_bent : FnScope ["pen", "kind", "odd", "at", "part"] ["pen", "kind"] (defScope s__law_bent) := ⟨rfl, rfl, rfl, by decide +kernel, rfl, by decide +kernel, by decide +kernel⟩
def st__law_bent_1 (R__law_bent : List W → M W) : Env → M Fl :=
 (asgM (fun δ => bd ((consM (cM .none) (consM (cM (.int 5)) (consM (cM (.bool true)) (consM (cM (.str "")) (consM (cM (.str "Atom")) (consM (cM (.str "record")) (consM (cM (.str "tag")) (consM (fun δ => bd (nilM δ) lstM) (consM (fun δ => bd (nilM δ) tupM) (consM (cM (.dict [])) (consM (fun δ => bd ((consM (cM (.str "tag")) nilM) δ) tupM) (consM (fun δ => bd ((consM (cM (.str "or")) nilM) δ) tupM) (consM (fun δ => bd ((consM (cM (.str "record")) nilM) δ) tupM) (consM (fun δ => bd ((consM (cM (.str "tag")) (consM (cM (.str "A")) (consM (cM (.str "atom")) nilM))) δ) tupM) (consM (fun δ => bd ((consM (cM (.str "tag")) (consM (cM (.str "or")) (consM (cM (.str "atom")) nilM))) δ) tupM) (consM (fun δ => bd ((consM (cM (.str "tag")) (consM (cM (.str "abcdefghi")) (consM (cM (.str "atom")) nilM))) δ) tupM) nilM)))))))))))))))) δ) lstM) (setG 2))
def st__law_bent_2 (R__law_bent : List W → M W) : Env → M Fl :=
 (asgM (binM (varM 2) (fun δ => bd ((consM (fun δ => bd ((consM (cM (.str "or")) (consM (cM (.str "atom")) nilM)) δ) tupM) (consM (fun δ => bd ((consM (cM (.str "record")) (consM (cM (.str "atom")) nilM)) δ) tupM) (consM (fun δ => bd ((consM (cM (.str "record")) (consM (fun δ => bd ((consM (fun δ => bd ((consM (cM (.str "a")) (consM (cM (.str "atom")) nilM)) δ) tupM) nilM) δ) tupM) nilM)) δ) tupM) (consM (fun δ => bd ((consM (cM (.str "record")) (consM (fun δ => bd ((consM (fun δ => bd ((consM (cM (.str "a")) (consM (cM (.str "atom")) (consM (cM (.int 1)) nilM))) δ) tupM) nilM) δ) tupM) nilM)) δ) tupM) (consM (fun δ => bd ((consM (cM (.str "record")) (consM (fun δ => bd ((consM (fun δ => bd ((consM (cM (.str "a")) (consM (cM (.str "atom")) (consM (cM (.bool true)) nilM))) δ) tupM) (consM (fun δ => bd ((consM (cM (.str "a")) (consM (cM (.str "never")) (consM (cM (.bool false)) nilM))) δ) lstM) nilM)) δ) tupM) nilM)) δ) tupM) (consM (fun δ => bd ((consM (cM (.str "atom")) nilM) δ) tupM) nilM)))))) δ) lstM) addM) (setG 2))
def st__law_bent_3 (R__law_bent : List W → M W) : Env → M Fl :=
 (asgM (binM (varM 2) (fun δ => bd ((consM (fun δ => bd ((consM (cM (.str "record")) (consM (cM (.dict [(.str "a", .str "atom")])) nilM)) δ) tupM) (consM (fun δ => bd ((consM (cM (.str "record")) (consM (fun δ => bd ((consM (fun δ => bd ((consM (cM (.str "get")) (consM (cM (.str "atom")) (consM (cM (.bool true)) nilM))) δ) tupM) nilM) δ) tupM) nilM)) δ) tupM) (consM (fun δ => bd ((consM (cM (.str "record")) (consM (fun δ => bd ((consM (fun δ => bd ((consM (cM (.str "a")) (consM (cM .none) (consM (cM (.bool true)) nilM))) δ) tupM) nilM) δ) tupM) nilM)) δ) tupM) (consM (fun δ => bd ((consM (cM (.str "or")) (consM (fun δ => bd ((consM (cM .none) nilM) δ) tupM) nilM)) δ) tupM) (consM (fun δ => bd ((consM (cM (.str "or")) (consM (fun δ => bd ((consM (cM (.str "atom")) nilM) δ) lstM) nilM)) δ) lstM) (consM (fun δ => bd ((consM (cM (.str "tag")) (consM (cM (.str "no")) (consM (cM (.str "atom")) (consM (cM (.int 1)) nilM)))) δ) tupM) (consM (fun δ => bd ((consM (cM (.int 5)) (consM (cM (.str "atom")) nilM)) δ) tupM) (consM (fun δ => bd ((consM (cM (.str "kind")) (consM (fun δ => bd ((consM (cM (.str "atom")) nilM) δ) tupM) nilM)) δ) tupM) nilM)))))))) δ) lstM) addM) (setG 2))
def st__law_bent_4 (R__law_bent : List W → M W) : Env → M Fl :=
 (ifM (orT (valT (fun δ => bd ((varM 1) δ) (isiM [.str]))) (valT (binM (calM (consM (varM 0) (consM (cM (.int 4)) nilM)) fun ws => noEx (F__law_draw ws)) (cM (.int 0)) eqM))) (retM (calM (consM (varM 0) (consM (varM 2) nilM)) fun ws => noEx (F__law_pick ws))) skipM)
def st__law_bent_5 (R__law_bent : List W → M W) : Env → M Fl :=
 (ifM (valT (binM (binM (varM 1) (cM (.int 0)) itemM) (cM (.str "tag")) eqM)) (retM (calM (consM (varM 0) (consM (fun δ => bd ((consM (binM (calM (consM (fun δ => bd ((varM 1) δ) fun x => bd ((fun _ => pr none) δ) fun l => bd ((fun δ => bd ((cM (.int 2)) δ) fun w => bd (intOf w) fun i => pr (some i)) δ) fun u => sliceM x l u) nilM) listDM) (fun δ => bd ((consM (calM (consM (varM 0) (consM (binM (varM 1) (cM (.int 2)) itemM) nilM)) fun ws => noEx (R__law_bent ws)) nilM) δ) lstM) addM) (consM (fun δ => bd ((consM (cM (.str "tag")) (consM (binM (varM 1) (cM (.int 1)) itemM) (consM (calM (consM (varM 0) (consM (binM (varM 1) (cM (.int 2)) itemM) nilM)) fun ws => noEx (R__law_bent ws)) nilM))) δ) tupM) nilM)) δ) lstM) nilM)) fun ws => noEx (F__law_pick ws))) skipM)
def st__law_bent_6 (R__law_bent : List W → M W) : Env → M Fl :=
 (ifM (valT (binM (binM (varM 1) (cM (.int 1)) itemM) (fun δ => bd (nilM δ) tupM) eqM)) (retM (calM (consM (varM 0) (consM (varM 2) nilM)) fun ws => noEx (F__law_pick ws))) skipM)
def st__law_bent_7 (R__law_bent : List W → M W) : Env → M Fl :=
 (asgM (calM (consM (varM 0) (consM (calM (consM (binM (varM 1) (cM (.int 1)) itemM) nilM) lenDM) nilM)) fun ws => noEx (F__law_draw ws)) (setG 3))
def st__law_bent_8 (R__law_bent : List W → M W) : Env → M Fl :=
 (asgM (binM (binM (varM 1) (cM (.int 1)) itemM) (varM 3) itemM) (setG 4))
def st__law_bent_9 (R__law_bent : List W → M W) : Env → M Fl :=
 (asgM (ifV (valT (binM (binM (varM 1) (cM (.int 0)) itemM) (cM (.str "or")) eqM)) (calM (consM (varM 0) (consM (varM 4) nilM)) fun ws => noEx (R__law_bent ws)) (calM (consM (varM 0) (consM (fun δ => bd ((consM (fun δ => bd ((consM (binM (varM 4) (cM (.int 0)) itemM) (consM (calM (consM (varM 0) (consM (binM (varM 4) (cM (.int 1)) itemM) nilM)) fun ws => noEx (R__law_bent ws)) (consM (binM (varM 4) (cM (.int 2)) itemM) nilM))) δ) tupM) (consM (fun δ => bd ((varM 4) δ) fun x => bd ((fun _ => pr none) δ) fun l => bd ((fun δ => bd ((cM (.int 2)) δ) fun w => bd (intOf w) fun i => pr (some i)) δ) fun u => sliceM x l u) (consM (binM (varM 4) (fun δ => bd ((consM (cM (.int 1)) nilM) δ) tupM) addM) (consM (binM (fun δ => bd ((consM (calM (consM (varM 0) (consM (fun δ => bd ((consM (cM (.str "A")) (consM (cM (.int 5)) (consM (cM (.str "never")) (consM (cM (.str "")) nilM)))) δ) lstM) nilM)) fun ws => noEx (F__law_pick ws)) nilM) δ) tupM) (fun δ => bd ((varM 4) δ) fun x => bd ((fun δ => bd ((cM (.int 1)) δ) fun w => bd (intOf w) fun i => pr (some i)) δ) fun l => bd ((fun _ => pr none) δ) fun u => sliceM x l u) addM) (consM (binM (fun δ => bd ((varM 4) δ) fun x => bd ((fun _ => pr none) δ) fun l => bd ((fun δ => bd ((cM (.int 2)) δ) fun w => bd (intOf w) fun i => pr (some i)) δ) fun u => sliceM x l u) (fun δ => bd ((consM (cM .none) nilM) δ) tupM) addM) nilM))))) δ) lstM) nilM)) fun ws => noEx (F__law_pick ws))) (setG 4))
def st__law_bent_10 (R__law_bent : List W → M W) : Env → M Fl :=
 (retM (fun δ => bd ((consM (binM (varM 1) (cM (.int 0)) itemM) (consM (binM (binM (fun δ => bd ((binM (varM 1) (cM (.int 1)) itemM) δ) fun x => bd ((fun _ => pr none) δ) fun l => bd ((fun δ => bd ((varM 3) δ) fun w => bd (intOf w) fun i => pr (some i)) δ) fun u => sliceM x l u) (fun δ => bd ((consM (varM 4) nilM) δ) tupM) addM) (fun δ => bd ((binM (varM 1) (cM (.int 1)) itemM) δ) fun x => bd ((fun δ => bd ((binM (varM 3) (cM (.int 1)) addM) δ) fun w => bd (intOf w) fun i => pr (some i)) δ) fun l => bd ((fun _ => pr none) δ) fun u => sliceM x l u) addM) nilM)) δ) tupM))
def b__law_bent (R__law_bent : List W → M W) : Env → M Fl :=
 (seqM (st__law_bent_1 R__law_bent)
 (seqM (st__law_bent_2 R__law_bent)
 (seqM (st__law_bent_3 R__law_bent)
 (seqM (st__law_bent_4 R__law_bent)
 (seqM (st__law_bent_5 R__law_bent)
 (seqM (st__law_bent_6 R__law_bent)
 (seqM (st__law_bent_7 R__law_bent)
 (seqM (st__law_bent_8 R__law_bent)
 (seqM (st__law_bent_9 R__law_bent)
 (st__law_bent_10 R__law_bent))))))))))
def F__law_bent : Nat → List W → M W
  | 0 => fun _ => no
  | n + 1 => (runD 2 5 (b__law_bent (F__law_bent n)))
theorem g__law_bent (T : Tx P K mg ad fd) : ∀ n : Nat, FnG P w K mg base CX0 (3 + n) (ad 20) (fd 20) ["pen", "kind"] (spF K (fun _ => ZF) (F__law_bent n))
  | 0 => fn_none
  | n + 1 => by
    have ih__law_bent := g__law_bent T n
    show FnG P w K mg base CX0 (3 + (n + 1)) (ad 20) (fd 20) ["pen", "kind"] (spF K (fun _ => ZF) ((runD 2 5 (b__law_bent (F__law_bent n)))))
    refine fn_runC (j := 3 + n) T.d__law_bent.fn.any sc__law_bent rfl rfl fun cdv A outer s H E hco hr hG => ?_
    unfold b__law_bent
    exact (
 (ds_cons (ds_set (i := 2) sc__law_bent.nd rfl (by first | exact Or.inl rfl | exact Or.inr rfl) (dlst (dacons dnon (dacons dint (dacons dbl (dacons dstr (dacons dstr (dacons dstr (dacons dstr (dacons (dlst danil) (dacons (dtup danil) (dacons dd0 (dacons (dtup (dacons dstr danil)) (dacons (dtup (dacons dstr danil)) (dacons (dtup (dacons dstr danil)) (dacons (dtup (dacons dstr (dacons dstr (dacons dstr danil)))) (dacons (dtup (dacons dstr (dacons dstr (dacons dstr danil)))) (dacons (dtup (dacons dstr (dacons dstr (dacons dstr danil)))) danil))))))))))))))))))
 (ds_cons (ds_set (i := 2) sc__law_bent.nd rfl (by first | exact Or.inl rfl | exact Or.inr rfl) (dop o_add (dvar (i := 2)) (dlst (dacons (dtup (dacons dstr (dacons dstr danil))) (dacons (dtup (dacons dstr (dacons dstr danil))) (dacons (dtup (dacons dstr (dacons (dtup (dacons (dtup (dacons dstr (dacons dstr danil))) danil)) danil))) (dacons (dtup (dacons dstr (dacons (dtup (dacons (dtup (dacons dstr (dacons dstr (dacons dint danil)))) danil)) danil))) (dacons (dtup (dacons dstr (dacons (dtup (dacons (dtup (dacons dstr (dacons dstr (dacons dbl danil)))) (dacons (dlst (dacons dstr (dacons dstr (dacons dbl danil)))) danil))) danil))) (dacons (dtup (dacons dstr danil)) danil)))))))))
 (ds_cons (ds_set (i := 2) sc__law_bent.nd rfl (by first | exact Or.inl rfl | exact Or.inr rfl) (dop o_add (dvar (i := 2)) (dlst (dacons (dtup (dacons dstr (dacons dd1 danil))) (dacons (dtup (dacons dstr (dacons (dtup (dacons (dtup (dacons dstr (dacons dstr (dacons dbl danil)))) danil)) danil))) (dacons (dtup (dacons dstr (dacons (dtup (dacons (dtup (dacons dstr (dacons dnon (dacons dbl danil)))) danil)) danil))) (dacons (dtup (dacons dstr (dacons (dtup (dacons dnon danil)) danil))) (dacons (dlst (dacons dstr (dacons (dlst (dacons dstr danil)) danil))) (dacons (dtup (dacons dstr (dacons dstr (dacons dstr (dacons dint danil))))) (dacons (dtup (dacons dint (dacons dstr danil))) (dacons (dtup (dacons dstr (dacons (dtup (dacons dstr danil)) danil))) danil)))))))))))
 (ds_cons (ds_if (dt_bool (dw_or (dt_val (disi1 (T := .str) rfl T.m_isinstance rfl T.m_str bl_str (dvar (i := 1)))) (dw_or1 (dt_cmp (o_eq (room65 hr)) (dcall ((g__law_draw T).mono (by omega)) hr hG rfl T.d__law_draw.mg (keep_ok T.d__law_draw) T.d__law_draw.bd (dacons (dvar (i := 0)) (dacons dint danil))) dint)))) (ds_one (ds_ret (dcall ((g__law_pick T).mono (by omega)) hr hG rfl T.d__law_pick.mg (keep_ok T.d__law_pick) T.d__law_pick.bd (dacons (dvar (i := 0)) (dacons (dvar (i := 2)) danil))))) ds_nil)
 (ds_cons (ds_if (dt_cmp (o_eq (room65 hr)) (dix x_item (dvar (i := 1)) dint) dstr) (ds_one (ds_ret (dcall ((g__law_pick T).mono (by omega)) hr hG rfl T.d__law_pick.mg (keep_ok T.d__law_pick) T.d__law_pick.bd (dacons (dvar (i := 0)) (dacons (dlst (dacons (dop o_add (dcallTy (c_listD rfl) rfl T.m_list bl_list (dacons (dslice x_slice (dvar (i := 1)) dpo_none (dpo_some dint)) danil)) (dlst (dacons (dcall (ih__law_bent.mono (by omega)) hr hG rfl T.d__law_bent.mg (keep_ok T.d__law_bent) T.d__law_bent.bd (dacons (dvar (i := 0)) (dacons (dix x_item (dvar (i := 1)) dint) danil))) danil))) (dacons (dtup (dacons dstr (dacons (dix x_item (dvar (i := 1)) dint) (dacons (dcall (ih__law_bent.mono (by omega)) hr hG rfl T.d__law_bent.mg (keep_ok T.d__law_bent) T.d__law_bent.bd (dacons (dvar (i := 0)) (dacons (dix x_item (dvar (i := 1)) dint) danil))) danil)))) danil))) danil))))) ds_nil)
 (ds_cons (ds_if (dt_cmp (o_eq (room65 hr)) (dix x_item (dvar (i := 1)) dint) (dtup danil)) (ds_one (ds_ret (dcall ((g__law_pick T).mono (by omega)) hr hG rfl T.d__law_pick.mg (keep_ok T.d__law_pick) T.d__law_pick.bd (dacons (dvar (i := 0)) (dacons (dvar (i := 2)) danil))))) ds_nil)
 (ds_cons (ds_set (i := 3) sc__law_bent.nd rfl (by first | exact Or.inl rfl | exact Or.inr rfl) (dcall ((g__law_draw T).mono (by omega)) hr hG rfl T.d__law_draw.mg (keep_ok T.d__law_draw) T.d__law_draw.bd (dacons (dvar (i := 0)) (dacons (dcallB c_lenD rfl T.m_len bl_len (dacons (dix x_item (dvar (i := 1)) dint) danil)) danil))))
 (ds_cons (ds_set (i := 4) sc__law_bent.nd rfl (by first | exact Or.inl rfl | exact Or.inr rfl) (dix x_item (dix x_item (dvar (i := 1)) dint) (dvar (i := 3))))
 (ds_cons (ds_set (i := 4) sc__law_bent.nd rfl (by first | exact Or.inl rfl | exact Or.inr rfl) (dif (dt_cmp (o_eq (room65 hr)) (dix x_item (dvar (i := 1)) dint) dstr) (dcall (ih__law_bent.mono (by omega)) hr hG rfl T.d__law_bent.mg (keep_ok T.d__law_bent) T.d__law_bent.bd (dacons (dvar (i := 0)) (dacons (dvar (i := 4)) danil))) (dcall ((g__law_pick T).mono (by omega)) hr hG rfl T.d__law_pick.mg (keep_ok T.d__law_pick) T.d__law_pick.bd (dacons (dvar (i := 0)) (dacons (dlst (dacons (dtup (dacons (dix x_item (dvar (i := 4)) dint) (dacons (dcall (ih__law_bent.mono (by omega)) hr hG rfl T.d__law_bent.mg (keep_ok T.d__law_bent) T.d__law_bent.bd (dacons (dvar (i := 0)) (dacons (dix x_item (dvar (i := 4)) dint) danil))) (dacons (dix x_item (dvar (i := 4)) dint) danil)))) (dacons (dslice x_slice (dvar (i := 4)) dpo_none (dpo_some dint)) (dacons (dop o_add (dvar (i := 4)) (dtup (dacons dint danil))) (dacons (dop o_add (dtup (dacons (dcall ((g__law_pick T).mono (by omega)) hr hG rfl T.d__law_pick.mg (keep_ok T.d__law_pick) T.d__law_pick.bd (dacons (dvar (i := 0)) (dacons (dlst (dacons dstr (dacons dint (dacons dstr (dacons dstr danil))))) danil))) danil)) (dslice x_slice (dvar (i := 4)) (dpo_some dint) dpo_none)) (dacons (dop o_add (dslice x_slice (dvar (i := 4)) dpo_none (dpo_some dint)) (dtup (dacons dnon danil))) danil)))))) danil)))))
 (ds_one (ds_ret (dtup (dacons (dix x_item (dvar (i := 1)) dint) (dacons (dop o_add (dop o_add (dslice x_slice (dix x_item (dvar (i := 1)) dint) dpo_none (dpo_some (dvar (i := 3)))) (dtup (dacons (dvar (i := 4)) danil))) (dslice x_slice (dix x_item (dvar (i := 1)) dint) (dpo_some (dop o_add (dvar (i := 3)) dint)) dpo_none)) danil)))))))))))))))
/-! law -/
abbrev N_law : List Str := ["script", "pen", "turn", "kind", "due", "many", "rows", "tall", "wide", "at"]
theorem sc_law : FnScope ["script", "pen", "turn", "kind", "due", "many", "rows", "tall", "wide", "at"] ["script"] (defScope s_law) := ⟨rfl, rfl, rfl, by decide +kernel, rfl, by decide +kernel, by decide +kernel⟩
def st_law_1 (P0 P1 : Addr) : Env → M Fl :=
 (asgM (calM (consM (varM 0) nilM) fun ws => noEx (F__law_pen ws)) (setG 1))
def st_law_2 (P0 P1 : Addr) : Env → M Fl :=
 (asgM (calM (consM (varM 1) (consM (calM (consM (varM 1) (consM (cM (.int 4)) nilM)) fun ws => noEx ((F__law_drawn_kind 5) ws)) nilM)) fun ws => noEx ((F__law_bent 6) ws)) (setG 3))
def st_law_3 (P0 P1 : Addr) : Env → M Fl :=
 (asgM (calM (consM (varM 3) (consM (cM (.int 8)) (consM (cM (.int 24)) nilM))) fun ws => noEx ((F__law_is_type 26) ws)) (setG 4))
def st_law_4 (P0 P1 : Addr) : Env → M Fl :=
 (ifM (orT (valT (binM (calM (consM (calM (consM (varM 3) nilM) fun ws => noEx ((F_is_type P0 P1) ws)) nilM) reprM) (calM (consM (varM 4) nilM) reprM) neM)) (valT (binM (calK nilM (consM (varM 3) nilM) (gP 0 1 [0]) (fun ws => noEx ((F_is_type P0 P1) ws))) (varM 4) neM))) (retM (cM (.bool false))) skipM)
def st_law_5 (P0 P1 : Addr) : Env → M Fl :=
 (ifM (andT (notT (valT (varM 4))) (valT (binM (fun δ => bd ((consM (heardG P0 qL_law (letR f__law_heard) (letE errs f__law_heard) [] [3] (calM (consM (varM 0) (consM (cM .none) nilM)) (F_has P0 P1))) (consM (heardG P0 qL_law (letR f__law_heard) (letE errs f__law_heard) [.d (.int 0)] [3] (calM (consM (varM 1) (consM (varM 1) nilM)) (F_within P0 P1))) nilM)) δ) lstM) (fun δ => bd ((consM (fun δ => bd ((consM (cM (.str "type")) (consM (cM (.str "told")) nilM)) δ) tupM) (consM (fun δ => bd ((consM (cM (.str "type")) (consM (cM (.str "one")) nilM)) δ) tupM) nilM)) δ) lstM) neM))) (retM (cM (.bool false))) skipM)
def body_law_1 (P0 P1 : Addr) : Env → M Fl :=
 (seqM (st_law_2 P0 P1)
 (seqM (st_law_3 P0 P1)
 (seqM (st_law_4 P0 P1)
 (st_law_5 P0 P1))))
def st_law_6 (P0 P1 : Addr) : Env → M Fl :=
 (asgM (binM (cM (.int 59)) (calM (consM (varM 1) (consM (cM (.int 4)) nilM)) fun ws => noEx (F__law_draw ws)) addM) (setG 5))
def st_law_7 (P0 P1 : Addr) : Env → M Fl :=
 (asgM (lcM [9] (fun δ => bd ((consM (varM 5) nilM) δ) rng1M) (setG 9) yesT (fun δ => bd ((consM (binM (binM (cM (.str "abcdefgh")) (binM (calM (consM (varM 9) nilM) intM) (cM (.int 10)) fdvM) itemM) (binM (cM (.str "abcdefghij")) (binM (calM (consM (varM 9) nilM) intM) (cM (.int 10)) modM) itemM) addM) (consM (calM (consM (varM 1) (consM (fun δ => bd ((consM (cM (.str "atom")) (consM (cM (.str "never")) nilM)) δ) lstM) nilM)) fun ws => noEx (F__law_pick ws)) (consM (binM (binM (varM 9) (cM (.int 2)) modM) (cM (.int 0)) eqM) nilM))) δ) tupM)) (setG 6))
def st_law_8 (P0 P1 : Addr) : Env → M Fl :=
 (ifM (orT (valT (binM (calM (consM (calM (consM (fun δ => bd ((consM (cM (.str "record")) (consM (varM 6) nilM)) δ) tupM) nilM) fun ws => noEx ((F_is_type P0 P1) ws)) nilM) reprM) (calM (consM (binM (varM 5) (cM (.int 60)) leM) nilM) reprM) neM)) (valT (binM (calM (consM (calM (consM (fun δ => bd ((consM (cM (.str "tag")) (consM (cM (.str "t")) (consM (fun δ => bd ((consM (cM (.str "record")) (consM (fun δ => bd ((varM 6) δ) revM) nilM)) δ) lstM) nilM))) δ) tupM) nilM) fun ws => noEx ((F_is_type P0 P1) ws)) nilM) reprM) (calM (consM (binM (varM 5) (cM (.int 60)) leM) nilM) reprM) neM))) (retM (cM (.bool false))) skipM)
def st_law_9 (P0 P1 : Addr) : Env → M Fl :=
 (parM 7 8 (consM (calM (consM (varM 1) (consM (fun δ => bd ((consM (cM (.str "atom")) (consM (fun δ => bd ((consM (cM (.str "record")) (consM (fun δ => bd (nilM δ) tupM) nilM)) δ) tupM) (consM (fun δ => bd ((consM (cM (.str "or")) (consM (fun δ => bd (nilM δ) tupM) nilM)) δ) tupM) nilM))) δ) lstM) nilM)) fun ws => noEx (F__law_pick ws)) (consM (cM (.str "atom")) nilM)))
def st_law_10 (P0 P1 : Addr) : Env → M Fl :=
 (ifM (valT (binM (calM (consM (varM 7) nilM) fun ws => noEx ((F_is_type P0 P1) ws)) (cM (.bool true)) isNotM)) (retM (cM (.bool false))) skipM)
def st_law_11 (P0 P1 : Addr) : Env → M Fl :=
 (asgM (calM (consM (varM 1) (consM (fun δ => bd ((consM (fun δ => bd ((consM (cM (.str "tag")) (consM (cM (.str "t")) (consM (varM 7) nilM))) δ) tupM) (consM (fun δ => bd ((consM (cM (.str "record")) (consM (fun δ => bd ((consM (fun δ => bd ((consM (cM (.str "a")) (consM (varM 7) (consM (cM (.bool false)) nilM))) δ) tupM) nilM) δ) tupM) nilM)) δ) tupM) (consM (fun δ => bd ((consM (cM (.str "tag")) (consM (cM (.str "no")) (consM (varM 7) nilM))) δ) lstM) nilM))) δ) lstM) nilM)) fun ws => noEx (F__law_pick ws)) (setG 7))
def body_law_2 (P0 P1 : Addr) : Env → M Fl :=
 (seqM (st_law_10 P0 P1)
 (st_law_11 P0 P1))
def st_law_12 (P0 P1 : Addr) : Env → M Fl :=
 (asgM (fun δ => bd ((consM (cM (.str "or")) (consM (ifV (valT (binM (calM (consM (varM 1) (consM (cM (.int 2)) nilM)) fun ws => noEx (F__law_draw ws)) (cM (.int 0)) eqM)) (fun δ => bd ((consM (varM 8) nilM) δ) lstM) (fun δ => bd ((consM (cM (.str "never")) (consM (varM 8) nilM)) δ) tupM)) nilM)) δ) tupM) (setG 8))
def body_law_3 (P0 P1 : Addr) : Env → M Fl :=
 (st_law_12 P0 P1)
def st_law_13 (P0 P1 : Addr) : Env → M Fl :=
 (retM (andV (binM (calM (consM (varM 7) nilM) fun ws => noEx ((F_is_type P0 P1) ws)) (cM (.bool false)) isM) (andV (binM (calM (consM (varM 8) nilM) fun ws => noEx ((F_is_type P0 P1) ws)) (cM (.bool true)) isM) (andV (binM (calM (consM (fun δ => bd ((consM (cM (.str "or")) (consM (fun δ => bd ((consM (varM 8) nilM) δ) tupM) nilM)) δ) tupM) nilM) fun ws => noEx ((F_is_type P0 P1) ws)) (cM (.bool false)) isM) (binM (calM (consM (varM 8) nilM) fun ws => noEx ((F_values_of P0 P1) ws)) (fun δ => bd ((consM (cM (.str "atom")) nilM) δ) tupM) eqM)))))
def b_law (P0 P1 : Addr) : Env → M Fl :=
 (seqM (st_law_1 P0 P1)
 (seqM (forM (fun δ => bd ((consM (cM (.int 24)) nilM) δ) rng1M) (setG 2) (body_law_1 P0 P1))
 (seqM (st_law_6 P0 P1)
 (seqM (st_law_7 P0 P1)
 (seqM (st_law_8 P0 P1)
 (seqM (st_law_9 P0 P1)
 (seqM (forM (fun δ => bd ((consM (cM (.int 8)) nilM) δ) rng1M) (setG 2) (body_law_2 P0 P1))
 (seqM (forM (fun δ => bd ((consM (cM (.int 23)) nilM) δ) rng1M) (setG 2) (body_law_3 P0 P1))
 (st_law_13 P0 P1)))))))))
def F_law (P0 P1 : Addr) : List W → M W := (runD 1 10 (b_law P0 P1))
theorem g_law (T : Tx P K mg ad fd) {c0 P0 c1 P1 : Addr} (U : Ux base mg K ad c0 P0 c1 P1) : FnG P w K mg base CX0 61 (ad 21) (fd 21) ["script"] (spF K (fun _ => ZF) (F_law P0 P1)) := by
  refine fn_runC T.d_law.fn.any sc_law rfl rfl fun cdv A outer s H E hco hr hG => ?_
  unfold b_law
  exact (
 (ds_cons (ds_set (i := 1) sc_law.nd rfl (by first | exact Or.inl rfl | exact Or.inr rfl) (dcall ((g__law_pen T).mono (by omega)) hr hG rfl T.d__law_pen.mg (keep_ok T.d__law_pen) T.d__law_pen.bd (dacons (dvar (i := 0)) danil)))
 (ds_cons (ds_for PassesOwn.never rfl (di_rng1 rfl T.m_range (dacons dint danil)) (dg_name (i := 2) sc_law.nd rfl (by first | exact Or.inl rfl | exact Or.inr rfl))
 (ds_cons (ds_set (i := 3) sc_law.nd rfl (by first | exact Or.inl rfl | exact Or.inr rfl) (dcall ((g__law_bent T 6).mono (by omega)) hr hG rfl T.d__law_bent.mg (keep_ok T.d__law_bent) T.d__law_bent.bd (dacons (dvar (i := 1)) (dacons (dcall ((g__law_drawn_kind T 5).mono (by omega)) hr hG rfl T.d__law_drawn_kind.mg (keep_ok T.d__law_drawn_kind) T.d__law_drawn_kind.bd (dacons (dvar (i := 1)) (dacons dint danil))) danil))))
 (ds_cons (ds_set (i := 4) sc_law.nd rfl (by first | exact Or.inl rfl | exact Or.inr rfl) (dcall ((g__law_is_type T 26).mono (by omega)) hr hG rfl T.d__law_is_type.mg (keep_ok T.d__law_is_type) T.d__law_is_type.bd (dacons (dvar (i := 3)) (dacons dint (dacons dint danil)))))
 (ds_cons (ds_if (dt_bool (dw_or (dt_cmp (o_ne (room65 hr)) (dcallB (c_repr hG (room66 hr)) rfl T.m_repr bl_repr (dacons (dcall ((g_is_type T U).mono (by omega)) hr hG rfl T.d_is_type.mg (keep_ok T.d_is_type) T.d_is_type.bd (dacons (dvar (i := 3)) danil)) danil)) (dcallB (c_repr hG (room66 hr)) rfl T.m_repr bl_repr (dacons (dvar (i := 4)) danil))) (dw_or1 (dt_cmp (o_ne (room65 hr)) (dcallK0 ((g_is_type T U).mono (by omega)) hr hG rfl T.d_is_type.mg (keep_ok T.d_is_type) (kb_0 T.d_is_type) (dk_cons (dvar (i := 3)) dk_nil)) (dvar (i := 4)))))) (ds_one (ds_ret dbl)) ds_nil)
 (ds_one (ds_if (dt_bool (dw_and (dt_not (dt_val (dvar (i := 4)))) (dw_and1 (dt_cmp (o_ne (room65 hr)) (dlst (dacons (dheardG (k := 58) (N := ["kind"]) (ps := []) (fr := ["kind"]) (js := [3]) (vs := ([] : List V)) T.d__law_heard rfl sc__law_heard rfl (.inl rfl) (h__law_heard T (hr.mono (by omega)) hG) U.u0.tb (U.u0.cd _ hco) hr rfl (NdefX.nscope_by (by decide +kernel)) (show NdefX.ndefB (defScope s_law) _ _ = true from by decide +kernel) rfl (fun _ _ _ => .nil) rfl rfl (.inl ⟨rfl, rfl⟩) (bindL0 fun _ _ _ _ _ _ => rfl) (fun A outer s H E f0 c0 hg2 hr => have hG := hg2.trans hG; (dcallX ⟨_, takes_of rfl rfl rfl rfl, fun x S ρ H cls d σ z fl => z cls d fl⟩ ((gx_has T U).mono (by omega)) hr hG rfl T.d_has.mg (keep_ok T.d_has) T.d_has.bd (dacons (dvar (i := 0)) (dacons dnon danil))))) (dacons (dheardG (k := 58) (N := ["a1", "kind"]) (ps := ["a1"]) (fr := ["kind"]) (js := [3]) (vs := [V.int 0]) T.d__law_heard rfl sc__law_heard rfl (.inl rfl) (h__law_heard T (hr.mono (by omega)) hG) U.u0.tb (U.u0.cd _ hco) hr rfl (NdefX.nscope_by (by decide +kernel)) (show NdefX.ndefB (defScope s_law) _ _ = true from by decide +kernel) rfl (fun _ _ _ => .cons (.int 0) .nil) rfl rfl (.inr ⟨0, _, _, rfl, rfl, rfl⟩) (bindL1 fun _ _ _ _ _ _ _ => ⟨_, rfl, fun _ => rfl⟩) (fun A outer s H E f0 c0 hg2 hr => have hG := hg2.trans hG; (dcallX ⟨_, takes_of rfl rfl rfl rfl, fun x S ρ H cls d σ z fl => z cls d fl⟩ ((gx_within T U).mono (by omega)) hr hG rfl T.d_within.mg (keep_ok T.d_within) T.d_within.bd (dacons (dvar (i := 1)) (dacons (dvar (i := 1)) danil))))) danil))) (dlst (dacons (dtup (dacons dstr (dacons dstr danil))) (dacons (dtup (dacons dstr (dacons dstr danil))) danil))))))) (ds_one (ds_ret dbl)) ds_nil))))))
 (ds_cons (ds_set (i := 5) sc_law.nd rfl (by first | exact Or.inl rfl | exact Or.inr rfl) (dop o_add dint (dcall ((g__law_draw T).mono (by omega)) hr hG rfl T.d__law_draw.mg (keep_ok T.d__law_draw) T.d__law_draw.bd (dacons (dvar (i := 1)) (dacons dint danil)))))
 (ds_cons (ds_setLc (i := 6) (own := [("at", 9)]) rfl sc_law.nd rfl rfl (L2.sw_true rfl rfl rfl (by decide +kernel)) (di_rng1 rfl T.m_range (dacons (dvar (i := 5)) danil)) (blkOk_by (N := N_law) (sc := defScope s_law) (by decide +kernel)) (fun _ _ _ _ _ => (dr_name (i := 9) sc_law.nd rfl (by first | exact Or.inl rfl | exact Or.inr rfl) (fun _ _ => wipe_set (by decide)))) (fun _ _ _ _ _ => dts_nil) (fun _ _ _ _ _ => (dtup (dacons (dop o_add (dix x_item dstr (dop o_fdv (dcallTy c_int rfl T.m_int bl_int (dacons (dvar (i := 9)) danil)) dint)) (dix x_item dstr (dop o_mod (dcallTy c_int rfl T.m_int bl_int (dacons (dvar (i := 9)) danil)) dint))) (dacons (dcall ((g__law_pick T).mono (by omega)) hr hG rfl T.d__law_pick.mg (keep_ok T.d__law_pick) T.d__law_pick.bd (dacons (dvar (i := 1)) (dacons (dlst (dacons dstr (dacons dstr danil))) danil))) (dacons (dcmp (o_eq (room65 hr)) (dop o_mod (dvar (i := 9)) dint) dint) danil))))))
 (ds_cons (ds_if (dt_bool (dw_or (dt_cmp (o_ne (room65 hr)) (dcallB (c_repr hG (room66 hr)) rfl T.m_repr bl_repr (dacons (dcall ((g_is_type T U).mono (by omega)) hr hG rfl T.d_is_type.mg (keep_ok T.d_is_type) T.d_is_type.bd (dacons (dtup (dacons dstr (dacons (dvar (i := 6)) danil))) danil)) danil)) (dcallB (c_repr hG (room66 hr)) rfl T.m_repr bl_repr (dacons (dcmp o_le (dvar (i := 5)) dint) danil))) (dw_or1 (dt_cmp (o_ne (room65 hr)) (dcallB (c_repr hG (room66 hr)) rfl T.m_repr bl_repr (dacons (dcall ((g_is_type T U).mono (by omega)) hr hG rfl T.d_is_type.mg (keep_ok T.d_is_type) T.d_is_type.bd (dacons (dtup (dacons dstr (dacons dstr (dacons (dlst (dacons dstr (dacons (drev (dvar (i := 6))) danil))) danil)))) danil)) danil)) (dcallB (c_repr hG (room66 hr)) rfl T.m_repr bl_repr (dacons (dcmp o_le (dvar (i := 5)) dint) danil)))))) (ds_one (ds_ret dbl)) ds_nil)
 (ds_cons (ds_par (i := 7) (j := 8) rfl sc_law.nd rfl rfl (by decide) rfl rfl (dacons (dcall ((g__law_pick T).mono (by omega)) hr hG rfl T.d__law_pick.mg (keep_ok T.d__law_pick) T.d__law_pick.bd (dacons (dvar (i := 1)) (dacons (dlst (dacons dstr (dacons (dtup (dacons dstr (dacons (dtup danil) danil))) (dacons (dtup (dacons dstr (dacons (dtup danil) danil))) danil)))) danil))) (dacons dstr danil)))
 (ds_cons (ds_for PassesOwn.never rfl (di_rng1 rfl T.m_range (dacons dint danil)) (dg_name (i := 2) sc_law.nd rfl (by first | exact Or.inl rfl | exact Or.inr rfl))
 (ds_cons (ds_if (dt_cmp o_isNot (dcall ((g_is_type T U).mono (by omega)) hr hG rfl T.d_is_type.mg (keep_ok T.d_is_type) T.d_is_type.bd (dacons (dvar (i := 7)) danil)) dbl) (ds_one (ds_ret dbl)) ds_nil)
 (ds_one (ds_set (i := 7) sc_law.nd rfl (by first | exact Or.inl rfl | exact Or.inr rfl) (dcall ((g__law_pick T).mono (by omega)) hr hG rfl T.d__law_pick.mg (keep_ok T.d__law_pick) T.d__law_pick.bd (dacons (dvar (i := 1)) (dacons (dlst (dacons (dtup (dacons dstr (dacons dstr (dacons (dvar (i := 7)) danil)))) (dacons (dtup (dacons dstr (dacons (dtup (dacons (dtup (dacons dstr (dacons (dvar (i := 7)) (dacons dbl danil)))) danil)) danil))) (dacons (dlst (dacons dstr (dacons dstr (dacons (dvar (i := 7)) danil)))) danil)))) danil)))))))
 (ds_cons (ds_for PassesOwn.never rfl (di_rng1 rfl T.m_range (dacons dint danil)) (dg_name (i := 2) sc_law.nd rfl (by first | exact Or.inl rfl | exact Or.inr rfl))
 (ds_one (ds_set (i := 8) sc_law.nd rfl (by first | exact Or.inl rfl | exact Or.inr rfl) (dtup (dacons dstr (dacons (dif (dt_cmp (o_eq (room65 hr)) (dcall ((g__law_draw T).mono (by omega)) hr hG rfl T.d__law_draw.mg (keep_ok T.d__law_draw) T.d__law_draw.bd (dacons (dvar (i := 1)) (dacons dint danil))) dint) (dlst (dacons (dvar (i := 8)) danil)) (dtup (dacons dstr (dacons (dvar (i := 8)) danil)))) danil))))))
 (ds_one (ds_ret (dv_and (dcmp o_is (dcall ((g_is_type T U).mono (by omega)) hr hG rfl T.d_is_type.mg (keep_ok T.d_is_type) T.d_is_type.bd (dacons (dvar (i := 7)) danil)) dbl) (dv_and (dcmp o_is (dcall ((g_is_type T U).mono (by omega)) hr hG rfl T.d_is_type.mg (keep_ok T.d_is_type) T.d_is_type.bd (dacons (dvar (i := 8)) danil)) dbl) (dv_and (dcmp o_is (dcall ((g_is_type T U).mono (by omega)) hr hG rfl T.d_is_type.mg (keep_ok T.d_is_type) T.d_is_type.bd (dacons (dtup (dacons dstr (dacons (dtup (dacons (dvar (i := 8)) danil)) danil))) danil)) dbl) (dv_one (dcmp (o_eq (room65 hr)) (dcall ((g_values_of T U).mono (by omega)) hr hG rfl T.d_values_of.mg (keep_ok T.d_values_of) T.d_values_of.bd (dacons (dvar (i := 8)) danil)) (dtup (dacons dstr danil))))))))))))))))))
end
end DL.k27
namespace DL.k27
open PySem PySem.Spec PyProof.Rows L2 DL

theorem mix_small {m a : Int} (h1 : 0 ≤ m) (h2 : m < 2147483648) (h3 : 0 ≤ a) (h4 : a < 1048576) : 0 ≤ m * (2 * a + 523) + 66815 * a * a + 31 ∧ m * (2 * a + 523) + 66815 * a * a + 31 < 18446744073709551616 := by
  have p1 : m * (2 * a + 523) ≤ 2147483648 * 2097675 := Int.mul_le_mul (by omega) (by omega) (by omega) (by omega)
  have p2 : 0 ≤ m * (2 * a + 523) := Int.mul_nonneg h1 (by omega)
  have p3 : 66815 * a * a ≤ 66815 * 1048576 * 1048576 := Int.mul_le_mul (by omega) (by omega) (by omega) (by omega)
  have p4 : 0 ≤ 66815 * a * a := Int.mul_nonneg (by omega) h3
  omega
theorem draw : Draws F__law_draw := by
  rintro S n c many ⟨cs, at_, rest, h, h1, h2, h3, h4⟩ hc hm hM
  have e0 : itemM (.r n) (.d (.int 0)) S = .ok (.d (.list (cs.map .int))) S := item_r h rfl
  have e1 : itemM (.r n) (.d (.int 1)) S = .ok (.d (.int at_)) S := item_r h rfl
  have e2 : itemM (.r n) (.d (.int 2)) S = .ok (.d (.int rest)) S := item_r h rfl
  have s1 : ∀ v : W, setItemM (.r n) (.d (.int 1)) v S = .ok () (S.set n (.lst [.d (.list (cs.map .int)), v, .d (.int rest)])) := fun v => by
    unfold setItemM; simp only [h, penO]; rfl
  have s2 : ∀ v : W, setItemM (.r n) (.d (.int 2)) v S = .ok () (S.set n (.lst [.d (.list (cs.map .int)), .d (.int at_), v])) := fun v => by
    unfold setItemM; simp only [h, penO]; rfl
  have c1 : 0 < many ∧ many < 1073741824 := ⟨by omega, hM⟩
  have c0 : 0 < many := c1.1
  refine if hr : 0 < rest then ?_ else ?_
  · refine ⟨rest % many, penO cs at_ (rest / many), ?_, Int.emod_nonneg _ (by omega), Int.emod_lt_of_pos _ (by omega), ⟨cs, at_, rest / many, set_at h, h1, by omega, Int.ediv_nonneg (by omega) (by omega), h4⟩⟩
    unfold F__law_draw b__law_draw st__law_draw_1 st__law_draw_2 st__law_draw_3 st__law_draw_4 st__law_draw_5 st__law_draw_6 st__law_draw_7 st__law_draw_8 st__law_draw_9
    refine run_rt rfl ?_
    simp [seqM, ifM, valT, binM, consM, nilM, calM, asgM, setG, retM, bd, pr, varM, cM, e2, gtM, okb, boolOf, hr, intM, subSM, fdvM, modM, c1, s2, penO]
  · -- the state behind pen[1] = at + 1
    have hS1 : (S.set n (penO cs (at_ + 1) rest))[n]? = some (penO cs (at_ + 1) rest) := set_at h
    generalize hS : S.set n (penO cs (at_ + 1) rest) = S1 at hS1
    have f0 : itemM (.r n) (.d (.int 0)) S1 = .ok (.d (.list (cs.map .int))) S1 := item_r hS1 rfl
    have t2 : ∀ v : W, setItemM (.r n) (.d (.int 2)) v S1 = .ok () (S1.set n (.lst [.d (.list (cs.map .int)), .d (.int (at_ + 1)), v])) := fun v => by
      unfold setItemM; simp only [hS1, penO]; rfl
    have back : ∀ o, S1.set n o = S.set n o := fun o => by rw [← hS, set_set]
    -- the cell
    have cell : ∃ C : Int, (ifM (valT (binM (binM (varM 0) (cM (.int 0)) itemM) (fun δ => bd (nilM δ) lstM) neM)) (asgM (binM (binM (varM 0) (cM (.int 0)) itemM) (binM (varM 3) (calM (consM (binM (varM 0) (cM (.int 0)) itemM) nilM) lenDM) modM) itemM) (setG 4)) skipM)
        [some (.r n), some (.d (.int many)), none, some (.d (.int at_)), some (.d (.int (45895 * at_ + 3310))), none, none] S1 = .ok (.nx [some (.r n), some (.d (.int many)), none, some (.d (.int at_)), some (.d (.int C)), none, none]) S1 := by
      cases cs with
      | nil => exact ⟨45895 * at_ + 3310, by simp [ifM, valT, binM, consM, nilM, calM, asgM, setG, bd, pr, varM, cM, okb, boolOf, f0, neM, isNil, lstM, allD, seqOf]⟩
      | cons x xs =>
        have hl : (0 : Int) < ((x :: xs).length : Int) := by simp
        have hi : ∃ C : Int, atI ((x :: xs).map PyData.int) (at_ % ((x :: xs).length : Int)) = some (.int C) := by
          obtain ⟨d, hd, e⟩ := atI_ok (xs := (x :: xs).map PyData.int) (Int.emod_nonneg at_ (by omega : ((x :: xs).length : Int) ≠ 0)) (by rw [List.length_map]; exact Int.emod_lt_of_pos _ hl)
          obtain ⟨C, _, rfl⟩ := List.mem_map.mp hd
          exact ⟨C, e⟩
        obtain ⟨C, hC⟩ := hi
        refine ⟨C, ?_⟩
        have := item_l (S := S1) hC
        simp only [List.length_cons, Int.natCast_add, Int.cast_ofNat_Int] at this
        simp [ifM, valT, binM, consM, nilM, calM, asgM, setG, bd, pr, varM, cM, okb, boolOf, f0, neM, isNil, lstM, allD, seqOf, lenDM, lenM, modM]
        simp at this
        simp [this]
    obtain ⟨C, hC⟩ := cell
    have key : ∃ k o, F__law_draw [.r n, .d (.int many)] S = .ok (.d (.int k)) (S.set n o) ∧ 0 ≤ k ∧ k < many ∧ (∃ r', o = penO cs (at_ + 1) r' ∧ 0 ≤ r') := by
      by_cases hg : at_ < (cs.length : Int) ∧ (10 : Int) ^ 18 ≤ (if C < 0 then -C else C)
      · obtain ⟨hq, hq2⟩ := hg
        generalize hB : (if C < 0 then -C else C) = B at hq2
        have hr2 : 0 ≤ 2 * (B - 10 ^ 18) + (if C < 0 then 1 else 0) := by split <;> omega
        generalize hR : 2 * (B - 10 ^ 18) + (if C < 0 then 1 else 0) = R at hr2
        refine ⟨R % many, penO cs (at_ + 1) (R / many), ?_, Int.emod_nonneg _ (by omega), Int.emod_lt_of_pos _ (by omega), _, rfl, Int.ediv_nonneg hr2 (by omega)⟩
        unfold F__law_draw b__law_draw st__law_draw_1 st__law_draw_2 st__law_draw_3 st__law_draw_4 st__law_draw_5 st__law_draw_6 st__law_draw_7 st__law_draw_8 st__law_draw_9
        refine run_rt rfl ?_
        refine Eq.trans (seq_nx (δ' := [some (.r n), some (.d (.int many)), none, none, none, none, none]) (S' := S) (by
          simp [seqM, ifM, valT, andT, binM, consM, nilM, calM, asgM, setG, retM, bd, pr, varM, cM, skipM, gtM, ltM, geM, okb, boolOf, hr, intM, absM, subSM, fdvM, modM, mulM, addM, subM, powM, c1, c0, e0, e1, e2, s1, f0, t2, lenDM, lenM, seqOf, penO])) ?_
        refine Eq.trans (seq_nx (δ' := [some (.r n), some (.d (.int many)), none, some (.d (.int at_)), none, none, none]) (S' := S) (by
          simp [seqM, ifM, valT, andT, binM, consM, nilM, calM, asgM, setG, retM, bd, pr, varM, cM, skipM, gtM, ltM, geM, okb, boolOf, hr, intM, absM, subSM, fdvM, modM, mulM, addM, subM, powM, c1, c0, e0, e1, e2, s1, f0, t2, lenDM, lenM, seqOf, penO])) ?_
        refine Eq.trans (seq_nx (δ' := [some (.r n), some (.d (.int many)), none, some (.d (.int at_)), none, none, none]) (S' := S1) (by
          rw [← hS]; simp [seqM, ifM, valT, andT, binM, consM, nilM, calM, asgM, setG, retM, bd, pr, varM, cM, skipM, gtM, ltM, geM, okb, boolOf, hr, intM, absM, subSM, fdvM, modM, mulM, addM, subM, powM, c1, c0, e0, e1, e2, s1, f0, t2, lenDM, lenM, seqOf, penO])) ?_
        refine Eq.trans (seq_nx (δ' := [some (.r n), some (.d (.int many)), none, some (.d (.int at_)), some (.d (.int (45895 * at_ + 3310))), none, none]) (S' := S1) (by
          simp [seqM, ifM, valT, andT, binM, consM, nilM, calM, asgM, setG, retM, bd, pr, varM, cM, skipM, gtM, ltM, geM, okb, boolOf, hr, intM, absM, subSM, fdvM, modM, mulM, addM, subM, powM, c1, c0, e0, e1, e2, s1, f0, t2, lenDM, lenM, seqOf, penO])) ?_
        refine Eq.trans (seq_nx hC) ?_
        refine seq_rt ?_
        simp only [show (10 : Int) ^ 18 = 1000000000000000000 from rfl] at hq2 hR
        rw [← back]
        simp [seqM, ifM, valT, andT, binM, consM, nilM, calM, asgM, setG, retM, bd, pr, varM, cM, skipM, gtM, ltM, geM, okb, boolOf, hr, intM, absM, subSM, fdvM, modM, mulM, addM, subM, powM, c1, c0, e0, e1, e2, s1, f0, t2, lenDM, lenM, seqOf, penO, hq, hB, hq2, hR]
      · have b1 := Int.emod_nonneg C (by omega : (2147483563 : Int) ≠ 0)
        have b2 := Int.emod_lt_of_pos C (by omega : (0 : Int) < 2147483563)
        have q1 : (C % 2147483563 + 66815 * at_ + 3310).natAbs < 18446744073709551616 := by omega
        have b3 := Int.emod_nonneg ((C % 2147483563 + 66815 * at_ + 3310) ^ 3) (by omega : (2147483647 : Int) ≠ 0)
        have b4 := Int.emod_lt_of_pos ((C % 2147483563 + 66815 * at_ + 3310) ^ 3) (by omega : (0 : Int) < 2147483647)
        generalize hm1 : (C % 2147483563 + 66815 * at_ + 3310) ^ 3 % 2147483647 = m1 at b3 b4
        have b5 := mix_small b3 (by omega : m1 < 2147483648) h1 (by omega)
        have q2 : (m1 * (2 * at_ + 523) + 66815 * at_ * at_ + 31).natAbs < 18446744073709551616 := by omega
        generalize hm2 : m1 * (2 * at_ + 523) + 66815 * at_ * at_ + 31 = m2 at b5 q2
        refine ⟨m2 ^ 5 % 2147483587 / 16 % many, penO cs (at_ + 1) rest, ?_, Int.emod_nonneg _ (by omega), Int.emod_lt_of_pos _ (by omega), _, rfl, h3⟩
        unfold F__law_draw b__law_draw st__law_draw_1 st__law_draw_2 st__law_draw_3 st__law_draw_4 st__law_draw_5 st__law_draw_6 st__law_draw_7 st__law_draw_8 st__law_draw_9
        refine run_rt rfl ?_
        refine Eq.trans (seq_nx (δ' := [some (.r n), some (.d (.int many)), none, none, none, none, none]) (S' := S) (by
          simp [seqM, ifM, valT, andT, binM, consM, nilM, calM, asgM, setG, retM, bd, pr, varM, cM, skipM, gtM, ltM, geM, okb, boolOf, hr, intM, absM, subSM, fdvM, modM, mulM, addM, subM, powM, c1, c0, e0, e1, e2, s1, f0, t2, lenDM, lenM, seqOf, penO])) ?_
        refine Eq.trans (seq_nx (δ' := [some (.r n), some (.d (.int many)), none, some (.d (.int at_)), none, none, none]) (S' := S) (by
          simp [seqM, ifM, valT, andT, binM, consM, nilM, calM, asgM, setG, retM, bd, pr, varM, cM, skipM, gtM, ltM, geM, okb, boolOf, hr, intM, absM, subSM, fdvM, modM, mulM, addM, subM, powM, c1, c0, e0, e1, e2, s1, f0, t2, lenDM, lenM, seqOf, penO])) ?_
        refine Eq.trans (seq_nx (δ' := [some (.r n), some (.d (.int many)), none, some (.d (.int at_)), none, none, none]) (S' := S1) (by
          rw [← hS]; simp [seqM, ifM, valT, andT, binM, consM, nilM, calM, asgM, setG, retM, bd, pr, varM, cM, skipM, gtM, ltM, geM, okb, boolOf, hr, intM, absM, subSM, fdvM, modM, mulM, addM, subM, powM, c1, c0, e0, e1, e2, s1, f0, t2, lenDM, lenM, seqOf, penO])) ?_
        refine Eq.trans (seq_nx (δ' := [some (.r n), some (.d (.int many)), none, some (.d (.int at_)), some (.d (.int (45895 * at_ + 3310))), none, none]) (S' := S1) (by
          simp [seqM, ifM, valT, andT, binM, consM, nilM, calM, asgM, setG, retM, bd, pr, varM, cM, skipM, gtM, ltM, geM, okb, boolOf, hr, intM, absM, subSM, fdvM, modM, mulM, addM, subM, powM, c1, c0, e0, e1, e2, s1, f0, t2, lenDM, lenM, seqOf, penO])) ?_
        refine Eq.trans (seq_nx hC) ?_
        refine Eq.trans (seq_nx (δ' := [some (.r n), some (.d (.int many)), none, some (.d (.int at_)), some (.d (.int C)), none, none]) (S' := S1) (by
          by_cases hq : at_ < (cs.length : Int)
          · have hq2 : ¬ (10 : Int) ^ 18 ≤ (if C < 0 then -C else C) := fun z => hg ⟨hq, z⟩
            simp only [show (10 : Int) ^ 18 = 1000000000000000000 from rfl] at hq2
            simp [seqM, ifM, valT, andT, binM, consM, nilM, calM, asgM, setG, retM, bd, pr, varM, cM, skipM, gtM, ltM, geM, okb, boolOf, hr, intM, absM, subSM, fdvM, modM, mulM, addM, subM, powM, c1, c0, e0, e1, e2, s1, f0, t2, lenDM, lenM, seqOf, penO, hq, hq2]
          · simp [seqM, ifM, valT, andT, binM, consM, nilM, calM, asgM, setG, retM, bd, pr, varM, cM, skipM, gtM, ltM, geM, okb, boolOf, hr, intM, absM, subSM, fdvM, modM, mulM, addM, subM, powM, c1, c0, e0, e1, e2, s1, f0, t2, lenDM, lenM, seqOf, penO, hq])) ?_
        refine Eq.trans (seq_nx (δ' := [some (.r n), some (.d (.int many)), none, some (.d (.int at_)), some (.d (.int C)), none, some (.d (.int m1))]) (S' := S1) (by
          simp [seqM, ifM, valT, andT, binM, consM, nilM, calM, asgM, setG, retM, bd, pr, varM, cM, skipM, gtM, ltM, geM, okb, boolOf, hr, intM, absM, subSM, fdvM, modM, mulM, addM, subM, powM, c1, c0, e0, e1, e2, s1, f0, t2, lenDM, lenM, seqOf, penO, q1, hm1])) ?_
        refine Eq.trans (seq_nx (δ' := [some (.r n), some (.d (.int many)), none, some (.d (.int at_)), some (.d (.int C)), none, some (.d (.int (m2 ^ 5 % 2147483587)))]) (S' := S1) (by
          have w1 : (-18446744073709551616 < m1 ∧ m1 < 18446744073709551616) := by constructor <;> omega
          have w2 : (-18446744073709551616 < at_ ∧ at_ < 18446744073709551616) := by constructor <;> omega
          simp [seqM, ifM, valT, andT, binM, consM, nilM, calM, asgM, setG, retM, bd, pr, varM, cM, skipM, gtM, ltM, geM, okb, boolOf, hr, intM, absM, subSM, fdvM, modM, mulM, addM, subM, powM, c1, c0, e0, e1, e2, s1, f0, t2, lenDM, lenM, seqOf, penO, w1, w2, hm2, q2])) ?_
        rw [hS]
        simp [seqM, ifM, valT, andT, binM, consM, nilM, calM, asgM, setG, retM, bd, pr, varM, cM, skipM, gtM, ltM, geM, okb, boolOf, hr, intM, absM, subSM, fdvM, modM, mulM, addM, subM, powM, c1, c0, e0, e1, e2, s1, f0, t2, lenDM, lenM, seqOf, penO]
    obtain ⟨k, o, e, k1, k2, r', rfl, k3⟩ := key
    exact ⟨k, _, e, k1, k2, ⟨cs, at_ + 1, r', set_at h, by omega, by omega, k3, h4⟩⟩
end DL.k27
namespace DL.k27
open PySem PySem.Spec PyProof.Rows L2 DL DL.Ev

abbrev s (z : Str) : D := .str z
abbrev t (ds : List D) : D := .tuple ds
abbrev letters : Str := "abcdefghijklmnopqrstuvwxyz"
/-- a letter, as the program asks -/
def lett (c : Nat) : Bool := !(Builtin.Str.occurrences letters (⟨#[c]⟩ : Str) 0 letters.length 1).isEmpty
theorem in_lett (c : Nat) (S : Sto) : inM (.d (.str ⟨#[c]⟩)) (.d (.str letters)) S = .ok (okb (lett c)) S := rfl
theorem notIn_lett (c : Nat) (S : Sto) : notInM (.d (.str ⟨#[c]⟩)) (.d (.str letters)) S = .ok (okb (!lett c)) S := rfl
def lawWords : List Str := Txt.split "ask atom call case either else field get has let never or pick put raise record tag try with without" " "
theorem words_same (z : Str) : z ∈ lawWords ↔ z ∈ c_WORDS := by
  have h1 : ∀ x ∈ lawWords, x ∈ c_WORDS := by decide +kernel
  have h2 : ∀ x ∈ c_WORDS, x ∈ lawWords := by decide +kernel
  exact ⟨h1 z, h2 z⟩
def nmS (z : Str) : Bool := decide (1 ≤ (z.length : Int)) && decide ((z.length : Int) ≤ 8) && !decide (z ∈ c_WORDS) && z.cps.toList.all lett
/-- a name, as the program and the law say -/
def nmB : D → Bool
  | .str z => nmS z
  | _ => false
theorem chain_len (z : Str) (hz : z.length ≤ sizeLine) {δ : Env} {S : Sto} (h0 : δ[0]? = some (some (.d (s z)))) : chainM (cM (.int 1)) (calM (consM (varM 0) nilM) lenDM) (cM (.int 8)) leM leM δ S = .ok (okb (decide (1 ≤ (z.length : Int)) && decide ((z.length : Int) ≤ 8))) S := by
  have hl : calM (consM (varM 0) nilM) lenDM δ S = .ok (.d (.int z.length)) S := cal_ok (one_ok (varM_at h0)) (by simp only [lenDM, lenM]; rw [if_pos hz])
  unfold chainM
  rw [bd_ok (show cM (.int 1) δ S = .ok (.d (.int 1)) S from rfl), bd_ok hl, bd_ok (Ev.le_int _ _)]
  cases hb : decide (1 ≤ (z.length : Int)) with
  | true =>
    rw [bd_ok (show boolOf (okb true) S = .ok true S from rfl), if_pos rfl, bd_ok (show cM (.int 8) δ S = .ok (.d (.int 8)) S from rfl), Ev.le_int]
    rfl
  | false => rfl
theorem name_str (z : Str) (hz : z.length ≤ sizeLine) (S : Sto) : F_is_name [.d (s z)] S = .ok (okb (nmS z)) S := by
  unfold F_is_name
  refine pure_ok (S0 := []) rfl ?_
  refine run_rt rfl ?_
  unfold b_is_name st_is_name_1 st_is_name_2
  have hc := chain_len z hz (δ := [some (.d (s z)), none]) (S := []) rfl
  have hw : binM (varM 0) (cM (.tuple (c_WORDS.map .str))) inM [some (.d (s z)), none] [] = .ok (okb (decide (z ∈ c_WORDS))) [] := bin_ok (S1 := []) (S2 := []) (varM_at rfl) rfl (in_strT (k := false) z c_WORDS)
  have tst : (orT (notT (valT (fun δ => bd ((varM 0) δ) (isiM [.str])))) (orT (notT (valT (chainM (cM (.int 1)) (calM (consM (varM 0) nilM) lenDM) (cM (.int 8)) leM leM))) (valT (binM (varM 0) (cM (.tuple (c_WORDS.map .str))) inM)))) [some (.d (s z)), none] [] = .ok (!(decide (1 ≤ (z.length : Int)) && decide ((z.length : Int) ≤ 8)) || decide (z ∈ c_WORDS)) [] := by
    refine Eq.trans (orT_f (S1 := []) (not_ok (b := true) (val_ok rfl))) ?_
    exact orT_b (not_ok (val_ok hc)) fun _ => val_ok hw
  cases hb : (!(decide (1 ≤ (z.length : Int)) && decide ((z.length : Int) ≤ 8)) || decide (z ∈ c_WORDS)) with
  | true =>
    rw [hb] at tst
    have e : nmS z = false := by
      unfold nmS
      revert hb
      cases decide (1 ≤ (z.length : Int)) <;> cases decide ((z.length : Int) ≤ 8) <;> cases decide (z ∈ c_WORDS) <;> simp
    rw [e]
    exact seq_rt (Eq.trans (if_t tst) rfl)
  | false =>
    rw [hb] at tst
    refine Eq.trans (seq_nx (δ' := [some (.d (s z)), none]) (S' := []) (Eq.trans (if_f tst) rfl)) ?_
    have e : nmS z = z.cps.toList.all lett := by
      unfold nmS
      revert hb
      cases decide (1 ≤ (z.length : Int)) <;> cases decide ((z.length : Int) ≤ 8) <;> cases decide (z ∈ c_WORDS) <;> simp
    have few : z.length ≤ 8 := by
      revert hb
      cases h8 : decide ((z.length : Int) ≤ 8) with
      | true => intro _; have := of_decide_eq_true h8; omega
      | false => simp
    have fewS : z.cps.toList.length ≤ 8 := by have h : z.length = z.cps.size := rfl; rw [h] at few; simpa using few
    rw [e]
    have comp : compL [1] (setG 1) yesT (binM (varM 1) (cM (.str letters)) inM) (signs z) [some (.d (s z)), none] [] = .ok (z.cps.toList.map fun c => .d (.bool (lett c))) [] := by
      have := comp_all (own := [1]) (g := setG 1) (e := binM (varM 1) (cM (.str letters)) inM) (δ := [some (.d (s z)), none]) (S := []) (fun w => match w with | .d (.str x) => .d (.bool (lett (x.cps.getD 0 0))) | w => w) (ws := signs z) (fun w hw => by
        obtain ⟨c, _, rfl⟩ := List.mem_map.mp hw
        exact ⟨[some (.d (s z)), some (.d (.str ⟨#[c]⟩))], rfl, bin_ok (S1 := []) (S2 := []) rfl rfl (in_lett c [])⟩)
      rw [this]
      unfold signs
      rw [List.map_map]
      rfl
    refine ret_ok (cal_ok (S' := []) (ws := [.d (.list ((z.cps.toList.map lett).map .bool))]) (one_ok ?_) ?_)
    · unfold lcM
      refine Eq.trans (bd_ok (a := signs z) (S' := []) rfl) ?_
      refine Eq.trans (bd_ok comp) ?_
      refine lst_ok ?_ ?_
      · rw [show (z.cps.toList.map fun c => W.d (.bool (lett c))) = ((z.cps.toList.map lett).map PyData.bool).map W.d by simp [List.map_map]]
        exact allD_map _
      · rw [List.length_map]; exact Nat.le_trans (Nat.le_trans fewS (by decide)) small2
    · rw [all_ok]
      simp [List.all_map]
      rfl
theorem name_ok (d : D) (hd : ∀ z, d = .str z → z.length ≤ sizeLine) (S : Sto) : F_is_name [.d d] S = .ok (okb (nmB d)) S := by
  cases d with
  | str z => exact name_str z (hd z rfl) S
  | none => kernel_rfl
  | bool b => kernel_rfl
  | int i => kernel_rfl
  | list ds => kernel_rfl
  | tuple ds => kernel_rfl
  | dict kvs => kernel_rfl
end DL.k27
namespace DL.k27
open PySem PySem.Spec PyProof.Rows L2 DL DL.Ev

theorem split_words (S : Sto) : splitM (.d (s "ask atom call case either else field get has let never or pick put raise record tag try with without")) [.d (s " ")] S = .ok (.d (.list (lawWords.map .str))) S := by kernel_rfl
theorem lname_str (z : Str) (hz : z.length ≤ sizeLine) (S : Sto) : F__law_is_name [.d (s z)] S = .ok (okb (nmS z)) S := by
  unfold F__law_is_name
  refine pure_ok (S0 := []) rfl ?_
  refine run_rt rfl ?_
  unfold b__law_is_name st__law_is_name_1 st__law_is_name_2 st__law_is_name_3
  generalize hδ : ([some (.d (s z)), some (.d (s "ask atom call case either else field get has let never or pick put raise record tag try with without")), none] : Env) = δ
  refine Eq.trans (seq_nx (δ' := δ) (S' := []) (by rw [← hδ]; rfl)) ?_
  have h0 : δ[0]? = some (some (.d (s z))) := by rw [← hδ]; rfl
  have hc := chain_len z hz (S := []) h0
  have hw : binM (varM 0) (metM (varM 1) (consM (cM (.str " ")) nilM) chkS splitM) inM δ [] = .ok (okb (decide (z ∈ c_WORDS))) [] := by
    refine bin_ok (S1 := []) (S2 := []) (y := .d (.list (lawWords.map .str))) (varM_at h0) ?_ ?_
    · rw [← hδ]
      unfold metM
      refine Eq.trans (bd_ok (S' := []) rfl) ?_
      refine Eq.trans (bd_ok (S' := []) rfl) ?_
      refine Eq.trans (bd_ok (S' := []) rfl) ?_
      exact split_words []
    · have := in_strT (S := []) (k := true) z lawWords
      rw [decide_eq_decide.mpr (words_same z)] at this
      exact this
  have tst : (orT (notT (valT (fun δ => bd ((varM 0) δ) (isiM [.str])))) (orT (notT (valT (chainM (cM (.int 1)) (calM (consM (varM 0) nilM) lenDM) (cM (.int 8)) leM leM))) (valT (binM (varM 0) (metM (varM 1) (consM (cM (.str " ")) nilM) chkS splitM) inM)))) δ [] = .ok (!(decide (1 ≤ (z.length : Int)) && decide ((z.length : Int) ≤ 8)) || decide (z ∈ c_WORDS)) [] := by
    refine Eq.trans (orT_f (S1 := []) (not_ok (b := true) (val_ok (by rw [← hδ]; rfl)))) ?_
    exact orT_b (not_ok (val_ok hc)) fun _ => val_ok hw
  cases hb : (!(decide (1 ≤ (z.length : Int)) && decide ((z.length : Int) ≤ 8)) || decide (z ∈ c_WORDS)) with
  | true =>
    rw [hb] at tst
    have e : nmS z = false := by
      unfold nmS
      revert hb
      cases decide (1 ≤ (z.length : Int)) <;> cases decide ((z.length : Int) ≤ 8) <;> cases decide (z ∈ c_WORDS) <;> simp
    rw [e]
    exact seq_rt (Eq.trans (if_t tst) rfl)
  | false =>
    rw [hb] at tst
    refine Eq.trans (seq_nx (δ' := δ) (S' := []) (Eq.trans (if_f tst) rfl)) ?_
    have e : nmS z = z.cps.toList.all lett := by
      unfold nmS
      revert hb
      cases decide (1 ≤ (z.length : Int)) <;> cases decide ((z.length : Int) ≤ 8) <;> cases decide (z ∈ c_WORDS) <;> simp
    have few : z.length ≤ 8 := by
      revert hb
      cases h8 : decide ((z.length : Int) ≤ 8) with
      | true => intro _; have := of_decide_eq_true h8; omega
      | false => simp
    have fewS : z.cps.toList.length ≤ 8 := by
      have h : z.length = z.cps.size := rfl
      rw [h] at few; simpa using few
    rw [e]
    have comp : compL [2] (setG 2) (valT (binM (varM 2) (cM (.str letters)) notInM)) (varM 2) (signs z) δ [] = .ok ((signs z).filter fun w => match w with | .d (.str x) => !lett (x.cps.getD 0 0) | _ => false) [] := by
      have := comp_map (own := [2]) (g := setG 2) (t := valT (binM (varM 2) (cM (.str letters)) notInM)) (e := varM 2) (δ := δ) (S := []) (fun w => match w with | .d (.str x) => !lett (x.cps.getD 0 0) | _ => false) id (ws := signs z) (fun w hw => by
        obtain ⟨c, _, rfl⟩ := List.mem_map.mp hw
        refine ⟨[some (.d (s z)), some (.d (s "ask atom call case either else field get has let never or pick put raise record tag try with without")), some (.d (.str ⟨#[c]⟩))], by rw [← hδ]; rfl, val_ok (bin_ok (S1 := []) (S2 := []) rfl rfl (notIn_lett c [])), fun _ => rfl⟩)
      rw [this, List.map_id]
    have emp : ((signs z).filter fun w => match w with | .d (.str x) => !lett (x.cps.getD 0 0) | _ => false).isEmpty = z.cps.toList.all lett := by
      unfold signs
      rw [List.filter_map, List.isEmpty_map]
      generalize z.cps.toList = cs
      induction cs with
      | nil => rfl
      | cons c cs ih =>
        rw [List.filter_cons, List.all_cons]
        show (if (!lett c) = true then _ else _ : List Nat).isEmpty = _
        cases lett c with
        | true => simpa using ih
        | false => simp
    have pl : ∃ ds, allD ((signs z).filter fun w => match w with | .d (.str x) => !lett (x.cps.getD 0 0) | _ => false) = some ds ∧ ds.isEmpty = z.cps.toList.all lett ∧ ds.length ≤ 8 := by
      refine ⟨(z.cps.toList.filter fun c => !lett c).map fun c => .str ⟨#[c]⟩, ?_, ?_, ?_⟩
      · rw [← allD_map]
        congr 1
        unfold signs
        rw [List.filter_map, List.map_map]
        rfl
      · rw [← emp]
        unfold signs
        rw [List.filter_map, List.isEmpty_map, List.isEmpty_map]
        rfl
      · rw [List.length_map]
        exact Nat.le_trans (List.length_filter_le _ _) fewS
    obtain ⟨ds, p1, p2, p3⟩ := pl
    rw [← p2]
    refine ret_ok (bin_ok (S1 := []) (S2 := []) (x := .d (.list ds)) (y := .d (.list [])) ?_ rfl (eq_nil ds))
    unfold lcM
    refine Eq.trans (bd_ok (a := signs z) (S' := []) (by rw [← hδ]; rfl)) ?_
    refine Eq.trans (bd_ok comp) ?_
    refine lst_ok p1 ?_
    have l1 : ((signs z).filter fun w => match w with | .d (.str x) => !lett (x.cps.getD 0 0) | _ => false).length ≤ 8 := by
      refine Nat.le_trans (List.length_filter_le _ _) ?_
      unfold signs
      rw [List.length_map]
      exact fewS
    exact Nat.le_trans (Nat.le_trans l1 (by decide)) small2
theorem lname_ok (d : D) (hd : ∀ z, d = .str z → z.length ≤ sizeLine) (S : Sto) : F__law_is_name [.d d] S = .ok (okb (nmB d)) S := by
  cases d with
  | str z => exact lname_str z (hd z rfl) S
  | none => kernel_rfl
  | bool b => kernel_rfl
  | int i => kernel_rfl
  | list ds => kernel_rfl
  | tuple ds => kernel_rfl
  | dict kvs => kernel_rfl
end DL.k27
namespace DL.k27
open PySem PySem.Spec PyProof.Rows L2 DL DL.Ev

/-! ### what a type is, in plain words -/
mutual
def szB : D → Bool
  | .str z => decide (z.length ≤ 1000)
  | .list ds => decide (ds.length ≤ 100) && szA ds
  | .tuple ds => decide (ds.length ≤ 100) && szA ds
  | _ => true
def szA : List D → Bool
  | [] => true
  | d :: ds => szB d && szA ds
end
theorem szA_mem : ∀ {ds : List D}, szA ds = true → ∀ d ∈ ds, szB d = true
  | [], _, d, h => by simp at h
  | x :: ds, hs, d, h => by
    simp only [szA, Bool.and_eq_true] at hs
    rcases List.mem_cons.mp h with rfl | h
    · exact hs.1
    · exact szA_mem hs.2 d h
theorem szA_of : ∀ {ds : List D}, (∀ d ∈ ds, szB d = true) → szA ds = true
  | [], _ => by simp only [szA]
  | x :: ds, h => by
    simp only [szA, Bool.and_eq_true]
    exact ⟨h x (.head _), szA_of fun d q => h d (.tail _ q)⟩
theorem sz_sq {k : Bool} {ds : List D} : szB (sq k ds) = (decide (ds.length ≤ 100) && szA ds) := by cases k <;> simp only [sq, szB]
theorem sz_str {z : Str} (h : szB (s z) = true) : z.length ≤ sizeLine := by
  simp only [s, szB, decide_eq_true_eq] at h
  exact Nat.le_trans h (by decide)
theorem sz_name {d : D} (h : szB d = true) : ∀ z, d = .str z → z.length ≤ sizeLine := fun z e => by
  subst e
  exact sz_str h
def itemsD : D → Option (List D)
  | .list ds => some ds
  | .tuple ds => some ds
  | _ => none
theorem items_sq {k : Bool} {ds : List D} : itemsD (sq k ds) = some ds := by cases k <;> rfl
theorem items_of {d : D} {ds : List D} (h : itemsD d = some ds) : ∃ k, d = sq k ds := by
  cases d with
  | list xs => cases h; exact ⟨true, rfl⟩
  | tuple xs => cases h; exact ⟨false, rfl⟩
  | _ => cases h
def rowsG (f : D → Bool) : List Str → List D → Bool
  | _, [] => true
  | ns, r :: rs => match itemsD r with
    | some [.str n, x, .bool _] => nmS n && f x && !decide (n ∈ ns) && rowsG f (ns ++ [n]) rs
    | _ => false
def shB (fo fi : D → Bool) : List D → Bool
  | [.str z, x] => (match itemsD x with
    | some ys => if z = "or" then ys.all fo else if z = "record" then decide (ys.length ≤ 60) && rowsG fi [] ys else false
    | none => false)
  | [.str z, x, y] => decide (z = "tag") && (nmB x && fi y)
  | _ => false
def tyB : Nat → Int → D → Bool
  | 0, _, _ => false
  | k + 1, h, d => if h = 0 then false else match d with
    | .str z => decide (z ∈ (["atom", "never"] : List Str))
    | .list ds => shB (tyB k h) (tyB k (h - 1)) ds
    | .tuple ds => shB (tyB k h) (tyB k (h - 1)) ds
    | _ => false
theorem two_texts (a b : Str) (δ : Env) (S : Sto) : (fun δ => bd ((consM (cM (.str a)) (consM (cM (.str b)) nilM)) δ) tupM) δ S = .ok (.d (.tuple (([a, b] : List Str).map .str))) S := rfl
theorem two_ints (δ : Env) (S : Sto) : (fun δ => bd ((consM (cM (.int 2)) (consM (cM (.int 3)) nilM)) δ) tupM) δ S = .ok (.d (.tuple [.int 2, .int 3])) S := rfl
theorem notIn_23 (n : Nat) (S : Sto) : notInM (.d (.int n)) (.d (.tuple [.int 2, .int 3])) S = .ok (okb (!(decide ((2 : Int) = n) || decide ((3 : Int) = n)))) S := by
  unfold notInM
  simp only [toD]
  rw [if_pos ⟨by simp [PyData.depth], by simp only [nd], by simp only [ndA, nd, Bool.and_self]⟩]
  simp only [List.any_cons, List.any_nil, Bool.or_false, eqv_int]
/-! ### the law's own reading -/
section
variable {R : List W → M W} {h k : Int} {d : D} {kk : Bool} {ds : List D} {S : Sto}
abbrev frL (d : D) (h k : Int) (n : Option W) (r p : Option W) : Env := [some (.d d), some (.d (.int h)), some (.d (.int k)), n, r, p]
theorem lt_head (hh : h ≠ 0) (hk : k ≠ 0) {rest : Env → M Fl} {r : Res Fl} (e : rest (frL d h k none none none) [] = r) : seqM (st__law_is_type_1 R) rest (frL d h k none none none) [] = r := by
  unfold st__law_is_type_1
  refine Eq.trans (seq_nx (δ' := frL d h k none none none) (S' := []) (Eq.trans (if_f (S' := []) ?_) rfl)) e
  refine Eq.trans (orT_f (S1 := []) (val_ok (bin_ok (S1 := []) (S2 := []) rfl rfl ?_))) (val_ok (bin_ok (S1 := []) (S2 := []) rfl rfl ?_))
  · rw [Ev.eq_int, decide_eq_false hh]
  · rw [Ev.eq_int, decide_eq_false hk]
theorem lt_zero (hz : h = 0 ∨ k = 0) {rest : Env → M Fl} : seqM (st__law_is_type_1 R) rest (frL d h k none none none) [] = .ok (.rt (okb false)) [] := by
  unfold st__law_is_type_1
  refine seq_rt (Eq.trans (if_t (S' := []) ?_) rfl)
  by_cases hh : h = 0
  · refine Eq.trans (orT_t (S1 := []) (val_ok (bin_ok (S1 := []) (S2 := []) rfl rfl ?_))) rfl
    rw [Ev.eq_int, decide_eq_true hh]
  · refine Eq.trans (orT_f (S1 := []) (val_ok (bin_ok (S1 := []) (S2 := []) rfl rfl ?_))) (val_ok (bin_ok (S1 := []) (S2 := []) rfl rfl ?_))
    · rw [Ev.eq_int, decide_eq_false hh]
    · rw [Ev.eq_int, decide_eq_true (hz.resolve_left hh)]
abbrev ltRest (R : List W → M W) : Env → M Fl := seqM (st__law_is_type_2 R) (seqM (st__law_is_type_3 R) (seqM (st__law_is_type_4 R) (seqM (st__law_is_type_5 R) (seqM (st__law_is_type_6 R) (seqM (st__law_is_type_7 R) (seqM (st__law_is_type_8 R) (seqM (forM (fun δ => bd ((binM (varM 0) (cM (.int 1)) itemM) δ) iterM) (setG 4) (body__law_is_type_1 R)) (st__law_is_type_12 R))))))))
theorem lt_text (z : Str) : ltRest R (frL (s z) h k none none none) [] = .ok (.rt (okb (decide (z ∈ (["atom", "never"] : List Str))))) [] := by
  unfold ltRest st__law_is_type_2
  refine seq_rt (Eq.trans (if_t (S' := []) (val_ok rfl)) (ret_ok (bin_ok (S1 := []) (S2 := []) rfl (two_texts _ _ _ _) (in_strT (k := false) z ["atom", "never"]))))
/-- neither text nor list -/
theorem lt_other (hd : itemsD d = none) (hs : ∀ z, d ≠ .str z) : ltRest R (frL d h k none none none) [] = .ok (.rt (okb false)) [] := by
  cases d with
  | str z => exact absurd rfl (hs z)
  | list _ => cases hd
  | tuple _ => cases hd
  | none => kernel_rfl
  | bool _ => kernel_rfl
  | int _ => kernel_rfl
  | dict _ => kernel_rfl
/-- behind the second statement, for a list -/
theorem lt_3 {rest : Env → M Fl} : seqM (st__law_is_type_2 R) rest (frL (sq kk ds) h k none none none) [] = rest (frL (sq kk ds) h k none none none) [] := by
  unfold st__law_is_type_2
  exact seq_nx (S' := []) (Eq.trans (if_f (S' := []) (val_ok (by cases kk <;> rfl))) rfl)
abbrev tst3 : Env → M Bool := (orT (notT (valT (fun δ => bd ((varM 0) δ) (isiM [.lst, .tup])))) (orT (valT (binM (calM (consM (varM 0) nilM) lenDM) (fun δ => bd ((consM (cM (.int 2)) (consM (cM (.int 3)) nilM)) δ) tupM) notInM)) (notT (valT (fun δ => bd ((binM (varM 0) (cM (.int 0)) itemM) δ) (isiM [.str]))))))
theorem lt_bad (hl : ds.length ≠ 2 ∧ ds.length ≠ 3 ∨ ∃ x r, ds = x :: r ∧ ∀ z, x ≠ .str z) {rest : Env → M Fl} : seqM (st__law_is_type_3 R) rest (frL (sq kk ds) h k none none none) [] = .ok (.rt (okb false)) [] := by
  unfold st__law_is_type_3
  refine seq_rt (Eq.trans (if_t (S' := []) ?_) rfl)
  refine Eq.trans (orT_f (S1 := []) (not_ok (b := true) (val_ok (Eq.trans (bd_ok (S' := []) rfl) isi_sq)))) ?_
  have hlen : binM (calM (consM (varM 0) nilM) lenDM) (fun δ => bd ((consM (cM (.int 2)) (consM (cM (.int 3)) nilM)) δ) tupM) notInM (frL (sq kk ds) h k none none none) [] = .ok (okb (!(decide ((2 : Int) = ds.length) || decide ((3 : Int) = ds.length)))) [] :=
    bin_ok (S1 := []) (S2 := []) (cal_ok (one_ok rfl) len_sq) (two_ints _ _) (notIn_23 _ _)
  by_cases hq : ds.length ≠ 2 ∧ ds.length ≠ 3
  · refine Eq.trans (orT_t (S1 := []) (val_ok ?_)) rfl
    rw [hlen, decide_eq_false (by omega), decide_eq_false (by omega)]
    rfl
  · obtain ⟨x, r, rfl, hx⟩ := hl.resolve_left hq
    refine Eq.trans (orT_f (S1 := []) (val_ok ?_)) (not_ok (b := false) (val_ok ?_))
    · rw [hlen]
      have : (decide ((2 : Int) = (x :: r).length) || decide ((3 : Int) = (x :: r).length)) = true := by
        rw [Bool.or_eq_true, decide_eq_true_eq, decide_eq_true_eq]
        omega
      rw [this]
      rfl
    · refine Eq.trans (bd_ok (bin_ok (S1 := []) (S2 := []) rfl rfl (item_sq atI_0))) ?_
      cases x with
      | str z => exact absurd rfl (hx z)
      | none => rfl
      | bool _ => rfl
      | int _ => rfl
      | list _ => rfl
      | tuple _ => rfl
      | dict _ => rfl
theorem lt_4 {z : Str} {r : List D} (hl : (s z :: r).length = 2 ∨ (s z :: r).length = 3) {rest : Env → M Fl} : seqM (st__law_is_type_3 R) rest (frL (sq kk (s z :: r)) h k none none none) [] = rest (frL (sq kk (s z :: r)) h k none none none) [] := by
  unfold st__law_is_type_3
  refine seq_nx (S' := []) (Eq.trans (if_f (S' := []) ?_) rfl)
  refine Eq.trans (orT_f (S1 := []) (not_ok (b := true) (val_ok (Eq.trans (bd_ok (S' := []) rfl) isi_sq)))) ?_
  refine Eq.trans (orT_f (S1 := []) (val_ok (bin_ok (S1 := []) (S2 := []) (cal_ok (one_ok rfl) len_sq) (two_ints _ _) ?_))) (not_ok (b := true) (val_ok (Eq.trans (bd_ok (bin_ok (S1 := []) (S2 := []) rfl rfl (item_sq atI_0))) rfl)))
  rw [notIn_23]
  have : (decide ((2 : Int) = (s z :: r).length) || decide ((3 : Int) = (s z :: r).length)) = true := by
    rw [Bool.or_eq_true, decide_eq_true_eq, decide_eq_true_eq]
    omega
  rw [this]
  rfl
theorem at1 {x y : D} {r : List D} : atI (x :: y :: r) 1 = some y := by
  unfold L2.atI L2.ixN
  rw [if_pos (by omega), if_pos (by simp only [List.length_cons]; omega)]
  rfl
theorem at2 {x y z : D} {r : List D} : atI (x :: y :: z :: r) 2 = some z := by
  unfold L2.atI L2.ixN
  rw [if_pos (by omega), if_pos (by simp only [List.length_cons]; omega)]
  rfl
/-- three things -/
theorem lt_three {z : Str} {x y : D} {b : Bool} (hx : szB x = true) (hR : decide (z = "tag") && nmB x = true → ∀ S, R [.d y, .d (.int (h - 1)), .d (.int (k - 1))] S = .ok (okb b) S) {rest : Env → M Fl} :
    seqM (st__law_is_type_4 R) rest (frL (sq kk [s z, x, y]) h k none none none) [] = .ok (.rt (okb (decide (z = "tag") && (nmB x && b)))) [] := by
  unfold st__law_is_type_4
  refine seq_rt (Eq.trans (if_t (S' := []) (val_ok (bin_ok (S1 := []) (S2 := []) (cal_ok (one_ok rfl) len_sq) rfl (by rw [Ev.eq_int]; rfl)))) (ret_ok ?_))
  refine andV_b (bin_ok (S1 := []) (S2 := []) (bin_ok (S1 := []) (S2 := []) rfl rfl (item_sq atI_0)) rfl (Ev.eq_str z "tag")) fun h1 => ?_
  refine andV_b (cal_ok (one_ok (bin_ok (S1 := []) (S2 := []) rfl rfl (item_sq at1))) (noEx_ok (lname_ok x (sz_name hx) []))) fun h2 => ?_
  refine cal_ok (S' := []) (cons_ok (S1 := []) (bin_ok (S1 := []) (S2 := []) rfl rfl (item_sq at2)) (cons_ok (S1 := []) (bin_ok (S1 := []) (S2 := []) rfl rfl (Ev.sub_int _ _)) (one_ok (bin_ok (S1 := []) (S2 := []) rfl rfl (Ev.sub_int _ _))))) (noEx_ok (hR (by rw [h1, h2]; rfl) []))
theorem lt_5 {z : Str} {x : D} {rest : Env → M Fl} : seqM (st__law_is_type_4 R) rest (frL (sq kk [s z, x]) h k none none none) [] = rest (frL (sq kk [s z, x]) h k none none none) [] := by
  unfold st__law_is_type_4
  exact seq_nx (S' := []) (Eq.trans (if_f (S' := []) (val_ok (bin_ok (S1 := []) (S2 := []) (cal_ok (one_ok rfl) len_sq) rfl (by rw [Ev.eq_int]; rfl)))) rfl)
theorem isi_items {x : D} (hx : itemsD x = none) : isiM [.lst, .tup] (.d x) S = .ok (okb false) S := by
  cases x with
  | list _ => cases hx
  | tuple _ => cases hx
  | none => rfl
  | bool _ => rfl
  | int _ => rfl
  | str _ => rfl
  | dict _ => rfl
theorem lt_word {z : Str} {x : D} (hb : z ∉ (["record", "or"] : List Str) ∨ itemsD x = none) {rest : Env → M Fl} : seqM (st__law_is_type_5 R) rest (frL (sq kk [s z, x]) h k none none none) [] = .ok (.rt (okb false)) [] := by
  unfold st__law_is_type_5
  refine seq_rt (Eq.trans (if_t (S' := []) ?_) rfl)
  have h1 : binM (binM (varM 0) (cM (.int 0)) itemM) (fun δ => bd ((consM (cM (.str "record")) (consM (cM (.str "or")) nilM)) δ) tupM) notInM (frL (sq kk [s z, x]) h k none none none) [] = .ok (okb (!decide (z ∈ (["record", "or"] : List Str)))) [] :=
    bin_ok (S1 := []) (S2 := []) (bin_ok (S1 := []) (S2 := []) rfl rfl (item_sq atI_0)) (two_texts _ _ _ _) (notIn_strT (k := false) z ["record", "or"])
  by_cases hz : z ∈ (["record", "or"] : List Str)
  · rw [decide_eq_true hz] at h1
    exact Eq.trans (orT_f (S1 := []) (val_ok h1)) (not_ok (b := false) (val_ok (Eq.trans (bd_ok (bin_ok (S1 := []) (S2 := []) rfl rfl (item_sq at1))) (isi_items (hb.resolve_left fun q => q hz)))))
  · rw [decide_eq_false hz] at h1
    exact Eq.trans (orT_t (S1 := []) (val_ok h1)) rfl
theorem lt_6 {z : Str} {k2 : Bool} {ys : List D} (hz : z ∈ (["record", "or"] : List Str)) {rest : Env → M Fl} : seqM (st__law_is_type_5 R) rest (frL (sq kk [s z, sq k2 ys]) h k none none none) [] = rest (frL (sq kk [s z, sq k2 ys]) h k none none none) [] := by
  unfold st__law_is_type_5
  refine seq_nx (S' := []) (Eq.trans (if_f (S' := []) ?_) rfl)
  refine Eq.trans (orT_f (S1 := []) (val_ok (bin_ok (S1 := []) (S2 := []) (bin_ok (S1 := []) (S2 := []) rfl rfl (item_sq atI_0)) (two_texts _ _ _ _) ?_))) (not_ok (b := true) (val_ok (Eq.trans (bd_ok (bin_ok (S1 := []) (S2 := []) rfl rfl (item_sq at1))) isi_sq)))
  have := notIn_strT (S := []) (k := false) z ["record", "or"]
  rw [decide_eq_true hz] at this
  exact this
theorem all_none (f : D → Bool) (ys : List D) : ys.all f = (ys.filter fun y => !f y).isEmpty := by
  induction ys with
  | nil => rfl
  | cons y ys ih =>
    rw [List.all_cons, List.filter_cons]
    cases f y with
    | true => simpa using ih
    | false => simp
/-- or -/
theorem lt_or {k2 : Bool} {ys : List D} {f : D → Bool} (hl : ys.length ≤ 100) (hR : ∀ y ∈ ys, ∀ S, R [.d y, .d (.int h), .d (.int (k - 1))] S = .ok (okb (f y)) S) {rest : Env → M Fl} :
    seqM (st__law_is_type_6 R) rest (frL (sq kk [s "or", sq k2 ys]) h k none none none) [] = .ok (.rt (okb (ys.all f))) [] := by
  unfold st__law_is_type_6
  refine seq_rt (Eq.trans (if_t (S' := []) (val_ok (bin_ok (S1 := []) (S2 := []) (bin_ok (S1 := []) (S2 := []) rfl rfl (item_sq atI_0)) rfl (by rw [Ev.eq_str]; rfl)))) (ret_ok ?_))
  have comp := comp_map (own := [5]) (g := setG 5) (t := notT (valT (calM (consM (varM 5) (consM (varM 1) (consM (binM (varM 2) (cM (.int 1)) subM) nilM))) fun ws => noEx (R ws)))) (e := varM 5) (δ := frL (sq kk [s "or", sq k2 ys]) h k none none none) (S := []) (fun w => match w with | .d y => !f y | _ => false) id (ws := ys.map .d) (fun w hw => by
    obtain ⟨y, hy, rfl⟩ := List.mem_map.mp hw
    exact ⟨frL (sq kk [s "or", sq k2 ys]) h k none none (some (.d y)), rfl, not_ok (val_ok (cal_ok (S' := []) (cons_ok (S1 := []) rfl (cons_ok (S1 := []) rfl (one_ok (bin_ok (S1 := []) (S2 := []) rfl rfl (Ev.sub_int _ _))))) (noEx_ok (hR y hy [])))), fun _ => rfl⟩)
  rw [List.map_id, List.filter_map] at comp
  have comp : compL [5] (setG 5) (notT (valT (calM (consM (varM 5) (consM (varM 1) (consM (binM (varM 2) (cM (.int 1)) subM) nilM))) fun ws => noEx (R ws)))) (varM 5) (ys.map .d) (frL (sq kk [s "or", sq k2 ys]) h k none none none) [] = .ok ((ys.filter fun y => !f y).map .d) [] := comp
  have e : ys.all f = (ys.filter fun y => !f y).isEmpty := all_none f ys
  rw [e]
  refine bin_ok (S1 := []) (S2 := []) (x := .d (.list (ys.filter fun y => !f y))) ?_ rfl (eq_nil _)
  unfold lcM
  refine Eq.trans (bd_ok (a := ys.map W.d) (S' := []) (Eq.trans (bd_ok (bin_ok (S1 := []) (S2 := []) rfl rfl (item_sq at1))) iter_sq)) ?_
  refine Eq.trans (bd_ok comp) (lst_ok (allD_map _) ?_)
  rw [List.length_map]
  exact Nat.le_trans (Nat.le_trans (List.length_filter_le _ _) (Nat.le_trans hl (by decide))) small2
end
end DL.k27
namespace DL.k27
open PySem PySem.Spec PyProof.Rows L2 DL DL.Ev

/-! ### a row of a record -/
def isBl : D → Bool
  | .bool _ => true
  | _ => false
def rowB (r : D) : Bool := match itemsD r with
  | some [n, _, b] => nmB n && isBl b
  | _ => false
theorem rowB_3 {kk : Bool} {n x b : D} : rowB (sq kk [n, x, b]) = (nmB n && isBl b) := by unfold rowB; rw [items_sq]
theorem rowB_not {kk : Bool} {ds : List D} (h : ds.length ≠ 3) : rowB (sq kk ds) = false := by
  unfold rowB
  rw [items_sq]
  match ds, h with
  | [], _ => rfl
  | [_], _ => rfl
  | [_, _], _ => rfl
  | [_, _, _], h => exact absurd rfl h
  | _ :: _ :: _ :: _ :: _, _ => rfl
theorem isi_bl (b : D) (S : Sto) : isiM [.bl] (.d b) S = .ok (okb (isBl b)) S := by cases b <;> rfl
theorem three_of {ds : List D} (h : ds.length = 3) : ∃ a b c, ds = [a, b, c] := by
  match ds, h with
  | [a, b, c], _ => exact ⟨a, b, c, rfl⟩
theorem row_test {L : Env → M Bool} {FN : List W → M W} {r : D} {δ : Env} {S : Sto} (h4 : δ[4]? = some (some (.d r))) (hs : szB r = true) (hL : L δ S = .ok (itemsD r).isSome S)
    (hN : ∀ d : D, (∀ z, d = .str z → z.length ≤ sizeLine) → FN [.d d] S = .ok (okb (nmB d)) S) :
    (orT (notT L) (orT (valT (binM (calM (consM (varM 4) nilM) lenDM) (cM (.int 3)) neM)) (orT (notT (valT (calM (consM (binM (varM 4) (cM (.int 0)) itemM) nilM) fun ws => noEx (FN ws)))) (notT (valT (fun δ => bd ((binM (varM 4) (cM (.int 2)) itemM) δ) (isiM [.bl]))))))) δ S = .ok (!rowB r) S := by
  have v4 : varM 4 δ S = .ok (.d r) S := varM_at h4
  cases hr : itemsD r with
  | none =>
    rw [hr] at hL
    have e : rowB r = false := by unfold rowB; rw [hr]
    rw [e]
    exact orT_t (not_ok hL)
  | some ds =>
    rw [hr] at hL
    obtain ⟨kk, rfl⟩ := items_of hr
    refine Eq.trans (orT_f (S1 := S) (not_ok hL)) ?_
    have hl : binM (calM (consM (varM 4) nilM) lenDM) (cM (.int 3)) neM δ S = .ok (okb (!decide ((ds.length : Int) = 3))) S := bin_ok (S1 := S) (S2 := S) (cal_ok (one_ok v4) len_sq) rfl (Ev.ne_int _ _)
    by_cases h3 : ds.length = 3
    · obtain ⟨n, x, b, rfl⟩ := three_of h3
      refine Eq.trans (orT_f (S1 := S) (val_ok hl)) ?_
      have hn : szB n = true := by
        rw [sz_sq] at hs
        simp only [szA, Bool.and_eq_true] at hs
        exact hs.2.1
      rw [rowB_3, Bool.not_and]
      refine orT_b (not_ok (val_ok (cal_ok (one_ok (bin_ok (S1 := S) (S2 := S) v4 rfl (item_sq atI_0))) (noEx_ok (hN n (sz_name hn)))))) fun _ => not_ok (val_ok (Eq.trans (bd_ok (bin_ok (S1 := S) (S2 := S) v4 rfl (item_sq at2))) (isi_bl b S)))
    · rw [rowB_not h3]
      have h3' : ¬ (ds.length : Int) = 3 := by omega
      rw [decide_eq_false h3'] at hl
      exact orT_t (val_ok hl)
/-- names so far, in the store -/
abbrev nmsO (ns : List Str) : Ob := .lst ((ns.map PyData.str).map .d)
theorem in_ref {S : Sto} {i : Nat} {ns : List Str} (h : S[i]? = some (nmsO ns)) (z : Str) : inM (.d (.str z)) (.r i) S = .ok (okb (decide (z ∈ ns))) S := by
  unfold inM
  rw [toD_r h]
  simp only [toD]
  rw [if_pos ⟨by simp [PyData.depth], by simp only [nd], ndA_strs ns⟩, in_strs]
theorem rowsG_bad {f : D → Bool} {ns : List Str} {r : D} {rs : List D} (h : rowB r = false) : rowsG f ns (r :: rs) = false := by
  unfold rowsG
  unfold rowB at h
  split
  · rename_i n x b e
    rw [e] at h
    simp only [nmB, isBl, Bool.and_true] at h
    rw [h]
    rfl
  · rfl
theorem nm_str {d : D} (h : nmB d = true) : ∃ z, d = .str z ∧ nmS z = true := by
  cases d with
  | str z => exact ⟨z, rfl, h⟩
  | _ => cases h
theorem bl_bool {d : D} (h : isBl d = true) : ∃ b, d = .bool b := by
  cases d with
  | bool b => exact ⟨b, rfl⟩
  | _ => cases h
theorem rowB_t {r : D} (h : rowB r = true) : ∃ kk z x b, r = sq kk [s z, x, .bool b] ∧ nmS z = true := by
  unfold rowB at h
  split at h
  · rename_i n x b e
    obtain ⟨kk, rfl⟩ := items_of e
    rw [Bool.and_eq_true] at h
    obtain ⟨z, rfl, hz⟩ := nm_str h.1
    obtain ⟨b, rfl⟩ := bl_bool h.2
    exact ⟨kk, z, x, b, rfl, hz⟩
  · cases h
theorem rowsG_good {f : D → Bool} {ns : List Str} {kk : Bool} {z : Str} {x : D} {b : Bool} {rs : List D} (h : nmS z = true) : rowsG f ns (sq kk [s z, x, .bool b] :: rs) = (f x && !decide (z ∈ ns) && rowsG f (ns ++ [z]) rs) := by
  conv => lhs; unfold rowsG
  rw [items_sq]
  simp only [h, Bool.true_and]
section
variable {R : List W → M W} {h k : Int} {d : D} {f : D → Bool}
abbrev isLi (i : Nat) : Env → M Bool := valT (fun δ => bd ((varM i) δ) (isiM [.lst, .tup]))
theorem isLi_ok {i : Nat} {r : D} {δ : Env} {S : Sto} (h : δ[i]? = some (some (.d r))) : isLi i δ S = .ok (itemsD r).isSome S := by
  refine val_ok (Eq.trans (bd_ok (varM_at h)) ?_)
  cases r <;> rfl
theorem lt_rows : ∀ (rs : List D) (ns : List Str) (r0 : Option W), rs.length + ns.length ≤ 1000 → szA rs = true → (∀ r ∈ rs, ∀ kk z x b, r = sq kk [s z, x, .bool b] → ∀ S, R [.d x, .d (.int (h - 1)), .d (.int (k - 1))] S = .ok (okb (f x)) S) →
    ∃ S' fl, forL (setG 4) (body__law_is_type_1 R) (rs.map .d) (frL d h k (some (.r 0)) r0 none) [nmsO ns] = .ok fl S' ∧ (rowsG f ns rs = true → ∃ r', fl = .nx (frL d h k (some (.r 0)) r' none)) ∧ (rowsG f ns rs = false → fl = .rt (okb false))
  | [], ns, r0, _, _, _ => ⟨_, _, rfl, fun _ => ⟨r0, rfl⟩, fun q => by cases q⟩
  | r :: rs, ns, r0, hl, hs, hR => by
    simp only [szA, Bool.and_eq_true] at hs
    simp only [List.length_cons] at hl
    have t := row_test (L := isLi 4) (FN := F__law_is_name) (δ := frL d h k (some (.r 0)) (some (.d r)) none) (S := [nmsO ns]) rfl hs.1 (isLi_ok rfl) (fun d hd => lname_ok d hd _)
    cases hb : rowB r with
    | false =>
      refine ⟨[nmsO ns], .rt (okb false), ?_, fun q => (by rw [rowsG_bad hb] at q; cases q), fun _ => rfl⟩
      rw [hb] at t
      unfold forL body__law_is_type_1 st__law_is_type_9
      refine Eq.trans (bd_ok (S' := [nmsO ns]) (a := frL d h k (some (.r 0)) (some (.d r)) none) rfl) ?_
      refine Eq.trans (bd_ok (seq_rt (Eq.trans (if_t t) rfl))) rfl
    | true =>
      rw [hb] at t
      obtain ⟨kk, z, x, b, rfl, hz⟩ := rowB_t hb
      rw [rowsG_good hz]
      have hx := hR _ (.head _) kk z x b rfl [nmsO ns]
      have go : ∀ fl S', (seqM (st__law_is_type_10 R) (st__law_is_type_11 R)) (frL d h k (some (.r 0)) (some (.d (sq kk [s z, x, .bool b]))) none) [nmsO ns] = .ok fl S' → body__law_is_type_1 R (frL d h k (some (.r 0)) (some (.d (sq kk [s z, x, .bool b]))) none) [nmsO ns] = .ok fl S' := fun fl S' q => by
        unfold body__law_is_type_1 st__law_is_type_9
        exact Eq.trans (seq_nx (Eq.trans (if_f t) rfl)) q
      have t2 : (orT (notT (valT (calM (consM (binM (varM 4) (cM (.int 1)) itemM) (consM (binM (varM 1) (cM (.int 1)) subM) (consM (binM (varM 2) (cM (.int 1)) subM) nilM))) fun ws => noEx (R ws)))) (valT (binM (binM (varM 4) (cM (.int 0)) itemM) (varM 3) inM))) (frL d h k (some (.r 0)) (some (.d (sq kk [s z, x, .bool b]))) none) [nmsO ns] = .ok (!f x || decide (z ∈ ns)) [nmsO ns] := by
        refine orT_b (not_ok (val_ok (cal_ok (S' := [nmsO ns]) (cons_ok (S1 := [nmsO ns]) (bin_ok (S1 := [nmsO ns]) (S2 := [nmsO ns]) rfl rfl (item_sq at1)) (cons_ok (S1 := [nmsO ns]) (bin_ok (S1 := [nmsO ns]) (S2 := [nmsO ns]) rfl rfl (Ev.sub_int _ _)) (one_ok (bin_ok (S1 := [nmsO ns]) (S2 := [nmsO ns]) rfl rfl (Ev.sub_int _ _))))) (noEx_ok hx)))) fun _ => ?_
        exact val_ok (bin_ok (S1 := [nmsO ns]) (S2 := [nmsO ns]) (bin_ok (S1 := [nmsO ns]) (S2 := [nmsO ns]) rfl rfl (item_sq atI_0)) rfl (in_ref rfl z))
      have e : (f x && !decide (z ∈ ns)) = !(!f x || decide (z ∈ ns)) := by cases f x <;> cases decide (z ∈ ns) <;> rfl
      rw [e]
      cases hc : (!f x || decide (z ∈ ns)) with
      | true =>
        rw [hc] at t2
        refine ⟨[nmsO ns], .rt (okb false), ?_, fun q => (by cases q), fun _ => rfl⟩
        unfold forL
        refine Eq.trans (bd_ok (S' := [nmsO ns]) (a := frL d h k (some (.r 0)) (some (.d (sq kk [s z, x, .bool b]))) none) rfl) ?_
        refine Eq.trans (bd_ok (go _ _ (seq_rt (S' := [nmsO ns]) (by unfold st__law_is_type_10; exact Eq.trans (if_t t2) rfl)))) rfl
      | false =>
        rw [hc] at t2
        obtain ⟨S', fl, e1, e2, e3⟩ := lt_rows rs (ns ++ [z]) (some (.d (sq kk [s z, x, .bool b]))) (by rw [List.length_append, List.length_singleton]; omega) hs.2 (fun r hr => hR r (.tail _ hr))
        refine ⟨S', fl, ?_, e2, e3⟩
        unfold forL
        refine Eq.trans (bd_ok (S' := [nmsO ns]) (a := frL d h k (some (.r 0)) (some (.d (sq kk [s z, x, .bool b]))) none) rfl) ?_
        refine Eq.trans (bd_ok (S' := [nmsO (ns ++ [z])]) (a := Fl.nx (frL d h k (some (.r 0)) (some (.d (sq kk [s z, x, .bool b]))) none)) (go (Fl.nx (frL d h k (some (.r 0)) (some (.d (sq kk [s z, x, .bool b]))) none)) [nmsO (ns ++ [z])] ?_)) e1
        refine Eq.trans (seq_nx (S' := [nmsO ns]) (δ' := frL d h k (some (.r 0)) (some (.d (sq kk [s z, x, .bool b]))) none) (by unfold st__law_is_type_10; exact Eq.trans (if_f t2) rfl)) ?_
        unfold st__law_is_type_11
        refine expr_ok (w := .d .none) (met_ok (n := 0) rfl rfl (one_ok (w := .d (s z)) (bin_ok (S1 := [nmsO ns]) (S2 := [nmsO ns]) rfl rfl (item_sq atI_0))) ?_)
        have := append_ok (S := [nmsO ns]) (n := 0) (ws := (ns.map PyData.str).map .d) (y := .d (s z)) rfl (by rw [List.length_map, List.length_map]; exact Nat.lt_of_lt_of_le (by omega : ns.length < 1000000) small2)
        rw [this]
        simp [nmsO]
theorem lt_record {kk k2 : Bool} {ys : List D} (hl : ys.length ≤ 100) (hs : szA ys = true) (hR : ∀ x S, szB x = true → R [.d x, .d (.int (h - 1)), .d (.int (k - 1))] S = .ok (okb (f x)) S) :
    ∃ S', seqM (st__law_is_type_6 R) (seqM (st__law_is_type_7 R) (seqM (st__law_is_type_8 R) (seqM (forM (fun δ => bd ((binM (varM 0) (cM (.int 1)) itemM) δ) iterM) (setG 4) (body__law_is_type_1 R)) (st__law_is_type_12 R)))) (frL (sq kk [s "record", sq k2 ys]) h k none none none) [] = .ok (.rt (okb (decide (ys.length ≤ 60) && rowsG f [] ys))) S' := by
  have i0 : ∀ S (n : Option W), binM (varM 0) (cM (.int 0)) itemM (frL (sq kk [s "record", sq k2 ys]) h k n none none) S = .ok (.d (s "record")) S := fun S n => bin_ok (S1 := S) (S2 := S) rfl rfl (item_sq atI_0)
  have i1 : ∀ S (n : Option W), binM (varM 0) (cM (.int 1)) itemM (frL (sq kk [s "record", sq k2 ys]) h k n none none) S = .ok (.d (sq k2 ys)) S := fun S n => bin_ok (S1 := S) (S2 := S) rfl rfl (item_sq at1)
  obtain ⟨S', fl, e1, e2, e3⟩ := lt_rows (R := R) (h := h) (k := k) (d := sq kk [s "record", sq k2 ys]) (f := f) ys [] none (by simpa using Nat.le_trans hl (by decide)) hs (fun r hr kk z x b e S => hR x S (by
    have := szA_mem hs r hr
    rw [e, sz_sq] at this
    simp only [szA, Bool.and_eq_true] at this
    exact this.2.2.1))
  by_cases h60 : ys.length ≤ 60
  · have p8 : st__law_is_type_8 R (frL (sq kk [s "record", sq k2 ys]) h k (some (.r 0)) none none) [nmsO []] = .ok (.nx (frL (sq kk [s "record", sq k2 ys]) h k (some (.r 0)) none none)) [nmsO []] := by
      unfold st__law_is_type_8
      refine Eq.trans (if_f (S' := [nmsO []]) (val_ok (bin_ok (S1 := [nmsO []]) (S2 := [nmsO []]) (cal_ok (one_ok (i1 _ _)) len_sq) rfl ?_))) rfl
      rw [Ev.gt_int, decide_eq_false (by omega)]
    rw [decide_eq_true h60, Bool.true_and]
    refine ⟨S', ?_⟩
    refine Eq.trans (seq_nx (S' := []) (δ' := frL (sq kk [s "record", sq k2 ys]) h k none none none) ?_) ?_
    · unfold st__law_is_type_6
      exact Eq.trans (if_f (S' := []) (val_ok (bin_ok (S1 := []) (S2 := []) (i0 _ _) rfl (by rw [Ev.eq_str]; rfl)))) rfl
    refine Eq.trans (seq_nx (S' := [nmsO []]) (δ' := frL (sq kk [s "record", sq k2 ys]) h k (some (.r 0)) none none) rfl) ?_
    refine Eq.trans (seq_nx p8) ?_
    have pf : forM (fun δ => bd ((binM (varM 0) (cM (.int 1)) itemM) δ) iterM) (setG 4) (body__law_is_type_1 R) (frL (sq kk [s "record", sq k2 ys]) h k (some (.r 0)) none none) [nmsO []] = .ok fl S' := by
      unfold forM
      exact Eq.trans (bd_ok (Eq.trans (bd_ok (i1 _ _)) iter_sq)) e1
    cases hg : rowsG f [] ys with
    | true =>
      obtain ⟨r', rfl⟩ := e2 hg
      exact Eq.trans (seq_nx pf) rfl
    | false =>
      rw [e3 hg] at pf
      exact seq_rt pf
  · have p8 : st__law_is_type_8 R (frL (sq kk [s "record", sq k2 ys]) h k (some (.r 0)) none none) [nmsO []] = .ok (.rt (okb false)) [nmsO []] := by
      unfold st__law_is_type_8
      refine Eq.trans (if_t (S' := [nmsO []]) (val_ok (bin_ok (S1 := [nmsO []]) (S2 := [nmsO []]) (cal_ok (one_ok (i1 _ _)) len_sq) rfl ?_))) rfl
      rw [Ev.gt_int, decide_eq_true (by omega)]
    rw [decide_eq_false h60, Bool.false_and]
    refine ⟨[nmsO []], ?_⟩
    refine Eq.trans (seq_nx (S' := []) (δ' := frL (sq kk [s "record", sq k2 ys]) h k none none none) ?_) ?_
    · unfold st__law_is_type_6
      exact Eq.trans (if_f (S' := []) (val_ok (bin_ok (S1 := []) (S2 := []) (i0 _ _) rfl (by rw [Ev.eq_str]; rfl)))) rfl
    refine Eq.trans (seq_nx (S' := [nmsO []]) (δ' := frL (sq kk [s "record", sq k2 ys]) h k (some (.r 0)) none none) rfl) ?_
    exact seq_rt p8
end
/-! ### all of it -/
theorem tyB_items {k : Nat} {h : Int} {ds : List D} {kk : Bool} (hh : h ≠ 0) : tyB (k + 1) h (sq kk ds) = shB (tyB k h) (tyB k (h - 1)) ds := by
  conv => lhs; unfold tyB
  rw [if_neg hh]
  cases kk <;> rfl
theorem ltype_ok : ∀ (k : Nat) (h : Int) (d : D) (n : Nat) (S : Sto), szB d = true → k < n → F__law_is_type n [.d d, .d (.int h), .d (.int k)] S = .ok (okb (tyB k h d)) S
  | k, h, d, 0, S, _, hn => by omega
  | 0, h, d, n + 1, S, _, _ => by
    unfold F__law_is_type
    refine pure_ok (S0 := []) rfl (run_rt rfl ?_)
    unfold b__law_is_type
    exact lt_zero (.inr rfl)
  | k + 1, h, d, n + 1, S, hs, hn => by
    have ih : ∀ h d S, szB d = true → F__law_is_type n [.d d, .d (.int h), .d (.int k)] S = .ok (okb (tyB k h d)) S := fun h d S hs => ltype_ok k h d n S hs (by omega)
    have hk1 : ((k + 1 : Nat) : Int) - 1 = (k : Int) := by omega
    unfold F__law_is_type
    refine pure_ex rfl ?_
    by_cases hh : h = 0
    · refine ⟨[], run_rt rfl ?_⟩
      unfold b__law_is_type
      have : tyB (k + 1) h d = false := by unfold tyB; rw [if_pos hh]
      rw [this]
      exact lt_zero (.inl hh)
    have hk : ((k + 1 : Nat) : Int) ≠ 0 := by omega
    suffices ∃ S0, ltRest (F__law_is_type n) (frL d h ((k + 1 : Nat) : Int) none none none) [] = .ok (.rt (okb (tyB (k + 1) h d))) S0 by
      obtain ⟨S0, e⟩ := this
      refine ⟨S0, run_rt rfl ?_⟩
      unfold b__law_is_type
      exact lt_head hh hk e
    cases hi : itemsD d with
    | none =>
      cases d with
      | str z =>
        have e : tyB (k + 1) h (.str z) = decide (z ∈ (["atom", "never"] : List Str)) := by unfold tyB; rw [if_neg hh]
        rw [e]
        exact ⟨[], lt_text z⟩
      | list _ => cases hi
      | tuple _ => cases hi
      | none =>
        have e : tyB (k + 1) h .none = false := by unfold tyB; rw [if_neg hh]
        rw [e]
        exact ⟨[], lt_other hi (by intro z q; cases q)⟩
      | bool b =>
        have e : tyB (k + 1) h (.bool b) = false := by unfold tyB; rw [if_neg hh]
        rw [e]
        exact ⟨[], lt_other hi (by intro z q; cases q)⟩
      | int b =>
        have e : tyB (k + 1) h (.int b) = false := by unfold tyB; rw [if_neg hh]
        rw [e]
        exact ⟨[], lt_other hi (by intro z q; cases q)⟩
      | dict b =>
        have e : tyB (k + 1) h (.dict b) = false := by unfold tyB; rw [if_neg hh]
        rw [e]
        exact ⟨[], lt_other hi (by intro z q; cases q)⟩
    | some ds =>
      obtain ⟨kk, rfl⟩ := items_of hi
      rw [tyB_items hh]
      unfold ltRest
      rw [lt_3]
      rw [sz_sq, Bool.and_eq_true] at hs
      match ds, hs with
      | [], _ => exact ⟨[], lt_bad (.inl ⟨by simp, by simp⟩)⟩
      | [a], _ =>
        refine ⟨[], Eq.trans (lt_bad (.inl ⟨by simp, by simp⟩)) ?_⟩
        cases a <;> rfl
      | a :: b :: c :: e :: r, _ =>
        refine ⟨[], Eq.trans (lt_bad (.inl ⟨by simp, by simp⟩)) ?_⟩
        cases a <;> rfl
      | [a, x, y], hs =>
        simp only [szA, Bool.and_eq_true] at hs
        cases a with
        | str z =>
          refine ⟨[], ?_⟩
          rw [lt_4 (.inr rfl)]
          refine lt_three (b := tyB k (h - 1) y) hs.2.2.1 fun _ S => ?_
          rw [hk1]
          exact ih (h - 1) y S hs.2.2.2.1
        | _ => exact ⟨[], lt_bad (.inr ⟨_, _, rfl, by intro z q; cases q⟩)⟩
      | [a, x], hs =>
        simp only [szA, Bool.and_eq_true] at hs
        cases a with
        | str z =>
          rw [lt_4 (.inl rfl), lt_5]
          cases hx : itemsD x with
          | none =>
            refine ⟨[], Eq.trans (lt_word (.inr hx)) ?_⟩
            simp only [shB, hx]
          | some ys =>
            simp only [shB, hx]
            obtain ⟨k2, rfl⟩ := items_of hx
            have hx2 := hs.2.2.1
            rw [sz_sq, Bool.and_eq_true] at hx2
            by_cases ho : z = "or"
            · subst ho
              refine ⟨[], ?_⟩
              rw [if_pos rfl]
              rw [lt_6 (by simp)]
              exact lt_or (of_decide_eq_true hx2.1) fun y hy S => by rw [hk1]; exact ih h y S (szA_mem hx2.2 y hy)
            · by_cases hr : z = "record"
              · subst hr
                rw [lt_6 (by simp), if_neg (by decide), if_pos rfl]
                obtain ⟨S', e⟩ := lt_record (R := F__law_is_type n) (h := h) (k := ((k + 1 : Nat) : Int)) (f := tyB k (h - 1)) (kk := kk) (k2 := k2) (ys := ys) (of_decide_eq_true hx2.1) hx2.2 fun x S hs => by rw [hk1]; exact ih (h - 1) x S hs
                exact ⟨S', e⟩
              · refine ⟨[], Eq.trans (lt_word (.inl (by simp [ho, hr]))) ?_⟩
                simp [ho, hr]
        | _ => exact ⟨[], lt_bad (.inr ⟨_, _, rfl, by intro z q; cases q⟩)⟩
end DL.k27
namespace DL.k27
open PySem PySem.Spec PyProof.Rows L2 DL DL.Ev

/-! ### the program's own reading -/
theorem listed_ok (d : D) (S : Sto) : F_is_listed [.d d] S = .ok (okb (itemsD d).isSome) S := by
  unfold F_is_listed
  refine pure_ok (S0 := []) rfl (run_rt rfl ?_)
  unfold b_is_listed st_is_listed_1
  refine ret_ok (Eq.trans (bd_ok (varM_at rfl)) ?_)
  cases d <;> rfl
section
variable {P0 P1 : Addr}
abbrev SS (P0 P1 : Addr) : Sto := [.tab P0 qL_law, .tab P1 qL_typed_fields]
theorem same_SS {S : Sto} (h : S.take 2 = SS P0 P1) : tabsSame 2 S S = true := by
  match S, h with
  | [], h => cases h
  | [_], h => cases h
  | a :: b :: S, h =>
    simp only [List.take_succ_cons, List.take_zero] at h
    cases h
    simp [tabsSame]
theorem same_SS2 {S T : Sto} (h : S.take 2 = SS P0 P1) (h2 : T.take 2 = SS P0 P1) : tabsSame 2 S T = true := by
  match S, h, T, h2 with
  | a :: b :: S, h, c :: d :: T, h2 =>
    simp only [List.take_succ_cons, List.take_zero] at h h2
    cases h; cases h2
    simp [tabsSame]
  | [], h, _, _ => cases h
  | [_], h, _, _ => cases h
  | _, _, [], h => cases h
  | _, _, [_], h => cases h
theorem pureT_ok {F : List W → M W} {ws : List W} {ds : List D} {x : D} {S S0 : Sto} (hd : allD ws = some ds) (hS : S.take 2 = SS P0 P1) (h : F ws (SS P0 P1) = .ok (.d x) S0) (h0 : S0.take 2 = SS P0 P1) : pureT 2 F ws S = .ok (.d x) S := by
  unfold pureT
  rw [hd, hS]
  simp only [h]
  rw [if_pos (same_SS2 hS h0)]
theorem pureT_exc {F : List W → M W} {ws : List W} {ds : List D} {x : Ex} {S S0 : Sto} (hd : allD ws = some ds) (hS : S.take 2 = SS P0 P1) (h : F ws (SS P0 P1) = .ex x S0) (h0 : S0.take 2 = SS P0 P1) : pureT 2 F ws S = .ex x S := by
  unfold pureT
  rw [hd, hS]
  simp only [h]
  rw [if_pos (same_SS2 hS h0)]
end
section
variable {P0 P1 : Addr} {RF R : List W → M W} {m p : Int} {d : D} {kk : Bool} {ds : List D}
abbrev frT (d : D) (m p : Int) (a b c e : Option W) : Env := [some (.d d), some (.d (.int m)), some (.d (.int p)), a, b, c, e]
theorem ty_head (hm : m ≠ 0) (hp : p ≠ 24) {rest : Env → M Fl} {r : Res Fl} (e : rest (frT d m p none none none none) (SS P0 P1) = r) : seqM (st_typed_1 P0 P1 RF R) rest (frT d m p none none none none) (SS P0 P1) = r := by
  unfold st_typed_1
  refine Eq.trans (seq_nx (δ' := frT d m p none none none none) (S' := (SS P0 P1)) (Eq.trans (if_f (S' := (SS P0 P1)) ?_) rfl)) e
  refine Eq.trans (orT_f (S1 := (SS P0 P1)) (val_ok (bin_ok (S1 := (SS P0 P1)) (S2 := (SS P0 P1)) rfl rfl ?_))) (val_ok (bin_ok (S1 := (SS P0 P1)) (S2 := (SS P0 P1)) rfl rfl ?_))
  · rw [Ev.eq_int, decide_eq_false hm]
  · rw [Ev.eq_int, decide_eq_false hp]
theorem ty_zero (hz : m = 0 ∨ p = 24) {rest : Env → M Fl} : seqM (st_typed_1 P0 P1 RF R) rest (frT d m p none none none none) (SS P0 P1) = .ok (.rt (.d .none)) (SS P0 P1) := by
  unfold st_typed_1
  refine seq_rt (Eq.trans (if_t (S' := (SS P0 P1)) ?_) rfl)
  by_cases hm : m = 0
  · refine Eq.trans (orT_t (S1 := (SS P0 P1)) (val_ok (bin_ok (S1 := (SS P0 P1)) (S2 := (SS P0 P1)) rfl rfl ?_))) rfl
    rw [Ev.eq_int, decide_eq_true hm]
  · refine Eq.trans (orT_f (S1 := (SS P0 P1)) (val_ok (bin_ok (S1 := (SS P0 P1)) (S2 := (SS P0 P1)) rfl rfl ?_))) (val_ok (bin_ok (S1 := (SS P0 P1)) (S2 := (SS P0 P1)) rfl rfl ?_))
    · rw [Ev.eq_int, decide_eq_false hm]
    · rw [Ev.eq_int, decide_eq_true (hz.resolve_left hm)]
abbrev tyRest (P0 P1 : Addr) (RF R : List W → M W) : Env → M Fl := seqM (st_typed_2 P0 P1 RF R) (seqM (st_typed_3 P0 P1 RF R) (seqM (st_typed_4 P0 P1 RF R) (seqM (st_typed_5 P0 P1 RF R) (seqM (st_typed_6 P0 P1 RF R) (seqM (st_typed_7 P0 P1 RF R) (st_typed_8 P0 P1 RF R))))))
theorem ty_text (z : Str) : tyRest P0 P1 RF R (frT (s z) m p none none none none) (SS P0 P1) = .ok (.rt (.d (if decide (z ∈ (["atom", "never"] : List Str)) = true then s z else .none))) (SS P0 P1) := by
  unfold tyRest st_typed_2
  refine seq_rt (Eq.trans (if_t (S' := (SS P0 P1)) (val_ok rfl)) (ret_ok ?_))
  have h : valT (binM (varM 0) (fun δ => bd ((consM (cM (.str "atom")) (consM (cM (.str "never")) nilM)) δ) tupM) inM) (frT (s z) m p none none none none) (SS P0 P1) = .ok (decide (z ∈ (["atom", "never"] : List Str))) (SS P0 P1) := val_ok (bin_ok (S1 := (SS P0 P1)) (S2 := (SS P0 P1)) rfl (two_texts _ _ _ _) (in_strT (k := false) z ["atom", "never"]))
  cases hz : decide (z ∈ (["atom", "never"] : List Str)) with
  | true => rw [hz] at h; exact Eq.trans (ifV_t h) rfl
  | false => rw [hz] at h; exact Eq.trans (ifV_f h) rfl
def hdL : List D → Bool
  | [.str _, _] => true
  | [.str _, _, _] => true
  | _ => false
def hdB (d : D) : Bool := match itemsD d with
  | some ds => hdL ds
  | none => false
theorem not_str {x : D} (h : ∀ z, x ≠ .str z) (S : Sto) : isiM [.str] (.d x) S = .ok (okb false) S := by
  cases x with
  | str z => exact absurd rfl (h z)
  | _ => rfl
theorem hd_test {L : Env → M Bool} {δ : Env} {S : Sto} (h0 : δ[0]? = some (some (.d d))) (hL : L δ S = .ok (itemsD d).isSome S) :
    (orT (notT L) (orT (valT (binM (calM (consM (varM 0) nilM) lenDM) (fun δ => bd ((consM (cM (.int 2)) (consM (cM (.int 3)) nilM)) δ) tupM) notInM)) (notT (valT (fun δ => bd ((binM (varM 0) (cM (.int 0)) itemM) δ) (isiM [.str])))))) δ S = .ok (!hdB d) S := by
  have v0 : varM 0 δ S = .ok (.d d) S := varM_at h0
  cases hi : itemsD d with
  | none =>
    rw [hi] at hL
    have e : hdB d = false := by unfold hdB; rw [hi]
    rw [e]
    exact orT_t (not_ok hL)
  | some ds =>
    rw [hi] at hL
    obtain ⟨kk, rfl⟩ := items_of hi
    refine Eq.trans (orT_f (S1 := S) (not_ok hL)) ?_
    have hlen : binM (calM (consM (varM 0) nilM) lenDM) (fun δ => bd ((consM (cM (.int 2)) (consM (cM (.int 3)) nilM)) δ) tupM) notInM δ S = .ok (okb (!(decide ((2 : Int) = ds.length) || decide ((3 : Int) = ds.length)))) S :=
      bin_ok (S1 := S) (S2 := S) (cal_ok (one_ok v0) len_sq) (two_ints _ _) (notIn_23 _ _)
    have e : hdB (sq kk ds) = hdL ds := by unfold hdB; rw [items_sq]
    rw [e]
    match ds, hlen with
    | [], hlen => exact orT_t (val_ok hlen)
    | [a], hlen =>
      refine Eq.trans (orT_t (val_ok hlen)) ?_
      cases a <;> rfl
    | a :: b :: c :: e :: r, hlen =>
      have q2 : ¬ (2 : Int) = ((a :: b :: c :: e :: r).length : Int) := by simp only [List.length_cons]; omega
      have q3 : ¬ (3 : Int) = ((a :: b :: c :: e :: r).length : Int) := by simp only [List.length_cons]; omega
      rw [decide_eq_false q2, decide_eq_false q3] at hlen
      refine Eq.trans (orT_t (val_ok hlen)) ?_
      cases a <;> rfl
    | [a, x], hlen =>
      refine Eq.trans (orT_f (S1 := S) (val_ok hlen)) ?_
      cases a with
      | str z => exact not_ok (b := true) (val_ok (Eq.trans (bd_ok (bin_ok (S1 := S) (S2 := S) v0 rfl (item_sq atI_0))) rfl))
      | _ => exact not_ok (b := false) (val_ok (Eq.trans (bd_ok (bin_ok (S1 := S) (S2 := S) v0 rfl (item_sq atI_0))) rfl))
    | [a, x, y], hlen =>
      refine Eq.trans (orT_f (S1 := S) (val_ok hlen)) ?_
      cases a with
      | str z => exact not_ok (b := true) (val_ok (Eq.trans (bd_ok (bin_ok (S1 := S) (S2 := S) v0 rfl (item_sq atI_0))) rfl))
      | _ => exact not_ok (b := false) (val_ok (Eq.trans (bd_ok (bin_ok (S1 := S) (S2 := S) v0 rfl (item_sq atI_0))) rfl))
abbrev tyRest3 (P0 P1 : Addr) (RF R : List W → M W) : Env → M Fl := seqM (st_typed_4 P0 P1 RF R) (seqM (st_typed_5 P0 P1 RF R) (seqM (st_typed_6 P0 P1 RF R) (seqM (st_typed_7 P0 P1 RF R) (st_typed_8 P0 P1 RF R))))
theorem ty_2 (hs : ∀ z, d ≠ .str z) {rest : Env → M Fl} : seqM (st_typed_2 P0 P1 RF R) rest (frT d m p none none none none) (SS P0 P1) = rest (frT d m p none none none none) (SS P0 P1) := by
  unfold st_typed_2
  exact seq_nx (S' := (SS P0 P1)) (Eq.trans (if_f (S' := (SS P0 P1)) (val_ok (Eq.trans (bd_ok (varM_at rfl)) (not_str hs (SS P0 P1))))) rfl)
theorem ty_bad (hs : ∀ z, d ≠ .str z) (hb : hdB d = false) : tyRest P0 P1 RF R (frT d m p none none none none) (SS P0 P1) = .ok (.rt (.d .none)) (SS P0 P1) := by
  unfold tyRest
  rw [ty_2 hs]
  unfold st_typed_3
  have t := hd_test (L := valT (calM (consM (varM 0) nilM) fun ws => noEx (F_is_listed ws))) (d := d) (δ := frT d m p none none none none) (S := (SS P0 P1)) rfl (val_ok (cal_ok (one_ok (varM_at rfl)) (noEx_ok (listed_ok d _))))
  rw [hb] at t
  exact seq_rt (Eq.trans (if_t t) rfl)
theorem ty_good (hs : ∀ z, d ≠ .str z) (hb : hdB d = true) : tyRest P0 P1 RF R (frT d m p none none none none) (SS P0 P1) = tyRest3 P0 P1 RF R (frT d m p none none none none) (SS P0 P1) := by
  unfold tyRest
  rw [ty_2 hs]
  unfold st_typed_3
  have t := hd_test (L := valT (calM (consM (varM 0) nilM) fun ws => noEx (F_is_listed ws))) (d := d) (δ := frT d m p none none none none) (S := (SS P0 P1)) rfl (val_ok (cal_ok (one_ok (varM_at rfl)) (noEx_ok (listed_ok d _))))
  rw [hb] at t
  exact seq_nx (Eq.trans (if_f t) rfl)
theorem i0 {a : D} {r : List D} {x3 x4 x5 x6 : Option W} : binM (varM 0) (cM (.int 0)) itemM (frT (sq kk (a :: r)) m p x3 x4 x5 x6) (SS P0 P1) = .ok (.d a) (SS P0 P1) := bin_ok (S1 := (SS P0 P1)) (S2 := (SS P0 P1)) rfl rfl (item_sq atI_0)
theorem i1 {a b : D} {r : List D} {x3 x4 x5 x6 : Option W} : binM (varM 0) (cM (.int 1)) itemM (frT (sq kk (a :: b :: r)) m p x3 x4 x5 x6) (SS P0 P1) = .ok (.d b) (SS P0 P1) := bin_ok (S1 := (SS P0 P1)) (S2 := (SS P0 P1)) rfl rfl (item_sq at1)
theorem i2 {a b c : D} {r : List D} {x3 x4 x5 x6 : Option W} : binM (varM 0) (cM (.int 2)) itemM (frT (sq kk (a :: b :: c :: r)) m p x3 x4 x5 x6) (SS P0 P1) = .ok (.d c) (SS P0 P1) := bin_ok (S1 := (SS P0 P1)) (S2 := (SS P0 P1)) rfl rfl (item_sq at2)
theorem il {ds : List D} {x3 x4 x5 x6 : Option W} : calM (consM (varM 0) nilM) lenDM (frT (sq kk ds) m p x3 x4 x5 x6) (SS P0 P1) = .ok (.d (.int ds.length)) (SS P0 P1) := cal_ok (one_ok (varM_at rfl)) len_sq
abbrev t4 : Env → M Bool := (andT (valT (binM (binM (varM 0) (cM (.int 0)) itemM) (cM (.str "tag")) eqM)) (andT (valT (binM (calM (consM (varM 0) nilM) lenDM) (cM (.int 3)) eqM)) (valT (calM (consM (binM (varM 0) (cM (.int 1)) itemM) nilM) fun ws => noEx (F_is_name ws)))))
theorem ty_three {z : Str} {x y r : D} (hx : szB x = true) (hR : (decide (z = "tag") && nmB x) = true → R [.d y, .d (.int (m - 1)), .d (.int (p + 1))] (SS P0 P1) = .ok (.d r) (SS P0 P1)) :
    tyRest3 P0 P1 RF R (frT (sq kk [s z, x, y]) m p none none none none) (SS P0 P1) = .ok (.rt (.d (if (decide (z = "tag") && (nmB x && !isN r)) = true then t [s "tag", x, r] else .none))) (SS P0 P1) := by
  unfold tyRest3
  have h4 : t4 (frT (sq kk [s z, x, y]) m p none none none none) (SS P0 P1) = .ok (decide (z = "tag") && nmB x) (SS P0 P1) := by
    have : (decide (z = "tag") && nmB x) = (decide (z = "tag") && (true && nmB x)) := by simp
    rw [this]
    refine andT_b (val_ok (bin_ok (S1 := (SS P0 P1)) (S2 := (SS P0 P1)) i0 rfl (Ev.eq_str z "tag"))) fun _ => ?_
    refine andT_b (val_ok (bin_ok (S1 := (SS P0 P1)) (S2 := (SS P0 P1)) il rfl (by rw [Ev.eq_int]; rfl))) fun _ => ?_
    exact val_ok (cal_ok (one_ok i1) (noEx_ok (name_ok x (sz_name hx) _)))
  cases hc : (decide (z = "tag") && nmB x) with
  | true =>
    rw [hc] at h4
    have hr := hR hc
    rw [Bool.and_eq_true] at hc
    rw [hc.1, hc.2, Bool.true_and, Bool.true_and]
    refine seq_rt ?_
    unfold st_typed_4
    refine Eq.trans (if_t h4) ?_
    refine Eq.trans (seq_nx (S' := (SS P0 P1)) (δ' := frT (sq kk [s z, x, y]) m p (some (.d r)) none none none) (asg_ok (cal_ok (S' := (SS P0 P1)) (cons_ok (S1 := (SS P0 P1)) i2 (cons_ok (S1 := (SS P0 P1)) (bin_ok (S1 := (SS P0 P1)) (S2 := (SS P0 P1)) rfl rfl (Ev.sub_int _ _)) (one_ok (bin_ok (S1 := (SS P0 P1)) (S2 := (SS P0 P1)) rfl rfl (Ev.add_int _ _))))) (noEx_ok hr)))) ?_
    refine ret_ok ?_
    have hn : valT (binM (varM 3) (cM .none) isM) (frT (sq kk [s z, x, y]) m p (some (.d r)) none none none) (SS P0 P1) = .ok (isN r) (SS P0 P1) := val_ok (bin_ok (S1 := (SS P0 P1)) (S2 := (SS P0 P1)) rfl rfl (is_n r))
    cases hr : isN r with
    | true => rw [hr] at hn; exact Eq.trans (ifV_t hn) rfl
    | false =>
      rw [hr] at hn
      refine Eq.trans (ifV_f hn) ?_
      rw [if_pos (show (!false) = true from rfl)]
      refine Eq.trans (bd_ok (S' := (SS P0 P1)) (cons_ok (S1 := (SS P0 P1)) rfl (cons_ok (S1 := (SS P0 P1)) i1 (one_ok rfl)))) ?_
      exact tup_ok rfl (show 3 ≤ sizeLine by decide)
  | false =>
    rw [hc] at h4
    have e : (decide (z = "tag") && (nmB x && !isN r)) = false := by rw [← Bool.and_assoc, hc]; rfl
    rw [e, if_neg Bool.false_ne_true]
    refine Eq.trans (seq_nx (S' := (SS P0 P1)) (δ' := frT (sq kk [s z, x, y]) m p none none none none) (by unfold st_typed_4; exact Eq.trans (if_f h4) rfl)) ?_
    refine seq_rt ?_
    unfold st_typed_5
    exact Eq.trans (if_t (S' := (SS P0 P1)) (orT_t (val_ok (bin_ok (S1 := (SS P0 P1)) (S2 := (SS P0 P1)) il rfl (by rw [Ev.eq_int]; rfl))))) rfl
abbrev tyRest4 (P0 P1 : Addr) (RF R : List W → M W) : Env → M Fl := (seqM (st_typed_6 P0 P1 RF R) (seqM (st_typed_7 P0 P1 RF R) (st_typed_8 P0 P1 RF R)))
abbrev t5 : Env → M Bool := (orT (valT (binM (calM (consM (varM 0) nilM) lenDM) (cM (.int 3)) eqM)) (orT (valT (binM (binM (varM 0) (cM (.int 0)) itemM) (fun δ => bd ((consM (cM (.str "record")) (consM (cM (.str "or")) nilM)) δ) tupM) notInM)) (notT (valT (calM (consM (binM (varM 0) (cM (.int 1)) itemM) nilM) fun ws => noEx (F_is_listed ws))))))
theorem ty_5 {z : Str} {x : D} {rest : Env → M Fl} : seqM (st_typed_4 P0 P1 RF R) rest (frT (sq kk [s z, x]) m p none none none none) (SS P0 P1) = rest (frT (sq kk [s z, x]) m p none none none none) (SS P0 P1) := by
  unfold st_typed_4
  refine seq_nx (S' := (SS P0 P1)) (Eq.trans (if_f (S' := (SS P0 P1)) ?_) rfl)
  have := andT_b (b := false) (ft := valT (binM (binM (varM 0) (cM (.int 0)) itemM) (cM (.str "tag")) eqM)) (gt := (andT (valT (binM (calM (consM (varM 0) nilM) lenDM) (cM (.int 3)) eqM)) (valT (calM (consM (binM (varM 0) (cM (.int 1)) itemM) nilM) fun ws => noEx (F_is_name ws))))) (δ := frT (sq kk [s z, x]) m p none none none none) (S := (SS P0 P1)) (val_ok (bin_ok (S1 := (SS P0 P1)) (S2 := (SS P0 P1)) i0 rfl (Ev.eq_str z "tag"))) fun _ => andT_f (val_ok (bin_ok (S1 := (SS P0 P1)) (S2 := (SS P0 P1)) il rfl (by rw [Ev.eq_int]; rfl)))
  rw [Bool.and_false] at this
  exact this
theorem ty_t5 {z : Str} {x : D} : t5 (frT (sq kk [s z, x]) m p none none none none) (SS P0 P1) = .ok (!decide (z ∈ (["record", "or"] : List Str)) || !(itemsD x).isSome) (SS P0 P1) := by
  refine Eq.trans (orT_f (S1 := (SS P0 P1)) (val_ok (bin_ok (S1 := (SS P0 P1)) (S2 := (SS P0 P1)) il rfl (by rw [Ev.eq_int]; rfl)))) ?_
  refine orT_b (val_ok (bin_ok (S1 := (SS P0 P1)) (S2 := (SS P0 P1)) i0 (two_texts _ _ _ _) (notIn_strT (k := false) z ["record", "or"]))) fun _ => ?_
  exact not_ok (val_ok (cal_ok (one_ok i1) (noEx_ok (listed_ok x _))))
theorem ty_word {z : Str} {x : D} (hb : z ∉ (["record", "or"] : List Str) ∨ itemsD x = none) : tyRest3 P0 P1 RF R (frT (sq kk [s z, x]) m p none none none none) (SS P0 P1) = .ok (.rt (.d .none)) (SS P0 P1) := by
  unfold tyRest3
  rw [ty_5]
  have h5 := ty_t5 (P0 := P0) (P1 := P1) (m := m) (p := p) (kk := kk) (z := z) (x := x)
  have e : (!decide (z ∈ (["record", "or"] : List Str)) || !(itemsD x).isSome) = true := by
    rcases hb with hb | hb
    · rw [decide_eq_false hb]; rfl
    · rw [hb]; simp
  rw [e] at h5
  unfold st_typed_5
  exact seq_rt (Eq.trans (if_t h5) rfl)
theorem ty_6 {z : Str} {k2 : Bool} {ys : List D} (hz : z ∈ (["record", "or"] : List Str)) : tyRest3 P0 P1 RF R (frT (sq kk [s z, sq k2 ys]) m p none none none none) (SS P0 P1) = tyRest4 P0 P1 RF R (frT (sq kk [s z, sq k2 ys]) m p none none none none) (SS P0 P1) := by
  unfold tyRest3
  rw [ty_5]
  have h5 := ty_t5 (P0 := P0) (P1 := P1) (m := m) (p := p) (kk := kk) (z := z) (x := sq k2 ys)
  rw [decide_eq_true hz, items_sq] at h5
  unfold st_typed_5
  exact seq_nx (Eq.trans (if_f h5) rfl)
theorem ty_or {k2 : Bool} {ys : List D} {f : D → D} (hl : ys.length ≤ 100) (hR : ∀ y ∈ ys, R [.d y, .d (.int m), .d (.int (p + 1))] (SS P0 P1) = .ok (.d (f y)) (SS P0 P1)) :
    tyRest4 P0 P1 RF R (frT (sq kk [s "or", sq k2 ys]) m p none none none none) (SS P0 P1) = .ok (.rt (.d (if (ys.map f).any isN = true then .none else t [s "or", t (ys.map f)]))) (SS P0 P1) := by
  unfold tyRest4
  refine Eq.trans (seq_nx (S' := (SS P0 P1)) (δ' := frT (sq kk [s "or", sq k2 ys]) m p none none none none) ?_) ?_
  · unfold st_typed_6
    exact Eq.trans (if_f (S' := (SS P0 P1)) (val_ok (bin_ok (S1 := (SS P0 P1)) (S2 := (SS P0 P1)) i0 rfl (by rw [Ev.eq_str]; rfl)))) rfl
  have small : ∀ {n : Nat}, n ≤ 100 → n ≤ sizeLine := fun h => Nat.le_trans (Nat.le_trans h (by decide)) small2
  refine Eq.trans (seq_nx (S' := (SS P0 P1)) (δ' := frT (sq kk [s "or", sq k2 ys]) m p none none (some (.d (.list (ys.map f)))) none) ?_) ?_
  · unfold st_typed_7
    refine asg_ok ?_
    unfold lcM
    refine Eq.trans (bd_ok (a := ys.map W.d) (S' := (SS P0 P1)) (Eq.trans (bd_ok i1) iter_sq)) ?_
    have := comp_all (own := [6]) (g := setG 6) (e := (calM (consM (varM 6) (consM (varM 1) (consM (binM (varM 2) (cM (.int 1)) addM) nilM))) fun ws => noEx (R ws))) (δ := frT (sq kk [s "or", sq k2 ys]) m p none none none none) (S := (SS P0 P1)) (fun w => match w with | .d y => .d (f y) | w => w) (ws := ys.map .d) (fun w hw => by
      obtain ⟨y, hy, rfl⟩ := List.mem_map.mp hw
      exact ⟨frT (sq kk [s "or", sq k2 ys]) m p none none none (some (.d y)), rfl, cal_ok (S' := (SS P0 P1)) (cons_ok (S1 := (SS P0 P1)) rfl (cons_ok (S1 := (SS P0 P1)) rfl (one_ok (bin_ok (S1 := (SS P0 P1)) (S2 := (SS P0 P1)) rfl rfl (Ev.add_int _ _))))) (noEx_ok (hR y hy))⟩)
    refine Eq.trans (bd_ok this) ?_
    refine lst_ok ?_ (by rw [List.length_map, List.length_map]; exact small hl)
    rw [List.map_map, show ((fun w => match w with | W.d y => W.d (f y) | w => w) ∘ W.d) = W.d ∘ f from rfl, ← List.map_map]
    exact allD_map _
  unfold st_typed_8
  refine ret_ok ?_
  generalize hrs : ys.map f = rs
  have hl2 : rs.length ≤ 100 := by rw [← hrs, List.length_map]; exact hl
  have hv : valT (calM (consM (lcM [6] (fun δ => bd ((varM 5) δ) iterM) (setG 6) yesT (binM (varM 6) (cM .none) isM)) nilM) anyM) (frT (sq kk [s "or", sq k2 ys]) m p none none (some (.d (.list rs))) none) (SS P0 P1) = .ok (rs.any isN) (SS P0 P1) := by
    refine val_ok (cal_ok (S' := (SS P0 P1)) (ws := [.d (.list ((rs.map isN).map .bool))]) (one_ok ?_) ?_)
    · unfold lcM
      refine Eq.trans (bd_ok (a := rs.map W.d) (S' := (SS P0 P1)) rfl) ?_
      have := comp_all (own := [6]) (g := setG 6) (e := binM (varM 6) (cM .none) isM) (δ := frT (sq kk [s "or", sq k2 ys]) m p none none (some (.d (.list rs))) none) (S := (SS P0 P1)) (fun w => match w with | .d y => .d (.bool (isN y)) | w => w) (ws := rs.map .d) (fun w hw => by
        obtain ⟨y, hy, rfl⟩ := List.mem_map.mp hw
        exact ⟨frT (sq kk [s "or", sq k2 ys]) m p none none (some (.d (.list rs))) (some (.d y)), rfl, bin_ok (S1 := (SS P0 P1)) (S2 := (SS P0 P1)) rfl rfl (is_n y)⟩)
      refine Eq.trans (bd_ok this) ?_
      refine lst_ok ?_ (by rw [List.length_map, List.length_map]; exact small hl2)
      rw [List.map_map, List.map_map, show ((fun w => match w with | W.d y => W.d (.bool (isN y)) | w => w) ∘ W.d) = W.d ∘ (PyData.bool ∘ isN) from rfl, ← List.map_map]
      exact allD_map _
    · rw [any_ok, List.any_map]
      rfl
  cases ha : rs.any isN with
  | true => rw [ha] at hv; exact Eq.trans (ifV_t hv) rfl
  | false =>
    rw [ha] at hv
    refine Eq.trans (ifV_f hv) ?_
    refine Eq.trans (bd_ok (S' := (SS P0 P1)) (a := [.d (s "or"), .d (t rs)]) (cons_ok (S1 := (SS P0 P1)) rfl (one_ok (cal_ok (one_ok (varM_at rfl)) rfl)))) ?_
    exact tup_ok rfl (show 2 ≤ sizeLine by decide)
theorem ty_record {k2 : Bool} {ys : List D} {r : D} (hR : RF [.d (sq k2 ys), .d (.int m), .d (.int p)] (SS P0 P1) = .ok (.d r) (SS P0 P1)) :
    tyRest4 P0 P1 RF R (frT (sq kk [s "record", sq k2 ys]) m p none none none none) (SS P0 P1) = .ok (.rt (.d (if isN r = true then .none else t [s "record", r]))) (SS P0 P1) := by
  unfold tyRest4
  refine seq_rt ?_
  unfold st_typed_6
  refine Eq.trans (if_t (S' := (SS P0 P1)) (val_ok (bin_ok (S1 := (SS P0 P1)) (S2 := (SS P0 P1)) i0 rfl (by rw [Ev.eq_str]; rfl)))) ?_
  refine Eq.trans (seq_nx (S' := (SS P0 P1)) (δ' := frT (sq kk [s "record", sq k2 ys]) m p none (some (.d r)) none none) (asg_ok (cal_ok (S' := (SS P0 P1)) (cons_ok (S1 := (SS P0 P1)) i1 (cons_ok (S1 := (SS P0 P1)) rfl (one_ok rfl))) (noEx_ok hR)))) ?_
  refine ret_ok ?_
  have hn : valT (binM (varM 4) (cM .none) isM) (frT (sq kk [s "record", sq k2 ys]) m p none (some (.d r)) none none) (SS P0 P1) = .ok (isN r) (SS P0 P1) := val_ok (bin_ok (S1 := (SS P0 P1)) (S2 := (SS P0 P1)) rfl rfl (is_n r))
  cases hr : isN r with
  | true => rw [hr] at hn; exact Eq.trans (ifV_t hn) rfl
  | false =>
    rw [hr] at hn
    refine Eq.trans (ifV_f hn) ?_
    refine Eq.trans (bd_ok (S' := (SS P0 P1)) (cons_ok (S1 := (SS P0 P1)) rfl (one_ok (varM_at rfl)))) ?_
    exact tup_ok rfl (show 2 ≤ sizeLine by decide)
end
end DL.k27
namespace DL.k27
open PySem PySem.Spec PyProof.Rows L2 DL DL.Ev

/-! ### rows of a record, read by the program -/
abbrev Rw : Type := Str × D × Bool
abbrev rowD (x : Rw) : D := t [s x.1, x.2.1, .bool x.2.2]
abbrev fnd (zs : List Rw) : List D := zs.map rowD
abbrev fndO (zs : List Rw) : Ob := .lst ((fnd zs).map .d)
abbrev SF (P0 P1 : Addr) (zs : List Rw) : Sto := [.tab P0 qL_law, .tab P1 qL_typed_fields, fndO zs]
theorem key_row (x : Rw) : keyL (binM (varM 0) (cM (.int 0)) itemM) (rowD x) = some x.1 := by
  unfold keyL
  rw [show binM (varM 0) (cM (.int 0)) itemM [some (.d (rowD x))] [] = .ok (.d (s x.1)) [] from bin_ok (S1 := []) (S2 := []) rfl rfl (item_t atI_0)]
theorem keys_fnd : ∀ zs : List Rw, keysM (keyL (binM (varM 0) (cM (.int 0)) itemM)) (fnd zs) = some (zs.map fun x => x.1)
  | [] => rfl
  | x :: zs => by
    have ih := keys_fnd zs
    unfold fnd at ih ⊢
    simp only [List.map_cons, keysM, key_row, ih]
    rfl
section
variable {P0 P1 : Addr} {RF R : List W → M W} {m p : Int} {d : D} {f : D → D} {row kind : Option W}
abbrev frF (d : D) (m p : Int) (a b c : Option W) : Env := [some (.d d), some (.d (.int m)), some (.d (.int p)), a, b, c, none, none, none]
theorem fields_of {zs : List Rw} (hl : zs.length < 100000) : lcWM [6, 7, 8] 100000 (fun δ => bd ((varM 3) δ) liveM) (tupG 3 (consG (setG 6) (consG (setG 7) (consG (setG 8) nilG)))) yesT (varM 6) (frF d m p (some (.r 2)) row kind) (SF P0 P1 zs) = .ok (.d (sq true ((zs.map fun x => x.1).map .str))) (SF P0 P1 zs) := by
  unfold lcWM
  refine Eq.trans (bd_ok (a := liveW 2) (S' := SF P0 P1 zs) rfl) ?_
  have := compW_live (own := [6, 7, 8]) (g := tupG 3 (consG (setG 6) (consG (setG 7) (consG (setG 8) nilG)))) (t := yesT) (e := varM 6) (δ := frF d m p (some (.r 2)) row kind) (S := SF P0 P1 zs) (n := 2) (ws := (fnd zs).map .d) rfl (fun _ => true) (fun w => match w with | .d (.tuple (.str z :: _)) => .d (.str z) | w => w) (fun w hw => by
    obtain ⟨y, hy, rfl⟩ := List.mem_map.mp hw
    obtain ⟨x, hx, rfl⟩ := List.mem_map.mp hy
    exact ⟨[some (.d d), some (.d (.int m)), some (.d (.int p)), some (.r 2), row, kind, some (.d (s x.1)), some (.d x.2.1), some (.d (.bool x.2.2))], rfl, rfl, fun _ => rfl⟩) 100000 0 (Nat.zero_le _) (by rw [List.length_map, List.length_map]; omega)
  refine Eq.trans (bd_ok this) ?_
  rw [List.drop_zero, List.filter_eq_self.mpr (fun _ _ => rfl), List.map_map, List.map_map]
  refine lst_ok ?_ (by rw [List.length_map]; exact Nat.le_trans (Nat.le_of_lt hl) (Nat.le_trans (by decide) small2))
  show allD (List.map (W.d ∘ fun z : Rw => PyData.str z.1) zs) = _
  rw [← List.map_map, allD_map, List.map_map]
  rfl
theorem take_SF {zs : List Rw} : (SF P0 P1 zs).take 2 = SS P0 P1 := rfl
theorem tf_rows : ∀ (ys : List D) (zs : List Rw) (row kind : Option W), ys.length + zs.length ≤ 1000 → szA ys = true → (∀ x, szB x = true → ∀ S, S.take 2 = SS P0 P1 → R [.d x, .d (.int (m - 1)), .d (.int (p + 1))] S = .ok (.d (f x)) S) →
    ∃ S' fl, forL (setG 4) (body_typed_fields_1 P0 P1 RF R) (ys.map .d) (frF d m p (some (.r 2)) row kind) (SF P0 P1 zs) = .ok fl S' ∧ S'.take 2 = SS P0 P1 ∧
      (rowsG (fun x => !isN (f x)) (zs.map fun x => x.1) ys = true → ∃ row' kind' zs', fl = .nx (frF d m p (some (.r 2)) row' kind') ∧ S' = SF P0 P1 zs') ∧ (rowsG (fun x => !isN (f x)) (zs.map fun x => x.1) ys = false → fl = .rt (.d .none))
  | [], zs, row, kind, _, _, _ => ⟨_, _, rfl, rfl, fun _ => ⟨row, kind, zs, rfl, rfl⟩, fun q => by cases q⟩
  | r :: ys, zs, row, kind, hl, hs, hR => by
    simp only [szA, Bool.and_eq_true] at hs
    simp only [List.length_cons] at hl
    have tst := row_test (L := valT (calM (consM (varM 4) nilM) fun ws => noEx (F_is_listed ws))) (FN := F_is_name) (δ := frF d m p (some (.r 2)) (some (.d r)) kind) (S := SF P0 P1 zs) rfl hs.1 (val_ok (cal_ok (one_ok rfl) (noEx_ok (listed_ok r _)))) (fun d hd => name_ok d hd _)
    have hd : ∀ fl S1, body_typed_fields_1 P0 P1 RF R (frF d m p (some (.r 2)) (some (.d r)) kind) (SF P0 P1 zs) = .ok fl S1 → forL (setG 4) (body_typed_fields_1 P0 P1 RF R) ((r :: ys).map .d) (frF d m p (some (.r 2)) row kind) (SF P0 P1 zs) = (match fl with
        | Fl.nx δ2 => forL (setG 4) (body_typed_fields_1 P0 P1 RF R) (ys.map .d) δ2
        | Fl.ct δ2 => forL (setG 4) (body_typed_fields_1 P0 P1 RF R) (ys.map .d) δ2
        | Fl.bk δ2 => pr (Fl.nx δ2)
        | Fl.rt w => pr (Fl.rt w) : M Fl) S1 := fun fl S1 h => by
      conv => lhs; unfold forL
      refine Eq.trans (bd_ok (S' := SF P0 P1 zs) (a := frF d m p (some (.r 2)) (some (.d r)) kind) rfl) ?_
      exact bd_ok h
    cases hb : rowB r with
    | false =>
      refine ⟨SF P0 P1 zs, .rt (.d .none), ?_, rfl, fun q => (by rw [rowsG_bad hb] at q; cases q), fun _ => rfl⟩
      rw [hb] at tst
      refine Eq.trans (hd (Fl.rt (.d .none)) (SF P0 P1 zs) ?_) rfl
      unfold body_typed_fields_1 st_typed_fields_3
      exact seq_rt (Eq.trans (if_t tst) rfl)
    | true =>
      rw [hb] at tst
      obtain ⟨kk, z, x, b, rfl, hz⟩ := rowB_t hb
      rw [rowsG_good hz]
      have hsx : szB x = true := by
        have := hs.1
        rw [sz_sq] at this
        simp only [szA, Bool.and_eq_true] at this
        exact this.2.2.1
      have hx := hR x hsx (SF P0 P1 zs) rfl
      have p3 : st_typed_fields_3 P0 P1 RF R (frF d m p (some (.r 2)) (some (.d (sq kk [s z, x, .bool b]))) kind) (SF P0 P1 zs) = .ok (.nx (frF d m p (some (.r 2)) (some (.d (sq kk [s z, x, .bool b]))) kind)) (SF P0 P1 zs) := by
        unfold st_typed_fields_3
        exact Eq.trans (if_f tst) rfl
      have p4 : st_typed_fields_4 P0 P1 RF R (frF d m p (some (.r 2)) (some (.d (sq kk [s z, x, .bool b]))) kind) (SF P0 P1 zs) = .ok (.nx (frF d m p (some (.r 2)) (some (.d (sq kk [s z, x, .bool b]))) (some (.d (f x))))) (SF P0 P1 zs) := by
        unfold st_typed_fields_4
        exact asg_ok (cal_ok (S' := SF P0 P1 zs) (cons_ok (S1 := SF P0 P1 zs) (bin_ok (S1 := SF P0 P1 zs) (S2 := SF P0 P1 zs) rfl rfl (item_sq at1)) (cons_ok (S1 := SF P0 P1 zs) (bin_ok (S1 := SF P0 P1 zs) (S2 := SF P0 P1 zs) rfl rfl (Ev.sub_int _ _)) (one_ok (bin_ok (S1 := SF P0 P1 zs) (S2 := SF P0 P1 zs) rfl rfl (Ev.add_int _ _))))) (noEx_ok hx))
      have t5 : (orT (valT (binM (varM 5) (cM .none) isM)) (valT (binM (binM (varM 4) (cM (.int 0)) itemM) (lcWM [6, 7, 8] 100000 (fun δ => bd ((varM 3) δ) liveM) (tupG 3 (consG (setG 6) (consG (setG 7) (consG (setG 8) nilG)))) yesT (varM 6)) inM))) (frF d m p (some (.r 2)) (some (.d (sq kk [s z, x, .bool b]))) (some (.d (f x)))) (SF P0 P1 zs) = .ok (isN (f x) || decide (z ∈ zs.map fun x => x.1)) (SF P0 P1 zs) := by
        refine orT_b (val_ok (bin_ok (S1 := SF P0 P1 zs) (S2 := SF P0 P1 zs) rfl rfl (is_n (f x)))) fun _ => val_ok (bin_ok (S1 := SF P0 P1 zs) (S2 := SF P0 P1 zs) (bin_ok (S1 := SF P0 P1 zs) (S2 := SF P0 P1 zs) rfl rfl (item_sq atI_0)) (fields_of (by omega)) ?_)
        exact in_strT (S := SF P0 P1 zs) (k := true) z (zs.map fun x => x.1)
      have e : (!isN (f x) && !decide (z ∈ zs.map fun x => x.1)) = !(isN (f x) || decide (z ∈ zs.map fun x => x.1)) := by cases isN (f x) <;> cases decide (z ∈ zs.map fun x => x.1) <;> rfl
      rw [e]
      cases hc : (isN (f x) || decide (z ∈ zs.map fun x => x.1)) with
      | true =>
        rw [hc] at t5
        refine ⟨SF P0 P1 zs, .rt (.d .none), ?_, rfl, fun q => (by cases q), fun _ => rfl⟩
        refine Eq.trans (hd (Fl.rt (.d .none)) (SF P0 P1 zs) ?_) rfl
        unfold body_typed_fields_1
        refine Eq.trans (seq_nx p3) (Eq.trans (seq_nx p4) (seq_rt ?_))
        unfold st_typed_fields_5
        exact Eq.trans (if_t t5) rfl
      | false =>
        rw [hc] at t5
        obtain ⟨S', fl, e1, e2, e3, e4⟩ := tf_rows ys (zs ++ [(z, f x, b)]) (some (.d (sq kk [s z, x, .bool b]))) (some (.d (f x))) (by rw [List.length_append, List.length_singleton]; omega) hs.2 hR
        rw [List.map_append, List.map_singleton] at e3 e4
        refine ⟨S', fl, ?_, e2, e3, e4⟩
        refine Eq.trans (hd (Fl.nx (frF d m p (some (.r 2)) (some (.d (sq kk [s z, x, .bool b]))) (some (.d (f x))))) (SF P0 P1 (zs ++ [(z, f x, b)])) ?_) e1
        unfold body_typed_fields_1
        refine Eq.trans (seq_nx p3) (Eq.trans (seq_nx p4) (Eq.trans (seq_nx (S' := SF P0 P1 zs) (δ' := frF d m p (some (.r 2)) (some (.d (sq kk [s z, x, .bool b]))) (some (.d (f x)))) ?_) ?_))
        · unfold st_typed_fields_5
          exact Eq.trans (if_f t5) rfl
        unfold st_typed_fields_6
        refine expr_ok (w := .d .none) (met_ok (n := 2) rfl rfl (one_ok (w := .d (rowD (z, f x, b))) (Eq.trans (bd_ok (S' := SF P0 P1 zs) (a := [.d (s z), .d (f x), .d (.bool b)]) (cons_ok (S1 := SF P0 P1 zs) (bin_ok (S1 := SF P0 P1 zs) (S2 := SF P0 P1 zs) rfl rfl (item_sq atI_0)) (cons_ok (S1 := SF P0 P1 zs) rfl (one_ok (bin_ok (S1 := SF P0 P1 zs) (S2 := SF P0 P1 zs) rfl rfl (item_sq at2)))))) (tup_ok rfl (show 3 ≤ sizeLine by decide)))) ?_)
        have := append_ok (S := SF P0 P1 zs) (n := 2) (ws := (fnd zs).map .d) (y := .d (rowD (z, f x, b))) rfl (by rw [List.length_map, List.length_map]; exact Nat.lt_of_lt_of_le (by omega : zs.length < 1000000) small2)
        rw [this]
        simp [SF, fndO, fnd]
theorem tf_ok {n : Nat} {k2 : Bool} {ys : List D} (hl : ys.length ≤ 100) (hs : szA ys = true) (hR : ∀ x, szB x = true → ∀ S, S.take 2 = SS P0 P1 → F_typed P0 P1 n [.d x, .d (.int (m - 1)), .d (.int (p + 1))] S = .ok (.d (f x)) S) :
    ∃ r, isN r = !(decide (ys.length ≤ 60) && rowsG (fun x => !isN (f x)) [] ys) ∧ ∀ S, S.take 2 = SS P0 P1 → F_typed_fields P0 P1 (n + 1) [.d (sq k2 ys), .d (.int m), .d (.int p)] S = .ok (.d r) S := by
  obtain ⟨S', fl, e1, e2, e3, e4⟩ := tf_rows (RF := F_typed_fields P0 P1 n) (R := F_typed P0 P1 n) (m := m) (p := p) (d := sq k2 ys) (f := f) ys [] none none (by simpa using Nat.le_trans hl (by decide)) hs hR
  have p1 : st_typed_fields_1 P0 P1 (F_typed_fields P0 P1 n) (F_typed P0 P1 n) (frF (sq k2 ys) m p none none none) (SS P0 P1) = .ok (.nx (frF (sq k2 ys) m p (some (.r 2)) none none)) (SF P0 P1 []) := rfl
  have hlen : valT (binM (calM (consM (varM 0) nilM) lenDM) (cM (.int 60)) gtM) (frF (sq k2 ys) m p (some (.r 2)) none none) (SF P0 P1 []) = .ok (decide ((60 : Int) < ys.length)) (SF P0 P1 []) :=
    val_ok (bin_ok (S1 := SF P0 P1 []) (S2 := SF P0 P1 []) (cal_ok (one_ok rfl) len_sq) rfl (Ev.gt_int _ _))
  suffices ∃ r S0, isN r = !(decide (ys.length ≤ 60) && rowsG (fun x => !isN (f x)) [] ys) ∧ S0.take 2 = SS P0 P1 ∧ b_typed_fields P0 P1 (F_typed_fields P0 P1 n) (F_typed P0 P1 n) (frF (sq k2 ys) m p none none none) (SS P0 P1) = .ok (.rt (.d r)) S0 by
    obtain ⟨r, S0, h1, h2, h3⟩ := this
    refine ⟨r, h1, fun S hS => ?_⟩
    unfold F_typed_fields
    exact pureT_ok rfl hS (run_rt rfl h3) h2
  unfold b_typed_fields
  by_cases h60 : ys.length ≤ 60
  · rw [decide_eq_true h60, Bool.true_and]
    rw [decide_eq_false (by omega)] at hlen
    have p2 : st_typed_fields_2 P0 P1 (F_typed_fields P0 P1 n) (F_typed P0 P1 n) (frF (sq k2 ys) m p (some (.r 2)) none none) (SF P0 P1 []) = .ok (.nx (frF (sq k2 ys) m p (some (.r 2)) none none)) (SF P0 P1 []) := by
      unfold st_typed_fields_2
      exact Eq.trans (if_f hlen) rfl
    have pf : forM (fun δ => bd ((varM 0) δ) iterM) (setG 4) (body_typed_fields_1 P0 P1 (F_typed_fields P0 P1 n) (F_typed P0 P1 n)) (frF (sq k2 ys) m p (some (.r 2)) none none) (SF P0 P1 []) = .ok fl S' := by
      unfold forM
      exact Eq.trans (bd_ok (Eq.trans (bd_ok (varM_at rfl)) iter_sq)) e1
    cases hg : rowsG (fun x => !isN (f x)) [] ys with
    | true =>
      obtain ⟨row', kind', zs', rfl, rfl⟩ := e3 hg
      refine ⟨t ((sortK ((zs'.map fun x => x.1).zip (fnd zs'))).map Prod.snd), SF P0 P1 zs', rfl, rfl, ?_⟩
      refine Eq.trans (seq_nx p1) (Eq.trans (seq_nx p2) (Eq.trans (seq_nx pf) ?_))
      unfold st_typed_fields_7
      refine ret_ok (cal_ok (S' := SF P0 P1 zs') (ws := [.d (.list ((sortK ((zs'.map fun x => x.1).zip (fnd zs'))).map Prod.snd))]) (one_ok ?_) rfl)
      refine Eq.trans (bd_ok (varM_at rfl)) ?_
      unfold sortLM
      have h1 : ((SF P0 P1 zs')[1]? : Option Ob) = some (.tab P1 qL_typed_fields) := rfl
      rw [h1]
      simp only [and_self, if_true]
      unfold sortKM
      rw [toD_r (ds := fnd zs') rfl]
      simp only [keys_fnd]
    | false =>
      rw [e4 hg] at pf
      exact ⟨.none, S', rfl, e2, Eq.trans (seq_nx p1) (Eq.trans (seq_nx p2) (seq_rt pf))⟩
  · rw [decide_eq_false h60, Bool.false_and]
    rw [decide_eq_true (by omega)] at hlen
    refine ⟨.none, SF P0 P1 [], rfl, rfl, Eq.trans (seq_nx p1) (seq_rt ?_)⟩
    unfold st_typed_fields_2
    exact Eq.trans (if_t hlen) rfl
end
theorem rowsG_congr {f g : D → Bool} (h : ∀ x, szB x = true → f x = g x) : ∀ (ys : List D) (ns : List Str), szA ys = true → rowsG f ns ys = rowsG g ns ys
  | [], _, _ => by unfold rowsG; rfl
  | r :: ys, ns, hs => by
    simp only [szA, Bool.and_eq_true] at hs
    cases hb : rowB r with
    | false => rw [rowsG_bad hb, rowsG_bad hb]
    | true =>
      obtain ⟨kk, z, x, b, rfl, hz⟩ := rowB_t hb
      have hsx : szB x = true := by
        have := hs.1
        rw [sz_sq] at this
        simp only [szA, Bool.and_eq_true] at this
        exact this.2.2.1
      rw [rowsG_good hz, rowsG_good hz, h x hsx, rowsG_congr h ys _ hs.2]
theorem tyB_other {k : Nat} {m : Int} {d : D} (hs : ∀ z, d ≠ .str z) (hb : hdB d = false) : tyB (k + 1) m d = false := by
  unfold tyB
  split
  · rfl
  · cases d with
    | str z => exact absurd rfl (hs z)
    | list ds =>
      have hb : hdL ds = false := hb
      show shB _ _ ds = false
      unfold shB
      split
      · cases hb
      · cases hb
      · rfl
    | tuple ds =>
      have hb : hdL ds = false := hb
      show shB _ _ ds = false
      unfold shB
      split
      · cases hb
      · cases hb
      · rfl
    | _ => rfl
theorem hd_good {d : D} (h : hdB d = true) : ∃ kk z x, (∃ y, d = sq kk [s z, x, y]) ∨ d = sq kk [s z, x] := by
  unfold hdB at h
  split at h
  · rename_i ds e
    obtain ⟨kk, rfl⟩ := items_of e
    unfold hdL at h
    split at h
    · exact ⟨kk, _, _, .inr rfl⟩
    · exact ⟨kk, _, _, .inl ⟨_, rfl⟩⟩
    · cases h
  · cases h
theorem any_isN {f : D → D} {g : D → Bool} {ys : List D} (h : ∀ y ∈ ys, isN (f y) = !g y) : (ys.map f).any isN = !ys.all g := by
  induction ys with
  | nil => rfl
  | cons y ys ih =>
    rw [List.map_cons, List.any_cons, List.all_cons, h y (.head _), ih fun z q => h z (.tail _ q), Bool.not_and]
theorem typed_ok {P0 P1 : Addr} : ∀ (k : Nat) (m : Int) (d : D) (n : Nat), szB d = true → k ≤ 24 → 2 * k < n → ∃ r, isN r = !tyB k m d ∧ ∀ S, S.take 2 = SS P0 P1 → F_typed P0 P1 n [.d d, .d (.int m), .d (.int (24 - (k : Int)))] S = .ok (.d r) S
  | k, m, d, 0, _, _, h => by omega
  | 0, m, d, n + 1, _, _, _ => by
    refine ⟨.none, rfl, fun S hS => ?_⟩
    unfold F_typed
    refine pureT_ok (S0 := SS P0 P1) rfl hS (run_rt rfl ?_) rfl
    unfold b_typed
    exact ty_zero (.inr rfl)
  | k + 1, m, d, n + 1, hs, hk, hn => by
    have ih : ∀ (m : Int) (d : D) (n' : Nat), szB d = true → 2 * k < n' → ∃ r, isN r = !tyB k m d ∧ ∀ S, S.take 2 = SS P0 P1 → F_typed P0 P1 n' [.d d, .d (.int m), .d (.int (24 - ((k + 1 : Nat) : Int) + 1))] S = .ok (.d r) S := fun m d n' hs hn => by
      have := typed_ok (P0 := P0) (P1 := P1) k m d n' hs (by omega) hn
      have e : (24 : Int) - ((k + 1 : Nat) : Int) + 1 = 24 - (k : Int) := by omega
      rw [e]
      exact this
    have ihf : ∀ (m : Int) (n' : Nat), 2 * k < n' → ∃ f : D → D, ∀ x, szB x = true → isN (f x) = !tyB k m x ∧ ∀ S, S.take 2 = SS P0 P1 → F_typed P0 P1 n' [.d x, .d (.int m), .d (.int (24 - ((k + 1 : Nat) : Int) + 1))] S = .ok (.d (f x)) S := fun m n' hn => by
      refine Classical.axiomOfChoice (r := fun x y => szB x = true → isN y = !tyB k m x ∧ ∀ S, S.take 2 = SS P0 P1 → F_typed P0 P1 n' [.d x, .d (.int m), .d (.int (24 - ((k + 1 : Nat) : Int) + 1))] S = .ok (.d y) S) fun x => ?_
      by_cases hx : szB x = true
      · obtain ⟨r, h⟩ := ih m x n' hx hn
        exact ⟨r, fun _ => h⟩
      · exact ⟨.none, fun q => absurd q hx⟩
    suffices ∃ r, isN r = !tyB (k + 1) m d ∧ b_typed P0 P1 (F_typed_fields P0 P1 n) (F_typed P0 P1 n) (frT d m (24 - ((k + 1 : Nat) : Int)) none none none none) (SS P0 P1) = .ok (.rt (.d r)) (SS P0 P1) by
      obtain ⟨r, h1, h2⟩ := this
      refine ⟨r, h1, fun S hS => ?_⟩
      unfold F_typed
      exact pureT_ok rfl hS (run_rt rfl h2) rfl
    unfold b_typed
    by_cases hm : m = 0
    · refine ⟨.none, ?_, ty_zero (.inl hm)⟩
      unfold tyB
      rw [if_pos hm]
      rfl
    suffices ∃ r, isN r = !tyB (k + 1) m d ∧ tyRest P0 P1 (F_typed_fields P0 P1 n) (F_typed P0 P1 n) (frT d m (24 - ((k + 1 : Nat) : Int)) none none none none) (SS P0 P1) = .ok (.rt (.d r)) (SS P0 P1) by
      obtain ⟨r, h1, h2⟩ := this
      exact ⟨r, h1, ty_head hm (by omega) h2⟩
    by_cases hst : ∃ z, d = .str z
    · obtain ⟨z, rfl⟩ := hst
      refine ⟨_, ?_, ty_text z⟩
      have e : tyB (k + 1) m (.str z) = decide (z ∈ (["atom", "never"] : List Str)) := by unfold tyB; rw [if_neg hm]
      rw [e]
      cases decide (z ∈ (["atom", "never"] : List Str)) <;> rfl
    have hst : ∀ z, d ≠ .str z := fun z q => hst ⟨z, q⟩
    cases hb : hdB d with
    | false => exact ⟨.none, (by rw [tyB_other hst hb]; rfl), ty_bad hst hb⟩
    | true =>
      rw [ty_good hst hb]
      obtain ⟨kk, z, x, h⟩ := hd_good hb
      rcases h with ⟨y, rfl⟩ | rfl
      · rw [tyB_items hm]
        rw [sz_sq, Bool.and_eq_true] at hs
        simp only [szA, Bool.and_eq_true] at hs
        obtain ⟨r, h1, h2⟩ := ih (m - 1) y n hs.2.2.2.1 (by omega)
        refine ⟨_, ?_, ty_three (r := r) hs.2.2.1 fun _ => h2 (SS P0 P1) rfl⟩
        show isN _ = !(decide (z = "tag") && (nmB x && tyB k (m - 1) y))
        rw [h1, Bool.not_not]
        cases (decide (z = "tag") && (nmB x && tyB k (m - 1) y)) <;> rfl
      · rw [tyB_items hm]
        rw [sz_sq, Bool.and_eq_true] at hs
        simp only [szA, Bool.and_eq_true] at hs
        have e0 : shB (tyB k m) (tyB k (m - 1)) [.str z, x] = (match itemsD x with
          | some ys => if z = "or" then ys.all (tyB k m) else if z = "record" then decide (ys.length ≤ 60) && rowsG (tyB k (m - 1)) [] ys else false
          | none => false) := rfl
        rw [e0]
        cases hx : itemsD x with
        | none => exact ⟨.none, rfl, ty_word (.inr hx)⟩
        | some ys =>
          obtain ⟨k2, rfl⟩ := items_of hx
          have hsx := hs.2.2.1
          rw [sz_sq, Bool.and_eq_true, decide_eq_true_eq] at hsx
          by_cases hor : z = "or"
          · subst hor
            rw [ty_6 (by decide)]
            obtain ⟨f, hf⟩ := ihf m n (by omega)
            refine ⟨_, ?_, ty_or (f := f) hsx.1 fun y hy => (hf y (szA_mem hsx.2 y hy)).2 (SS P0 P1) rfl⟩
            rw [any_isN fun y hy => (hf y (szA_mem hsx.2 y hy)).1]
            show isN _ = !(ys.all (tyB k m))
            cases ys.all (tyB k m) <;> rfl
          · by_cases hre : z = "record"
            · subst hre
              rw [ty_6 (by decide)]
              obtain ⟨n', rfl⟩ : ∃ n', n = n' + 1 := ⟨n - 1, by omega⟩
              obtain ⟨f, hf⟩ := ihf (m - 1) n' (by omega)
              obtain ⟨r, h1, h2⟩ := tf_ok (P0 := P0) (P1 := P1) (m := m) (p := 24 - ((k + 1 : Nat) : Int)) (f := f) (n := n') (k2 := k2) (ys := ys) hsx.1 hsx.2 fun x hx => (hf x hx).2
              refine ⟨_, ?_, ty_record (r := r) (h2 (SS P0 P1) rfl)⟩
              show isN _ = !(decide (ys.length ≤ 60) && rowsG (tyB k (m - 1)) [] ys)
              have hc := rowsG_congr (f := fun x => !isN (f x)) (g := tyB k (m - 1)) (fun x hx => by rw [(hf x hx).1, Bool.not_not]) ys [] hsx.2
              rw [hc] at h1
              rw [← h1]
              cases hr : isN r <;> rfl
            · have : z ∉ (["record", "or"] : List Str) := by
                intro q
                rcases List.mem_cons.mp q with q | q
                · exact hre q
                · exact hor (List.mem_singleton.mp q)
              refine ⟨.none, ?_, ty_word (.inl this)⟩
              show true = !(if z = "or" then ys.all (tyB k m) else if z = "record" then decide (ys.length ≤ 60) && rowsG (tyB k (m - 1)) [] ys else false)
              rw [if_neg hor, if_neg hre]
              rfl
end DL.k27
namespace DL.k27
open PySem PySem.Spec PyProof.Rows L2 DL DL.Ev

/-! ### is_type, and what is refused -/
def tyOk (d : D) : Bool := tyB 24 8 d
section
variable {P0 P1 : Addr} {S : Sto} {d : D}
theorem typed_top (hs : szB d = true) : ∃ r, isN r = !tyOk d ∧ ∀ S, S.take 2 = SS P0 P1 → F_typed P0 P1 52 [.d d, .d (.int 8), .d (.int 0)] S = .ok (.d r) S := typed_ok (P0 := P0) (P1 := P1) 24 8 d 52 hs (by omega) (by omega)
theorem istype_ok (hs : szB d = true) (hS : S.take 2 = SS P0 P1) : F_is_type P0 P1 [.d d] S = .ok (okb (tyOk d)) S := by
  obtain ⟨r, h1, h2⟩ := typed_top (P0 := P0) (P1 := P1) hs
  unfold F_is_type
  refine pureT_ok (S0 := SS P0 P1) rfl hS (run_rt rfl ?_) rfl
  unfold b_is_type st_is_type_1
  refine ret_ok (bin_ok (S1 := SS P0 P1) (S2 := SS P0 P1) (cal_ok (S' := SS P0 P1) (ws := [.d d]) rfl (noEx_ok (h2 _ rfl))) rfl ?_)
  rw [isnt_n, h1, Bool.not_not]
  rfl
theorem ltype_top (hs : szB d = true) : F__law_is_type 26 [.d d, .d (.int 8), .d (.int 24)] S = .ok (okb (tyOk d)) S := ltype_ok 24 8 d 26 S hs (by omega)
abbrev badT (w : Str) : DL.Ex := ⟨"BadType", [("part", .str w)]⟩
theorem need_bad (hs : szB d = true) (hb : tyOk d = false) (w : Str) (hS : S.take 2 = SS P0 P1) : F_need_type P0 P1 [.d d, .d (.str w)] S = .ex (badT w) S := by
  obtain ⟨r, h1, h2⟩ := typed_top (P0 := P0) (P1 := P1) hs
  rw [hb] at h1
  unfold F_need_type
  refine pureT_exc (S0 := SS P0 P1) rfl hS (run_ex rfl ?_) rfl
  unfold b_need_type
  refine Eq.trans (seq_nx (S' := SS P0 P1) (δ' := [some (.d d), some (.d (.str w)), some (.d r)]) ?_) (seq_ex ?_)
  · unfold st_need_type_1
    exact asg_ok (cal_ok (S' := SS P0 P1) (ws := [.d d]) rfl (noEx_ok (h2 _ rfl)))
  · unfold st_need_type_2
    refine Eq.trans (if_t (S' := SS P0 P1) (val_ok (bin_ok (S1 := SS P0 P1) (S2 := SS P0 P1) (x := .d r) rfl rfl ?_))) rfl
    rw [is_n, h1]
    rfl
theorem has_bad (hs : szB d = true) (hb : tyOk d = false) (hS : S.take 2 = SS P0 P1) : F_has P0 P1 [.d d, .d .none] S = .ex (badT "told") S := by
  unfold F_has
  refine pureT_exc (S0 := SS P0 P1) rfl hS (run_ex rfl ?_) rfl
  unfold b_has st_has_1 parM
  refine seq_ex (bd_ex ?_)
  unfold consM
  exact bd_ex (cal_ex (S' := SS P0 P1) (ws := [.d d, .d (.str "told")]) rfl (need_bad hs hb "told" rfl))
theorem within_bad (hs : szB d = true) (hb : tyOk d = false) (hS : S.take 2 = SS P0 P1) : F_within P0 P1 [.d d, .d d] S = .ex (badT "one") S := by
  unfold F_within
  refine pureT_exc (S0 := SS P0 P1) rfl hS (run_ex rfl ?_) rfl
  unfold b_within st_within_1 parM
  refine seq_ex (bd_ex ?_)
  unfold consM
  exact bd_ex (cal_ex (S' := SS P0 P1) (ws := [.d d, .d (.str "one")]) rfl (need_bad hs hb "one" rfl))
theorem at_0 (hS : S.take 2 = SS P0 P1) : S[0]? = some (.tab P0 qL_law) := by
  have := congrArg (fun l : Sto => l[0]?) hS
  simpa using this
theorem heard_told : letE errs f__law_heard (badT "told") S = .ok (.d (t [s "type", s "told"])) S := by kernel_rfl
theorem heard_one : letE errs f__law_heard (badT "one") S = .ok (.d (t [s "type", s "one"])) S := by kernel_rfl
/-! ### a turn -/
abbrev frK (sc tn kd du mn rw tl wd at_ : Option W) : Env := [sc, some (.r 2), tn, kd, du, mn, rw, tl, wd, at_]
variable {sc tn kd du mn rw tl wd at_ : Option W}
theorem turn_3 (hs : szB d = true) : st_law_3 P0 P1 (frK sc tn (some (.d d)) du mn rw tl wd at_) S = .ok (.nx (frK sc tn (some (.d d)) (some (okb (tyOk d))) mn rw tl wd at_)) S := by
  unfold st_law_3
  exact asg_ok (cal_ok (S' := S) (ws := [.d d, .d (.int 8), .d (.int 24)]) rfl (noEx_ok (ltype_top hs)))
theorem repr_b (b : Bool) : reprM [okb b] S = .ok (.d (s (if b = true then "True" else "False"))) S := by cases b <;> kernel_rfl
theorem neT_b (b : Bool) : neM (okb b) (okb b) S = .ok (okb false) S := by cases b <;> rfl
theorem turn_4 (hs : szB d = true) (hS : S.take 2 = SS P0 P1) : st_law_4 P0 P1 (frK sc tn (some (.d d)) (some (okb (tyOk d))) mn rw tl wd at_) S = .ok (.nx (frK sc tn (some (.d d)) (some (okb (tyOk d))) mn rw tl wd at_)) S := by
  have e := istype_ok (P0 := P0) (P1 := P1) hs hS
  unfold st_law_4
  refine Eq.trans (if_f (S' := S) (Eq.trans (orT_f (S1 := S) (val_ok (bin_ok (S1 := S) (S2 := S) (cal_ok (one_ok (cal_ok (S' := S) (ws := [.d d]) rfl (noEx_ok e))) (repr_b (tyOk d))) (cal_ok (S' := S) (ws := [okb (tyOk d)]) rfl (repr_b (tyOk d))) ?_))) (val_ok (bin_ok (S1 := S) (S2 := S) (calK_ok (xs := []) (ys := [.d d]) (zs := [.d d]) (S1 := S) (S2 := S) rfl rfl rfl (noEx_ok e)) rfl (neT_b (tyOk d)))))) rfl
  exact ne_same (by simp [PyData.depth]) (by simp only [nd])
theorem turn_5 (hs : szB d = true) (hS : S.take 2 = SS P0 P1) : st_law_5 P0 P1 (frK sc tn (some (.d d)) (some (okb (tyOk d))) mn rw tl wd at_) S = .ok (.nx (frK sc tn (some (.d d)) (some (okb (tyOk d))) mn rw tl wd at_)) S := by
  unfold st_law_5
  refine Eq.trans (if_f (S' := S) ?_) rfl
  cases hb : tyOk d with
  | true => exact andT_f (not_ok (b := true) (val_ok rfl))
  | false =>
    refine Eq.trans (andT_t (S1 := S) (not_ok (b := false) (val_ok rfl))) (val_ok (bin_ok (S1 := S) (S2 := S) (x := .d (.list [t [s "type", s "told"], t [s "type", s "one"]])) (y := .d (.list [t [s "type", s "told"], t [s "type", s "one"]])) ?_ (by kernel_rfl) (by kernel_rfl)))
    have l1 : heardG P0 qL_law (letR f__law_heard) (letE errs f__law_heard) [] [3] (calM (consM (varM 0) (consM (cM .none) nilM)) (F_has P0 P1)) (frK sc tn (some (.d d)) (some (okb false)) mn rw tl wd at_) S = .ok (.d (t [s "type", s "told"])) S :=
      heardG_ex (at_0 hS) (cal_ex (S' := S) (ws := [.d d, .d .none]) rfl (has_bad hs hb hS)) heard_told
    have l2 : heardG P0 qL_law (letR f__law_heard) (letE errs f__law_heard) [.d (.int 0)] [3] (calM (consM (varM 1) (consM (varM 1) nilM)) (F_within P0 P1)) (frK sc tn (some (.d d)) (some (okb false)) mn rw tl wd at_) S = .ok (.d (t [s "type", s "one"])) S :=
      heardG_ex (at_0 hS) (cal_ex (S' := S) (ws := [.d d, .d d]) rfl (within_bad hs hb hS)) heard_one
    exact Eq.trans (bd_ok (cons_ok (S1 := S) l1 (cons_ok (S1 := S) l2 rfl))) (lst_small (ds := [t [s "type", s "told"], t [s "type", s "one"]]) (by simp))
end
end DL.k27
namespace DL.k27
open PySem PySem.Spec PyProof.Rows L2 DL DL.Ev

/-! ### drawn types -/
inductive Kd : Nat → D → Prop where
  | str (k : Nat) (z : Str) (h : z.length ≤ 10) : Kd k (s z)
  | emp (k : Nat) (z : Str) (h : z = "record" ∨ z = "or") : Kd k (t [s z, t []])
  | tag (k : Nat) (n : Str) (x : D) (h : n.length ≤ 10) (hx : Kd k x) : Kd (k + 1) (t [s "tag", s n, x])
  | rcd (k : Nat) (zs : List Rw) (h0 : zs ≠ []) (hl : zs.length ≤ 3) (hn : ∀ x ∈ zs, x.1.length ≤ 10) (h : ∀ x ∈ zs, Kd k x.2.1) : Kd (k + 1) (t [s "record", t (zs.map rowD)])
  | or (k : Nat) (ds : List D) (h0 : ds ≠ []) (hl : ds.length ≤ 3) (h : ∀ x ∈ ds, Kd k x) : Kd (k + 1) (t [s "or", t ds])
def CK : Nat → Int
  | 0 => 3
  | m + 1 => 20 + 3 * CK m
theorem CK_pos : ∀ m, 3 ≤ CK m
  | 0 => by simp [CK]
  | m + 1 => by have := CK_pos m; simp only [CK]; omega
theorem pick_ok {S : Sto} {n : Nat} {c : Int} {ds : List D} (h : Pen S n c) (hc : c < 1048576) (h1 : ds ≠ []) (h2 : ds.length < 1000) : ∃ d ∈ ds, ∃ o, F__law_pick [.r n, .d (.list ds)] S = .ok (.d d) (S.set n o) ∧ Pen (S.set n o) n (c + 1) := pick_of draw h hc h1 h2
abbrev frD (m : Int) (w ns pt nm : Option W) : Env := [some (.r 2), some (.d (.int m)), w, ns, pt, nm]
section
variable {R : List W → M W} {S : Sto} {c m : Int}
theorem dk_1 (h : Pen S 2 c) (hc : c < 1048576) : ∃ (k : Int) (o : Ob), 0 ≤ k ∧ k < 10 ∧ st__law_drawn_kind_1 R (frD m none none none none) S = .ok (.nx (frD m (some (.d (.int k))) none none none)) (S.set 2 o) ∧ Pen (S.set 2 o) 2 (c + 1) := by
  obtain ⟨k, o, e, k1, k2, p⟩ := draw S 2 c 10 h hc (by omega) (by omega)
  refine ⟨k, o, k1, k2, ?_, p⟩
  unfold st__law_drawn_kind_1
  exact asg_ok (cal_ok (ws := [.r 2, .d (.int 10)]) (S' := S) rfl (noEx_ok e))
theorem dk_leaf (h : Pen S 2 c) (hc : c < 1048576) {k : Int} (hk : m = 0 ∨ k < 2) {rest : Env → M Fl} : ∃ (d : D) (o : Ob), seqM (st__law_drawn_kind_2 R) rest (frD m (some (.d (.int k))) none none none) S = .ok (.rt (.d d)) (S.set 2 o) ∧ Pen (S.set 2 o) 2 (c + 1) ∧ ∀ j, Kd j d := by
  obtain ⟨d, hd, o, e, p⟩ := pick_ok (ds := [s "atom", s "atom", s "never", t [s "record", t []], t [s "or", t []]]) h hc (by simp) (by simp)
  refine ⟨d, o, ?_, p, fun j => ?_⟩
  · unfold st__law_drawn_kind_2
    refine seq_rt (Eq.trans (if_t (S' := S) ?_) (ret_ok (cal_ok (ws := [.r 2, .d (.list [s "atom", s "atom", s "never", t [s "record", t []], t [s "or", t []]])]) (S' := S) (by kernel_rfl) (noEx_ok e))))
    by_cases hm : m = 0
    · refine Eq.trans (orT_t (S1 := S) (val_ok (bin_ok (S1 := S) (S2 := S) rfl rfl ?_))) rfl
      rw [Ev.eq_int, decide_eq_true hm]
    · refine Eq.trans (orT_f (S1 := S) (val_ok (bin_ok (S1 := S) (S2 := S) rfl rfl ?_))) (val_ok (bin_ok (S1 := S) (S2 := S) rfl rfl ?_))
      · rw [Ev.eq_int, decide_eq_false hm]
      · rw [Ev.lt_int, decide_eq_true (hk.resolve_left hm)]
  · simp only [List.mem_cons, List.not_mem_nil, or_false] at hd
    rcases hd with rfl | rfl | rfl | rfl | rfl
    · exact .str j _ (by decide)
    · exact .str j _ (by decide)
    · exact .str j _ (by decide)
    · exact .emp j _ (.inl rfl)
    · exact .emp j _ (.inr rfl)
theorem dk_2 {k : Int} (hm : m ≠ 0) (hk : ¬ k < 2) {rest : Env → M Fl} : seqM (st__law_drawn_kind_2 R) rest (frD m (some (.d (.int k))) none none none) S = rest (frD m (some (.d (.int k))) none none none) S := by
  unfold st__law_drawn_kind_2
  refine seq_nx (S' := S) (Eq.trans (if_f (S' := S) ?_) rfl)
  refine Eq.trans (orT_f (S1 := S) (val_ok (bin_ok (S1 := S) (S2 := S) rfl rfl ?_))) (val_ok (bin_ok (S1 := S) (S2 := S) rfl rfl ?_))
  · rw [Ev.eq_int, decide_eq_false hm]
  · rw [Ev.lt_int, decide_eq_false hk]
theorem rows_of {P : Rw → Prop} : ∀ ds : List D, (∀ d ∈ ds, ∃ x : Rw, d = rowD x ∧ P x) → ∃ xs : List Rw, ds = xs.map rowD ∧ ∀ x ∈ xs, P x
  | [], _ => ⟨[], rfl, fun _ q => by cases q⟩
  | d :: ds, h => by
    obtain ⟨xs, rfl, q⟩ := rows_of ds fun x hx => h x (.tail _ hx)
    obtain ⟨x, rfl, q2⟩ := h d (.head _)
    refine ⟨x :: xs, rfl, fun y hy => ?_⟩
    rcases List.mem_cons.mp hy with rfl | hy
    · exact q2
    · exact q y hy
/-- what the call for a part does -/
abbrev Sub (R : List W → M W) (m : Int) (j : Nat) : Prop := ∀ (S : Sto) (c : Int), Pen S 2 c → c + CK j < 1048576 → ∃ (d : D) (o : Ob), R [.r 2, .d (.int (m - 1))] S = .ok (.d d) (S.set 2 o) ∧ Pen (S.set 2 o) 2 (c + CK j) ∧ Kd j d
theorem sub_call {j : Nat} {S' : Sto} {d : D} {w ns pt nm : Option W} (e : R [.r 2, .d (.int (m - 1))] S = .ok (.d d) S') : calM (consM (varM 0) (consM (binM (varM 1) (cM (.int 1)) subM) nilM)) (fun ws => noEx (R ws)) (frD m w ns pt nm) S = .ok (.d d) S' :=
  cal_ok (S' := S) (ws := [.r 2, .d (.int (m - 1))]) (cons_ok (S1 := S) rfl (one_ok (bin_ok (S1 := S) (S2 := S) rfl rfl (Ev.sub_int _ _)))) (noEx_ok e)
theorem dk_tag {k : Int} {j : Nat} (h : Pen S 2 c) (hc : c + 3 + CK j < 1048576) (hk : k < 5) (hR : Sub R m j) {rest : Env → M Fl} : ∃ (d : D) (o : Ob), seqM (st__law_drawn_kind_3 R) rest (frD m (some (.d (.int k))) none none none) S = .ok (.rt (.d d)) (S.set 2 o) ∧ Pen (S.set 2 o) 2 (c + 1 + CK j) ∧ Kd (j + 1) d := by
  have := CK_pos j
  obtain ⟨n, hn, o1, e1, p1⟩ := pick_ok (ds := [s "no", s "yes", s "t"]) h (by omega) (by simp) (by simp)
  obtain ⟨d, o2, e2, p2, hd⟩ := hR _ _ p1 (by omega)
  rw [set_set] at e2 p2
  have hn : ∃ z : Str, n = s z ∧ z.length ≤ 10 := by
    simp only [List.mem_cons, List.not_mem_nil, or_false] at hn
    rcases hn with rfl | rfl | rfl <;> exact ⟨_, rfl, by decide⟩
  obtain ⟨z, rfl, hz⟩ := hn
  refine ⟨t [s "tag", s z, d], o2, ?_, p2, .tag j z d hz hd⟩
  unfold st__law_drawn_kind_3
  refine seq_rt (Eq.trans (if_t (S' := S) (val_ok (bin_ok (S1 := S) (S2 := S) rfl rfl ?_))) (ret_ok ?_))
  · rw [Ev.lt_int, decide_eq_true hk]
  · refine Eq.trans (bd_ok (S' := S.set 2 o2) (a := [.d (s "tag"), .d (s z), .d d]) (cons_ok (S1 := S) rfl (cons_ok (S1 := S.set 2 o1) (cal_ok (ws := [.r 2, .d (.list [s "no", s "yes", s "t"])]) (S' := S) (by kernel_rfl) (noEx_ok e1)) (one_ok (sub_call (j := j) e2))))) (tup_ok rfl (show 3 ≤ sizeLine by decide))
theorem dk_3 {k : Int} (hk : ¬ k < 5) {rest : Env → M Fl} : seqM (st__law_drawn_kind_3 R) rest (frD m (some (.d (.int k))) none none none) S = rest (frD m (some (.d (.int k))) none none none) S := by
  unfold st__law_drawn_kind_3
  refine seq_nx (S' := S) (Eq.trans (if_f (S' := S) (val_ok (bin_ok (S1 := S) (S2 := S) rfl rfl ?_))) rfl)
  rw [Ev.lt_int, decide_eq_false hk]
theorem dk_rcd {k : Int} {j : Nat} (h : Pen S 2 c) (hc : c + 10 + 3 * CK j < 1048576) (hk : k < 8) (hR : Sub R m j) {rest : Env → M Fl} : ∃ (d : D) (o : Ob), seqM (st__law_drawn_kind_4 R) rest (frD m (some (.d (.int k))) none none none) S = .ok (.rt (.d d)) (S.set 2 o) ∧ Pen (S.set 2 o) 2 (c + 10 + 3 * CK j) ∧ Kd (j + 1) d := by
  have := CK_pos j
  obtain ⟨ns, hn, o1, e1, p1⟩ := pick_ok (ds := [.list [s "a"], .list [s "b"], .list [s "a", s "b"], .list [s "b", s "a"], .list [s "zz", s "a", s "b"]]) h (by omega) (by simp) (by simp)
  have hn : ∃ zs : List Str, ns = .list (zs.map s) ∧ zs ≠ [] ∧ zs.length ≤ 3 ∧ ∀ z ∈ zs, z.length ≤ 10 := by
    simp only [List.mem_cons, List.not_mem_nil, or_false] at hn
    rcases hn with rfl | rfl | rfl | rfl | rfl
    · exact ⟨["a"], rfl, by simp, by decide, by decide⟩
    · exact ⟨["b"], rfl, by simp, by decide, by decide⟩
    · exact ⟨["a", "b"], rfl, by simp, by decide, by decide⟩
    · exact ⟨["b", "a"], rfl, by simp, by decide, by decide⟩
    · exact ⟨["zz", "a", "b"], rfl, by simp, by decide, by decide⟩
  obtain ⟨zs, rfl, hz0, hz3, hz⟩ := hn
  have hmul : (CK j + 1) * (zs.length : Int) ≤ (CK j + 1) * 3 := Int.mul_le_mul_of_nonneg_left (by omega) (by omega)
  obtain ⟨ds, o2, e2, p2, hl, hq⟩ := comp_pen (own := [5]) (g := setG 5) (e := (fun δ => bd ((consM (varM 5) (consM (calM (consM (varM 0) (consM (binM (varM 1) (cM (.int 1)) subM) nilM)) fun ws => noEx (R ws)) (consM (binM (calM (consM (varM 0) (consM (cM (.int 2)) nilM)) fun ws => noEx (F__law_draw ws)) (cM (.int 0)) eqM) nilM))) δ) tupM)) (δ := frD m (some (.d (.int k))) (some (.d (.list (zs.map s)))) none none) (n := 2) (B := CK j + 1) (by omega) (fun _ d => ∃ x : Rw, d = rowD x ∧ x.1.length ≤ 10 ∧ Kd j x.2.1) ((zs.map s).map .d) (S.set 2 o1) (c + 1) p1 (by rw [List.length_map, List.length_map]; omega) (fun w hw S c h hc => by
    obtain ⟨y, hy, rfl⟩ := List.mem_map.mp hw
    obtain ⟨z, hzz, rfl⟩ := List.mem_map.mp hy
    obtain ⟨d, o1, e1, p1, hd⟩ := hR S c h (by omega)
    obtain ⟨b, o2, e2, b1, b2, p2⟩ := draw _ 2 _ 2 p1 (by omega) (by omega) (by omega)
    rw [set_set] at e2 p2
    refine ⟨rowD (z, d, decide (b = 0)), o2, frD m (some (.d (.int k))) (some (.d (.list (zs.map s)))) none (some (.d (s z))), rfl, ?_, p2.mono (by omega), (z, d, decide (b = 0)), rfl, hz z hzz, hd⟩
    refine Eq.trans (bd_ok (S' := S.set 2 o2) (a := [.d (s z), .d d, .d (.bool (decide (b = 0)))]) (cons_ok (S1 := S) rfl (cons_ok (S1 := S.set 2 o1) (sub_call (j := j) e1) (one_ok (bin_ok (S1 := S.set 2 o2) (S2 := S.set 2 o2) (cal_ok (ws := [.r 2, .d (.int 2)]) (S' := S.set 2 o1) rfl (noEx_ok e2)) rfl (Ev.eq_int _ _)))))) (tup_ok rfl (show 3 ≤ sizeLine by decide)))
  rw [set_set] at e2 p2
  rw [List.length_map, List.length_map] at p2 hl
  obtain ⟨xs, rfl, hx⟩ := rows_of (P := fun x : Rw => x.1.length ≤ 10 ∧ Kd j x.2.1) ds fun d hd => by
    obtain ⟨_, _, q⟩ := hq d hd
    exact q
  rw [List.length_map] at hl
  refine ⟨t [s "record", t (xs.map rowD)], o2, ?_, p2.mono (by omega), .rcd j xs (by intro q; subst q; exact hz0 (List.eq_nil_of_length_eq_zero hl.symm)) (by omega) (fun x q => (hx x q).1) (fun x q => (hx x q).2)⟩
  unfold st__law_drawn_kind_4
  refine seq_rt (Eq.trans (if_t (S' := S) (val_ok (bin_ok (S1 := S) (S2 := S) rfl rfl ?_))) ?_)
  · rw [Ev.lt_int, decide_eq_true hk]
  refine Eq.trans (seq_nx (S' := S.set 2 o1) (δ' := frD m (some (.d (.int k))) (some (.d (.list (zs.map s)))) none none) (asg_ok (cal_ok (ws := [.r 2, .d (.list [.list [s "a"], .list [s "b"], .list [s "a", s "b"], .list [s "b", s "a"], .list [s "zz", s "a", s "b"]])]) (S' := S) (by kernel_rfl) (noEx_ok e1)))) (ret_ok ?_)
  refine Eq.trans (bd_ok (S' := S.set 2 o2) (a := [.d (s "record"), .d (t (xs.map rowD))]) (cons_ok (S1 := S.set 2 o1) rfl (one_ok (cal_ok (S' := S.set 2 o2) (ws := [.d (.list (xs.map rowD))]) (one_ok ?_) rfl)))) (tup_ok rfl (show 2 ≤ sizeLine by decide))
  unfold lcM
  exact Eq.trans (bd_ok (S' := S.set 2 o1) (a := (zs.map s).map .d) rfl) (Eq.trans (bd_ok e2) (lst_small (by rw [List.length_map]; omega)))
theorem dk_4 {k : Int} (hk : ¬ k < 8) {rest : Env → M Fl} : seqM (st__law_drawn_kind_4 R) rest (frD m (some (.d (.int k))) none none none) S = rest (frD m (some (.d (.int k))) none none none) S := by
  unfold st__law_drawn_kind_4
  refine seq_nx (S' := S) (Eq.trans (if_f (S' := S) (val_ok (bin_ok (S1 := S) (S2 := S) rfl rfl ?_))) rfl)
  rw [Ev.lt_int, decide_eq_false hk]
theorem dk_or {k : Int} {j : Nat} (h : Pen S 2 c) (hc : c + 10 + 3 * CK j < 1048576) (hR : Sub R m j) : ∃ (d : D) (o : Ob), st__law_drawn_kind_5 R (frD m (some (.d (.int k))) none none none) S = .ok (.rt (.d d)) (S.set 2 o) ∧ Pen (S.set 2 o) 2 (c + 10 + 3 * CK j) ∧ Kd (j + 1) d := by
  have := CK_pos j
  obtain ⟨b, o1, e1, b1, b2, p1⟩ := draw _ 2 _ 3 h (by omega) (by omega) (by omega)
  have hmul : CK j * (((1 + b).toNat : Nat) : Int) ≤ CK j * 3 := Int.mul_le_mul_of_nonneg_left (by omega) (by omega)
  obtain ⟨ds, o2, e2, p2, hl, hq⟩ := comp_pen (own := [4]) (g := setG 4) (e := (calM (consM (varM 0) (consM (binM (varM 1) (cM (.int 1)) subM) nilM)) fun ws => noEx (R ws))) (δ := frD m (some (.d (.int k))) none none none) (n := 2) (B := CK j) (by omega) (fun _ d => Kd j d) ((List.range (1 + b).toNat).map fun i => .d (.int (0 + (i : Nat)))) (S.set 2 o1) (c + 1) p1 (by rw [List.length_map, List.length_range]; omega) (fun w hw S c h hc => by
    obtain ⟨i, _, rfl⟩ := List.mem_map.mp hw
    obtain ⟨d, o1, e1, p1, hd⟩ := hR S c h (by omega)
    exact ⟨d, o1, frD m (some (.d (.int k))) none (some (.d (.int (0 + (i : Nat))))) none, rfl, sub_call (j := j) e1, p1, hd⟩)
  rw [set_set] at e2 p2
  rw [List.length_map, List.length_range] at p2 hl
  refine ⟨t [s "or", t ds], o2, ?_, p2.mono (by omega), .or j ds (by intro q; subst q; simp at hl; omega) (by omega) fun d hd => (by obtain ⟨_, _, q⟩ := hq d hd; exact q)⟩
  unfold st__law_drawn_kind_5
  refine ret_ok (Eq.trans (bd_ok (S' := S.set 2 o2) (a := [.d (s "or"), .d (t ds)]) (cons_ok (S1 := S) rfl (one_ok (cal_ok (S' := S.set 2 o2) (ws := [.d (.list ds)]) (one_ok ?_) rfl)))) (tup_ok rfl (show 2 ≤ sizeLine by decide)))
  unfold lcM
  refine Eq.trans (bd_ok (S' := S.set 2 o1) (a := (List.range (1 + b).toNat).map fun i => .d (.int (0 + (i : Nat)))) ?_) (Eq.trans (bd_ok e2) (lst_small (by omega)))
  refine Eq.trans (bd_ok (S' := S.set 2 o1) (a := [.d (.int (1 + b))]) (one_ok (bin_ok (S1 := S) (S2 := S.set 2 o1) rfl (cal_ok (ws := [.r 2, .d (.int 3)]) (S' := S) rfl (noEx_ok e1)) (Ev.add_int _ _)))) ?_
  show (if -(2 ^ 62 : Int) ≤ 1 + b ∧ 1 + b < 2 ^ 62 then pr _ else no : M (List W)) (S.set 2 o1) = _
  rw [if_pos ⟨by omega, by omega⟩]
  rfl
end
theorem kind_ok : ∀ (n m : Nat), m < n → ∀ (S : Sto) (c : Int), Pen S 2 c → c + CK m < 1048576 → ∃ (d : D) (o : Ob), F__law_drawn_kind n [.r 2, .d (.int (m : Int))] S = .ok (.d d) (S.set 2 o) ∧ Pen (S.set 2 o) 2 (c + CK m) ∧ Kd m d
  | 0, m, h => by omega
  | n + 1, m, hm => fun S c h hc => by
    have hp := CK_pos m
    obtain ⟨k, o1, k1, k2, e1, p1⟩ := dk_1 (R := F__law_drawn_kind n) (m := (m : Int)) h (by omega)
    suffices ∃ (d : D) (o : Ob), b__law_drawn_kind (F__law_drawn_kind n) (frD m none none none none) S = .ok (.rt (.d d)) (S.set 2 o) ∧ Pen (S.set 2 o) 2 (c + CK m) ∧ Kd m d by
      obtain ⟨d, o, e, p, q⟩ := this
      refine ⟨d, o, ?_, p, q⟩
      unfold F__law_drawn_kind
      exact run_rt rfl e
    unfold b__law_drawn_kind
    rw [seq_nx e1]
    by_cases hk2 : (m : Int) = 0 ∨ k < 2
    · obtain ⟨d, o2, e2, p2, q⟩ := dk_leaf (R := F__law_drawn_kind n) p1 (by omega) hk2
      rw [set_set] at e2 p2
      exact ⟨d, o2, e2, p2.mono (by omega), q m⟩
    · obtain ⟨j, rfl⟩ : ∃ j, m = j + 1 := ⟨m - 1, by omega⟩
      have hR : Sub (F__law_drawn_kind n) ((j + 1 : Nat) : Int) j := fun S c h hc => by
        have := kind_ok n j (by omega) S c h hc
        rw [show ((j + 1 : Nat) : Int) - 1 = (j : Int) by omega]
        exact this
      simp only [CK] at hc ⊢
      have hp := CK_pos j
      rw [dk_2 (by omega) (by omega)]
      by_cases hk5 : k < 5
      · obtain ⟨d, o2, e2, p2, q⟩ := dk_tag p1 (by omega) hk5 hR
        rw [set_set] at e2 p2
        exact ⟨d, o2, e2, p2.mono (by omega), q⟩
      rw [dk_3 hk5]
      by_cases hk8 : k < 8
      · obtain ⟨d, o2, e2, p2, q⟩ := dk_rcd p1 (by omega) hk8 hR
        rw [set_set] at e2 p2
        exact ⟨d, o2, e2, p2.mono (by omega), q⟩
      rw [dk_4 hk8]
      obtain ⟨d, o2, e2, p2, q⟩ := dk_or p1 (by omega) hR
      rw [set_set] at e2 p2
      exact ⟨d, o2, e2, p2.mono (by omega), q⟩
end DL.k27
namespace DL.k27
open PySem PySem.Spec PyProof.Rows L2 DL DL.Ev

/-! ### drawn types with one thing otherwise -/
theorem ndA_of : ∀ {ds : List D}, (∀ d ∈ ds, nd d = true) → ndA ds = true
  | [], _ => by simp only [ndA]
  | x :: ds, h => by
    simp only [ndA, Bool.and_eq_true]
    exact ⟨h x (.head _), ndA_of fun d q => h d (.tail _ q)⟩
theorem sz_s {z : Str} (h : z.length ≤ 10) : szB (s z) = true := by
  simp only [s, szB, decide_eq_true_eq]
  omega
theorem sz_t {ds : List D} (hl : ds.length ≤ 100) (h : ∀ d ∈ ds, szB d = true) : szB (t ds) = true := by
  simp only [t, szB, Bool.and_eq_true, decide_eq_true_eq]
  exact ⟨hl, szA_of h⟩
theorem sz_l {ds : List D} (hl : ds.length ≤ 100) (h : ∀ d ∈ ds, szB d = true) : szB (.list ds) = true := by
  simp only [szB, Bool.and_eq_true, decide_eq_true_eq]
  exact ⟨hl, szA_of h⟩
theorem nd_t {ds : List D} (h : ∀ d ∈ ds, nd d = true) : nd (t ds) = true := by
  simp only [t, nd]
  exact ndA_of h
theorem Kd.good : ∀ {k : Nat} {d : D}, Kd k d → szB d = true ∧ nd d = true := by
  intro k d h
  induction h with
  | str k z h => exact ⟨sz_s h, by simp only [s, nd]⟩
  | emp k z h => rcases h with rfl | rfl <;> exact ⟨by rfl, by rfl⟩
  | tag k n x h hx ih =>
    refine ⟨sz_t (by simp) fun d q => ?_, nd_t fun d q => ?_⟩
    · simp only [List.mem_cons, List.not_mem_nil, or_false] at q
      rcases q with rfl | rfl | rfl
      · rfl
      · exact sz_s h
      · exact ih.1
    · simp only [List.mem_cons, List.not_mem_nil, or_false] at q
      rcases q with rfl | rfl | rfl
      · rfl
      · simp only [s, nd]
      · exact ih.2
  | rcd k zs h0 hl hn h ih =>
    have row : ∀ x ∈ zs, szB (rowD x) = true ∧ nd (rowD x) = true := fun x hx => by
      refine ⟨sz_t (by simp) fun d q => ?_, nd_t fun d q => ?_⟩
      · simp only [List.mem_cons, List.not_mem_nil, or_false] at q
        rcases q with rfl | rfl | rfl
        · exact sz_s (hn x hx)
        · exact (ih x hx).1
        · rfl
      · simp only [List.mem_cons, List.not_mem_nil, or_false] at q
        rcases q with rfl | rfl | rfl
        · simp only [s, nd]
        · exact (ih x hx).2
        · simp only [nd]
    refine ⟨sz_t (by simp) fun d q => ?_, nd_t fun d q => ?_⟩
    · simp only [List.mem_cons, List.not_mem_nil, or_false] at q
      rcases q with rfl | rfl
      · rfl
      · refine sz_t (by rw [List.length_map]; omega) fun y hy => ?_
        obtain ⟨x, hx, rfl⟩ := List.mem_map.mp hy
        exact (row x hx).1
    · simp only [List.mem_cons, List.not_mem_nil, or_false] at q
      rcases q with rfl | rfl
      · rfl
      · refine nd_t fun y hy => ?_
        obtain ⟨x, hx, rfl⟩ := List.mem_map.mp hy
        exact (row x hx).2
  | or k ds h0 hl h ih =>
    refine ⟨sz_t (by simp) fun d q => ?_, nd_t fun d q => ?_⟩
    · simp only [List.mem_cons, List.not_mem_nil, or_false] at q
      rcases q with rfl | rfl
      · rfl
      · exact sz_t (by omega) fun y hy => (ih y hy).1
    · simp only [List.mem_cons, List.not_mem_nil, or_false] at q
      rcases q with rfl | rfl
      · rfl
      · exact nd_t fun y hy => (ih y hy).2
theorem eq_nilT {ds : List D} {S : Sto} (h : ndA ds = true) : eqM (.d (.tuple ds)) (.d (.tuple [])) S = .ok (okb ds.isEmpty) S := by
  rw [eq_d (by intro q; cases q) (Nat.le_trans (Nat.min_le_right _ _) (by decide)) (by simp only [nd]; exact h) (by simp only [nd, ndA])]
  cases ds <;> simp only [PyData.eqv, PyData.eqvAll] <;> rfl
def oddD : List D := [.none, .int 5, .bool true, s "", s "Atom", s "record", s "tag", .list [], t [], .dict [], t [s "tag"], t [s "or"], t [s "record"], t [s "tag", s "A", s "atom"], t [s "tag", s "or", s "atom"], t [s "tag", s "abcdefghi", s "atom"]]
  ++ [t [s "or", s "atom"], t [s "record", s "atom"], t [s "record", t [t [s "a", s "atom"]]], t [s "record", t [t [s "a", s "atom", .int 1]]], t [s "record", t [t [s "a", s "atom", .bool true], .list [s "a", s "never", .bool false]]], t [s "atom"]]
  ++ [t [s "record", .dict [(s "a", s "atom")]], t [s "record", t [t [s "get", s "atom", .bool true]]], t [s "record", t [t [s "a", .none, .bool true]]], t [s "or", t [.none]], .list [s "or", .list [s "atom"]], t [s "tag", s "no", s "atom", .int 1], t [.int 5, s "atom"], t [s "kind", t [s "atom"]]]
theorem odd_sz : ∀ d ∈ oddD, szB d = true := by
  have : oddD.all szB = true := by rfl
  exact List.all_eq_true.mp this
theorem odd_len : oddD.length = 30 := rfl
def CB : Nat → Int
  | 0 => 3
  | m + 1 => 10 + 2 * CB m
theorem CB_pos : ∀ m, 3 ≤ CB m
  | 0 => by simp [CB]
  | m + 1 => by have := CB_pos m; simp only [CB]; omega
abbrev frB (d : D) (o a p : Option W) : Env := [some (.r 2), some (.d d), o, a, p]
section
variable {R : List W → M W} {S : Sto} {c : Int} {d : D} {k : Nat}
theorem bt_odd {rest : Env → M Fl} : seqM (st__law_bent_1 R) (seqM (st__law_bent_2 R) (seqM (st__law_bent_3 R) rest)) (frB d none none none) S = rest (frB d (some (.d (.list oddD))) none none) S := by
  refine Eq.trans (seq_nx (S' := S) (δ' := frB d (some (.d (.list (oddD.take 16)))) none none) (by kernel_rfl)) (Eq.trans (seq_nx (S' := S) (δ' := frB d (some (.d (.list (oddD.take 22)))) none none) (by kernel_rfl)) (seq_nx (S' := S) (by kernel_rfl)))
theorem bt_pick {a p : Option W} (h : Pen S 2 c) (hc : c < 1048576) : ∃ (x : D) (o : Ob), retM (calM (consM (varM 0) (consM (varM 2) nilM)) fun ws => noEx (F__law_pick ws)) (frB d (some (.d (.list oddD))) a p) S = .ok (.rt (.d x)) (S.set 2 o) ∧ Pen (S.set 2 o) 2 (c + 1) ∧ szB x = true := by
  obtain ⟨x, hx, o, e, q⟩ := pick_ok (ds := oddD) h hc (by simp [oddD]) (by rw [odd_len]; omega)
  exact ⟨x, o, ret_ok (cal_ok (ws := [.r 2, .d (.list oddD)]) (S' := S) rfl (noEx_ok e)), q, odd_sz x hx⟩
theorem bt_4 (h : Pen S 2 c) (hc : c + 3 < 1048576) {rest : Env → M Fl} : (∃ (x : D) (o : Ob), seqM (st__law_bent_4 R) rest (frB d (some (.d (.list oddD))) none none) S = .ok (.rt (.d x)) (S.set 2 o) ∧ Pen (S.set 2 o) 2 (c + 2) ∧ szB x = true) ∨
    ((∀ z, d ≠ .str z) ∧ ∃ (o : Ob), seqM (st__law_bent_4 R) rest (frB d (some (.d (.list oddD))) none none) S = rest (frB d (some (.d (.list oddD))) none none) (S.set 2 o) ∧ Pen (S.set 2 o) 2 (c + 1)) := by
  unfold st__law_bent_4
  by_cases hs : ∃ z, d = .str z
  · obtain ⟨z, rfl⟩ := hs
    obtain ⟨x, o, e, p, q⟩ := bt_pick (d := .str z) (a := none) (p := none) h (by omega)
    exact .inl ⟨x, o, seq_rt (Eq.trans (if_t (S' := S) (Eq.trans (orT_t (S1 := S) (val_ok rfl)) rfl)) e), p.mono (by omega), q⟩
  · have hs : ∀ z, d ≠ .str z := fun z q => hs ⟨z, q⟩
    obtain ⟨b, o1, e1, b1, b2, p1⟩ := draw _ 2 _ 4 h (by omega) (by omega) (by omega)
    have tst : (orT (valT (fun δ => bd ((varM 1) δ) (isiM [.str]))) (valT (binM (calM (consM (varM 0) (consM (cM (.int 4)) nilM)) fun ws => noEx (F__law_draw ws)) (cM (.int 0)) eqM))) (frB d (some (.d (.list oddD))) none none) S = .ok (decide (b = 0)) (S.set 2 o1) := by
      refine Eq.trans (orT_f (S1 := S) (val_ok (Eq.trans (bd_ok (varM_at rfl)) (not_str hs S)))) (val_ok (bin_ok (S1 := S.set 2 o1) (S2 := S.set 2 o1) (cal_ok (ws := [.r 2, .d (.int 4)]) (S' := S) rfl (noEx_ok e1)) rfl (Ev.eq_int _ _)))
    by_cases hb : b = 0
    · rw [decide_eq_true hb] at tst
      obtain ⟨x, o, e, p, q⟩ := bt_pick (d := d) (a := none) (p := none) p1 (by omega)
      rw [set_set] at e p
      exact .inl ⟨x, o, seq_rt (Eq.trans (if_t tst) e), p.mono (by omega), q⟩
    · rw [decide_eq_false hb] at tst
      exact .inr ⟨hs, o1, seq_nx (Eq.trans (if_f tst) rfl), p1⟩
theorem hd_0 {x : D} {ds : List D} {o a p : Option W} : binM (varM 1) (cM (.int 0)) itemM (frB (t (x :: ds)) o a p) S = .ok (.d x) S := bin_ok (S1 := S) (S2 := S) rfl rfl (item_t atI_0)
theorem hd_1 {x y : D} {ds : List D} {o a p : Option W} : binM (varM 1) (cM (.int 1)) itemM (frB (t (x :: y :: ds)) o a p) S = .ok (.d y) S := bin_ok (S1 := S) (S2 := S) rfl rfl (item_t at1)
theorem hd_2 {x y z : D} {ds : List D} {o a p : Option W} : binM (varM 1) (cM (.int 2)) itemM (frB (t (x :: y :: z :: ds)) o a p) S = .ok (.d z) S := bin_ok (S1 := S) (S2 := S) rfl rfl (item_t at2)
theorem bt_5 {z : Str} {ds : List D} {o : Option W} (hz : z ≠ "tag") {rest : Env → M Fl} : seqM (st__law_bent_5 R) rest (frB (t (s z :: ds)) o none none) S = rest (frB (t (s z :: ds)) o none none) S := by
  unfold st__law_bent_5
  refine seq_nx (S' := S) (Eq.trans (if_f (S' := S) (val_ok (bin_ok (S1 := S) (S2 := S) hd_0 rfl ?_))) rfl)
  rw [Ev.eq_str, decide_eq_false hz]
abbrev SubB (R : List W → M W) (k : Nat) : Prop := ∀ (d : D), Kd k d → ∀ (S : Sto) (c : Int), Pen S 2 c → c + CB k < 1048576 → ∃ (x : D) (o : Ob), R [.r 2, .d d] S = .ok (.d x) (S.set 2 o) ∧ Pen (S.set 2 o) 2 (c + CB k) ∧ szB x = true
theorem bt_tag {n : Str} {x : D} {o : Option W} (h : Pen S 2 c) (hc : c + 2 * CB k + 2 < 1048576) (hn : n.length ≤ 10) (hx : Kd k x) (hR : SubB R k) {rest : Env → M Fl} :
    ∃ (y : D) (ob : Ob), seqM (st__law_bent_5 R) rest (frB (t [s "tag", s n, x]) o none none) S = .ok (.rt (.d y)) (S.set 2 ob) ∧ Pen (S.set 2 ob) 2 (c + 2 * CB k + 1) ∧ szB y = true := by
  have := CB_pos k
  obtain ⟨y1, o1, e1, p1, q1⟩ := hR x hx S c h (by omega)
  obtain ⟨y2, o2, e2, p2, q2⟩ := hR x hx _ _ p1 (by omega)
  rw [set_set] at e2 p2
  obtain ⟨y, hy, o3, e3, p3⟩ := pick_ok (ds := [.list [s "tag", s n, y1], t [s "tag", s n, y2]]) p2 (by omega) (by simp) (by simp)
  rw [set_set] at e3 p3
  refine ⟨y, o3, ?_, p3.mono (by omega), ?_⟩
  · unfold st__law_bent_5
    refine seq_rt (Eq.trans (if_t (S' := S) (val_ok (bin_ok (S1 := S) (S2 := S) hd_0 rfl (by rw [Ev.eq_str]; rfl)))) (ret_ok (cal_ok (ws := [.r 2, .d (.list [.list [s "tag", s n, y1], t [s "tag", s n, y2]])]) (S' := S.set 2 o2) (cons_ok (S1 := S) rfl (one_ok ?_)) (noEx_ok e3))))
    refine Eq.trans (bd_ok (S' := S.set 2 o2) (a := [.d (.list [s "tag", s n, y1]), .d (t [s "tag", s n, y2])]) (cons_ok (S1 := S.set 2 o1) ?_ (one_ok ?_))) (lst_ok rfl (show 2 ≤ sizeLine by decide))
    · refine bin_ok (S1 := S) (S2 := S.set 2 o1) (x := .d (.list [s "tag", s n])) (y := .d (.list [y1])) (by kernel_rfl) (Eq.trans (bd_ok (S' := S.set 2 o1) (one_ok (cal_ok (ws := [.r 2, .d x]) (S' := S) (cons_ok (S1 := S) rfl (one_ok hd_2)) (noEx_ok e1)))) rfl) (add_l (by simp))
    · refine Eq.trans (bd_ok (S' := S.set 2 o2) (a := [.d (s "tag"), .d (s n), .d y2]) (cons_ok (S1 := S.set 2 o1) rfl (cons_ok (S1 := S.set 2 o1) hd_1 (one_ok (cal_ok (ws := [.r 2, .d x]) (S' := S.set 2 o1) (cons_ok (S1 := S.set 2 o1) rfl (one_ok hd_2)) (noEx_ok e2)))))) (tup_ok rfl (show 3 ≤ sizeLine by decide))
  · simp only [List.mem_cons, List.not_mem_nil, or_false] at hy
    rcases hy with rfl | rfl
    · refine sz_l (by simp) fun d q => ?_
      simp only [List.mem_cons, List.not_mem_nil, or_false] at q
      rcases q with rfl | rfl | rfl
      · rfl
      · exact sz_s hn
      · exact q1
    · refine sz_t (by simp) fun d q => ?_
      simp only [List.mem_cons, List.not_mem_nil, or_false] at q
      rcases q with rfl | rfl | rfl
      · rfl
      · exact sz_s hn
      · exact q2
theorem bt_6 {z : Str} {ds : List D} {o : Option W} (hn : ndA ds = true) (h0 : ds ≠ []) {rest : Env → M Fl} : seqM (st__law_bent_6 R) rest (frB (t [s z, t ds]) o none none) S = rest (frB (t [s z, t ds]) o none none) S := by
  unfold st__law_bent_6
  refine seq_nx (S' := S) (Eq.trans (if_f (S' := S) (val_ok (bin_ok (S1 := S) (S2 := S) (y := .d (.tuple [])) hd_1 rfl ?_))) rfl)
  rw [eq_nilT hn]
  cases ds with
  | nil => exact absurd rfl h0
  | cons a r => rfl
theorem bt_emp {z : Str} (h : Pen S 2 c) (hc : c < 1048576) {rest : Env → M Fl} : ∃ (y : D) (ob : Ob), seqM (st__law_bent_6 R) rest (frB (t [s z, t []]) (some (.d (.list oddD))) none none) S = .ok (.rt (.d y)) (S.set 2 ob) ∧ Pen (S.set 2 ob) 2 (c + 1) ∧ szB y = true := by
  obtain ⟨x, o, e, p, q⟩ := bt_pick (d := t [s z, t []]) (a := none) (p := none) h hc
  refine ⟨x, o, ?_, p, q⟩
  unfold st__law_bent_6
  refine seq_rt (Eq.trans (if_t (S' := S) (val_ok (bin_ok (S1 := S) (S2 := S) (y := .d (.tuple [])) hd_1 rfl ?_))) e)
  rw [eq_nilT (by simp only [ndA])]
  rfl
theorem bt_78 {z : Str} {ds : List D} {o : Option W} (h : Pen S 2 c) (hc : c < 1048576) (h0 : ds ≠ []) (hl : ds.length ≤ 3) {rest : Env → M Fl} : ∃ (i : Int) (x : D) (ob : Ob), x ∈ ds ∧ seqM (st__law_bent_7 R) (seqM (st__law_bent_8 R) rest) (frB (t [s z, t ds]) o none none) S = rest (frB (t [s z, t ds]) o (some (.d (.int i))) (some (.d x))) (S.set 2 ob) ∧ Pen (S.set 2 ob) 2 (c + 1) := by
  have hp : 0 < ds.length := List.length_pos_iff.mpr h0
  obtain ⟨i, ob, e, i1, i2, p⟩ := draw _ 2 _ (ds.length : Int) h hc (by omega) (by omega)
  obtain ⟨x, hx, ha⟩ := atI_ok i1 i2
  refine ⟨i, x, ob, hx, ?_, p⟩
  refine Eq.trans (seq_nx (S' := S.set 2 ob) (δ' := frB (t [s z, t ds]) o (some (.d (.int i))) none) ?_) (seq_nx ?_)
  · unfold st__law_bent_7
    exact asg_ok (cal_ok (ws := [.r 2, .d (.int ds.length)]) (S' := S) (cons_ok (S1 := S) rfl (one_ok (cal_ok (one_ok hd_1) (len_sq (k := false))))) (noEx_ok e))
  · unfold st__law_bent_8
    exact asg_ok (bin_ok (S1 := S.set 2 ob) (S2 := S.set 2 ob) hd_1 rfl (item_t ha))
theorem bt_10 {z : Str} {ds : List D} {o : Option W} {i : Int} {x : D} (hz : z.length ≤ 10) (hl : ds.length ≤ 3) (hd : ∀ d ∈ ds, szB d = true) (hx : szB x = true) : ∃ y : D, st__law_bent_10 R (frB (t [s z, t ds]) o (some (.d (.int i))) (some (.d x))) S = .ok (.rt (.d y)) S ∧ szB y = true := by
  have l1 := cut_len ds none (some i)
  have l2 := cut_len ds (some (i + 1)) none
  refine ⟨t [s z, t (cutL ds none (some i) ++ [x] ++ cutL ds (some (i + 1)) none)], ?_, ?_⟩
  · unfold st__law_bent_10
    refine ret_ok (Eq.trans (bd_ok (S' := S) (a := [.d (s z), .d (t (cutL ds none (some i) ++ [x] ++ cutL ds (some (i + 1)) none))]) (cons_ok (S1 := S) hd_0 (one_ok ?_))) (tup_ok rfl (show 2 ≤ sizeLine by decide)))
    refine bin_ok (S1 := S) (S2 := S) (x := .d (t (cutL ds none (some i) ++ [x]))) (y := .d (t (cutL ds (some (i + 1)) none))) (bin_ok (S1 := S) (S2 := S) (x := .d (t (cutL ds none (some i)))) (y := .d (t [x])) ?_ rfl (add_t (by simp only [List.length_singleton]; omega))) ?_ (add_t (by simp only [List.length_append, List.length_singleton]; omega))
    · exact Eq.trans (bd_ok hd_1) rfl
    · exact Eq.trans (bd_ok hd_1) rfl
  · refine sz_t (by simp) fun d q => ?_
    simp only [List.mem_cons, List.not_mem_nil, or_false] at q
    rcases q with rfl | rfl
    · exact sz_s hz
    · refine sz_t (by simp only [List.length_append, List.length_singleton]; omega) fun d q => ?_
      rcases List.mem_append.mp q with q | q
      · rcases List.mem_append.mp q with q | q
        · exact hd d (cut_mem q)
        · rw [List.mem_singleton.mp q]; exact hx
      · exact hd d (cut_mem q)
theorem bt_or {ds : List D} {o a : Option W} {x : D} (h : Pen S 2 c) (hc : c + CB k < 1048576) (hx : Kd k x) (hR : SubB R k) : ∃ (y : D) (ob : Ob), st__law_bent_9 R (frB (t [s "or", t ds]) o a (some (.d x))) S = .ok (.nx (frB (t [s "or", t ds]) o a (some (.d y)))) (S.set 2 ob) ∧ Pen (S.set 2 ob) 2 (c + CB k) ∧ szB y = true := by
  obtain ⟨y1, o1, e1, p1, q1⟩ := hR x hx S c h (by omega)
  refine ⟨y1, o1, ?_, p1, q1⟩
  unfold st__law_bent_9
  exact asg_ok (Eq.trans (ifV_t (S1 := S) (val_ok (bin_ok (S1 := S) (S2 := S) hd_0 rfl (by rw [Ev.eq_str]; rfl)))) (cal_ok (ws := [.r 2, .d x]) (S' := S) rfl (noEx_ok e1)))
theorem bt_rcd {ds : List D} {o a : Option W} {r : Rw} (h : Pen S 2 c) (hc : c + CB k + 3 < 1048576) (hn : r.1.length ≤ 10) (hx : Kd k r.2.1) (hR : SubB R k) : ∃ (y : D) (ob : Ob), st__law_bent_9 R (frB (t [s "record", t ds]) o a (some (.d (rowD r)))) S = .ok (.nx (frB (t [s "record", t ds]) o a (some (.d y)))) (S.set 2 ob) ∧ Pen (S.set 2 ob) 2 (c + CB k + 2) ∧ szB y = true := by
  have hp := CB_pos k
  obtain ⟨y1, o1, e1, p1, q1⟩ := hR r.2.1 hx S c h (by omega)
  obtain ⟨y2, hy2, o2, e2, p2⟩ := pick_ok (ds := [s "A", .int 5, s "never", s ""]) p1 (by omega) (by simp) (by simp)
  rw [set_set] at e2 p2
  obtain ⟨y, hy, o3, e3, p3⟩ := pick_ok (ds := [t [s r.1, y1, .bool r.2.2], t [s r.1, r.2.1], t [s r.1, r.2.1, .bool r.2.2, .int 1], t [y2, r.2.1, .bool r.2.2], t [s r.1, r.2.1, .none]]) p2 (by omega) (by simp) (by simp)
  rw [set_set] at e3 p3
  have sy2 : szB y2 = true := by
    simp only [List.mem_cons, List.not_mem_nil, or_false] at hy2
    rcases hy2 with rfl | rfl | rfl | rfl <;> rfl
  refine ⟨y, o3, ?_, p3.mono (by omega), ?_⟩
  · unfold st__law_bent_9
    refine asg_ok (Eq.trans (ifV_f (S1 := S) (val_ok (bin_ok (S1 := S) (S2 := S) hd_0 rfl (by rw [Ev.eq_str]; rfl)))) (cal_ok (ws := [.r 2, .d (.list [t [s r.1, y1, .bool r.2.2], t [s r.1, r.2.1], t [s r.1, r.2.1, .bool r.2.2, .int 1], t [y2, r.2.1, .bool r.2.2], t [s r.1, r.2.1, .none]])]) (S' := S.set 2 o2) (cons_ok (S1 := S) rfl (one_ok ?_)) (noEx_ok e3)))
    refine Eq.trans (bd_ok (S' := S.set 2 o2) (a := [.d (t [s r.1, y1, .bool r.2.2]), .d (t [s r.1, r.2.1]), .d (t [s r.1, r.2.1, .bool r.2.2, .int 1]), .d (t [y2, r.2.1, .bool r.2.2]), .d (t [s r.1, r.2.1, .none])]) (cons_ok (S1 := S.set 2 o1) ?_ (cons_ok (S1 := S.set 2 o1) ?_ (cons_ok (S1 := S.set 2 o1) ?_ (cons_ok (S1 := S.set 2 o2) ?_ (one_ok ?_)))))) (lst_ok rfl (show 5 ≤ sizeLine by decide))
    · refine Eq.trans (bd_ok (S' := S.set 2 o1) (a := [.d (s r.1), .d y1, .d (.bool r.2.2)]) (cons_ok (S1 := S) (by kernel_rfl) (cons_ok (S1 := S.set 2 o1) (cal_ok (ws := [.r 2, .d r.2.1]) (S' := S) (by kernel_rfl) (noEx_ok e1)) (one_ok (by kernel_rfl))))) (tup_ok rfl (show 3 ≤ sizeLine by decide))
    · kernel_rfl
    · kernel_rfl
    · refine bin_ok (S1 := S.set 2 o2) (S2 := S.set 2 o2) (x := .d (t [y2])) (y := .d (t [r.2.1, .bool r.2.2])) (Eq.trans (bd_ok (S' := S.set 2 o2) (one_ok (cal_ok (ws := [.r 2, .d (.list [s "A", .int 5, s "never", s ""])]) (S' := S.set 2 o1) (by kernel_rfl) (noEx_ok e2)))) rfl) (by kernel_rfl) (add_t (by simp))
    · kernel_rfl
  · have f1 : szB (s r.1) = true := sz_s hn
    have f2 : szB r.2.1 = true := hx.good.1
    have f3 : szB (.bool r.2.2) = true := rfl
    have f4 : szB (.int 1) = true := rfl
    have f5 : szB .none = true := rfl
    have A : ∀ ds : List D, ds.length ≤ 100 → szA ds = true → szB (t ds) = true := fun ds h1 h2 => by
      simp only [t, szB, Bool.and_eq_true, decide_eq_true_eq]
      exact ⟨h1, h2⟩
    simp only [List.mem_cons, List.not_mem_nil, or_false] at hy
    rcases hy with rfl | rfl | rfl | rfl | rfl
    · exact A _ (by simp) (by simp only [szA, f1, f3, q1, Bool.and_self])
    · exact A _ (by simp) (by simp only [szA, f1, f2, Bool.and_self])
    · exact A _ (by simp) (by simp only [szA, f1, f2, f3, f4, Bool.and_self])
    · exact A _ (by simp) (by simp only [szA, f2, f3, sy2, Bool.and_self])
    · exact A _ (by simp) (by simp only [szA, f1, f2, f5, Bool.and_self])
end
theorem bent_ok : ∀ (n k : Nat), k < n → SubB (F__law_bent n) k
  | 0, k, h => by omega
  | n + 1, k, hk => fun d hd S c h hc => by
    have hp := CB_pos k
    suffices ∃ (x : D) (o : Ob), b__law_bent (F__law_bent n) (frB d none none none) S = .ok (.rt (.d x)) (S.set 2 o) ∧ Pen (S.set 2 o) 2 (c + CB k) ∧ szB x = true by
      obtain ⟨d, o, e, p, q⟩ := this
      refine ⟨d, o, ?_, p, q⟩
      unfold F__law_bent
      exact run_rt rfl e
    unfold b__law_bent
    rw [bt_odd]
    rcases bt_4 (R := F__law_bent n) (d := d) h (by omega) with ⟨x, o, e, p, q⟩ | ⟨hs, o, e, p⟩
    · exact ⟨x, o, e, p.mono (by omega), q⟩
    rw [e]
    cases hd with
    | str k z hz => exact absurd rfl (hs z)
    | emp k z hz =>
      rw [bt_5 (by rcases hz with rfl | rfl <;> decide)]
      obtain ⟨x, o2, e2, p2, q⟩ := bt_emp (R := F__law_bent n) (z := z) p (by omega)
      rw [set_set] at e2 p2
      exact ⟨x, o2, e2, p2.mono (by omega), q⟩
    | tag k nm x hn hx =>
      simp only [CB] at hc ⊢
      obtain ⟨y, o2, e2, p2, q⟩ := bt_tag (R := F__law_bent n) p (by omega) hn hx (bent_ok n k (by omega))
      rw [set_set] at e2 p2
      exact ⟨y, o2, e2, p2.mono (by omega), q⟩
    | rcd k zs h0 hl hn hx =>
      have hp := CB_pos k
      simp only [CB] at hc ⊢
      have hg := (Kd.rcd k zs h0 hl hn hx).good
      have hsz : ∀ y ∈ zs.map rowD, szB y = true := by
        have := hg.1
        simp only [t, szB, szA, Bool.and_eq_true] at this
        exact szA_mem this.2.2.1.2
      have hnd : ndA (zs.map rowD) = true := by
        have := hg.2
        simp only [t, nd, ndA, Bool.and_eq_true] at this
        exact this.2.1
      have hne : zs.map rowD ≠ [] := by intro q; exact h0 (List.map_eq_nil_iff.mp q)
      rw [bt_5 (by decide), bt_6 hnd hne]
      obtain ⟨i, x, o2, hx1, e2, p2⟩ := bt_78 (R := F__law_bent n) (z := "record") (ds := zs.map rowD) (o := some (.d (.list oddD))) (rest := seqM (st__law_bent_9 (F__law_bent n)) (st__law_bent_10 (F__law_bent n))) p (by omega) hne (by rw [List.length_map]; exact hl)
      rw [set_set] at e2 p2
      rw [e2]
      obtain ⟨r, hr, rfl⟩ := List.mem_map.mp hx1
      obtain ⟨y, o3, e3, p3, q3⟩ := bt_rcd (R := F__law_bent n) (ds := zs.map rowD) (o := some (.d (.list oddD))) (a := some (.d (.int i))) p2 (by omega) (hn r hr) (hx r hr) (bent_ok n k (by omega))
      rw [set_set] at e3 p3
      obtain ⟨w, e4, q4⟩ := bt_10 (R := F__law_bent n) (S := S.set 2 o3) (z := "record") (ds := zs.map rowD) (o := some (.d (.list oddD))) (i := i) (x := y) (by decide) (by rw [List.length_map]; exact hl) hsz q3
      exact ⟨w, o3, Eq.trans (seq_nx e3) e4, p3.mono (by omega), q4⟩
    | or k ds h0 hl hx =>
      have hp := CB_pos k
      simp only [CB] at hc ⊢
      have hnd : ndA ds = true := ndA_of fun y hy => (hx y hy).good.2
      rw [bt_5 (by decide), bt_6 hnd h0]
      obtain ⟨i, x, o2, hx1, e2, p2⟩ := bt_78 (R := F__law_bent n) (z := "or") (ds := ds) (o := some (.d (.list oddD))) (rest := seqM (st__law_bent_9 (F__law_bent n)) (st__law_bent_10 (F__law_bent n))) p (by omega) h0 hl
      rw [set_set] at e2 p2
      rw [e2]
      obtain ⟨y, o3, e3, p3, q3⟩ := bt_or (R := F__law_bent n) (ds := ds) (o := some (.d (.list oddD))) (a := some (.d (.int i))) p2 (by omega) (hx x hx1) (bent_ok n k (by omega))
      rw [set_set] at e3 p3
      obtain ⟨w, e4, q4⟩ := bt_10 (R := F__law_bent n) (S := S.set 2 o3) (z := "or") (ds := ds) (o := some (.d (.list oddD))) (i := i) (x := y) (by decide) hl (fun y hy => (hx y hy).good.1) q3
      exact ⟨w, o3, Eq.trans (seq_nx e3) e4, p3.mono (by omega), q4⟩
end DL.k27
namespace DL.k27
open PySem PySem.Spec PyProof.Rows L2 DL DL.Ev

/-! ### the turns -/
section
variable {P0 P1 : Addr} {S : Sto} {c : Int} {sc tn kd du mn rw tl wd at_ : Option W}
theorem turn_2 (h : Pen S 2 c) (hc : c + 2000 < 1048576) : ∃ (d : D) (o : Ob), st_law_2 P0 P1 (frK sc tn kd du mn rw tl wd at_) S = .ok (.nx (frK sc tn (some (.d d)) du mn rw tl wd at_)) (S.set 2 o) ∧ Pen (S.set 2 o) 2 (c + 1300) ∧ szB d = true := by
  have hk : CK 4 = 1043 := by decide
  have hb : CB 4 = 198 := by decide
  obtain ⟨d, o1, e1, p1, q1⟩ := kind_ok 5 4 (by omega) S c h (by omega)
  obtain ⟨x, o2, e2, p2, q2⟩ := bent_ok 6 4 (by omega) d q1 _ _ p1 (by omega)
  rw [set_set] at e2 p2
  refine ⟨x, o2, ?_, p2.mono (by omega), q2⟩
  unfold st_law_2
  exact asg_ok (cal_ok (ws := [.r 2, .d d]) (S' := S.set 2 o1) (cons_ok (S1 := S) rfl (one_ok (cal_ok (ws := [.r 2, .d (.int 4)]) (S' := S) rfl (noEx_ok e1)))) (noEx_ok e2))
theorem turn_ok (hS : S.take 2 = SS P0 P1) (h : Pen S 2 c) (hc : c + 2000 < 1048576) : ∃ (o : Ob) (kd' du' : Option W), body_law_1 P0 P1 (frK sc tn kd du mn rw tl wd at_) S = .ok (.nx (frK sc tn kd' du' mn rw tl wd at_)) (S.set 2 o) ∧ Pen (S.set 2 o) 2 (c + 1300) := by
  obtain ⟨d, o, e, p, q⟩ := turn_2 (P0 := P0) (P1 := P1) (sc := sc) (tn := tn) (kd := kd) (du := du) (mn := mn) (rw := rw) (tl := tl) (wd := wd) (at_ := at_) h hc
  have hS2 : (S.set 2 o).take 2 = SS P0 P1 := by rw [take_set]; exact hS
  refine ⟨o, some (.d d), some (okb (tyOk d)), ?_, p⟩
  unfold body_law_1
  exact Eq.trans (seq_nx e) (Eq.trans (seq_nx (turn_3 q)) (Eq.trans (seq_nx (turn_4 q hS2)) (turn_5 q hS2)))
end
theorem turns_ok {P0 P1 : Addr} : ∀ (ws : List W) (S : Sto) (c : Int), S.take 2 = SS P0 P1 → Pen S 2 c → c + 1300 * ws.length + 2000 < 1048576 → ∀ (sc tn kd du mn rw tl wd at_ : Option W),
    ∃ (o : Ob) (tn' kd' du' : Option W), forL (setG 2) (body_law_1 P0 P1) ws (frK sc tn kd du mn rw tl wd at_) S = .ok (.nx (frK sc tn' kd' du' mn rw tl wd at_)) (S.set 2 o) ∧ Pen (S.set 2 o) 2 (c + 1300 * ws.length)
  | [], S, c, _, h, _ => fun sc tn kd du mn rw tl wd at_ => by
    obtain ⟨o, e⟩ := pen_same h
    exact ⟨o, tn, kd, du, by rw [e]; rfl, by rw [e]; exact h.mono (by simp)⟩
  | w :: ws, S, c, hS, h, hc => fun sc tn kd du mn rw tl wd at_ => by
    simp only [List.length_cons] at hc
    obtain ⟨o1, k1, d1, e1, p1⟩ := turn_ok (P0 := P0) (P1 := P1) (sc := sc) (tn := some w) (kd := kd) (du := du) (mn := mn) (rw := rw) (tl := tl) (wd := wd) (at_ := at_) hS h (by omega)
    obtain ⟨o2, tn2, k2, d2, e2, p2⟩ := turns_ok (P0 := P0) (P1 := P1) ws _ _ (by rw [take_set]; exact hS) p1 (by omega) sc (some w) k1 d1 mn rw tl wd at_
    rw [set_set] at e2 p2
    refine ⟨o2, tn2, k2, d2, ?_, p2.mono (by simp only [List.length_cons]; omega)⟩
    exact Eq.trans (loop_cons (δ1 := frK sc (some w) kd du mn rw tl wd at_) (S1 := S) rfl e1) e2
/-! ### what a type is, of known shape -/
section
variable {k : Nat} {h : Int}
theorem ty_t (hh : h ≠ 0) {ds : List D} : tyB (k + 1) h (t ds) = shB (tyB k h) (tyB k (h - 1)) ds := tyB_items (kk := false) hh
theorem ty_l (hh : h ≠ 0) {ds : List D} : tyB (k + 1) h (.list ds) = shB (tyB k h) (tyB k (h - 1)) ds := tyB_items (kk := true) hh
theorem ty_0 {d : D} : tyB k 0 d = false := by
  cases k with
  | zero => unfold tyB; rfl
  | succ k => unfold tyB; rw [if_pos rfl]
theorem sh_tag {fo fi : D → Bool} {n : Str} {x : D} (hn : nmS n = true) : shB fo fi [s "tag", s n, x] = fi x := by
  show (decide (("tag" : Str) = "tag") && (nmB (s n) && fi x)) = fi x
  rw [show nmB (s n) = true from hn]
  simp
theorem sh_or {fo fi : D → Bool} {x : D} {ds : List D} (hx : itemsD x = some ds) : shB fo fi [s "or", x] = ds.all fo := by
  show (match itemsD x with
    | some ys => if ("or" : Str) = "or" then ys.all fo else if ("or" : Str) = "record" then decide (ys.length ≤ 60) && rowsG fi [] ys else false
    | none => false) = _
  rw [hx]
  exact if_pos rfl
theorem sh_rcd {fo fi : D → Bool} {x : D} {ds : List D} (hx : itemsD x = some ds) : shB fo fi [s "record", x] = (decide (ds.length ≤ 60) && rowsG fi [] ds) := by
  show (match itemsD x with
    | some ys => if ("record" : Str) = "or" then ys.all fo else if ("record" : Str) = "record" then decide (ys.length ≤ 60) && rowsG fi [] ys else false
    | none => false) = _
  rw [hx]
  show (if ("record" : Str) = "or" then ds.all fo else if ("record" : Str) = "record" then decide (ds.length ≤ 60) && rowsG fi [] ds else false) = _
  rw [if_neg (by decide), if_pos rfl]
theorem ty_s (hh : h ≠ 0) {z : Str} : tyB (k + 1) h (s z) = decide (z ∈ (["atom", "never"] : List Str)) := by unfold tyB; rw [if_neg hh]
theorem rows_all {f : D → Bool} : ∀ (zs : List Rw) (ns : List Str), (∀ x ∈ zs, nmS x.1 = true ∧ f x.2.1 = true ∧ x.1 ∉ ns) → (zs.map fun x => x.1).Nodup → rowsG f ns (zs.map rowD) = true
  | [], ns, _, _ => by unfold rowsG; rfl
  | x :: zs, ns, h, hn => by
    obtain ⟨h1, h2, h3⟩ := h x (.head _)
    have := rowsG_good (f := f) (ns := ns) (kk := false) (z := x.1) (x := x.2.1) (b := x.2.2) (rs := zs.map rowD) h1
    rw [List.map_cons] at hn ⊢
    have hn := List.nodup_cons.mp hn
    refine Eq.trans this ?_
    rw [h2, decide_eq_false h3, rows_all zs (ns ++ [x.1]) (fun y hy => ?_) hn.2]
    · rfl
    · obtain ⟨g1, g2, g3⟩ := h y (.tail _ hy)
      refine ⟨g1, g2, fun q => ?_⟩
      rcases List.mem_append.mp q with q | q
      · exact g3 q
      · rw [List.mem_singleton] at q
        exact hn.1 (by rw [← q]; exact List.mem_map_of_mem hy)
end
/-! ### many rows -/
def chA : List Nat := ("abcdefgh" : Str).cps.toList
def chB : List Nat := ("abcdefghij" : Str).cps.toList
def nmI (i : Nat) : Str := (⟨#[chA.getD (i / 10) 0]⟩ : Str) ++ (⟨#[chB.getD (i % 10) 0]⟩ : Str)
theorem nmI_ok : ∀ i ∈ List.range 62, nmS (nmI i) = true := by
  have : (List.range 62).all (fun i => nmS (nmI i)) = true := by kernel_rfl
  exact List.all_eq_true.mp this
theorem nmI_nodup : ((List.range 62).map nmI).Nodup := by decide +kernel
theorem atI_nat {xs : List Nat} {i : Nat} (h : i < xs.length) : atI xs (i : Int) = some (xs.getD i 0) := by
  unfold L2.atI L2.ixN
  rw [if_pos (by omega), if_pos (by omega)]
  simp [h]
theorem item_str {z : Str} {i : Nat} (hz : z.length ≤ sizeLine) {S : Sto} (h : i < z.cps.toList.length) : itemM (.d (.str z)) (.d (.int (i : Int))) S = .ok (.d (.str ⟨#[z.cps.toList.getD i 0]⟩)) S := by
  unfold itemM
  simp only
  rw [if_pos hz]
  simp only [atI_nat h]
section
variable {P0 P1 : Addr} {S : Sto} {c : Int} {sc tn kd du mn rw tl wd at_ : Option W}
theorem name_at {i : Nat} (hi : i < 62) : (binM (binM (cM (.str "abcdefgh")) (binM (calM (consM (varM 9) nilM) intM) (cM (.int 10)) fdvM) itemM) (binM (cM (.str "abcdefghij")) (binM (calM (consM (varM 9) nilM) intM) (cM (.int 10)) modM) itemM) addM) (frK sc tn kd du mn rw tl wd (some (.d (.int (0 + (i : Nat)))))) S = .ok (.d (s (nmI i))) S := by
  have e0 : (0 : Int) + (i : Nat) = (i : Int) := by omega
  rw [e0]
  have v : calM (consM (varM 9) nilM) intM (frK sc tn kd du mn rw tl wd (some (.d (.int (i : Int))))) S = .ok (.d (.int (i : Int))) S := cal_ok (one_ok rfl) rfl
  have d1 : fdvM (.d (.int (i : Int))) (.d (.int 10)) S = .ok (.d (.int ((i / 10 : Nat) : Int))) S := by
    unfold fdvM
    simp only
    rw [if_pos ⟨by omega, by omega⟩]
    rfl
  have d2 : modM (.d (.int (i : Int))) (.d (.int 10)) S = .ok (.d (.int ((i % 10 : Nat) : Int))) S := by
    unfold modM
    simp only
    rw [if_pos (by omega)]
    rfl
  refine bin_ok (S1 := S) (S2 := S) (bin_ok (S1 := S) (S2 := S) rfl (bin_ok (S1 := S) (S2 := S) v rfl d1) (item_str (by decide) (show i / 10 < 8 by omega))) (bin_ok (S1 := S) (S2 := S) rfl (bin_ok (S1 := S) (S2 := S) v rfl d2) (item_str (by decide) (show i % 10 < 10 by omega))) ?_
  unfold addM
  simp only
  refine (if_pos ?_).trans rfl
  show 1 + 1 ≤ sizeLine
  decide
end
end DL.k27
namespace DL.k27
open PySem PySem.Spec PyProof.Rows L2 DL DL.Ev

/-! ### many rows, refused just above sixty -/
abbrev itE : Env → M W := (fun δ => bd ((consM (binM (binM (cM (.str "abcdefgh")) (binM (calM (consM (varM 9) nilM) intM) (cM (.int 10)) fdvM) itemM) (binM (cM (.str "abcdefghij")) (binM (calM (consM (varM 9) nilM) intM) (cM (.int 10)) modM) itemM) addM) (consM (calM (consM (varM 1) (consM (fun δ => bd ((consM (cM (.str "atom")) (consM (cM (.str "never")) nilM)) δ) lstM) nilM)) fun ws => noEx (F__law_pick ws)) (consM (binM (binM (varM 9) (cM (.int 2)) modM) (cM (.int 0)) eqM) nilM))) δ) tupM)
def ix (i : Nat) : W := .d (.int (0 + (i : Nat)))
abbrev QR (w : W) (d : D) : Prop := ∃ (i : Nat) (x : Rw), w = ix i ∧ d = rowD x ∧ x.1 = nmI i ∧ (x.2.1 = s "atom" ∨ x.2.1 = s "never")
theorem rows_is : ∀ (is : List Nat) (ds : List D), Paired QR (is.map ix) ds → ∃ zs : List Rw, ds = zs.map rowD ∧ (zs.map fun x => x.1) = is.map nmI ∧ ∀ x ∈ zs, x.2.1 = s "atom" ∨ x.2.1 = s "never"
  | [], _, h => by cases h; exact ⟨[], rfl, rfl, fun _ q => by cases q⟩
  | i :: is, _, h => by
    rw [List.map_cons] at h
    cases h with
    | cons a p =>
      obtain ⟨zs, rfl, e2, e3⟩ := rows_is is _ p
      obtain ⟨j, x, hi, rfl, hx, hk⟩ := a
      have : i = j := by
        unfold ix at hi
        injection hi with hi
        injection hi with hi
        omega
      subst this
      refine ⟨x :: zs, rfl, by rw [List.map_cons, List.map_cons, hx, e2], fun y hy => ?_⟩
      rcases List.mem_cons.mp hy with rfl | hy
      · exact hk
      · exact e3 y hy
theorem ty_an {k : Nat} {h : Int} (hh : h ≠ 0) {d : D} (hd : d = s "atom" ∨ d = s "never") : tyB (k + 1) h d = true := by
  rcases hd with rfl | rfl
  · rw [ty_s hh]; decide
  · rw [ty_s hh]; decide
section
variable {P0 P1 : Addr} {S : Sto} {c : Int} {sc tn kd du mn rw tl wd at_ : Option W}
theorem st6_ok (h : Pen S 2 c) (hc : c < 1048576) : ∃ (m : Nat) (o : Ob), 59 ≤ m ∧ m ≤ 62 ∧ st_law_6 P0 P1 (frK sc tn kd du mn rw tl wd at_) S = .ok (.nx (frK sc tn kd du (some (.d (.int (m : Int)))) rw tl wd at_)) (S.set 2 o) ∧ Pen (S.set 2 o) 2 (c + 1) := by
  obtain ⟨k, o, e, k1, k2, p⟩ := draw S 2 c 4 h hc (by omega) (by omega)
  obtain ⟨m, hm⟩ : ∃ m : Nat, 59 + k = (m : Int) := ⟨(59 + k).toNat, by omega⟩
  refine ⟨m, o, by omega, by omega, ?_, p⟩
  unfold st_law_6
  rw [← hm]
  exact asg_ok (bin_ok (S1 := S) (S2 := S.set 2 o) rfl (cal_ok (ws := [.r 2, .d (.int 4)]) (S' := S) rfl (noEx_ok e)) (Ev.add_int _ _))
theorem st7_ok {m : Nat} (h : Pen S 2 c) (hc : c + 100 < 1048576) (hm : m ≤ 62) : ∃ (zs : List Rw) (o : Ob), st_law_7 P0 P1 (frK sc tn kd du (some (.d (.int (m : Int)))) rw tl wd none) S = .ok (.nx (frK sc tn kd du (some (.d (.int (m : Int)))) (some (.d (.list (zs.map rowD)))) tl wd none)) (S.set 2 o) ∧ Pen (S.set 2 o) 2 (c + m) ∧
    (zs.map fun x => x.1) = (List.range m).map nmI ∧ ∀ x ∈ zs, x.2.1 = s "atom" ∨ x.2.1 = s "never" := by
  obtain ⟨ds, o, e, p, q⟩ := comp_penP (own := [9]) (g := setG 9) (e := itE) (δ := frK sc tn kd du (some (.d (.int (m : Int)))) rw tl wd none) (n := 2) (B := 1) (by omega) QR ((List.range m).map ix) S c h (by rw [List.length_map, List.length_range]; omega) (fun w hw S c h hc => by
    obtain ⟨i, hi, rfl⟩ := List.mem_map.mp hw
    have hi := List.mem_range.mp hi
    obtain ⟨x, hx, o1, e1, p1⟩ := pick_ok (ds := [s "atom", s "never"]) h (by omega) (by simp) (by simp)
    refine ⟨rowD (nmI i, x, decide ((0 + (i : Int)) % 2 = 0)), o1, frK sc tn kd du (some (.d (.int (m : Int)))) rw tl wd (some (ix i)), rfl, ?_, p1, i, _, rfl, rfl, rfl, ?_⟩
    · have hmod : modM (.d (.int (0 + (i : Nat)))) (.d (.int 2)) (S.set 2 o1) = .ok (.d (.int ((0 + (i : Int)) % 2))) (S.set 2 o1) := by
        unfold modM
        simp only
        rw [if_pos (by omega)]
        rfl
      exact Eq.trans (bd_ok (S' := S.set 2 o1) (a := [.d (s (nmI i)), .d x, .d (.bool (decide ((0 + (i : Int)) % 2 = 0)))]) (cons_ok (S1 := S) (name_at (by omega)) (cons_ok (S1 := S.set 2 o1) (cal_ok (ws := [.r 2, .d (.list [s "atom", s "never"])]) (S' := S) (by kernel_rfl) (noEx_ok e1)) (one_ok (bin_ok (S1 := S.set 2 o1) (S2 := S.set 2 o1) (bin_ok (S1 := S.set 2 o1) (S2 := S.set 2 o1) rfl rfl hmod) rfl (Ev.eq_int _ _)))))) (tup_ok rfl (show 3 ≤ sizeLine by decide))
    · simp only [List.mem_cons, List.not_mem_nil, or_false] at hx
      exact hx)
  obtain ⟨zs, rfl, z1, z2⟩ := rows_is _ _ q
  rw [List.length_map, List.length_range] at p
  refine ⟨zs, o, ?_, p.mono (by omega), z1, z2⟩
  unfold st_law_7
  refine asg_ok ?_
  unfold lcM
  refine Eq.trans (bd_ok (S' := S) (a := (List.range m).map ix) ?_) (Eq.trans (bd_ok e) (lst_small ?_))
  · refine Eq.trans (bd_ok (S' := S) (a := [.d (.int (m : Int))]) rfl) ?_
    unfold rng1M
    simp only
    rw [if_pos ⟨by omega, by omega⟩]
    rfl
  · have := congrArg List.length z1
    rw [List.length_map, List.length_map, List.length_range] at this
    rw [List.length_map]
    omega
theorem st8_ok {m : Nat} {zs : List Rw} (hS : S.take 2 = SS P0 P1) (hm : m ≤ 62) (z1 : (zs.map fun x => x.1) = (List.range m).map nmI) (z2 : ∀ x ∈ zs, x.2.1 = s "atom" ∨ x.2.1 = s "never") :
    st_law_8 P0 P1 (frK sc tn kd du (some (.d (.int (m : Int)))) (some (.d (.list (zs.map rowD)))) tl wd at_) S = .ok (.nx (frK sc tn kd du (some (.d (.int (m : Int)))) (some (.d (.list (zs.map rowD)))) tl wd at_)) S := by
  have hl : zs.length = m := by
    have := congrArg List.length z1
    rw [List.length_map, List.length_map, List.length_range] at this
    exact this
  have hsub : ∀ i, i ∈ List.range m → i ∈ List.range 62 := fun i q => List.mem_range.mpr (by have := List.mem_range.mp q; omega)
  have hnm : ∀ x ∈ zs, ∃ i ∈ List.range m, x.1 = nmI i := fun x hx => by
    have : x.1 ∈ zs.map fun x => x.1 := List.mem_map_of_mem hx
    rw [z1] at this
    obtain ⟨i, q, e⟩ := List.mem_map.mp this
    exact ⟨i, q, e.symm⟩
  have hnd : (zs.map fun x => x.1).Nodup := by
    rw [z1]
    have h62 := nmI_nodup
    have e : List.range 62 = List.range m ++ (List.range (62 - m)).map (m + ·) := by
      rw [← List.range_add, show m + (62 - m) = 62 by omega]
    rw [e, List.map_append] at h62
    exact (List.nodup_append.mp h62).1
  have good : ∀ (k : Nat) (h : Int), h ≠ 0 → ∀ x ∈ zs, nmS x.1 = true ∧ tyB (k + 1) h x.2.1 = true ∧ x.1 ∉ ([] : List Str) := fun k h hh x hx => by
    obtain ⟨i, q, e⟩ := hnm x hx
    exact ⟨by rw [e]; exact nmI_ok i (hsub i q), ty_an hh (z2 x hx), by simp⟩
  have row_sz : ∀ d ∈ zs.map rowD, szB d = true := fun d hd => by
    obtain ⟨x, hx, rfl⟩ := List.mem_map.mp hd
    obtain ⟨i, q, e⟩ := hnm x hx
    have h1 : szB (s x.1) = true := by
      rw [e]
      exact List.all_eq_true.mp (show (List.range 62).all (fun i => szB (s (nmI i))) = true by kernel_rfl) i (hsub i q)
    have h2 : szB x.2.1 = true := by rcases z2 x hx with e | e <;> rw [e] <;> rfl
    refine sz_t (by simp) fun d q => ?_
    simp only [List.mem_cons, List.not_mem_nil, or_false] at q
    rcases q with rfl | rfl | rfl
    · exact h1
    · exact h2
    · rfl
  have b1 : tyOk (t [s "record", .list (zs.map rowD)]) = decide ((m : Int) ≤ 60) := by
    unfold tyOk
    rw [ty_t (by decide), sh_rcd (ds := zs.map rowD) rfl, List.length_map, hl, rows_all zs [] (good 22 (8 - 1) (by decide)) hnd, Bool.and_true]
    exact decide_eq_decide.mpr (by omega)
  have rv : (zs.map rowD).reverse = zs.reverse.map rowD := List.map_reverse.symm
  have b2 : tyOk (t [s "tag", s "t", .list [s "record", .list (zs.map rowD).reverse]]) = decide ((m : Int) ≤ 60) := by
    unfold tyOk
    rw [ty_t (by decide), sh_tag (by kernel_rfl), ty_l (by decide), sh_rcd (ds := (zs.map rowD).reverse) rfl, rv, List.length_map, List.length_reverse, hl, rows_all zs.reverse [] (fun x hx => good 21 (8 - 1 - 1) (by decide) x (List.mem_reverse.mp hx)) (by rw [List.map_reverse]; exact List.pairwise_reverse.mpr (hnd.imp fun h => Ne.symm h)), Bool.and_true]
    exact decide_eq_decide.mpr (by omega)
  have s1 : szB (t [s "record", .list (zs.map rowD)]) = true := by
    refine sz_t (by simp) fun d q => ?_
    simp only [List.mem_cons, List.not_mem_nil, or_false] at q
    rcases q with rfl | rfl
    · rfl
    · exact sz_l (by rw [List.length_map]; omega) row_sz
  have s2 : szB (t [s "tag", s "t", .list [s "record", .list (zs.map rowD).reverse]]) = true := by
    refine sz_t (by simp) fun d q => ?_
    simp only [List.mem_cons, List.not_mem_nil, or_false] at q
    rcases q with rfl | rfl | rfl
    · rfl
    · rfl
    · refine sz_l (by simp) fun d q => ?_
      simp only [List.mem_cons, List.not_mem_nil, or_false] at q
      rcases q with rfl | rfl
      · rfl
      · exact sz_l (by rw [List.length_reverse, List.length_map]; omega) fun d q => row_sz d (List.mem_reverse.mp q)
  have e1 := istype_ok (P0 := P0) (P1 := P1) s1 hS
  have e2 := istype_ok (P0 := P0) (P1 := P1) s2 hS
  rw [b1] at e1
  rw [b2] at e2
  have le : calM (consM (binM (varM 5) (cM (.int 60)) leM) nilM) reprM (frK sc tn kd du (some (.d (.int (m : Int)))) (some (.d (.list (zs.map rowD)))) tl wd at_) S = .ok (.d (s (if decide ((m : Int) ≤ 60) = true then "True" else "False"))) S :=
    cal_ok (one_ok (bin_ok (S1 := S) (S2 := S) rfl rfl (Ev.le_int _ _))) (repr_b _)
  unfold st_law_8
  refine Eq.trans (if_f (S' := S) (Eq.trans (orT_f (S1 := S) (val_ok (bin_ok (S1 := S) (S2 := S) (cal_ok (one_ok (cal_ok (S' := S) (ws := [.d (t [s "record", .list (zs.map rowD)])]) (one_ok (Eq.trans (bd_ok (S' := S) (a := [.d (s "record"), .d (.list (zs.map rowD))]) rfl) (tup_ok rfl (show 2 ≤ sizeLine by decide)))) (noEx_ok e1))) (repr_b _)) le ?_))) (val_ok (bin_ok (S1 := S) (S2 := S) (cal_ok (one_ok (cal_ok (S' := S) (ws := [.d (t [s "tag", s "t", .list [s "record", .list (zs.map rowD).reverse]])]) (one_ok ?_) (noEx_ok e2))) (repr_b _)) le ?_)))) rfl
  · exact ne_same (by simp [PyData.depth]) (by simp only [nd])
  · have inner : (fun δ => bd ((consM (cM (.str "record")) (consM (fun δ => bd ((varM 6) δ) revM) nilM)) δ) lstM) (frK sc tn kd du (some (.d (.int (m : Int)))) (some (.d (.list (zs.map rowD)))) tl wd at_) S = .ok (.d (.list [s "record", .list (zs.map rowD).reverse])) S := by
      refine Eq.trans (bd_ok (S' := S) (a := [.d (s "record"), .d (.list (zs.map rowD).reverse)]) (cons_ok (S1 := S) rfl (one_ok ?_))) ?_
      · exact Eq.trans (bd_ok (varM_at rfl)) rfl
      · exact lst_ok rfl (show 2 ≤ sizeLine by decide)
    exact Eq.trans (bd_ok (S' := S) (a := [.d (s "tag"), .d (s "t"), .d (.list [s "record", .list (zs.map rowD).reverse])]) (cons_ok (S1 := S) rfl (cons_ok (S1 := S) rfl (one_ok inner)))) (tup_ok rfl (show 3 ≤ sizeLine by decide))
  · exact ne_same (by simp [PyData.depth]) (by simp only [nd])
end
/-! ### tall -/
structure Tl (j : Nat) (d : D) : Prop where
  sz : szB d = true
  ty : ∀ (k h : Nat), tyB (k + j + 1) (h : Int) d = decide (j < h)
theorem Tl.top {j : Nat} {d : D} (h : Tl j d) (hj : j ≤ 23) : tyOk d = decide (j < 8) := by
  have := h.ty (23 - j) 8
  rw [show 23 - j + j + 1 = 24 by omega] at this
  exact this
theorem Tl.base {d : D} (h : d = s "atom" ∨ d = t [s "record", t []] ∨ d = t [s "or", t []]) : Tl 0 d := by
  refine ⟨by rcases h with rfl | rfl | rfl <;> rfl, fun k h' => ?_⟩
  by_cases hh : h' = 0
  · subst hh
    exact ty_0
  · have hz : (h' : Int) ≠ 0 := by omega
    rw [decide_eq_true (by omega)]
    rcases h with rfl | rfl | rfl
    · exact ty_an hz (.inl rfl)
    · rw [ty_t hz, sh_rcd (ds := []) rfl]
      unfold rowsG
      rfl
    · rw [ty_t hz, sh_or (ds := []) rfl]
      rfl
theorem Tl.step {j : Nat} {d e : D} (h : Tl j d) (he : e = t [s "tag", s "t", d] ∨ e = t [s "record", t [t [s "a", d, .bool false]]] ∨ e = .list [s "tag", s "no", d]) : Tl (j + 1) e := by
  have hd := h.sz
  refine ⟨?_, fun k h' => ?_⟩
  · rcases he with rfl | rfl | rfl
    · simp only [t, szB, szA, hd, s]; rfl
    · simp only [t, szB, szA, hd, s]; rfl
    · simp only [szB, szA, hd, s]; rfl
  · match h' with
    | 0 => exact ty_0
    | h' + 1 =>
      have hz : ((h' + 1 : Nat) : Int) ≠ 0 := by omega
      have e1 : ((h' + 1 : Nat) : Int) - 1 = (h' : Int) := by omega
      have hy := h.ty k h'
      have e2 : decide (j + 1 < h' + 1) = decide (j < h') := decide_eq_decide.mpr (by omega)
      rw [e2, show k + (j + 1) + 1 = (k + j + 1) + 1 by omega]
      rcases he with rfl | rfl | rfl
      · rw [ty_t hz, sh_tag (by kernel_rfl), e1, hy]
      · rw [ty_t hz, sh_rcd (ds := [t [s "a", d, .bool false]]) rfl, e1]
        have := rowsG_good (f := tyB (k + j + 1) (h' : Int)) (ns := []) (kk := false) (z := "a") (x := d) (b := false) (rs := []) (by kernel_rfl)
        refine Eq.trans (congrArg _ this) ?_
        rw [hy]
        conv => lhs; unfold rowsG
        simp
      · rw [ty_l hz, sh_tag (by kernel_rfl), e1, hy]
theorem tall_ok {P0 P1 : Addr} : ∀ (ws : List W) (S : Sto) (c : Int) (j : Nat) (d : D), S.take 2 = SS P0 P1 → Pen S 2 c → c + ws.length < 1048576 → Tl j d → j + ws.length ≤ 8 → ∀ (sc tn kd du mn rw wd at_ : Option W),
    ∃ (o : Ob) (tn' : Option W) (d' : D), forL (setG 2) (body_law_2 P0 P1) ws (frK sc tn kd du mn rw (some (.d d)) wd at_) S = .ok (.nx (frK sc tn' kd du mn rw (some (.d d')) wd at_)) (S.set 2 o) ∧ Pen (S.set 2 o) 2 (c + ws.length) ∧ Tl (j + ws.length) d'
  | [], S, c, j, d, _, h, _, ht, _ => fun sc tn kd du mn rw wd at_ => by
    obtain ⟨o, e⟩ := pen_same h
    exact ⟨o, tn, d, by rw [e]; rfl, by rw [e]; exact h.mono (by simp), ht⟩
  | w :: ws, S, c, j, d, hS, h, hc, ht, hj => fun sc tn kd du mn rw wd at_ => by
    simp only [List.length_cons] at hc hj
    have e10 : st_law_10 P0 P1 (frK sc (some w) kd du mn rw (some (.d d)) wd at_) S = .ok (.nx (frK sc (some w) kd du mn rw (some (.d d)) wd at_)) S := by
      have e := istype_ok (P0 := P0) (P1 := P1) ht.sz hS
      rw [ht.top (by omega), decide_eq_true (by omega)] at e
      unfold st_law_10
      exact Eq.trans (if_f (S' := S) (val_ok (bin_ok (S1 := S) (S2 := S) (cal_ok (S' := S) (ws := [.d d]) rfl (noEx_ok e)) rfl rfl))) rfl
    obtain ⟨x, hx, o1, e1, p1⟩ := pick_ok (ds := [t [s "tag", s "t", d], t [s "record", t [t [s "a", d, .bool false]]], .list [s "tag", s "no", d]]) h (by omega) (by simp) (by simp)
    have hx : x = t [s "tag", s "t", d] ∨ x = t [s "record", t [t [s "a", d, .bool false]]] ∨ x = .list [s "tag", s "no", d] := by
      simpa only [List.mem_cons, List.not_mem_nil, or_false] using hx
    have e11 : st_law_11 P0 P1 (frK sc (some w) kd du mn rw (some (.d d)) wd at_) S = .ok (.nx (frK sc (some w) kd du mn rw (some (.d x)) wd at_)) (S.set 2 o1) := by
      unfold st_law_11
      exact asg_ok (cal_ok (S' := S) (ws := [.r 2, .d (.list [t [s "tag", s "t", d], t [s "record", t [t [s "a", d, .bool false]]], .list [s "tag", s "no", d]])]) (by kernel_rfl) (noEx_ok e1))
    obtain ⟨o2, tn2, d2, e2, p2, ht2⟩ := tall_ok ws _ _ (j + 1) x (by rw [take_set]; exact hS) p1 (by omega) (ht.step hx) (by omega) sc (some w) kd du mn rw wd at_
    rw [set_set] at e2 p2
    refine ⟨o2, tn2, d2, ?_, p2.mono (by simp only [List.length_cons]; omega), by rw [List.length_cons, show j + (ws.length + 1) = j + 1 + ws.length by omega]; exact ht2⟩
    refine Eq.trans (loop_cons (δ1 := frK sc (some w) kd du mn rw (some (.d d)) wd at_) (S1 := S) rfl ?_) e2
    unfold body_law_2
    exact Eq.trans (seq_nx e10) e11
end DL.k27
namespace DL.k27
open PySem PySem.Spec PyProof.Rows L2 DL DL.Ev

/-! ### wide: or in or -/
inductive Wd : Nat → D → D → Prop where
  | base : Wd 0 (s "atom") (s "atom")
  | one (j : Nat) (d r : D) (h : Wd j d r) : Wd (j + 1) (t [s "or", .list [d]]) (t [s "or", t [r]])
  | two (j : Nat) (d r : D) (h : Wd j d r) : Wd (j + 1) (t [s "or", t [s "never", d]]) (t [s "or", t [s "never", r]])
theorem Wd.sz {j : Nat} {d r : D} (h : Wd j d r) : szB d = true := by
  induction h with
  | base => rfl
  | one j d r h ih => simp only [t, szB, szA, ih, s]; rfl
  | two j d r h ih => simp only [t, szB, szA, ih, s]; rfl
theorem ty_none {h : Int} {d : D} : tyB 0 h d = false := by unfold tyB; rfl
theorem Wd.ty {j : Nat} {d r : D} (w : Wd j d r) : ∀ k, tyB k 8 d = decide (j < k) := by
  induction w with
  | base =>
    intro k
    cases k with
    | zero => exact ty_none
    | succ k => exact (ty_an (by decide) (.inl rfl)).trans (decide_eq_true (Nat.succ_pos k)).symm
  | one j d r h ih =>
    intro k
    cases k with
    | zero => exact ty_none
    | succ k =>
      rw [ty_t (by decide), sh_or (ds := [d]) rfl]
      simp only [List.all_cons, List.all_nil, Bool.and_true, ih]
      exact decide_eq_decide.mpr (by omega)
  | two j d r h ih =>
    intro k
    cases k with
    | zero => exact ty_none
    | succ k =>
      rw [ty_t (by decide), sh_or (ds := [s "never", d]) rfl]
      simp only [List.all_cons, List.all_nil, Bool.and_true, ih]
      have e : decide (j + 1 < k + 1) = decide (j < k) := decide_eq_decide.mpr (by omega)
      rw [e]
      cases k with
      | zero => rw [ty_none]; rfl
      | succ k => rw [ty_an (by decide) (.inr rfl)]; rfl
theorem wd_str {j : Nat} {d r : D} (h : Wd j d r) : (∃ z, d = s z ∧ r = s z) ∨ (∀ z, d ≠ .str z) := by
  cases h with
  | base => exact .inl ⟨_, rfl, rfl⟩
  | one j d r h => exact .inr fun z q => by cases q
  | two j d r h => exact .inr fun z q => by cases q
def orF (r : D) : D → D
  | .str z => .str z
  | _ => r
theorem orF_ok {j : Nat} {d r : D} (h : Wd j d r) : orF r d = r := by
  rcases wd_str h with ⟨z, rfl, rfl⟩ | h
  · rfl
  · cases d with
    | str z => exact absurd rfl (h z)
    | _ => rfl
theorem typed_text {P0 P1 : Addr} {n : Nat} {p : Int} {z : Str} (hp : p ≠ 24) (hz : z ∈ (["atom", "never"] : List Str)) {S : Sto} (hS : S.take 2 = SS P0 P1) : F_typed P0 P1 (n + 1) [.d (s z), .d (.int 8), .d (.int p)] S = .ok (.d (s z)) S := by
  have := ty_text (P0 := P0) (P1 := P1) (RF := F_typed_fields P0 P1 n) (R := F_typed P0 P1 n) (m := 8) (p := p) z
  rw [decide_eq_true hz] at this
  unfold F_typed
  refine pureT_ok (S0 := SS P0 P1) rfl hS (run_rt rfl ?_) rfl
  unfold b_typed
  exact ty_head (by decide) hp this
theorem typed_wide {P0 P1 : Addr} {j : Nat} {d r : D} (w : Wd j d r) : ∀ (n : Nat) (p : Int), j < n → p + j < 24 → ∀ S, S.take 2 = SS P0 P1 → F_typed P0 P1 n [.d d, .d (.int 8), .d (.int p)] S = .ok (.d r) S := by
  induction w with
  | base =>
    intro n p hn hp S hS
    obtain ⟨n, rfl⟩ : ∃ m, n = m + 1 := ⟨n - 1, by omega⟩
    exact typed_text (by omega) (by decide) hS
  | one j d r h ih =>
    intro n p hn hp S hS
    obtain ⟨n, rfl⟩ : ∃ m, n = m + 1 := ⟨n - 1, by omega⟩
    unfold F_typed
    refine pureT_ok (S0 := SS P0 P1) rfl hS (run_rt rfl ?_) rfl
    unfold b_typed
    refine ty_head (by decide) (by omega) ?_
    refine Eq.trans (ty_good (d := t [s "or", .list [d]]) (by intro z q; cases q) rfl) ?_
    refine Eq.trans (ty_6 (kk := false) (z := "or") (k2 := true) (ys := [d]) (by decide)) ?_
    refine Eq.trans (ty_or (f := orF r) (by simp) fun y hy => ?_) ?_
    · rw [List.mem_singleton.mp hy, orF_ok h]
      exact ih n (p + 1) (by omega) (by omega) _ rfl
    · rw [List.map_cons, List.map_nil, orF_ok h]
      have : ([r] : List D).any isN = false := by cases h <;> rfl
      rw [this]
      rfl
  | two j d r h ih =>
    intro n p hn hp S hS
    obtain ⟨n, rfl⟩ : ∃ m, n = m + 1 := ⟨n - 1, by omega⟩
    unfold F_typed
    refine pureT_ok (S0 := SS P0 P1) rfl hS (run_rt rfl ?_) rfl
    unfold b_typed
    refine ty_head (by decide) (by omega) ?_
    refine Eq.trans (ty_good (d := t [s "or", t [s "never", d]]) (by intro z q; cases q) rfl) ?_
    refine Eq.trans (ty_6 (kk := false) (z := "or") (k2 := false) (ys := [s "never", d]) (by decide)) ?_
    refine Eq.trans (ty_or (f := orF r) (by simp) fun y hy => ?_) ?_
    · rcases List.mem_cons.mp hy with rfl | hy
      · obtain ⟨n, rfl⟩ : ∃ m, n = m + 1 := ⟨n - 1, by omega⟩
        exact typed_text (by omega) (by decide) rfl
      · rw [List.mem_singleton.mp hy, orF_ok h]
        exact ih n (p + 1) (by omega) (by omega) _ rfl
    · rw [List.map_cons, List.map_cons, List.map_nil, orF_ok h]
      have : ([orF r (s "never"), r] : List D).any isN = false := by cases h <;> rfl
      rw [this]
      rfl
/-! ### its values -/
abbrev frL6 (d : D) (b c e f : Option W) : Env := [some (.d d), none, b, c, e, f]
abbrev B0 : Sto := [.obj "Book" [("kept", .r 1)], .dct []]
abbrev B1 : Sto := [.obj "Book" [("kept", .r 1)], .dct [(.inr "'atom'", .d (t [s "atom", .bool true]))]]
section
variable {R : List W → M W} {k r : D}
theorem ls_head {ds : List D} {rest : Env → M Fl} : seqM (st_listed_1 R) (seqM (st_listed_2 R) (seqM (st_listed_3 R) (seqM (st_listed_4 R) rest))) (frL6 (t [s "or", t ds]) none none none none) [] = rest (frL6 (t [s "or", t ds]) (some (.r 0)) none none none) B0 := by
  refine Eq.trans (seq_nx (S' := []) (δ' := frL6 (t [s "or", t ds]) none none none none) (by kernel_rfl)) ?_
  refine Eq.trans (seq_nx (S' := []) (δ' := frL6 (t [s "or", t ds]) none none none none) (by kernel_rfl)) ?_
  refine Eq.trans (seq_nx (S' := []) (δ' := frL6 (t [s "or", t ds]) none none none none) (by kernel_rfl)) ?_
  exact seq_nx (by kernel_rfl)
theorem ls_never {x y z : Option W} (hR : ∀ S, R [.d (s "never")] S = .ok (.d (.list [])) S) : body_listed_2 R (frL6 k (some (.r 0)) (some (.d (s "never"))) y z) B0 = .ok (.nx (frL6 k (some (.r 0)) (some (.d (s "never"))) (some (.d (.list []))) z)) B0 := by
  unfold body_listed_2
  refine Eq.trans (seq_nx (S' := B0) (δ' := frL6 k (some (.r 0)) (some (.d (s "never"))) (some (.d (.list []))) z) ?_) (by kernel_rfl)
  unfold st_listed_5
  exact asg_ok (cal_ok (S' := B0) (ws := [.d (s "never")]) rfl (noEx_ok (hR _)))
theorem ls_part {y z : Option W} (hR : ∀ S, R [.d r] S = .ok (.d (.list [s "atom"])) S) : body_listed_2 R (frL6 k (some (.r 0)) (some (.d r)) y z) B0 = .ok (.nx (frL6 k (some (.r 0)) (some (.d r)) (some (.d (.list [s "atom"]))) (some (.d (s "atom"))))) B1 := by
  unfold body_listed_2
  refine Eq.trans (seq_nx (S' := B0) (δ' := frL6 k (some (.r 0)) (some (.d r)) (some (.d (.list [s "atom"]))) z) ?_) (by kernel_rfl)
  unfold st_listed_5
  exact asg_ok (cal_ok (S' := B0) (ws := [.d r]) rfl (noEx_ok (hR _)))
theorem ls_end {x y z : Option W} : st_listed_8 R (frL6 k (some (.r 0)) x y z) B1 = .ok (.rt (.d (.list [s "atom"]))) B1 := by kernel_rfl
end
theorem list_never : ∀ (n : Nat) (S : Sto), F_listed (n + 1) [.d (s "never")] S = .ok (.d (.list [])) S := fun n S => by
  unfold F_listed
  refine pure_ok (S0 := []) rfl (run_rt rfl ?_)
  unfold b_listed
  exact seq_rt (by kernel_rfl)
theorem list_wide {j : Nat} {d r : D} (w : Wd j d r) : ∀ (n : Nat), j < n → ∀ S, F_listed n [.d r] S = .ok (.d (.list [s "atom"])) S := by
  induction w with
  | base =>
    intro n hn S
    obtain ⟨n, rfl⟩ : ∃ m, n = m + 1 := ⟨n - 1, by omega⟩
    unfold F_listed
    refine pure_ok (S0 := []) rfl (run_rt rfl ?_)
    unfold b_listed
    exact seq_rt (by kernel_rfl)
  | one j d r h ih =>
    intro n hn S
    obtain ⟨n, rfl⟩ : ∃ m, n = m + 1 := ⟨n - 1, by omega⟩
    unfold F_listed
    refine pure_ok (S0 := B1) rfl (run_rt rfl ?_)
    unfold b_listed
    refine Eq.trans ls_head ?_
    refine Eq.trans (seq_nx (S' := B1) (δ' := frL6 (t [s "or", t [r]]) (some (.r 0)) (some (.d r)) (some (.d (.list [s "atom"]))) (some (.d (s "atom")))) ?_) ls_end
    unfold forM
    refine Eq.trans (bd_ok (S' := B0) (a := [.d r]) (Eq.trans (bd_ok (bin_ok (S1 := B0) (S2 := B0) rfl rfl (item_t at1))) rfl)) ?_
    exact Eq.trans (loop_cons (S1 := B0) (δ1 := frL6 (t [s "or", t [r]]) (some (.r 0)) (some (.d r)) none none) rfl (ls_part (ih n (by omega)))) rfl
  | two j d r h ih =>
    intro n hn S
    obtain ⟨n, rfl⟩ : ∃ m, n = m + 1 := ⟨n - 1, by omega⟩
    obtain ⟨m, rfl⟩ : ∃ m, n = m + 1 := ⟨n - 1, by omega⟩
    unfold F_listed
    refine pure_ok (S0 := B1) rfl (run_rt rfl ?_)
    unfold b_listed
    refine Eq.trans ls_head ?_
    refine Eq.trans (seq_nx (S' := B1) (δ' := frL6 (t [s "or", t [s "never", r]]) (some (.r 0)) (some (.d r)) (some (.d (.list [s "atom"]))) (some (.d (s "atom")))) ?_) ls_end
    unfold forM
    refine Eq.trans (bd_ok (S' := B0) (a := [.d (s "never"), .d r]) (Eq.trans (bd_ok (bin_ok (S1 := B0) (S2 := B0) rfl rfl (item_t at1))) rfl)) ?_
    refine Eq.trans (loop_cons (S1 := B0) (δ1 := frL6 (t [s "or", t [s "never", r]]) (some (.r 0)) (some (.d (s "never"))) none none) rfl (ls_never (x := none) (list_never m))) ?_
    exact Eq.trans (loop_cons (S1 := B0) (δ1 := frL6 (t [s "or", t [s "never", r]]) (some (.r 0)) (some (.d r)) (some (.d (.list []))) none) rfl (ls_part (ih (m + 1) (by omega)))) rfl
theorem values_wide {j : Nat} {d r : D} (w : Wd j d r) (hj : j < 26) (S : Sto) : F_values_in [.d r] S = .ok (.d (t [s "atom"])) S := by
  unfold F_values_in
  refine pure_ok (S0 := []) rfl (run_rt rfl ?_)
  unfold b_values_in
  refine Eq.trans (seq_nx (S' := []) (δ' := [some (.d r), some (.d (.list [s "atom"]))]) ?_) (by kernel_rfl)
  unfold st_values_in_1
  exact asg_ok (cal_ok (S' := []) (ws := [.d r]) rfl (noEx_ok (list_wide w 26 hj _)))
theorem need_ok {P0 P1 : Addr} {d r : D} {S : Sto} (h : ∀ S, S.take 2 = SS P0 P1 → F_typed P0 P1 52 [.d d, .d (.int 8), .d (.int 0)] S = .ok (.d r) S) (hr : isN r = false) (w : Str) (hS : S.take 2 = SS P0 P1) : F_need_type P0 P1 [.d d, .d (.str w)] S = .ok (.d r) S := by
  unfold F_need_type
  refine pureT_ok (S0 := SS P0 P1) rfl hS (run_rt rfl ?_) rfl
  unfold b_need_type
  refine Eq.trans (seq_nx (S' := SS P0 P1) (δ' := [some (.d d), some (.d (.str w)), some (.d r)]) ?_) (Eq.trans (seq_nx (S' := SS P0 P1) (δ' := [some (.d d), some (.d (.str w)), some (.d r)]) ?_) rfl)
  · unfold st_need_type_1
    exact asg_ok (cal_ok (S' := SS P0 P1) (ws := [.d d]) rfl (noEx_ok (h _ rfl)))
  · unfold st_need_type_2
    refine Eq.trans (if_f (S' := SS P0 P1) (val_ok (bin_ok (S1 := SS P0 P1) (S2 := SS P0 P1) (x := .d r) rfl rfl ?_))) rfl
    rw [is_n, hr]
theorem values_of_wide {P0 P1 : Addr} {j : Nat} {d r : D} {S : Sto} (w : Wd j d r) (hj : j < 24) (hS : S.take 2 = SS P0 P1) : F_values_of P0 P1 [.d d] S = .ok (.d (t [s "atom"])) S := by
  unfold F_values_of
  refine pureT_ok (S0 := SS P0 P1) rfl hS (run_rt rfl ?_) rfl
  unfold b_values_of st_values_of_1
  refine ret_ok (cal_ok (S' := SS P0 P1) (ws := [.d r]) (one_ok (cal_ok (S' := SS P0 P1) (ws := [.d d, .d (.str "told")]) rfl (noEx_ok (noEx_ok (need_ok (fun S hS => typed_wide w 52 0 (by omega) (by omega) S hS) (by cases w <;> rfl) "told" rfl))))) (noEx_ok (values_wide w (by omega) _)))
theorem wide_ok {P0 P1 : Addr} : ∀ (ws : List W) (S : Sto) (c : Int) (j : Nat) (d r : D), Pen S 2 c → c + ws.length < 1048576 → Wd j d r → ∀ (sc tn kd du mn rw tl at_ : Option W),
    ∃ (o : Ob) (tn' : Option W) (d' r' : D), forL (setG 2) (body_law_3 P0 P1) ws (frK sc tn kd du mn rw tl (some (.d d)) at_) S = .ok (.nx (frK sc tn' kd du mn rw tl (some (.d d')) at_)) (S.set 2 o) ∧ Wd (j + ws.length) d' r'
  | [], S, c, j, d, r, h, _, ht => fun sc tn kd du mn rw tl at_ => by
    obtain ⟨o, e⟩ := pen_same h
    exact ⟨o, tn, d, r, by rw [e]; rfl, ht⟩
  | w :: ws, S, c, j, d, r, h, hc, ht => fun sc tn kd du mn rw tl at_ => by
    simp only [List.length_cons] at hc
    obtain ⟨k, o1, e1, k1, k2, p1⟩ := draw S 2 c 2 h (by omega) (by omega) (by omega)
    have tk : valT (binM (calM (consM (varM 1) (consM (cM (.int 2)) nilM)) fun ws => noEx (F__law_draw ws)) (cM (.int 0)) eqM) (frK sc (some w) kd du mn rw tl (some (.d d)) at_) S = .ok (decide (k = 0)) (S.set 2 o1) :=
      val_ok (bin_ok (S1 := S.set 2 o1) (S2 := S.set 2 o1) (x := .d (.int k)) (y := .d (.int 0)) (cal_ok (ws := [.r 2, .d (.int 2)]) (S' := S) rfl (noEx_ok e1)) rfl (Ev.eq_int _ _))
    have step : ∃ (d1 r1 : D), body_law_3 P0 P1 (frK sc (some w) kd du mn rw tl (some (.d d)) at_) S = .ok (.nx (frK sc (some w) kd du mn rw tl (some (.d d1)) at_)) (S.set 2 o1) ∧ Wd (j + 1) d1 r1 := by
      by_cases hk : k = 0
      · rw [decide_eq_true hk] at tk
        refine ⟨_, _, ?_, .one j d r ht⟩
        unfold body_law_3 st_law_12
        exact asg_ok (Eq.trans (bd_ok (a := [.d (s "or"), .d (.list [d])]) (S' := S.set 2 o1) (cons_ok (S1 := S) rfl (one_ok (Eq.trans (ifV_t tk) rfl)))) rfl)
      · rw [decide_eq_false hk] at tk
        refine ⟨_, _, ?_, .two j d r ht⟩
        unfold body_law_3 st_law_12
        exact asg_ok (Eq.trans (bd_ok (a := [.d (s "or"), .d (t [s "never", d])]) (S' := S.set 2 o1) (cons_ok (S1 := S) rfl (one_ok (Eq.trans (ifV_f tk) rfl)))) rfl)
    obtain ⟨d1, r1, e2, ht1⟩ := step
    obtain ⟨o3, tn3, d3, r3, e3, ht3⟩ := wide_ok (P0 := P0) (P1 := P1) ws _ _ (j + 1) d1 r1 p1 (by omega) ht1 sc (some w) kd du mn rw tl at_
    rw [set_set] at e3
    refine ⟨o3, tn3, d3, r3, ?_, by rw [List.length_cons, show j + (ws.length + 1) = j + 1 + ws.length by omega]; exact ht3⟩
    exact Eq.trans (loop_cons (δ1 := frK sc (some w) kd du mn rw tl (some (.d d)) at_) (S1 := S) rfl e2) e3
end DL.k27
namespace DL.k27
open PySem PySem.Spec PyProof.Rows L2 DL DL.Ev

/-! ### the law, in plain Lean -/
theorem pen_ok (P0 P1 : Addr) (ns : List Int) (h : ns.length ≤ 63) : ∃ cs : List Int, cs.length ≤ 63 ∧ F__law_pen [.s ns] (SS P0 P1) = .ok (.r 2) [.tab P0 qL_law, .tab P1 qL_typed_fields, penO cs 0 0] := by
  have hl : (cutL ns none (some 63)).length ≤ 63 := Nat.le_trans (cut_len _ _ _) h
  refine ⟨cutL ns none (some 63), hl, ?_⟩
  generalize hcs : cutL ns none (some 63) = cs at hl
  unfold F__law_pen
  refine run_rt rfl ?_
  unfold b__law_pen st__law_pen_1
  refine ret_ok (Eq.trans (bd_ok (a := [.d (.list (cs.map .int)), .d (.int 0), .d (.int 0)]) (S' := SS P0 P1) (cons_ok (S1 := SS P0 P1) ?_ rfl)) rfl)
  refine cal_ok (S' := SS P0 P1) (ws := [.d (.list (cs.map .int))]) (one_ok ?_) rfl
  rw [← hcs]
  rfl
section
variable {P0 P1 : Addr} {S : Sto} {sc tn kd du mn rw at_ : Option W}
theorem is_bb (a b : Bool) : isM (okb a) (.d (.bool b)) S = .ok (okb (decide (a = b))) S := by cases a <;> cases b <;> rfl
theorem st13_ok {tl wd r : D} (hS : S.take 2 = SS P0 P1) (ht : Tl 8 tl) (hw : Wd 23 wd r) : st_law_13 P0 P1 (frK sc tn kd du mn rw (some (.d tl)) (some (.d wd)) at_) S = .ok (.rt (okb true)) S := by
  have e1 := istype_ok (P0 := P0) (P1 := P1) ht.sz hS
  rw [ht.top (by omega), decide_eq_false (by omega)] at e1
  have e2 := istype_ok (P0 := P0) (P1 := P1) hw.sz hS
  rw [show tyOk wd = true from (hw.ty 24).trans (by decide)] at e2
  have s3 : szB (t [s "or", t [wd]]) = true := by simp only [t, szB, szA, hw.sz, s]; rfl
  have e3 := istype_ok (P0 := P0) (P1 := P1) s3 hS
  have y3 : tyOk (t [s "or", t [wd]]) = false := by
    unfold tyOk
    rw [ty_t (by decide), sh_or (ds := [wd]) rfl]
    simp only [List.all_cons, List.all_nil, Bool.and_true, hw.ty]
    decide
  rw [y3] at e3
  have e4 := values_of_wide hw (by omega) hS
  unfold st_law_13
  refine ret_ok ?_
  refine Eq.trans (andV_t (S1 := S) (bin_ok (S1 := S) (S2 := S) (cal_ok (S' := S) (ws := [.d tl]) rfl (noEx_ok e1)) rfl rfl)) ?_
  refine Eq.trans (andV_t (S1 := S) (bin_ok (S1 := S) (S2 := S) (cal_ok (S' := S) (ws := [.d wd]) rfl (noEx_ok e2)) rfl rfl)) ?_
  refine Eq.trans (andV_t (S1 := S) (bin_ok (S1 := S) (S2 := S) (cal_ok (S' := S) (ws := [.d (t [s "or", t [wd]])]) (one_ok ?_) (noEx_ok e3)) rfl rfl)) ?_
  · exact Eq.trans (bd_ok (S' := S) (a := [.d (s "or"), .d (t [wd])]) rfl) (tup_ok rfl (show 2 ≤ sizeLine by decide))
  · exact bin_ok (S1 := S) (S2 := S) (y := .d (t [s "atom"])) (cal_ok (S' := S) (ws := [.d wd]) rfl (noEx_ok e4)) rfl (eq_same (by decide) (by decide))
end
theorem plain : ∀ (P0 P1 : Addr) (ns : List Int), ns.length ≤ 63 → ∃ S, F_law P0 P1 [.s ns] [.tab P0 qL_law, .tab P1 qL_typed_fields] = .ok (.d (.bool true)) S := by
  intro P0 P1 ns hns
  obtain ⟨cs, hcs, hp⟩ := pen_ok P0 P1 ns hns
  have p0 : Pen [.tab P0 qL_law, .tab P1 qL_typed_fields, penO cs 0 0] 2 0 := ⟨cs, 0, 0, rfl, by omega, by omega, by omega, hcs⟩
  obtain ⟨w24, l24, h24⟩ : ∃ ws : List W, ws.length = 24 ∧ ∀ (δ : Env) (S : Sto), DL.bd ((consM (cM (.int 24)) nilM) δ) rng1M S = .ok ws S := ⟨_, rfl, fun _ _ => rfl⟩
  obtain ⟨w8, l8, h8⟩ : ∃ ws : List W, ws.length = 8 ∧ ∀ (δ : Env) (S : Sto), DL.bd ((consM (cM (.int 8)) nilM) δ) rng1M S = .ok ws S := ⟨_, rfl, fun _ _ => rfl⟩
  obtain ⟨w23, l23, h23⟩ : ∃ ws : List W, ws.length = 23 ∧ ∀ (δ : Env) (S : Sto), DL.bd ((consM (cM (.int 23)) nilM) δ) rng1M S = .ok ws S := ⟨_, rfl, fun _ _ => rfl⟩
  have k1 : ([.tab P0 qL_law, .tab P1 qL_typed_fields, penO cs 0 0] : Sto).take 2 = SS P0 P1 := rfl
  obtain ⟨o1, tn1, kd1, du1, e1, p1⟩ := turns_ok (P0 := P0) (P1 := P1) w24 _ _ k1 p0 (by rw [l24]; omega) (some (.s ns)) none none none none none none none none
  rw [l24] at p1
  obtain ⟨m, o2, m1, m2, e2, p2⟩ := st6_ok (P0 := P0) (P1 := P1) (sc := some (.s ns)) (tn := tn1) (kd := kd1) (du := du1) (mn := none) (rw := none) (tl := none) (wd := none) (at_ := none) p1 (by omega)
  rw [set_set] at e2 p2
  obtain ⟨zs, o3, e3, p3, z1, z2⟩ := st7_ok (P0 := P0) (P1 := P1) (sc := some (.s ns)) (tn := tn1) (kd := kd1) (du := du1) (rw := none) (tl := none) (wd := none) (m := m) p2 (by omega) m2
  rw [set_set] at e3 p3
  have k3 : (([.tab P0 qL_law, .tab P1 qL_typed_fields, penO cs 0 0] : Sto).set 2 o3).take 2 = SS P0 P1 := rfl
  have e4 := st8_ok (P0 := P0) (P1 := P1) (sc := some (.s ns)) (tn := tn1) (kd := kd1) (du := du1) (tl := none) (wd := none) (at_ := none) k3 m2 z1 z2
  obtain ⟨tl, htl, o5, e5, p5⟩ := pick_ok (ds := [s "atom", t [s "record", t []], t [s "or", t []]]) p3 (by omega) (by simp) (by simp)
  rw [set_set] at e5 p5
  have htl : Tl 0 tl := Tl.base (by simpa only [List.mem_cons, List.not_mem_nil, or_false] using htl)
  have k5 : (([.tab P0 qL_law, .tab P1 qL_typed_fields, penO cs 0 0] : Sto).set 2 o5).take 2 = SS P0 P1 := rfl
  obtain ⟨o6, tn6, tl6, e6, p6, h6⟩ := tall_ok (P0 := P0) (P1 := P1) w8 _ _ 0 tl k5 p5 (by rw [l8]; omega) htl (by rw [l8]; omega) (some (.s ns)) tn1 kd1 du1 (some (.d (.int (m : Int)))) (some (.d (.list (zs.map rowD)))) (some (.d (s "atom"))) none
  rw [set_set] at e6 p6
  rw [l8] at p6 h6
  obtain ⟨o7, tn7, wd7, r7, e7, h7⟩ := wide_ok (P0 := P0) (P1 := P1) w23 _ _ 0 _ _ p6 (by rw [l23]; omega) .base (some (.s ns)) tn6 kd1 du1 (some (.d (.int (m : Int)))) (some (.d (.list (zs.map rowD)))) (some (.d tl6)) none
  rw [set_set] at e7
  rw [l23] at h7
  have k7 : (([.tab P0 qL_law, .tab P1 qL_typed_fields, penO cs 0 0] : Sto).set 2 o7).take 2 = SS P0 P1 := rfl
  refine ⟨([.tab P0 qL_law, .tab P1 qL_typed_fields, penO cs 0 0] : Sto).set 2 o7, ?_⟩
  unfold F_law
  refine run_rt rfl ?_
  unfold b_law
  refine Eq.trans (seq_nx (δ' := frK (some (.s ns)) none none none none none none none none) (S' := [.tab P0 qL_law, .tab P1 qL_typed_fields, penO cs 0 0]) ?_) ?_
  · unfold st_law_1
    exact asg_ok (cal_ok (ws := [.s ns]) (S' := SS P0 P1) rfl (noEx_ok hp))
  refine Eq.trans (seq_nx (Eq.trans (bd_ok (h24 _ _)) e1)) ?_
  refine Eq.trans (seq_nx e2) (Eq.trans (seq_nx e3) (Eq.trans (seq_nx e4) ?_))
  refine Eq.trans (seq_nx (δ' := frK (some (.s ns)) tn1 kd1 du1 (some (.d (.int (m : Int)))) (some (.d (.list (zs.map rowD)))) (some (.d tl)) (some (.d (s "atom"))) none) (S' := ([.tab P0 qL_law, .tab P1 qL_typed_fields, penO cs 0 0] : Sto).set 2 o5) ?_) ?_
  · unfold st_law_9 parM
    refine Eq.trans (bd_ok (a := [.d tl, .d (s "atom")]) (S' := ([.tab P0 qL_law, .tab P1 qL_typed_fields, penO cs 0 0] : Sto).set 2 o5) (cons_ok (S1 := ([.tab P0 qL_law, .tab P1 qL_typed_fields, penO cs 0 0] : Sto).set 2 o5) (cal_ok (S' := ([.tab P0 qL_law, .tab P1 qL_typed_fields, penO cs 0 0] : Sto).set 2 o3) (ws := [.r 2, .d (.list [s "atom", t [s "record", t []], t [s "or", t []]])]) (by kernel_rfl) (noEx_ok e5)) rfl)) rfl
  refine Eq.trans (seq_nx (Eq.trans (bd_ok (h8 _ _)) e6)) ?_
  refine Eq.trans (seq_nx (Eq.trans (bd_ok (h23 _ _)) e7)) ?_
  exact st13_ok k7 h6 h7
end DL.k27
namespace DL.k27
open PySem PySem.Spec PyProof.Rows L2 DL
section
variable {l : PySem.W.OpenLaw} {w : World} {K : PySem.W.Frag} {h : Heap} {mg : Str → Option Value} {fa : Addr}
theorem all_of (X : K.In h) (G : h.Ns mainGlobals mg) (hfa : mg "law" = some (.ref fa))
    (e0 : ∃ f fd, DefOk K mg "is_listed" s_is_listed ["value"] f fd)
    (e1 : ∃ f fd, DefOk K mg "is_name" s_is_name ["value"] f fd)
    (e2 : ∃ f fd, DefOk K mg "words_of" s_words_of ["value"] f fd)
    (e3 : ∃ f fd, DefOk K mg "text_of" s_text_of ["value"] f fd)
    (e4 : ∃ f fd, DefOk K mg "typed_fields" s_typed_fields ["rows", "most", "deep"] f fd)
    (e5 : ∃ f fd, DefD K mg "typed" s_typed ["value", "most", "deep"] f fd ∧ FunD K "typed" "typed" (defArgs s_typed) (defBody s_typed) (defScope s_typed) [V.int 8, V.int 0] [] f fd)
    (e6 : ∃ f fd, DefOk K mg "is_type" s_is_type ["value"] f fd)
    (e7 : ∃ f fd, DefOk K mg "need_type" s_need_type ["value", "part"] f fd)
    (e8 : ∃ f fd, DefOk K mg "listed" s_listed ["kind"] f fd)
    (e9 : ∃ f fd, DefOk K mg "values_in" s_values_in ["kind"] f fd)
    (e10 : ∃ f fd, DefOk K mg "values_of" s_values_of ["told"] f fd)
    (e11 : ∃ f fd, DefOk K mg "has" s_has ["told", "value"] f fd)
    (e12 : ∃ f fd, DefOk K mg "within" s_within ["one", "other"] f fd)
    (e13 : ∃ f fd, DefOk K mg "_law_pen" s__law_pen ["script"] f fd)
    (e14 : ∃ f fd, DefOk K mg "_law_draw" s__law_draw ["pen", "many"] f fd)
    (e15 : ∃ f fd, DefOk K mg "_law_pick" s__law_pick ["pen", "some"] f fd)
    (e16 : ∃ f fd, DefOk K mg "_law_drawn_kind" s__law_drawn_kind ["pen", "deep"] f fd)
    (e17 : ∃ f fd, DefOk K mg "_law_heard" s__law_heard ["ask"] f fd)
    (e18 : ∃ f fd, DefOk K mg "_law_is_name" s__law_is_name ["value"] f fd)
    (e19 : ∃ f fd, DefOk K mg "_law_is_type" s__law_is_type ["value", "high", "deep"] f fd)
    (e20 : ∃ f fd, DefOk K mg "_law_bent" s__law_bent ["pen", "kind"] f fd)
    (e21 : ∃ f fd, DefOk K mg "law" s_law ["script"] f fd ∧ ∀ (s : Shared) (u : Value), BindsTo s fd ⟨[u], []⟩ [("script", u)])
    (e22 : ∃ f fd, MakOk K mg "Book" "Book.__init__" s_Book___init__ ["self"] f fd)
    (e23 : ∃ f fd, MetOk K "Book" "put" "Book.put" s_Book_put ["self", "key", "told"] f fd)
    (e24 : ∃ f fd, MetOk K "Book" "size" "Book.size" s_Book_size ["self"] f fd)
    (e25 : ∃ f fd, MetOk K "Book" "all_keys" "Book.all_keys" s_Book_all_keys ["self"] f fd)
    (m_isinstance : mg "isinstance" = none)
    (m_list : mg "list" = none)
    (m_tuple : mg "tuple" = none)
    (m_str : mg "str" = none)
    (m_len : mg "len" = none)
    (m_all : mg "all" = none)
    (m_bool : mg "bool" = none)
    (m_sorted : mg "sorted" = none)
    (m_any : mg "any" = none)
    (m_repr : mg "repr" = none)
    (m_int : mg "int" = none)
    (m_abs : mg "abs" = none)
    (m_range : mg "range" = none)
    (r_BadType : RaiseTx l.prog K mg "BadType" "part" "bad type")
    (k_TooMany : KindTx K mg "TooMany" [("BadType", false)])
    (k_NoName : KindTx K mg "NoName" [("BadType", false)])
    (k_BadText : KindTx K mg "BadText" [("BadType", false)])
    (k_BadType : KindTx K mg "BadType" [("BadType", true)])
    (k_BadValue : KindTx K mg "BadValue" [("BadType", false)])
    (k_BadSignature : KindTx K mg "BadSignature" [("BadType", false)])
    (k_BadModule : KindTx K mg "BadModule" [("BadType", false)])
    (k_BadProgram : KindTx K mg "BadProgram" [("BadType", false)])
    (k_Misfit : KindTx K mg "Misfit" [("BadType", false)])
    (c_MeetError : CatchTx K mg "MeetError" ["BadType"])
    (f_BadType_part : FieldTx K "BadType" "part")
    (y_kept : FldTx K "kept" ["Book"])
    (c_LONGEST : ∃ t, mg "LONGEST" = some (.int 8 t))
    (c_WORDS : ∃ a, mg "WORDS" = some (.ref a) ∧ SqTw K a (DL.k27.c_WORDS.map V.str))
    (c_LETTERS : ∃ t, mg "LETTERS" = some (.str "abcdefghijklmnopqrstuvwxyz" t))
    (c_MOST_FIELDS : ∃ t, mg "MOST_FIELDS" = some (.int 60 t))
    (c_MOST_DEEP : ∃ t, mg "MOST_DEEP" = some (.int 24 t))
    (c_ATOM : ∃ t, mg "ATOM" = some (.str "atom" t))
    (c_NEVER : ∃ t, mg "NEVER" = some (.str "never" t))
    (c_TAG : ∃ t, mg "TAG" = some (.str "tag" t))
    (c_RECORD : ∃ t, mg "RECORD" = some (.str "record" t))
    (c_OR : ∃ t, mg "OR" = some (.str "or" t))
    (c_MOST_VALUES : ∃ t, mg "MOST_VALUES" = some (.int 60 t))
    {c0 P0 c1 P1 : Addr}
    (u0 : CodeTx K h mg "law" c0 P0)
    (u1 : CodeTx K h mg "typed_fields" c1 P1)
    (hnd : [P0, P1].Nodup)
    (hF : ∀ (P0 P1 : Addr) (ns : List Int), ns.length ≤ 63 → ∃ S, F_law P0 P1 [.s ns] [.tab P0 qL_law, .tab P1 qL_typed_fields] = .ok (.d (.bool true)) S) :
    ∃ (fd : FuncData) (Ts : List Tb), (∀ t ∈ Ts, h.get? t.P = some { cls := .none, data := .fields #[] }) ∧ (∀ t ∈ Ts, K.lookup t.P = none) ∧ (∀ t ∈ Ts, PySem.W.CodeHd h t.c t.P) ∧ (∀ (s : Shared) (u : Value), BindsTo s fd ⟨[u], []⟩ [("script", u)]) ∧
      ∀ base : Heap, K.In base → base.Ns mainGlobals mg → (∀ t ∈ Ts, LamX.TabB base mg t.c t.P) → FnG l.prog w K mg base CX0 61 fa fd ["script"] (spTs K Ts) := by
  obtain ⟨f0, fd0, D0⟩ := e0
  obtain ⟨f1, fd1, D1⟩ := e1
  obtain ⟨f2, fd2, D2⟩ := e2
  obtain ⟨f3, fd3, D3⟩ := e3
  obtain ⟨f4, fd4, D4⟩ := e4
  obtain ⟨f5, fd5, D5, FD5⟩ := e5
  obtain ⟨f6, fd6, D6⟩ := e6
  obtain ⟨f7, fd7, D7⟩ := e7
  obtain ⟨f8, fd8, D8⟩ := e8
  obtain ⟨f9, fd9, D9⟩ := e9
  obtain ⟨f10, fd10, D10⟩ := e10
  obtain ⟨f11, fd11, D11⟩ := e11
  obtain ⟨f12, fd12, D12⟩ := e12
  obtain ⟨f13, fd13, D13⟩ := e13
  obtain ⟨f14, fd14, D14⟩ := e14
  obtain ⟨f15, fd15, D15⟩ := e15
  obtain ⟨f16, fd16, D16⟩ := e16
  obtain ⟨f17, fd17, D17⟩ := e17
  obtain ⟨f18, fd18, D18⟩ := e18
  obtain ⟨f19, fd19, D19⟩ := e19
  obtain ⟨f20, fd20, D20⟩ := e20
  obtain ⟨f21, fd21, D21, hbind⟩ := e21
  obtain ⟨f22, fd22, D22⟩ := e22
  obtain ⟨f23, fd23, D23⟩ := e23
  obtain ⟨f24, fd24, D24⟩ := e24
  obtain ⟨f25, fd25, D25⟩ := e25
  have e := hfa.symm.trans D21.mg
  cases e
  have B5_1 : DflOk K fd5 ["value", "most", "deep"] [.d (.int 8), .d (.int 0)] := DL.dfl_mk FD5 1 0 (by simp) (by simp) (fun T kV doc pm an cdv ct us its h1 h2 => match us, its, h1, h2 with | [_], [_, _], _, _ => ⟨_, rfl, rfl⟩) (fun _ _ _ => (.cons (.int _) (.cons (.int _) .nil)))
  have T : Tx l.prog K mg (fun i => [f0, f1, f2, f3, f4, f5, f6, f7, f8, f9, f10, f11, f12, f13, f14, f15, f16, f17, f18, f19, f20, fa, f22, f23, f24, f25].getD i fa) (fun i => [fd0, fd1, fd2, fd3, fd4, fd5, fd6, fd7, fd8, fd9, fd10, fd11, fd12, fd13, fd14, fd15, fd16, fd17, fd18, fd19, fd20, fd21, fd22, fd23, fd24, fd25].getD i fd21) :=
    ⟨D0, D1, D2, D3, D4, D5, D6, D7, D8, D9, D10, D11, D12, D13, D14, D15, D16, D17, D18, D19, D20, D21, D22, D23, D24, D25, B5_1, m_isinstance, m_list, m_tuple, m_str, m_len, m_all, m_bool, m_sorted, m_any, m_repr, m_int, m_abs, m_range, r_BadType, k_TooMany, k_NoName, k_BadText, k_BadType, k_BadValue, k_BadSignature, k_BadModule, k_BadProgram, k_Misfit, c_MeetError, f_BadType_part, y_kept, c_LONGEST, c_WORDS, c_LETTERS, c_MOST_FIELDS, c_MOST_DEEP, c_ATOM, c_NEVER, c_TAG, c_RECORD, c_OR, c_MOST_VALUES⟩
  refine ⟨fd21, [⟨c0, P0, qL_law⟩, ⟨c1, P1, qL_typed_fields⟩], fun t ht => ?_, fun t ht => ?_, fun t ht => ?_, hbind, fun base _ _ TB => ?_⟩
  · simp only [List.mem_cons, List.not_mem_nil, or_false] at ht
    rcases ht with rfl | rfl
    · exact u0.tab
    · exact u1.tab
  · simp only [List.mem_cons, List.not_mem_nil, or_false] at ht
    rcases ht with rfl | rfl
    · exact u0.no
    · exact u1.no
  · simp only [List.mem_cons, List.not_mem_nil, or_false] at ht
    rcases ht with rfl | rfl
    · exact u0.hd
    · exact u1.hd
  · have U : Ux base mg K (fun i => [f0, f1, f2, f3, f4, f5, f6, f7, f8, f9, f10, f11, f12, f13, f14, f15, f16, f17, f18, f19, f20, fa, f22, f23, f24, f25].getD i fa) c0 P0 c1 P1 := ⟨⟨TB ⟨c0, P0, qL_law⟩ (by simp), DL.code_at u0 D21.mg⟩, ⟨TB ⟨c1, P1, qL_typed_fields⟩ (by simp), DL.code_at u1 D4.mg⟩⟩
    exact (g_law T U).imp (spTs_of (by simpa using hnd) (hF P0 P1))
end
theorem form_BadType (fI : Addr) : DLE.InitForm "BadType.__init__" "part" "bad type" fI (defArgs (initOf cs_BadType)) (defBody (initOf cs_BadType)) (defScope (initOf cs_BadType)) :=
  ⟨⟨_, _, _, _, _, _, _, _, _, _, _, _, _, rfl, fun _ => rfl, fun _ _ _ => rfl, fun _ _ _ => rfl, fun _ _ _ => rfl, rfl, rfl⟩, fun _ _ _ _ _ _ _ _ => rfl, rfl, rfl, rfl, rfl, by decide +kernel, rfl, rfl, rfl, by decide, by decide⟩
end DL.k27
open PySem PySem.W PyProof.Rows
set_option maxRecDepth 100000 in
set_option maxHeartbeats 0 in
theorem PySem.Challenge.cw_modulesmeet_k27_types_refused_holds : PySem.Challenge.rw_modulesmeet_k27_types_refused.Holds := by
  w_on; o_law; k_head; (case hw => w_witness2)
  k_fill
  refine DL.end_ofTs (l := PySem.Challenge.rw_modulesmeet_k27_types_refused) (k := 61) rfl rfl ⟨rfl, by decide, by decide⟩ (fun w h Y => PySem.W.km_in_of Y) ?F
  case F =>
    intro w mg fa h Y KX G hmg
    refine' DL.k27.all_of KX G hmg
      (DL.def_mk (st := DL.k27.s_is_listed) (fun _ _ _ _ _ _ us hl => match us, hl with | [_], _ => rfl) KX G ?a0 ?l0 ?c0 ?k0)
      (DL.def_mk (st := DL.k27.s_is_name) (fun _ _ _ _ _ _ us hl => match us, hl with | [_], _ => rfl) KX G ?a1 ?l1 ?c1 ?k1)
      (DL.def_mk (st := DL.k27.s_words_of) (fun _ _ _ _ _ _ us hl => match us, hl with | [_], _ => rfl) KX G ?a2 ?l2 ?c2 ?k2)
      (DL.def_mk (st := DL.k27.s_text_of) (fun _ _ _ _ _ _ us hl => match us, hl with | [_], _ => rfl) KX G ?a3 ?l3 ?c3 ?k3)
      (DL.def_mk (st := DL.k27.s_typed_fields) (fun _ _ _ _ _ _ us hl => match us, hl with | [_, _, _], _ => rfl) KX G ?a4 ?l4 ?c4 ?k4)
      (DL.defD_mk (st := DL.k27.s_typed) KX G (fun T kV doc pm an cdv ct us its h1 h2 => match us, its, h1, h2 with | [_, _, _], [_, _], _, _ => ⟨_, rfl, rfl⟩) (by simp) ?a5 ?l5 ?c5 ?k5 ?t5 ?v5)
      (DL.def_mk (st := DL.k27.s_is_type) (fun _ _ _ _ _ _ us hl => match us, hl with | [_], _ => rfl) KX G ?a6 ?l6 ?c6 ?k6)
      (DL.def_mk (st := DL.k27.s_need_type) (fun _ _ _ _ _ _ us hl => match us, hl with | [_, _], _ => rfl) KX G ?a7 ?l7 ?c7 ?k7)
      (DL.def_mk (st := DL.k27.s_listed) (fun _ _ _ _ _ _ us hl => match us, hl with | [_], _ => rfl) KX G ?a8 ?l8 ?c8 ?k8)
      (DL.def_mk (st := DL.k27.s_values_in) (fun _ _ _ _ _ _ us hl => match us, hl with | [_], _ => rfl) KX G ?a9 ?l9 ?c9 ?k9)
      (DL.def_mk (st := DL.k27.s_values_of) (fun _ _ _ _ _ _ us hl => match us, hl with | [_], _ => rfl) KX G ?a10 ?l10 ?c10 ?k10)
      (DL.def_mk (st := DL.k27.s_has) (fun _ _ _ _ _ _ us hl => match us, hl with | [_, _], _ => rfl) KX G ?a11 ?l11 ?c11 ?k11)
      (DL.def_mk (st := DL.k27.s_within) (fun _ _ _ _ _ _ us hl => match us, hl with | [_, _], _ => rfl) KX G ?a12 ?l12 ?c12 ?k12)
      (DL.def_mk (st := DL.k27.s__law_pen) (fun _ _ _ _ _ _ us hl => match us, hl with | [_], _ => rfl) KX G ?a13 ?l13 ?c13 ?k13)
      (DL.def_mk (st := DL.k27.s__law_draw) (fun _ _ _ _ _ _ us hl => match us, hl with | [_, _], _ => rfl) KX G ?a14 ?l14 ?c14 ?k14)
      (DL.def_mk (st := DL.k27.s__law_pick) (fun _ _ _ _ _ _ us hl => match us, hl with | [_, _], _ => rfl) KX G ?a15 ?l15 ?c15 ?k15)
      (DL.def_mk (st := DL.k27.s__law_drawn_kind) (fun _ _ _ _ _ _ us hl => match us, hl with | [_, _], _ => rfl) KX G ?a16 ?l16 ?c16 ?k16)
      (DL.def_mk (st := DL.k27.s__law_heard) (fun _ _ _ _ _ _ us hl => match us, hl with | [_], _ => rfl) KX G ?a17 ?l17 ?c17 ?k17)
      (DL.def_mk (st := DL.k27.s__law_is_name) (fun _ _ _ _ _ _ us hl => match us, hl with | [_], _ => rfl) KX G ?a18 ?l18 ?c18 ?k18)
      (DL.def_mk (st := DL.k27.s__law_is_type) (fun _ _ _ _ _ _ us hl => match us, hl with | [_, _, _], _ => rfl) KX G ?a19 ?l19 ?c19 ?k19)
      (DL.def_mk (st := DL.k27.s__law_bent) (fun _ _ _ _ _ _ us hl => match us, hl with | [_, _], _ => rfl) KX G ?a20 ?l20 ?c20 ?k20)
      (DL.law_mk (st := DL.k27.s_law) KX G (fun _ _ _ _ _ _ _ => rfl) (fun _ _ _ _ _ _ us hl => match us, hl with | [_], _ => rfl) ?a21 ?l21 ?c21 ?k21)
      (DL.mak_mk (st := DL.k27.s_Book___init__) KX G (DL.clsA_mk ?zn22_ ?zpg22_ ?zhd22_ ?zpo22_ ?zsa22_) (fun _ _ _ _ _ _ us hl => match us, hl with | [_], _ => rfl) ?mk22 ?fa22 ?fi22 ?fk22 ?fl22 ?fc22)
      (DL.met_mk (st := DL.k27.s_Book_put) (DL.clsA_mk ?zn23_ ?zpg23_ ?zhd23_ ?zpo23_ ?zsa23_) (fun _ _ _ _ _ _ us hl => match us, hl with | [_, _, _], _ => rfl) ?fa23 ?fi23 ?fl23 ?fc23 ?fk23)
      (DL.met_mk (st := DL.k27.s_Book_size) (DL.clsA_mk ?zn24_ ?zpg24_ ?zhd24_ ?zpo24_ ?zsa24_) (fun _ _ _ _ _ _ us hl => match us, hl with | [_], _ => rfl) ?fa24 ?fi24 ?fl24 ?fc24 ?fk24)
      (DL.met_mk (st := DL.k27.s_Book_all_keys) (DL.clsA_mk ?zn25_ ?zpg25_ ?zhd25_ ?zpo25_ ?zsa25_) (fun _ _ _ _ _ _ us hl => match us, hl with | [_], _ => rfl) ?fa25 ?fi25 ?fl25 ?fc25 ?fk25)
      (PySem.W.mg_none_of KX G ?m_isinstance)
      (PySem.W.mg_none_of KX G ?m_list)
      (PySem.W.mg_none_of KX G ?m_tuple)
      (PySem.W.mg_none_of KX G ?m_str)
      (PySem.W.mg_none_of KX G ?m_len)
      (PySem.W.mg_none_of KX G ?m_all)
      (PySem.W.mg_none_of KX G ?m_bool)
      (PySem.W.mg_none_of KX G ?m_sorted)
      (PySem.W.mg_none_of KX G ?m_any)
      (PySem.W.mg_none_of KX G ?m_repr)
      (PySem.W.mg_none_of KX G ?m_int)
      (PySem.W.mg_none_of KX G ?m_abs)
      (PySem.W.mg_none_of KX G ?m_range)
      (DL.raise_mk (st := DL.initOf DL.k27.cs_BadType) KX G DL.k27.form_BadType ?top0 ?n0_ ?lC0_ ?hbm0_ ?sa0_ ?noN0_ ?iC0_ ?lf0_ ?tC0_ ?kC0_ ?exC0_ ?tyC0_ ?sup0_ ?subV0_ ?any0_ ?ms0_ ?mroC0_ ?cd0_ ?lcd0_ ?lv0_ ?hfile0_ ?lcc0_)
      (DL.kind_cons KX G ?kz0_TooMany ?kn0_TooMany (DL.errK_mk ?x0_0_TooMany (DL.exc_mk ?x1_0_TooMany ?x2_0_TooMany ?x3_0_TooMany ?x4_0_TooMany ?x5_0_TooMany ?x6_0_TooMany ?x7_0_TooMany ?x8_0_TooMany)) (DL.kit_ne ?kl0_TooMany ?kt0_TooMany ?ks0_TooMany ?kd0_TooMany) (DL.kind_nil KX G ?ky_TooMany))
      (DL.kind_cons KX G ?kz0_NoName ?kn0_NoName (DL.errK_mk ?x0_0_NoName (DL.exc_mk ?x1_0_NoName ?x2_0_NoName ?x3_0_NoName ?x4_0_NoName ?x5_0_NoName ?x6_0_NoName ?x7_0_NoName ?x8_0_NoName)) (DL.kit_ne ?kl0_NoName ?kt0_NoName ?ks0_NoName ?kd0_NoName) (DL.kind_nil KX G ?ky_NoName))
      (DL.kind_cons KX G ?kz0_BadText ?kn0_BadText (DL.errK_mk ?x0_0_BadText (DL.exc_mk ?x1_0_BadText ?x2_0_BadText ?x3_0_BadText ?x4_0_BadText ?x5_0_BadText ?x6_0_BadText ?x7_0_BadText ?x8_0_BadText)) (DL.kit_ne ?kl0_BadText ?kt0_BadText ?ks0_BadText ?kd0_BadText) (DL.kind_nil KX G ?ky_BadText))
      (DL.kind_cons KX G ?kz0_BadType ?kn0_BadType (DL.errK_mk ?x0_0_BadType (DL.exc_mk ?x1_0_BadType ?x2_0_BadType ?x3_0_BadType ?x4_0_BadType ?x5_0_BadType ?x6_0_BadType ?x7_0_BadType ?x8_0_BadType)) DL.kit_eq (DL.kind_nil KX G ?ky_BadType))
      (DL.kind_cons KX G ?kz0_BadValue ?kn0_BadValue (DL.errK_mk ?x0_0_BadValue (DL.exc_mk ?x1_0_BadValue ?x2_0_BadValue ?x3_0_BadValue ?x4_0_BadValue ?x5_0_BadValue ?x6_0_BadValue ?x7_0_BadValue ?x8_0_BadValue)) (DL.kit_ne ?kl0_BadValue ?kt0_BadValue ?ks0_BadValue ?kd0_BadValue) (DL.kind_nil KX G ?ky_BadValue))
      (DL.kind_cons KX G ?kz0_BadSignature ?kn0_BadSignature (DL.errK_mk ?x0_0_BadSignature (DL.exc_mk ?x1_0_BadSignature ?x2_0_BadSignature ?x3_0_BadSignature ?x4_0_BadSignature ?x5_0_BadSignature ?x6_0_BadSignature ?x7_0_BadSignature ?x8_0_BadSignature)) (DL.kit_ne ?kl0_BadSignature ?kt0_BadSignature ?ks0_BadSignature ?kd0_BadSignature) (DL.kind_nil KX G ?ky_BadSignature))
      (DL.kind_cons KX G ?kz0_BadModule ?kn0_BadModule (DL.errK_mk ?x0_0_BadModule (DL.exc_mk ?x1_0_BadModule ?x2_0_BadModule ?x3_0_BadModule ?x4_0_BadModule ?x5_0_BadModule ?x6_0_BadModule ?x7_0_BadModule ?x8_0_BadModule)) (DL.kit_ne ?kl0_BadModule ?kt0_BadModule ?ks0_BadModule ?kd0_BadModule) (DL.kind_nil KX G ?ky_BadModule))
      (DL.kind_cons KX G ?kz0_BadProgram ?kn0_BadProgram (DL.errK_mk ?x0_0_BadProgram (DL.exc_mk ?x1_0_BadProgram ?x2_0_BadProgram ?x3_0_BadProgram ?x4_0_BadProgram ?x5_0_BadProgram ?x6_0_BadProgram ?x7_0_BadProgram ?x8_0_BadProgram)) (DL.kit_ne ?kl0_BadProgram ?kt0_BadProgram ?ks0_BadProgram ?kd0_BadProgram) (DL.kind_nil KX G ?ky_BadProgram))
      (DL.kind_cons KX G ?kz0_Misfit ?kn0_Misfit (DL.errK_mk ?x0_0_Misfit (DL.exc_mk ?x1_0_Misfit ?x2_0_Misfit ?x3_0_Misfit ?x4_0_Misfit ?x5_0_Misfit ?x6_0_Misfit ?x7_0_Misfit ?x8_0_Misfit)) (DL.kit_ne ?kl0_Misfit ?kt0_Misfit ?ks0_Misfit ?kd0_Misfit) (DL.kind_nil KX G ?ky_Misfit))
      (DL.catch_cons KX G ?cz0_ ?cn0_ (DL.exm_mk ?cb0_ ?cl0_ ?ct0_ ?cs0_) (DL.catch_nil KX G ?cy_))
      (DL.field_mk ?fn0_ (DL.errK_mk ?x0_f0 (DL.exc_mk ?x1_f0 ?x2_f0 ?x3_f0 ?x4_f0 ?x5_f0 ?x6_f0 ?x7_f0 ?x8_f0)) ?fq0_)
      (DL.fldT_cons (DL.clsA_mk ?zny0_0_ ?zpgy0_0_ ?zhdy0_0_ ?zpoy0_0_ ?zsay0_0_) ?yn0_0 DL.fldT_nil)
      (DL.cint_mk KX G ?c_LONGEST)
      (DL.conT_mk KX G ?ca_WORDS ?cl_WORDS ?cv_WORDS (by decide))
      (DL.cstr_mk KX G ?c_LETTERS)
      (DL.cint_mk KX G ?c_MOST_FIELDS)
      (DL.cint_mk KX G ?c_MOST_DEEP)
      (DL.cstr_mk KX G ?c_ATOM)
      (DL.cstr_mk KX G ?c_NEVER)
      (DL.cstr_mk KX G ?c_TAG)
      (DL.cstr_mk KX G ?c_RECORD)
      (DL.cstr_mk KX G ?c_OR)
      (DL.cint_mk KX G ?c_MOST_VALUES)
      (DL.codeTx_mk KX G (PySem.W.km_tabs_of Y) (.tail _ (.head _)) ?ta0_ ?tl0_ ?te0_ ?tn0_ ?th0_)
      (DL.codeTx_mk KX G (PySem.W.km_tabs_of Y) (.head _) ?ta1_ ?tl1_ ?te1_ ?tn1_ ?th1_)
      (by decide)
      DL.k27.plain
    (case a0 => k_is)
    (case l0 => k_is)
    (case c0 => k_is)
    (case k0 => k_is)
    (case a1 => k_is)
    (case l1 => k_is)
    (case c1 => k_is)
    (case k1 => k_is)
    (case a2 => k_is)
    (case l2 => k_is)
    (case c2 => k_is)
    (case k2 => k_is)
    (case a3 => k_is)
    (case l3 => k_is)
    (case c3 => k_is)
    (case k3 => k_is)
    (case a4 => k_is)
    (case l4 => k_is)
    (case c4 => k_is)
    (case k4 => k_is)
    (case a5 => k_is)
    (case l5 => k_is)
    (case c5 => k_is)
    (case k5 => k_is)
    (case t5 => k_is)
    (case v5 => (repeat (first | exact .nil | refine .cons ⟨_, rfl⟩ ?_ | refine .cons rfl ?_)))
    (case a6 => k_is)
    (case l6 => k_is)
    (case c6 => k_is)
    (case k6 => k_is)
    (case a7 => k_is)
    (case l7 => k_is)
    (case c7 => k_is)
    (case k7 => k_is)
    (case a8 => k_is)
    (case l8 => k_is)
    (case c8 => k_is)
    (case k8 => k_is)
    (case a9 => k_is)
    (case l9 => k_is)
    (case c9 => k_is)
    (case k9 => k_is)
    (case a10 => k_is)
    (case l10 => k_is)
    (case c10 => k_is)
    (case k10 => k_is)
    (case a11 => k_is)
    (case l11 => k_is)
    (case c11 => k_is)
    (case k11 => k_is)
    (case a12 => k_is)
    (case l12 => k_is)
    (case c12 => k_is)
    (case k12 => k_is)
    (case a13 => k_is)
    (case l13 => k_is)
    (case c13 => k_is)
    (case k13 => k_is)
    (case a14 => k_is)
    (case l14 => k_is)
    (case c14 => k_is)
    (case k14 => k_is)
    (case a15 => k_is)
    (case l15 => k_is)
    (case c15 => k_is)
    (case k15 => k_is)
    (case a16 => k_is)
    (case l16 => k_is)
    (case c16 => k_is)
    (case k16 => k_is)
    (case a17 => k_is)
    (case l17 => k_is)
    (case c17 => k_is)
    (case k17 => k_is)
    (case a18 => k_is)
    (case l18 => k_is)
    (case c18 => k_is)
    (case k18 => k_is)
    (case a19 => k_is)
    (case l19 => k_is)
    (case c19 => k_is)
    (case k19 => k_is)
    (case a20 => k_is)
    (case l20 => k_is)
    (case c20 => k_is)
    (case k20 => k_is)
    (case a21 => k_is)
    (case l21 => k_is)
    (case c21 => k_is)
    (case k21 => k_is)
    (case zn22_ => k_is)
    (case zpg22_ => k_is)
    (case zhd22_ => k_is)
    (case zpo22_ => k_is)
    (case zsa22_ => k_is)
    (case mk22 => k_is)
    (case fa22 => k_is)
    (case fi22 => k_is)
    (case fk22 => k_is)
    (case fl22 => k_is)
    (case fc22 => k_is)
    (case zn23_ => k_is)
    (case zpg23_ => k_is)
    (case zhd23_ => k_is)
    (case zpo23_ => k_is)
    (case zsa23_ => k_is)
    (case fa23 => k_is)
    (case fi23 => k_is)
    (case fl23 => k_is)
    (case fc23 => k_is)
    (case fk23 => k_is)
    (case zn24_ => k_is)
    (case zpg24_ => k_is)
    (case zhd24_ => k_is)
    (case zpo24_ => k_is)
    (case zsa24_ => k_is)
    (case fa24 => k_is)
    (case fi24 => k_is)
    (case fl24 => k_is)
    (case fc24 => k_is)
    (case fk24 => k_is)
    (case zn25_ => k_is)
    (case zpg25_ => k_is)
    (case zhd25_ => k_is)
    (case zpo25_ => k_is)
    (case zsa25_ => k_is)
    (case fa25 => k_is)
    (case fi25 => k_is)
    (case fl25 => k_is)
    (case fc25 => k_is)
    (case fk25 => k_is)
    (case m_isinstance => k_is)
    (case m_list => k_is)
    (case m_tuple => k_is)
    (case m_str => k_is)
    (case m_len => k_is)
    (case m_all => k_is)
    (case m_bool => k_is)
    (case m_sorted => k_is)
    (case m_any => k_is)
    (case m_repr => k_is)
    (case m_int => k_is)
    (case m_abs => k_is)
    (case m_range => k_is)
    (case top0 => first | rfl | decide +kernel)
    (case n0_ => first | k_is | rfl | decide)
    (case lC0_ => first | k_is | rfl | decide)
    (case hbm0_ => first | k_is | rfl | decide)
    (case sa0_ => first | k_is | rfl | decide)
    (case noN0_ => first | k_is | rfl | decide)
    (case iC0_ => first | k_is | rfl | decide)
    (case lf0_ => first | k_is | rfl | decide)
    (case tC0_ => first | k_is | rfl | decide)
    (case kC0_ => first | k_is | rfl | decide)
    (case exC0_ => first | k_is | rfl | decide)
    (case tyC0_ => first | k_is | rfl | decide)
    (case sup0_ => first | k_is | rfl | decide)
    (case subV0_ => first | k_is | rfl | decide)
    (case any0_ => first | k_is | rfl | decide)
    (case ms0_ => first | k_is | rfl | decide)
    (case mroC0_ => first | k_is | rfl | decide)
    (case cd0_ => first | k_is | rfl | decide)
    (case lcd0_ => first | k_is | rfl | decide)
    (case lv0_ => first | k_is | rfl | decide)
    (case hfile0_ => first | k_is | rfl | decide)
    (case lcc0_ => first | k_is | rfl | decide)
    (case ky_TooMany => k_is)
    (case x0_0_TooMany => k_is)
    (case x1_0_TooMany => k_is)
    (case x2_0_TooMany => k_is)
    (case x3_0_TooMany => k_is)
    (case x4_0_TooMany => k_is)
    (case x5_0_TooMany => k_is)
    (case x6_0_TooMany => k_is)
    (case x7_0_TooMany => k_is)
    (case x8_0_TooMany => k_is)
    (case kz0_TooMany => k_is)
    (case kn0_TooMany => k_is)
    (case kl0_TooMany => k_is)
    (case kt0_TooMany => k_is)
    (case ks0_TooMany => k_is)
    (case kd0_TooMany => first | rfl | decide)
    (case ky_NoName => k_is)
    (case x0_0_NoName => k_is)
    (case x1_0_NoName => k_is)
    (case x2_0_NoName => k_is)
    (case x3_0_NoName => k_is)
    (case x4_0_NoName => k_is)
    (case x5_0_NoName => k_is)
    (case x6_0_NoName => k_is)
    (case x7_0_NoName => k_is)
    (case x8_0_NoName => k_is)
    (case kz0_NoName => k_is)
    (case kn0_NoName => k_is)
    (case kl0_NoName => k_is)
    (case kt0_NoName => k_is)
    (case ks0_NoName => k_is)
    (case kd0_NoName => first | rfl | decide)
    (case ky_BadText => k_is)
    (case x0_0_BadText => k_is)
    (case x1_0_BadText => k_is)
    (case x2_0_BadText => k_is)
    (case x3_0_BadText => k_is)
    (case x4_0_BadText => k_is)
    (case x5_0_BadText => k_is)
    (case x6_0_BadText => k_is)
    (case x7_0_BadText => k_is)
    (case x8_0_BadText => k_is)
    (case kz0_BadText => k_is)
    (case kn0_BadText => k_is)
    (case kl0_BadText => k_is)
    (case kt0_BadText => k_is)
    (case ks0_BadText => k_is)
    (case kd0_BadText => first | rfl | decide)
    (case ky_BadType => k_is)
    (case x0_0_BadType => k_is)
    (case x1_0_BadType => k_is)
    (case x2_0_BadType => k_is)
    (case x3_0_BadType => k_is)
    (case x4_0_BadType => k_is)
    (case x5_0_BadType => k_is)
    (case x6_0_BadType => k_is)
    (case x7_0_BadType => k_is)
    (case x8_0_BadType => k_is)
    (case kz0_BadType => k_is)
    (case kn0_BadType => k_is)
    (case ky_BadValue => k_is)
    (case x0_0_BadValue => k_is)
    (case x1_0_BadValue => k_is)
    (case x2_0_BadValue => k_is)
    (case x3_0_BadValue => k_is)
    (case x4_0_BadValue => k_is)
    (case x5_0_BadValue => k_is)
    (case x6_0_BadValue => k_is)
    (case x7_0_BadValue => k_is)
    (case x8_0_BadValue => k_is)
    (case kz0_BadValue => k_is)
    (case kn0_BadValue => k_is)
    (case kl0_BadValue => k_is)
    (case kt0_BadValue => k_is)
    (case ks0_BadValue => k_is)
    (case kd0_BadValue => first | rfl | decide)
    (case ky_BadSignature => k_is)
    (case x0_0_BadSignature => k_is)
    (case x1_0_BadSignature => k_is)
    (case x2_0_BadSignature => k_is)
    (case x3_0_BadSignature => k_is)
    (case x4_0_BadSignature => k_is)
    (case x5_0_BadSignature => k_is)
    (case x6_0_BadSignature => k_is)
    (case x7_0_BadSignature => k_is)
    (case x8_0_BadSignature => k_is)
    (case kz0_BadSignature => k_is)
    (case kn0_BadSignature => k_is)
    (case kl0_BadSignature => k_is)
    (case kt0_BadSignature => k_is)
    (case ks0_BadSignature => k_is)
    (case kd0_BadSignature => first | rfl | decide)
    (case ky_BadModule => k_is)
    (case x0_0_BadModule => k_is)
    (case x1_0_BadModule => k_is)
    (case x2_0_BadModule => k_is)
    (case x3_0_BadModule => k_is)
    (case x4_0_BadModule => k_is)
    (case x5_0_BadModule => k_is)
    (case x6_0_BadModule => k_is)
    (case x7_0_BadModule => k_is)
    (case x8_0_BadModule => k_is)
    (case kz0_BadModule => k_is)
    (case kn0_BadModule => k_is)
    (case kl0_BadModule => k_is)
    (case kt0_BadModule => k_is)
    (case ks0_BadModule => k_is)
    (case kd0_BadModule => first | rfl | decide)
    (case ky_BadProgram => k_is)
    (case x0_0_BadProgram => k_is)
    (case x1_0_BadProgram => k_is)
    (case x2_0_BadProgram => k_is)
    (case x3_0_BadProgram => k_is)
    (case x4_0_BadProgram => k_is)
    (case x5_0_BadProgram => k_is)
    (case x6_0_BadProgram => k_is)
    (case x7_0_BadProgram => k_is)
    (case x8_0_BadProgram => k_is)
    (case kz0_BadProgram => k_is)
    (case kn0_BadProgram => k_is)
    (case kl0_BadProgram => k_is)
    (case kt0_BadProgram => k_is)
    (case ks0_BadProgram => k_is)
    (case kd0_BadProgram => first | rfl | decide)
    (case ky_Misfit => k_is)
    (case x0_0_Misfit => k_is)
    (case x1_0_Misfit => k_is)
    (case x2_0_Misfit => k_is)
    (case x3_0_Misfit => k_is)
    (case x4_0_Misfit => k_is)
    (case x5_0_Misfit => k_is)
    (case x6_0_Misfit => k_is)
    (case x7_0_Misfit => k_is)
    (case x8_0_Misfit => k_is)
    (case kz0_Misfit => k_is)
    (case kn0_Misfit => k_is)
    (case kl0_Misfit => k_is)
    (case kt0_Misfit => k_is)
    (case ks0_Misfit => k_is)
    (case kd0_Misfit => first | rfl | decide)
    (case cy_ => k_is)
    (case cz0_ => k_is)
    (case cn0_ => k_is)
    (case cb0_ => k_is)
    (case cl0_ => k_is)
    (case ct0_ => k_is)
    (case cs0_ => k_is)
    (case x0_f0 => k_is)
    (case x1_f0 => k_is)
    (case x2_f0 => k_is)
    (case x3_f0 => k_is)
    (case x4_f0 => k_is)
    (case x5_f0 => k_is)
    (case x6_f0 => k_is)
    (case x7_f0 => k_is)
    (case x8_f0 => k_is)
    (case fn0_ => k_is)
    (case fq0_ => k_is)
    (case zny0_0_ => k_is)
    (case zpgy0_0_ => k_is)
    (case zhdy0_0_ => k_is)
    (case zpoy0_0_ => k_is)
    (case zsay0_0_ => k_is)
    (case yn0_0 => k_is)
    (case c_LONGEST => k_is)
    (case ca_WORDS => k_is); (case cl_WORDS => k_is); (case cv_WORDS => (repeat (first | exact .nil | refine .cons ⟨_, rfl⟩ ?_)))
    (case c_LETTERS => k_is)
    (case c_MOST_FIELDS => k_is)
    (case c_MOST_DEEP => k_is)
    (case c_ATOM => k_is)
    (case c_NEVER => k_is)
    (case c_TAG => k_is)
    (case c_RECORD => k_is)
    (case c_OR => k_is)
    (case c_MOST_VALUES => k_is)
    (case ta0_ => k_is)
    (case tl0_ => k_is)
    (case te0_ => rfl)
    (case tn0_ => first | k_is | rfl)
    (case th0_ => first | k_is | rfl)
    (case ta1_ => k_is)
    (case tl1_ => k_is)
    (case te1_ => rfl)
    (case tn1_ => first | k_is | rfl)
    (case th1_ => first | k_is | rfl)
