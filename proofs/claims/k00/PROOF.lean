import PyProof.Rows.All
import PySem.Challenge.RW_countunseen_k00_integers_and_data
import HandS.ForMost
import HandS.ForExc
import HandS.TupAny
import HandS.Flow
import HandS.IsInst
import HandS.EndBits
import HandS.Wide
import HandS.Style
import HandS.Conv
import HandS.RevRange
import HandS.Walk
import HandS.CallSlots
import HandS.Zip
import PyProof.Draws
import HandS.Rev
import HandS.TupMul
import HandS.SortInts
import KE.KDictZip
import KE.KItemsList
import HandS.ListItems
import HandS.ExcField
import HandS.ExcIs
import KE.KExcSuper
import HandS.ExcSuper
import HandS.ExcInit
import HandS.StrMore
import HandS.WideBits
import HandS.RaiseMore
import HandS.Text
import KE.IntTextText
import KE.KIntText
import PyProof.StrLawsFrom
set_option Elab.async false
set_option linter.all false
set_option maxRecDepth 100000
set_option maxHeartbeats 4000000
/-! Z: what a def of the program computes, as a plain function. Data, things, views, ownership. -/
namespace Z
open PySem PySem.Spec L2
open PyProof.Rows hiding St

/-- data that never change -/
inductive D where
  | non | bl (b : Bool) | int (i : Int) | str (s : Str) | tup (ds : List D) | rol (ds : List D)
/-- a datum, or a list that may change -/
inductive T where
  | d (d : D) | l (xs : List T)
/-- tuples and frozen things stay -/
def Pst (H H' : Hp) : Prop := (∀ a vs, H a = some (.tup vs) → H' a = some (.tup vs)) ∧ ∀ a o u, H a = some (.frz o u) → H' a = some (.frz o u)
theorem Pst.refl (H : Hp) : Pst H H := ⟨fun _ _ h => h, fun _ _ _ h => h⟩
theorem Pst.trans {H H1 H2 : Hp} (a : Pst H H1) (b : Pst H1 H2) : Pst H H2 := ⟨fun c o h => b.1 c o (a.1 c o h), fun c o u h => b.2 c o u (a.2 c o u h)⟩
theorem Pst.of {H H' : Hp} (s : Same H H') : Pst H H' := ⟨fun a vs h => s a _ h, fun a o u h => s a _ h⟩
theorem sqT_pst {K : PySem.W.Frag} {H H' : Hp} {a : Addr} {xs : List V} (p : Pst H H') (h : SqT K H a xs) : SqT K H' a xs := by
  rcases h with (h | ⟨o, h⟩) | h
  · exact .inl (.inl (p.1 _ _ h))
  · exact .inl (.inr ⟨o, p.2 _ _ _ h⟩)
  · exact .inr h
/-- a list that nobody writes -/
def RO (K : PySem.W.Frag) (H : Hp) (a : Addr) (vs : List V) : Prop := ∀ H', Pst H H' → SqL K H' a vs
theorem RO.mono {K : PySem.W.Frag} {H H' : Hp} {a : Addr} {xs : List V} (p : Pst H H') (h : RO K H a xs) : RO K H' a xs := fun H2 q => h H2 (p.trans q)
mutual
inductive RepD (K : PySem.W.Frag) (H : Hp) : V → D → Prop
  | non : RepD K H .non .non
  | bl (b : Bool) : RepD K H (.bl b) (.bl b)
  | int (i : Int) : RepD K H (.int i) (.int i)
  | str (s : Str) : RepD K H (.str s) (.str s)
  | tup {a : Addr} {vs : List V} {ds : List D} : SqT K H a vs → RepDs K H vs ds → RepD K H (.ref a) (.tup ds)
  | rol {a : Addr} {vs : List V} {ds : List D} : RO K H a vs → RepDs K H vs ds → RepD K H (.ref a) (.rol ds)
inductive RepDs (K : PySem.W.Frag) (H : Hp) : List V → List D → Prop
  | nil : RepDs K H [] []
  | cons {v : V} {vs : List V} {d : D} {ds : List D} : RepD K H v d → RepDs K H vs ds → RepDs K H (v :: vs) (d :: ds)
end
mutual
theorem RepD.mono {K : PySem.W.Frag} {H H' : Hp} (p : Pst H H') : ∀ {v : V} {d : D}, RepD K H v d → RepD K H' v d
  | _, _, .non => .non
  | _, _, .bl b => .bl b
  | _, _, .int i => .int i
  | _, _, .str s => .str s
  | _, _, .tup h r => .tup (sqT_pst p h) (RepDs.mono p r)
  | _, _, .rol h r => .rol (h.mono p) (RepDs.mono p r)
theorem RepDs.mono {K : PySem.W.Frag} {H H' : Hp} (p : Pst H H') : ∀ {vs : List V} {ds : List D}, RepDs K H vs ds → RepDs K H' vs ds
  | _, _, .nil => .nil
  | _, _, .cons r t => .cons (RepD.mono p r) (RepDs.mono p t)
end
/-! a thing, and the addresses of its lists -/
mutual
inductive Own (K : PySem.W.Frag) (H : Hp) : V → T → List Addr → Prop
  | d {v : V} {d : D} : RepD K H v d → Own K H v (.d d) []
  | l {a : Addr} {vs : List V} {xs : List T} {F : List Addr} : H a = some (.lst vs) → Owns K H vs xs F → Own K H (.ref a) (.l xs) (a :: F)
inductive Owns (K : PySem.W.Frag) (H : Hp) : List V → List T → List Addr → Prop
  | nil : Owns K H [] [] []
  | cons {v : V} {vs : List V} {x : T} {xs : List T} {F G : List Addr} : Own K H v x F → Owns K H vs xs G → Owns K H (v :: vs) (x :: xs) (F ++ G)
end
mutual
theorem Own.frame {K : PySem.W.Frag} {H H' : Hp} (p : Pst H H') : ∀ {v : V} {x : T} {F : List Addr}, Own K H v x F → (∀ a ∈ F, ∀ o, H a = some o → H' a = some o) → Own K H' v x F
  | _, _, _, .d r, _ => .d (r.mono p)
  | _, _, _, .l h r, k => .l (k _ List.mem_cons_self _ h) (Owns.frame p r fun a m => k a (List.mem_cons_of_mem _ m))
theorem Owns.frame {K : PySem.W.Frag} {H H' : Hp} (p : Pst H H') : ∀ {vs : List V} {xs : List T} {F : List Addr}, Owns K H vs xs F → (∀ a ∈ F, ∀ o, H a = some o → H' a = some o) → Owns K H' vs xs F
  | _, _, _, .nil, _ => .nil
  | _, _, _, .cons r t, k => .cons (Own.frame p r fun a m => k a (List.mem_append_left _ m)) (Owns.frame p t fun a m => k a (List.mem_append_right _ m))
end
mutual
theorem Own.dom {K : PySem.W.Frag} {H : Hp} : ∀ {v : V} {x : T} {F : List Addr}, Own K H v x F → ∀ a ∈ F, ∃ vs, H a = some (.lst vs)
  | _, _, _, .d _, a, m => absurd m List.not_mem_nil
  | _, _, _, .l h r, a, m => (List.mem_cons.mp m).elim (fun e => ⟨_, e ▸ h⟩) (Owns.dom r a)
theorem Owns.dom {K : PySem.W.Frag} {H : Hp} : ∀ {vs : List V} {xs : List T} {F : List Addr}, Owns K H vs xs F → ∀ a ∈ F, ∃ vs, H a = some (.lst vs)
  | _, _, _, .nil, a, m => absurd m List.not_mem_nil
  | _, _, _, .cons r t, a, m => (List.mem_append.mp m).elim (Own.dom r a) (Owns.dom t a)
end
theorem Own.mono {K : PySem.W.Frag} {H H' : Hp} (s : Same H H') {v : V} {x : T} {F : List Addr} (h : Own K H v x F) : Own K H' v x F := h.frame (.of s) fun a _ o e => s a o e
theorem Owns.mono {K : PySem.W.Frag} {H H' : Hp} (s : Same H H') {vs : List V} {xs : List T} {F : List Addr} (h : Owns K H vs xs F) : Owns K H' vs xs F := h.frame (.of s) fun a _ o e => s a o e
theorem Owns.append {K : PySem.W.Frag} {H : Hp} : ∀ {vs us : List V} {xs ys : List T} {F G : List Addr}, Owns K H vs xs F → Owns K H us ys G → Owns K H (vs ++ us) (xs ++ ys) (F ++ G)
  | _, _, _, _, _, _, .nil, h => h
  | _, _, _, _, _, _, .cons r t, h => by
    rw [List.append_assoc]
    exact .cons r (Owns.append t h)
theorem Owns.length {K : PySem.W.Frag} {H : Hp} : ∀ {vs : List V} {xs : List T} {F : List Addr}, Owns K H vs xs F → vs.length = xs.length
  | _, _, _, .nil => rfl
  | _, _, _, .cons _ t => congrArg Nat.succ (Owns.length t)
theorem RepDs.length {K : PySem.W.Frag} {H : Hp} : ∀ {vs : List V} {ds : List D}, RepDs K H vs ds → vs.length = ds.length
  | _, _, .nil => rfl
  | _, _, .cons _ t => congrArg Nat.succ (RepDs.length t)
theorem RepDs.owns {K : PySem.W.Frag} {H : Hp} : ∀ {vs : List V} {ds : List D}, RepDs K H vs ds → Owns K H vs (ds.map T.d) []
  | _, _, .nil => .nil
  | _, _, .cons r t => .cons (.d r) (RepDs.owns t)
theorem RepDs.append {K : PySem.W.Frag} {H : Hp} : ∀ {vs us : List V} {ds es : List D}, RepDs K H vs ds → RepDs K H us es → RepDs K H (vs ++ us) (ds ++ es)
  | _, _, _, _, .nil, h => h
  | _, _, _, _, .cons r t, h => .cons r (RepDs.append t h)
theorem RepDs.get {K : PySem.W.Frag} {H : Hp} : ∀ {vs : List V} {ds : List D} {i : Nat} {d : D}, RepDs K H vs ds → ds[i]? = some d → ∃ v, vs[i]? = some v ∧ RepD K H v d
  | _, _, _, _, .nil, e => by simp at e
  | _, _, 0, _, .cons r _, e => by simp at e; subst e; exact ⟨_, rfl, r⟩
  | _, _, i + 1, d, .cons _ t, e => by
    obtain ⟨v, h1, h2⟩ := RepDs.get (i := i) (d := d) t (by simpa using e)
    exact ⟨v, by simpa using h1, h2⟩
theorem RepDs.take {K : PySem.W.Frag} {H : Hp} : ∀ {vs : List V} {ds : List D} (n : Nat), RepDs K H vs ds → RepDs K H (vs.take n) (ds.take n)
  | _, _, 0, _ => .nil
  | _, _, _ + 1, .nil => .nil
  | _, _, n + 1, .cons r t => .cons r (RepDs.take n t)
theorem RepDs.drop {K : PySem.W.Frag} {H : Hp} : ∀ {vs : List V} {ds : List D} (n : Nat), RepDs K H vs ds → RepDs K H (vs.drop n) (ds.drop n)
  | _, _, 0, r => r
  | _, _, _ + 1, .nil => .nil
  | _, _, n + 1, .cons _ t => RepDs.drop n t
theorem Owns.get {K : PySem.W.Frag} {H : Hp} : ∀ {vs : List V} {xs : List T} {F : List Addr} {i : Nat} {x : T}, Owns K H vs xs F → xs[i]? = some x → ∃ v G, vs[i]? = some v ∧ Own K H v x G ∧ ∀ a ∈ G, a ∈ F
  | _, _, _, _, _, .nil, e => by simp at e
  | _, _, _, 0, _, .cons r _, e => by simp at e; subst e; exact ⟨_, _, rfl, r, fun a m => List.mem_append_left _ m⟩
  | _, _, _, i + 1, x, .cons _ t, e => by
    obtain ⟨v, G, h1, h2, h3⟩ := Owns.get (i := i) (x := x) t (by simpa using e)
    exact ⟨v, G, by simpa using h1, h2, fun a m => List.mem_append_right _ (h3 a m)⟩
/-- a list of things that are all data -/
def allD : List T → Option (List D)
  | [] => some []
  | .d d :: r => (allD r).map (d :: ·)
  | .l _ :: _ => none
@[simp] theorem allD_map : ∀ ds : List D, allD (ds.map T.d) = some ds
  | [] => rfl
  | d :: r => by rw [List.map_cons, allD, allD_map r]; rfl
theorem allD_eq : ∀ {xs : List T} {ds : List D}, allD xs = some ds → xs = ds.map T.d
  | [], ds, h => by cases h; rfl
  | .d d :: r, ds, h => by
    unfold allD at h
    cases e : allD r with
    | none => rw [e] at h; cases h
    | some es => rw [e] at h; cases h; rw [allD_eq e]; rfl
  | .l _ :: _, ds, h => by cases h
theorem Owns.data {K : PySem.W.Frag} {H : Hp} : ∀ {vs : List V} {ds : List D} {F : List Addr}, Owns K H vs (ds.map T.d) F → RepDs K H vs ds ∧ F = []
  | _, [], _, .nil => ⟨.nil, rfl⟩
  | _, d :: ds, _, .cons (.d r) t => let ⟨a, b⟩ := Owns.data t; ⟨.cons r a, by rw [b]; rfl⟩

/-! ### the frame's things -/
inductive Sl where
  /-- nothing; our own; seen, not ours; lent to us, to be given back -/
  | n | v (x : T) | w (x : T) | b (x : T)
abbrev En := List Sl
def Sl.get : Sl → Option T
  | .n => none
  | .v x => some x
  | .w x => some x
  | .b x => some x
def at_ (en : En) (i : Nat) : Option T := match en[i]? with
  | some s => s.get
  | none => none
/-- an error: its class's name, its fields -/
structure Exc where
  tag : Str
  fl : Option (List (Str × D))
inductive R (α : Type) where
  | ok (a : α) | ex (c : Exc) | no
def R.bind {α β : Type} (r : R α) (f : α → R β) : R β := match r with
  | .ok a => f a
  | .ex c => .ex c
  | .no => .no
def R.of {α : Type} : Option α → R α
  | some a => .ok a
  | none => .no
/-- a datum alone -/
def R.pur : R T → R T
  | .ok (.d d) => .ok (.d d)
  | .ok (.l _) => .no
  | .ex c => .ex c
  | .no => .no
@[simp] theorem R.bind_ok {α β : Type} (a : α) (f : α → R β) : (R.ok a).bind f = f a := Eq.trans (b := f a) (Eq.refl _) (Eq.refl _)
@[simp] theorem R.bind_ex {α β : Type} (c : Exc) (f : α → R β) : (R.ex c).bind f = .ex c := rfl
@[simp] theorem R.bind_no {α β : Type} (f : α → R β) : (R.no).bind f = .no := rfl
@[simp] theorem R.of_some {α : Type} (a : α) : R.of (some a) = .ok a := rfl
@[simp] theorem R.of_none {α : Type} : R.of (none : Option α) = .no := rfl
@[simp] theorem R.pur_d (d : D) : R.pur (.ok (.d d)) = .ok (.d d) := rfl
@[simp] theorem R.pur_ex (c : Exc) : R.pur (.ex c) = .ex c := rfl

/-- each name's thing is seen -/
structure VEn (K : PySem.W.Frag) (H : Hp) (σ : St) (en : En) : Prop where
  len : en.length ≤ σ.length
  see : ∀ i x, at_ en i = some x → ∃ v G, σ[i]? = some (some v) ∧ Own K H v x G
theorem VEn.mono {K : PySem.W.Frag} {H H' : Hp} {σ : St} {en : En} (s : Same H H') (h : VEn K H σ en) : VEn K H' σ en := ⟨h.len, fun i x e =>
  let ⟨v, G, h1, h2⟩ := h.see i x e
  ⟨v, G, h1, h2.mono s⟩⟩
/-- how an error stands -/
def ExIs (K : PySem.W.Frag) (mg : Str → Option Value) (H : Hp) (c : Exc) (cls : Value) (dx : Option Addr) : Prop := mg c.tag = some cls ∧ match c.fl with
  | none => dx = none
  | some fs => ∃ a vs, dx = some a ∧ H a = some (.xd ((fs.map (·.1)).zip vs)) ∧ RepDs K H vs (fs.map (·.2))
theorem ExIs.mono {K : PySem.W.Frag} {mg : Str → Option Value} {H H' : Hp} {c : Exc} {cls : Value} {dx : Option Addr} (s : Same H H') (h : ExIs K mg H c cls dx) : ExIs K mg H' c cls dx := by
  obtain ⟨h1, h2⟩ := h
  refine ⟨h1, ?_⟩
  revert h2
  cases c.fl with
  | none => exact id
  | some fs => exact fun ⟨a, vs, e, h, r⟩ => ⟨a, vs, e, s a _ h, r.mono (.of s)⟩
/-- all new -/
def Fresh (H : Hp) (G : List Addr) : Prop := G.Nodup ∧ ∀ a ∈ G, H a = none
theorem Fresh.nil {H : Hp} : Fresh H [] := ⟨List.nodup_nil, fun _ h => absurd h List.not_mem_nil⟩

section
variable (X : Cx) (W : WX)
def XQ (σ : St) (H : Hp) (c : Exc) : Prop := ∀ cls dx H', Same H H' → ExIs X.K X.mg H' c cls dx → W cls dx σ H'
def VQ (σ : St) (H : Hp) (Q : VK) : R T → Prop
  | .ok x => ∀ v H' G, Same H H' → Own X.K H' v x G → Q v H'
  | .ex c => XQ X W σ H c
  | .no => False
def NQ (σ : St) (H : Hp) (Q : VK) : R T → Prop
  | .ok x => ∀ v H' G, Same H H' → Own X.K H' v x G → Fresh H G → Q v H'
  | .ex c => XQ X W σ H c
  | .no => False
def TQ (σ : St) (H : Hp) (Q : Bool → Hp → Prop) : R Bool → Prop
  | .ok b => ∀ H', Same H H' → Q b H'
  | .ex c => XQ X W σ H c
  | .no => False
/-- many things, seen -/
inductive Vws (K : PySem.W.Frag) (H : Hp) : List V → List T → Prop
  | nil : Vws K H [] []
  | cons {v : V} {vs : List V} {x : T} {xs : List T} {G : List Addr} : Own K H v x G → Vws K H vs xs → Vws K H (v :: vs) (x :: xs)
def AQ (σ : St) (H : Hp) (Q : List V → Hp → Prop) : R (List T) → Prop
  | .ok xs => ∀ vs H', Same H H' → Vws X.K H' vs xs → Q vs H'
  | .ex c => XQ X W σ H c
  | .no => False
def BQ (σ : St) (H : Hp) (Q : List V → Hp → Prop) : R (List T) → Prop
  | .ok xs => ∀ vs H' F, Same H H' → Owns X.K H' vs xs F → Fresh H F → Q vs H'
  | .ex c => XQ X W σ H c
  | .no => False
def SpV (g : En → R T) (t : TE) : Prop := ∀ σ H en Q, VEn X.K H σ en → VQ X W σ H Q (g en) → t σ H Q
def SpN (g : En → R T) (t : TE) : Prop := ∀ σ H en Q, VEn X.K H σ en → NQ X W σ H Q (g en) → t σ H Q
def SpT (g : En → R Bool) (t : TT) : Prop := ∀ σ H en Q, VEn X.K H σ en → TQ X W σ H Q (g en) → t σ H Q
def SpA (g : En → R (List T)) (t : TA) : Prop := ∀ σ H en Q, VEn X.K H σ en → AQ X W σ H Q (g en) → t σ H Q
def SpB (g : En → R (List T)) (t : TA) : Prop := ∀ σ H en Q, VEn X.K H σ en → BQ X W σ H Q (g en) → t σ H Q
/-- an expression that is seen; that is new (or a datum); a test; arguments seen; arguments new -/
def PV (e : Expr) (g : En → R T) : Prop := ∃ t, PE X e t ∧ SpV X W g t
def PN (e : Expr) (g : En → R T) : Prop := ∃ t, PE X e t ∧ SpN X W g t
def PC (e : Expr) (g : En → R Bool) : Prop := ∃ t, PT X e t ∧ SpT X W g t
def PWc (e : Expr) (g : En → R Bool) : Prop := ∃ t, PW X e t ∧ SpT X W g t
def PAv (es : List Expr) (g : En → R (List T)) : Prop := ∃ t, PA X es t ∧ SpA X W g t
def PAn (es : List Expr) (g : En → R (List T)) : Prop := ∃ t, PA X es t ∧ SpB X W g t
end
theorem Vws.mono {K : PySem.W.Frag} {H H' : Hp} (s : Same H H') : ∀ {vs : List V} {xs : List T}, Vws K H vs xs → Vws K H' vs xs
  | _, _, .nil => .nil
  | _, _, .cons h t => .cons (h.mono s) (Vws.mono s t)
theorem Vws.length {K : PySem.W.Frag} {H : Hp} : ∀ {vs : List V} {xs : List T}, Vws K H vs xs → vs.length = xs.length
  | _, _, .nil => rfl
  | _, _, .cons _ t => congrArg Nat.succ (Vws.length t)
theorem Owns.vws {K : PySem.W.Frag} {H : Hp} : ∀ {vs : List V} {xs : List T} {F : List Addr}, Owns K H vs xs F → Vws K H vs xs
  | _, _, _, .nil => .nil
  | _, _, _, .cons h t => .cons h (Owns.vws t)
theorem XQ.mono {X : Cx} {W : WX} {σ : St} {H H' : Hp} {c : Exc} (s : Same H H') (h : XQ X W σ H c) : XQ X W σ H' c := fun cls dx H2 s2 e => h cls dx H2 (s.trans s2) e
section
variable {X : Cx} {W : WX} {e : Expr} {g : En → R T}
theorem VQ.nq {σ : St} {H : Hp} {Q : VK} {r : R T} (h : VQ X W σ H Q r) : NQ X W σ H Q r := by
  cases r with
  | ok x => exact fun v H' G s o _ => h v H' G s o
  | ex c => exact h
  | no => exact h
theorem PN.v (h : PN X W e g) : PV X W e g := let ⟨t, p, s⟩ := h; ⟨t, p, fun σ H en Q v q => s σ H en Q v q.nq⟩
theorem PV.pur (h : PV X W e g) : PN X W e (fun en => (g en).pur) := by
  obtain ⟨t, p, s⟩ := h
  refine ⟨t, p, fun σ H en Q v q => s σ H en Q v ?_⟩
  have q : NQ X W σ H Q (g en).pur := q
  revert q
  cases g en with
  | ok x =>
    cases x with
    | d d => exact fun q v H' G sm o => q v H' G sm o (by cases o; exact Fresh.nil)
    | l xs => exact fun q => q.elim
  | ex c => exact id
  | no => exact id
/-! ### names, constants -/
theorem v_name (i : Nat) {x : Str} {pos : Pos} (hN : X.N[i]? = some x := by rfl) (hv : Vis X.env.scope x := by first | exact Or.inl rfl | exact Or.inr (Or.inl rfl) | exact Or.inr (Or.inr rfl)) (hd : (x == ("__debug__" : Str)) = false := by decide)
    (hcd : (x == ("__classdict__" : Str)) = false := by decide) : PV X W (.Name x pos) (fun en => R.of (at_ en i)) := by
  refine ⟨_, pe_var hN hv hd hcd, fun σ H en Q ve q => ?_⟩
  have q : VQ X W σ H Q (R.of (at_ en i)) := q
  revert q
  cases h : at_ en i with
  | none => exact fun q => q.elim
  | some x =>
    obtain ⟨v, G, h1, h2⟩ := ve.see i x h
    exact fun q => ⟨v, h1, q v H G (Same.refl H) h2⟩
theorem n_int {i : Int} {j pos} : PN X W (.Constant (.int i) j pos) (fun _ => .ok (.d (.int i))) := ⟨_, pe_int, fun _ H _ _ _ q => q _ H _ (Same.refl H) (.d (.int i)) Fresh.nil⟩
theorem n_bl {i : Bool} {j pos} : PN X W (.Constant (.bool i) j pos) (fun _ => .ok (.d (.bl i))) := ⟨_, pe_bl, fun _ H _ _ _ q => q _ H _ (Same.refl H) (.d (.bl i)) Fresh.nil⟩
theorem n_non {j pos} : PN X W (.Constant .none j pos) (fun _ => .ok (.d .non)) := ⟨_, pe_non, fun _ H _ _ _ q => q _ H _ (Same.refl H) (.d .non) Fresh.nil⟩
theorem n_str {x : Str} {j pos} : PN X W (.Constant (.str x) j pos) (fun _ => .ok (.d (.str x))) := ⟨_, pe_str, fun _ H _ _ _ q => q _ H _ (Same.refl H) (.d (.str x)) Fresh.nil⟩
/-- a module's constant -/
theorem n_glob {x : Str} {v : V} {u : Value} {d : D} {pos : Pos} (hg : Gl X x) (hm : X.mg x = some u) (r : RelV v u) (hr : ∀ H, RepD X.K H v d) (hd : (x == ("__debug__" : Str)) = false := by decide) : PN X W (.Name x pos) (fun _ => .ok (.d d)) :=
  ⟨_, pe_glob hg hm r hd, fun _ H _ _ _ q => q _ H _ (Same.refl H) (.d (hr H)) Fresh.nil⟩
/-! ### operations of two -/
/-- what an operation does with things that are seen -/
def Q2 (K : PySem.W.Frag) (r : R2) (f : T → T → Option T) : Prop := ∀ (H : Hp) (x y z : T) (vx vy : V) (Gx Gy : List Addr) (Q : VK), Own K H vx x Gx → Own K H vy y Gy → f x y = some z →
  (∀ v H' G, Same H H' → Own K H' v z G → Fresh H G → Q v H') → r vx vy H Q
/-- .. what it gives is seen in them -/
def Q2v (K : PySem.W.Frag) (r : R2) (f : T → T → Option T) : Prop := ∀ (H : Hp) (x y z : T) (vx vy : V) (Gx Gy : List Addr) (Q : VK), Own K H vx x Gx → Own K H vy y Gy → f x y = some z →
  (∀ v H' G, Same H H' → Own K H' v z G → Q v H') → r vx vy H Q
def g2 (f : T → T → Option T) (ga gb : En → R T) : En → R T := fun en => (ga en).bind fun x => (gb en).bind fun y => .of (f x y)
theorem Q2.v {K : PySem.W.Frag} {r : R2} {f : T → T → Option T} (h : Q2 K r f) : Q2v K r f := fun H x y z vx vy Gx Gy Q a b e q => h H x y z vx vy Gx Gy Q a b e fun v H' G s o _ => q v H' G s o
theorem sp2 {r : R2} {f : T → T → Option T} {ga gb : En → R T} {ta tb : TE} (q : Q2 X.K r f) (a : SpV X W ga ta) (b : SpV X W gb tb) : SpN X W (g2 f ga gb) (tOp r ta tb) := by
  intro σ H en Q ve h
  refine a σ H en _ ve ?_
  unfold g2 at h
  cases ea : ga en with
  | ok x =>
    rw [ea] at h
    intro v1 H1 G1 s1 o1
    refine b σ H1 en _ (ve.mono s1) ?_
    cases eb : gb en with
    | ok y =>
      rw [eb] at h
      intro v2 H2 G2 s2 o2
      cases ef : f x y with
      | none => simp only [R.bind_ok, ef, R.of_none] at h; exact h.elim
      | some z =>
        simp only [R.bind_ok, ef, R.of_some] at h
        refine q H2 x y z v1 v2 G1 G2 Q (o1.mono s2) o2 ef fun v H' G s o fr => h v H' G ((s1.trans s2).trans s) o ⟨fr.1, fun c m => ?_⟩
        exact (s1.trans s2).free (fr.2 c m)
    | ex c => rw [eb] at h; exact XQ.mono (W := W) s1 h
    | no => rw [eb] at h; exact h
  | ex c => rw [ea] at h; exact h
  | no => rw [ea] at h; exact h
theorem sp2v {r : R2} {f : T → T → Option T} {ga gb : En → R T} {ta tb : TE} (q : Q2v X.K r f) (a : SpV X W ga ta) (b : SpV X W gb tb) : SpV X W (g2 f ga gb) (tOp r ta tb) := by
  intro σ H en Q ve h
  refine a σ H en _ ve ?_
  unfold g2 at h
  cases ea : ga en with
  | ok x =>
    rw [ea] at h
    intro v1 H1 G1 s1 o1
    refine b σ H1 en _ (ve.mono s1) ?_
    cases eb : gb en with
    | ok y =>
      rw [eb] at h
      intro v2 H2 G2 s2 o2
      cases ef : f x y with
      | none => simp only [R.bind_ok, ef, R.of_none] at h; exact h.elim
      | some z =>
        simp only [R.bind_ok, ef, R.of_some] at h
        exact q H2 x y z v1 v2 G1 G2 Q (o1.mono s2) o2 ef fun v H' G s o => h v H' G ((s1.trans s2).trans s) o
    | ex c => rw [eb] at h; exact XQ.mono (W := W) s1 h
    | no => rw [eb] at h; exact h
  | ex c => rw [ea] at h; exact h
  | no => rw [ea] at h; exact h
variable {a b : Expr} {ga gb : En → R T} {pos : Pos}
/-- a rule of the layer beside what it computes -/
structure Bn (X : Cx) (op : Operator) (f : T → T → Option T) : Prop where
  p : ∃ r, OpR X (binaryOp op) r ∧ Q2 X.K r f
structure Cm (X : Cx) (op : CmpOp) (f : T → T → Option T) : Prop where
  p : ∃ r, OpR X (compareOp op) r ∧ Q2 X.K r f
theorem n_bin {op : Operator} {f : T → T → Option T} (o : Bn X op f) (ha : PV X W a ga) (hb : PV X W b gb) : PN X W (.BinOp a op b pos) (g2 f ga gb) := by
  obtain ⟨r, ho, q⟩ := o.p
  obtain ⟨ta, pa, sa⟩ := ha
  obtain ⟨tb, pb, sb⟩ := hb
  exact ⟨_, pe_op ho pa pb, sp2 q sa sb⟩
theorem n_cmp {op : CmpOp} {f : T → T → Option T} (o : Cm X op f) (ha : PV X W a ga) (hb : PV X W b gb) (hm : behindInMarks op b = false := by first | exact nomark _ | with_unfolding_all rfl) : PN X W (.Compare a [op] [b] pos) (g2 f ga gb) := by
  obtain ⟨r, ho, q⟩ := o.p
  obtain ⟨ta, pa, sa⟩ := ha
  obtain ⟨tb, pb, sb⟩ := hb
  exact ⟨_, pe_cmpR ho pa pb hm, sp2 q sa sb⟩
/-- a value as a test -/
def tst : T → Option Bool
  | .d (.bl b) => some b
  | _ => none
def gT (g : En → R T) : En → R Bool := fun en => (g en).bind fun x => .of (tst x)
theorem spTest {t : TE} (a : SpV X W g t) : SpT X W (gT g) (tTest t) := by
  intro σ H en Q ve h
  refine a σ H en _ ve ?_
  unfold gT at h
  cases ea : g en with
  | ok x =>
    rw [ea] at h
    intro v H' G s o
    cases x with
    | d d =>
      cases o with
      | d r =>
        cases r with
        | bl k => exact ⟨k, rfl, h H' s⟩
        | _ => exact h.elim
    | l xs => exact h.elim
  | ex c => rw [ea] at h; exact h
  | no => rw [ea] at h; exact h
theorem c_cmp {op : CmpOp} {f : T → T → Option T} (o : Cm X op f) (ha : PV X W a ga) (hb : PV X W b gb) (hm : behindInMarks op b = false := by first | exact nomark _ | with_unfolding_all rfl) : PC X W (.Compare a [op] [b] pos) (gT (g2 f ga gb)) := by
  obtain ⟨r, ho, q⟩ := o.p
  obtain ⟨ta, pa, sa⟩ := ha
  obtain ⟨tb, pb, sb⟩ := hb
  exact ⟨_, pt_cmpR ho pa pb hm, spTest (sp2v q.v sa sb)⟩
end
end Z
/-! Z: operations on things. -/
namespace Z
open PySem PySem.Spec L2
open PyProof.Rows hiding St

theorem same_new {H : Hp} {p : Addr} {o : HO} (h : H p = none) : Same H (upd H p o) := fun b x e => by
  rw [upd_ne (ne_of_none e h)]
  exact e
/-- how big a list or a text may be -/
abbrev most : Nat := 16777216
theorem most_eq : sizeLine = most := sizeLine_eq
def MulOk (i j : Int) : Prop := (i.natAbs < 18446744073709551616 ∨ j.natAbs < 18446744073709551616) ∨ i.natAbs.log2 + j.natAbs.log2 < 1000000
instance {i j : Int} : Decidable (MulOk i j) := by unfold MulOk; infer_instance
theorem MulOk.l {i j : Int} (h : i.natAbs < 18446744073709551616) : MulOk i j := .inl (.inl h)
theorem MulOk.r {i j : Int} (h : j.natAbs < 18446744073709551616) : MulOk i j := .inl (.inr h)
def fAdd : T → T → Option T
  | .d (.int i), .d (.int j) => some (.d (.int (i + j)))
  | .d (.str a), .d (.str b) => if a.length + b.length ≤ most then some (.d (.str (a ++ b))) else none
  | .d (.tup a), .d (.tup b) => if a.length + b.length ≤ most then some (.d (.tup (a ++ b))) else none
  | .l a, .l b => match allD a, allD b with
    | some a, some b => if a.length + b.length ≤ most then some (.l ((a ++ b).map T.d)) else none
    | _, _ => none
  | _, _ => none
def fSub : T → T → Option T
  | .d (.int i), .d (.int j) => some (.d (.int (i - j)))
  | _, _ => none
def fMul : T → T → Option T
  | .d (.int i), .d (.int j) => if MulOk i j then some (.d (.int (i * j))) else none
  | .l a, .d (.int k) => match allD a with
    | some a => if -9223372036854775808 ≤ k ∧ k < 9223372036854775808 ∧ a.length * k.toNat ≤ most then some (.l ((List.replicate k.toNat a).flatten.map T.d)) else none
    | none => none
  | _, _ => none
def fMod : T → T → Option T
  | .d (.int i), .d (.int j) => if 0 < j then some (.d (.int (i % j))) else none
  | _, _ => none
def fDiv : T → T → Option T
  | .d (.int i), .d (.int j) => if 0 < j ∧ j.natAbs.log2 < 9000 then some (.d (.int (i / j))) else none
  | _, _ => none
def fPow : T → T → Option T
  | .d (.int i), .d (.int j) => if 0 ≤ j ∧ j ≤ 1000000 ∧ i.natAbs < 18446744073709551616 then some (.d (.int (i ^ j.toNat))) else none
  | _, _ => none
/-! a datum as the library's data -/
mutual
def D.py : D → PyData
  | .non => .none
  | .bl b => .bool b
  | .int i => .int i
  | .str s => .str s
  | .tup ds => .tuple (D.pys ds)
  | .rol ds => .list (D.pys ds)
def D.pys : List D → List PyData
  | [] => []
  | d :: ds => d.py :: D.pys ds
end
mutual
def T.py : T → PyData
  | .d e => D.py e
  | .l xs => .list (T.pys xs)
def T.pys : List T → List PyData
  | [] => []
  | x :: xs => x.py :: T.pys xs
end
theorem Pst.same {H : Hp} : Pst H H := Pst.refl H
mutual
theorem RepD.dp {K : PySem.W.Frag} {H : Hp} : ∀ {v : V} {d : D}, RepD K H v d → Dp K H v d.py
  | _, _, .non => .non
  | _, _, .bl b => .bl b
  | _, _, .int i => .int i
  | _, _, .str s => .str s
  | _, _, .tup h r => .tup h (RepDs.dp r)
  | _, _, .rol h r => .lst (h H (Pst.refl H)) (RepDs.dp r)
theorem RepDs.dp {K : PySem.W.Frag} {H : Hp} : ∀ {vs : List V} {ds : List D}, RepDs K H vs ds → DpAll K H vs (D.pys ds)
  | _, _, .nil => .nil
  | _, _, .cons r t => .cons (RepD.dp r) (RepDs.dp t)
end
mutual
theorem Own.dp {K : PySem.W.Frag} {H : Hp} : ∀ {v : V} {x : T} {F : List Addr}, Own K H v x F → Dp K H v x.py
  | _, _, _, .d r => r.dp
  | _, _, _, .l h r => .lst (SqL.of h) (Owns.dp r)
theorem Owns.dp {K : PySem.W.Frag} {H : Hp} : ∀ {vs : List V} {xs : List T} {F : List Addr}, Owns K H vs xs F → DpAll K H vs (T.pys xs)
  | _, _, _, .nil => .nil
  | _, _, _, .cons r t => .cons (Own.dp r) (Owns.dp t)
end
def shp (d : PyData) : Bool := SeqAt.shaped d
def fEq (x y : T) : Option T := if shp x.py && shp y.py then some (.d (.bl (PyData.eqv x.py y.py))) else none
def fNe (x y : T) : Option T := if shp x.py && shp y.py then some (.d (.bl (!PyData.eqv x.py y.py))) else none
def fLt : T → T → Option T
  | .d (.int i), .d (.int j) => some (.d (.bl (decide (i < j))))
  | .d (.str i), .d (.str j) => some (.d (.bl (decide (i.cps.toList < j.cps.toList))))
  | _, _ => none
def fLe : T → T → Option T
  | .d (.int i), .d (.int j) => some (.d (.bl (decide (i ≤ j))))
  | _, _ => none
def fGt : T → T → Option T
  | .d (.int i), .d (.int j) => some (.d (.bl (decide (j < i))))
  | _, _ => none
def fGe : T → T → Option T
  | .d (.int i), .d (.int j) => some (.d (.bl (decide (j ≤ i))))
  | _, _ => none
/-- data that are no tuples, no lists -/
def flt : D → Bool
  | .tup _ => false
  | .rol _ => false
  | _ => true
def fv : D → V
  | .non => .non
  | .bl b => .bl b
  | .int i => .int i
  | .str s => .str s
  | _ => .non
theorem RepD.flat {K : PySem.W.Frag} {H : Hp} {v : V} {d : D} (r : RepD K H v d) (h : flt d = true) : v = fv d ∧ flatV v = true := by
  cases r with
  | tup _ _ => cases h
  | rol _ _ => cases h
  | _ => exact ⟨rfl, rfl⟩
theorem RepDs.flat {K : PySem.W.Frag} {H : Hp} : ∀ {vs : List V} {ds : List D}, RepDs K H vs ds → ds.all flt = true → vs = ds.map fv ∧ vs.all flatV = true
  | _, _, .nil, _ => ⟨rfl, rfl⟩
  | _, _, .cons r t, h => by
    rw [List.all_cons, Bool.and_eq_true] at h
    obtain ⟨e1, f1⟩ := r.flat h.1
    obtain ⟨e2, f2⟩ := RepDs.flat t h.2
    exact ⟨by rw [e1, e2]; rfl, by rw [List.all_cons, f1, f2]; rfl⟩
/-- the items of a list or tuple that are data -/
def dataOf : T → Option (List D)
  | .d (.tup ds) => some ds
  | .d (.rol ds) => some ds
  | .l xs => allD xs
  | _ => none
theorem dataOf_ok {K : PySem.W.Frag} {H : Hp} {v : V} {x : T} {G : List Addr} {ds : List D} (o : Own K H v x G) (h : dataOf x = some ds) : ∃ a vs, v = .ref a ∧ (SqL K H a vs ∨ SqT K H a vs) ∧ RepDs K H vs ds := by
  cases o with
  | d r =>
    cases r with
    | tup s r => cases h; exact ⟨_, _, rfl, .inr s, r⟩
    | rol s r => cases h; exact ⟨_, _, rfl, .inl (s H (Pst.refl H)), r⟩
    | _ => cases h
  | l s r =>
    have e := allD_eq h
    subst e
    exact ⟨_, _, rfl, .inl (SqL.of s), r.data.1⟩
def isIn (d : D) (ds : List D) : Bool := inV (fv d) (ds.map fv)
def strIn (a b : Str) : Bool := !(Builtin.Str.occurrences b a 0 b.length 1).isEmpty
def fIn : T → T → Option T
  | .d (.str a), .d (.str b) => some (.d (.bl (strIn a b)))
  | .d d, y => match dataOf y with
    | some ds => if flt d && ds.all flt then some (.d (.bl (isIn d ds))) else none
    | none => none
  | _, _ => none
def fNotIn : T → T → Option T
  | .d (.str a), .d (.str b) => some (.d (.bl (!strIn a b)))
  | .d d, y => match dataOf y with
    | some ds => if flt d && ds.all flt then some (.d (.bl (!isIn d ds))) else none
    | none => none
  | _, _ => none
def fIs : T → T → Option T
  | .d .non, .d .non => some (.d (.bl true))
  | .d (.bl a), .d (.bl b) => some (.d (.bl (decide (a = b))))
  | .d (.bl _), .d .non => some (.d (.bl false))
  | .d (.int _), .d .non => some (.d (.bl false))
  | .d (.str _), .d .non => some (.d (.bl false))
  | .d (.tup _), .d .non => some (.d (.bl false))
  | _, _ => none
def fIsNot : T → T → Option T
  | .d .non, .d .non => some (.d (.bl false))
  | .d (.bl a), .d (.bl b) => some (.d (.bl (!decide (a = b))))
  | .d (.bl _), .d .non => some (.d (.bl true))
  | .d (.int _), .d .non => some (.d (.bl true))
  | .d (.str _), .d .non => some (.d (.bl true))
  | .d (.tup _), .d .non => some (.d (.bl true))
  | _, _ => none
section
variable {X : Cx}
theorem fin_d {K : PySem.W.Frag} {H : Hp} {v : V} {d : D} {Q : VK} (r : RepD K H v d) (q : ∀ v H' G, Same H H' → Own K H' v (.d d) G → Fresh H G → Q v H') : Q v H := q v H [] (Same.refl H) (.d r) Fresh.nil
theorem b_sub : Bn X .Sub fSub := ⟨_, op_sub, fun H x y z vx vy Gx Gy Q ox oy e q => by
  unfold fSub at e
  split at e <;> cases e
  cases ox with | d r1 => cases oy with | d r2 => cases r1; cases r2; exact ⟨_, _, rfl, rfl, fin_d (.int _) q⟩⟩
theorem b_mod : Bn X .Mod fMod := ⟨_, op_mod, fun H x y z vx vy Gx Gy Q ox oy e q => by
  unfold fMod at e
  split at e
  · split at e <;> cases e
    rename_i h
    cases ox with | d r1 => cases oy with | d r2 => cases r1; cases r2; exact ⟨_, _, rfl, rfl, h, fin_d (.int _) q⟩
  · cases e⟩
theorem b_div : Bn X .FloorDiv fDiv := ⟨_, op_fdivW, fun H x y z vx vy Gx Gy Q ox oy e q => by
  unfold fDiv at e
  split at e
  · split at e <;> cases e
    rename_i h
    cases ox with | d r1 => cases oy with | d r2 => cases r1; cases r2; exact ⟨_, _, rfl, rfl, h, fin_d (.int _) q⟩
  · cases e⟩
theorem b_pow : Bn X .Pow fPow := ⟨_, op_pow, fun H x y z vx vy Gx Gy Q ox oy e q => by
  unfold fPow at e
  split at e
  · split at e <;> cases e
    rename_i h
    cases ox with | d r1 => cases oy with | d r2 => cases r1; cases r2; exact ⟨_, _, rfl, rfl, h, fin_d (.int _) q⟩
  · cases e⟩
theorem b_add : Bn X .Add fAdd := ⟨_, op_add.or (op_add_str.or (op_catA.or op_cat)), fun H x y z vx vy Gx Gy Q ox oy e q => by
  unfold fAdd at e
  split at e
  · cases e
    cases ox with | d r1 => cases oy with | d r2 => cases r1; cases r2; exact .inl ⟨_, _, rfl, rfl, fin_d (.int _) q⟩
  · split at e <;> cases e
    rename_i h
    cases ox with | d r1 => cases oy with | d r2 => cases r1; cases r2; exact .inr (.inl ⟨_, _, rfl, rfl, by rw [most_eq]; exact h, fin_d (.str _) q⟩)
  · split at e <;> cases e
    rename_i h
    cases ox with
    | d r1 => cases oy with
      | d r2 =>
        cases r1 with
        | tup s1 p1 => cases r2 with
          | tup s2 p2 =>
            refine .inr (.inr (.inl ⟨_, _, _, _, rfl, rfl, s1, s2, by rw [most_eq, p1.length, p2.length]; exact h, fun e => ?_, fun e1 e2 => ?_, fun _ _ p np => ?_⟩))
            · subst e; cases p1; exact fin_d (.tup s2 p2) q
            · subst e2; cases p2; rw [List.append_nil] at q; exact fin_d (.tup s1 p1) q
            · exact q _ _ [] (same_new np) (.d (.tup (SqT.of upd_same) ((p1.mono (.of (same_new np))).append (p2.mono (.of (same_new np)))))) Fresh.nil
  · rename_i a b
    split at e
    · rename_i a' b' e1 e2
      split at e <;> cases e
      rename_i h
      have e1 := allD_eq e1
      have e2 := allD_eq e2
      subst e1 e2
      cases ox with
      | l h1 o1 => cases oy with
        | l h2 o2 =>
          have d1 := o1.data.1
          have d2 := o2.data.1
          refine .inr (.inr (.inr ⟨_, _, _, _, rfl, rfl, h1, h2, by rw [most_eq, d1.length, d2.length]; exact h, fun p np => ?_⟩))
          refine q _ _ [p] (same_new np) (.l upd_same ((d1.mono (.of (same_new np))).append (d2.mono (.of (same_new np)))).owns) ⟨by simp, fun c m => ?_⟩
          have e : c = p := by simpa using m
          rw [e]; exact np
    · cases e
  · cases e⟩
theorem b_mul : Bn X .Mult fMul := ⟨_, op_mul.or (op_mulW.or op_rep), fun H x y z vx vy Gx Gy Q ox oy e q => by
  unfold fMul at e
  split at e
  · split at e <;> cases e
    rename_i h
    cases ox with
    | d r1 => cases oy with
      | d r2 =>
        cases r1; cases r2
        rcases h with (h | h) | h
        · exact .inl ⟨_, _, rfl, rfl, .inl (by omega), fin_d (.int _) q⟩
        · exact .inl ⟨_, _, rfl, rfl, .inr (by omega), fin_d (.int _) q⟩
        · exact .inr (.inl ⟨_, _, rfl, rfl, h, fin_d (.int _) q⟩)
  · split at e
    · rename_i a' e1
      split at e <;> cases e
      rename_i h
      have e1 := allD_eq e1
      subst e1
      cases ox with
      | l h1 o1 => cases oy with
        | d r2 =>
          cases r2
          have d1 := o1.data.1
          refine .inr (.inr ⟨_, _, _, rfl, rfl, h1, by omega, by omega, by rw [most_eq, d1.length]; exact h.2.2, fun p np => ?_⟩)
          have rr : ∀ k : Nat, RepDs X.K H (List.replicate k _).flatten (List.replicate k _).flatten := fun k => by
            induction k with
            | zero => exact .nil
            | succ k ih => rw [List.replicate_succ, List.replicate_succ, List.flatten_cons, List.flatten_cons]; exact d1.append ih
          refine q _ _ [p] (same_new np) (.l upd_same ((rr _).mono (.of (same_new np))).owns) ⟨by simp, fun c m => ?_⟩
          have e : c = p := by simpa using m
          rw [e]; exact np
    · cases e
  · cases e⟩
theorem m_lt : Cm X .Lt fLt := ⟨_, op_lt.or op_lt_str, fun H x y z vx vy Gx Gy Q ox oy e q => by
  unfold fLt at e
  split at e <;> cases e
  · cases ox with | d r1 => cases oy with | d r2 => cases r1; cases r2; exact .inl ⟨_, _, rfl, rfl, fin_d (.bl _) q⟩
  · cases ox with | d r1 => cases oy with | d r2 => cases r1; cases r2; exact .inr ⟨_, _, rfl, rfl, fin_d (.bl _) q⟩⟩
theorem m_le : Cm X .LtE fLe := ⟨_, op_le, fun H x y z vx vy Gx Gy Q ox oy e q => by
  unfold fLe at e
  split at e <;> cases e
  cases ox with | d r1 => cases oy with | d r2 => cases r1; cases r2; exact ⟨_, _, rfl, rfl, fin_d (.bl _) q⟩⟩
theorem m_gt : Cm X .Gt fGt := ⟨_, op_gt, fun H x y z vx vy Gx Gy Q ox oy e q => by
  unfold fGt at e
  split at e <;> cases e
  cases ox with | d r1 => cases oy with | d r2 => cases r1; cases r2; exact ⟨_, _, rfl, rfl, fin_d (.bl _) q⟩⟩
theorem m_ge : Cm X .GtE fGe := ⟨_, op_ge, fun H x y z vx vy Gx Gy Q ox oy e q => by
  unfold fGe at e
  split at e <;> cases e
  cases ox with | d r1 => cases oy with | d r2 => cases r1; cases r2; exact ⟨_, _, rfl, rfl, fin_d (.bl _) q⟩⟩
theorem m_eq (hu : X.A.units + 64 < cLine) : Cm X .Eq fEq := ⟨_, op_eqD hu, fun H x y z vx vy Gx Gy Q ox oy e q => by
  unfold fEq at e
  split at e <;> cases e
  rename_i h
  rw [Bool.and_eq_true] at h
  exact ⟨_, _, ox.dp, oy.dp, h.1, h.2, fin_d (.bl _) q⟩⟩
theorem m_ne (hu : X.A.units + 64 < cLine) : Cm X .NotEq fNe := ⟨_, op_neD hu, fun H x y z vx vy Gx Gy Q ox oy e q => by
  unfold fNe at e
  split at e <;> cases e
  rename_i h
  rw [Bool.and_eq_true] at h
  exact ⟨_, _, ox.dp, oy.dp, h.1, h.2, fin_d (.bl _) q⟩⟩
theorem m_in : Cm X .In fIn := ⟨_, op_in_str.or op_in_seq, fun H x y z vx vy Gx Gy Q ox oy e q => by
  unfold fIn at e
  split at e
  · cases e
    cases ox with | d r1 => cases oy with | d r2 => cases r1; cases r2; exact .inl ⟨_, _, rfl, rfl, fin_d (.bl _) q⟩
  · split at e
    · rename_i ds e1
      split at e <;> cases e
      rename_i h
      rw [Bool.and_eq_true] at h
      obtain ⟨a, vs, rfl, sq, rr⟩ := dataOf_ok oy e1
      cases ox with
      | d r1 =>
        obtain ⟨e2, f2⟩ := r1.flat h.1
        obtain ⟨e3, f3⟩ := rr.flat h.2
        refine .inr ⟨a, vs, rfl, sq, f2, f3, ?_⟩
        rw [e2, e3]
        exact fin_d (.bl _) q
    · cases e
  · cases e⟩
theorem m_notIn : Cm X .NotIn fNotIn := ⟨_, L2.op_notIn_str.or op_notIn_seq, fun H x y z vx vy Gx Gy Q ox oy e q => by
  unfold fNotIn at e
  split at e
  · cases e
    cases ox with | d r1 => cases oy with | d r2 => cases r1; cases r2; exact .inl ⟨_, _, rfl, rfl, fin_d (.bl _) q⟩
  · split at e
    · rename_i ds e1
      split at e <;> cases e
      rename_i h
      rw [Bool.and_eq_true] at h
      obtain ⟨a, vs, rfl, sq, rr⟩ := dataOf_ok oy e1
      cases ox with
      | d r1 =>
        obtain ⟨e2, f2⟩ := r1.flat h.1
        obtain ⟨e3, f3⟩ := rr.flat h.2
        refine .inr ⟨a, vs, rfl, sq, f2, f3, ?_⟩
        rw [e2, e3]
        exact fin_d (.bl _) q
    · cases e
  · cases e⟩
theorem m_is : Cm X .Is fIs := ⟨_, op_isN.or op_isBl, fun H x y z vx vy Gx Gy Q ox oy e q => by
  unfold fIs at e
  split at e <;> cases e
  · cases ox with | d r1 => cases oy with | d r2 => cases r1; cases r2; exact .inl ⟨rfl, fin_d (.bl _) q⟩
  · cases ox with | d r1 => cases oy with | d r2 => cases r1; cases r2; exact .inr ⟨_, _, rfl, rfl, fin_d (.bl _) q⟩
  · cases ox with | d r1 => cases oy with | d r2 => cases r1; cases r2; exact .inl ⟨rfl, fin_d (.bl _) q⟩
  · cases ox with | d r1 => cases oy with | d r2 => cases r1; cases r2; exact .inl ⟨rfl, fin_d (.bl _) q⟩
  · cases ox with | d r1 => cases oy with | d r2 => cases r1; cases r2; exact .inl ⟨rfl, fin_d (.bl _) q⟩
  · cases ox with | d r1 => cases oy with | d r2 => cases r1; cases r2; exact .inl ⟨rfl, fin_d (.bl _) q⟩⟩
theorem m_isNot : Cm X .IsNot fIsNot := ⟨_, op_notN.or op_notBl, fun H x y z vx vy Gx Gy Q ox oy e q => by
  unfold fIsNot at e
  split at e <;> cases e
  · cases ox with | d r1 => cases oy with | d r2 => cases r1; cases r2; exact .inl ⟨rfl, fin_d (.bl _) q⟩
  · cases ox with | d r1 => cases oy with | d r2 => cases r1; cases r2; exact .inr ⟨_, _, rfl, rfl, fin_d (.bl _) q⟩
  · cases ox with | d r1 => cases oy with | d r2 => cases r1; cases r2; exact .inl ⟨rfl, fin_d (.bl _) q⟩
  · cases ox with | d r1 => cases oy with | d r2 => cases r1; cases r2; exact .inl ⟨rfl, fin_d (.bl _) q⟩
  · cases ox with | d r1 => cases oy with | d r2 => cases r1; cases r2; exact .inl ⟨rfl, fin_d (.bl _) q⟩
  · cases ox with | d r1 => cases oy with | d r2 => cases r1; cases r2; exact .inl ⟨rfl, fin_d (.bl _) q⟩⟩
end
end Z
/-! Z: tests, chains, items, slices, displays, calls of built-ins. -/
namespace Z
open PySem PySem.Spec L2
open PyProof.Rows hiding St

/-- the truth of a thing -/
def tru : T → Option Bool
  | .d .non => some false
  | .d (.bl b) => some b
  | .d (.int i) => some (i != 0)
  | .d (.str y) => if y.length ≤ most then some ((y.length : Int) != 0) else none
  | .d (.tup ds) => some (!ds.isEmpty)
  | .d (.rol ds) => some (!ds.isEmpty)
  | .l xs => some (!xs.isEmpty)
theorem empty_len {α β : Type} {xs : List α} {ys : List β} (h : xs.length = ys.length) : xs.isEmpty = ys.isEmpty := by
  cases xs with
  | nil => cases ys with
    | nil => rfl
    | cons y r => cases h
  | cons x r => cases ys with
    | nil => cases h
    | cons y r => rfl
theorem tru_is {K : PySem.W.Frag} {H : Hp} {v : V} {x : T} {G : List Addr} {k : Bool} (o : Own K H v x G) (h : tru x = some k) : TruV K v H k := by
  cases o with
  | d r =>
    cases r with
    | non => cases h; exact rfl
    | bl b => cases h; exact rfl
    | int i => cases h; exact rfl
    | str y =>
      have h' : (if y.length ≤ most then some ((y.length : Int) != 0) else none) = some k := h
      by_cases hz : y.length ≤ most
      · rw [if_pos hz] at h'
        cases h'
        exact ⟨by rw [most_eq]; exact hz, rfl⟩
      · rw [if_neg hz] at h'
        cases h'
    | tup s r => cases h; exact .inr (.inl ⟨_, s, by rw [empty_len r.length]⟩)
    | rol s r => cases h; exact .inl ⟨_, s H (Pst.refl H), by rw [empty_len r.length]⟩
  | l s r => cases h; exact .inl ⟨_, SqL.of s, by rw [empty_len r.length]⟩
def gTru (g : En → R T) : En → R Bool := fun en => (g en).bind fun x => .of (tru x)
def gNot (g : En → R Bool) : En → R Bool := fun en => (g en).bind fun b => .ok (!b)
def gAnd (g h : En → R Bool) : En → R Bool := fun en => (g en).bind fun b => if b = true then h en else .ok false
def gOr (g h : En → R Bool) : En → R Bool := fun en => (g en).bind fun b => if b = true then .ok true else h en
def gNotV (g : En → R T) : En → R T := fun en => (g en).bind fun x => (R.of (tru x)).bind fun b => .ok (.d (.bl (!b)))
def gAndV (g h : En → R T) : En → R T := fun en => (g en).bind fun x => (R.of (tru x)).bind fun b => if b = true then h en else .ok x
def gOrV (g h : En → R T) : En → R T := fun en => (g en).bind fun x => (R.of (tru x)).bind fun b => if b = true then .ok x else h en
def gIf {α : Type} (c : En → R Bool) (g h : En → R α) : En → R α := fun en => (c en).bind fun b => if b = true then g en else h en
section
variable {X : Cx} {W : WX} {a b c : Expr} {rest : List Expr} {pos : Pos} {g h ga gb : En → R T} {tc td : En → R Bool}
theorem TQ.same {σ : St} {H H' : Hp} {Q : Bool → Hp → Prop} {r : R Bool} (s : Same H H') (h : TQ X W σ H Q r) : TQ X W σ H' Q r := by
  cases r with
  | ok b => exact fun H2 s2 => h H2 (s.trans s2)
  | ex c => exact XQ.mono (W := W) s h
  | no => exact h
theorem VQ.same {σ : St} {H H' : Hp} {Q : VK} {r : R T} (s : Same H H') (h : VQ X W σ H Q r) : VQ X W σ H' Q r := by
  cases r with
  | ok b => exact fun v H2 G s2 o => h v H2 G (s.trans s2) o
  | ex c => exact XQ.mono (W := W) s h
  | no => exact h
theorem Fresh.back {H H' : Hp} {G : List Addr} (s : Same H H') (f : Fresh H' G) : Fresh H G := ⟨f.1, fun c m => s.free (f.2 c m)⟩
theorem NQ.same {σ : St} {H H' : Hp} {Q : VK} {r : R T} (s : Same H H') (h : NQ X W σ H Q r) : NQ X W σ H' Q r := by
  cases r with
  | ok b => exact fun v H2 G s2 o f => h v H2 G (s.trans s2) o (f.back s)
  | ex c => exact XQ.mono (W := W) s h
  | no => exact h
theorem c_truth (ha : PV X W a g) (he : ∀ whole, isTrue a X.env whole = (do let v ← whole; standAt a.pos; holding [v] (truthy v)) := by intro _; rfl) : PC X W a (gTru g) := by
  obtain ⟨t, p, s⟩ := ha
  refine ⟨_, pt_truth p he, fun σ H en Q ve q => s σ H en _ ve ?_⟩
  unfold gTru at q
  cases e : g en with
  | ok x =>
    rw [e] at q
    intro v H' G sm o
    cases ek : tru x with
    | none => simp only [R.bind_ok, ek, R.of_none] at q; exact q.elim
    | some k =>
      simp only [R.bind_ok, ek, R.of_some] at q
      exact ⟨k, tru_is o ek, q H' sm⟩
  | ex c => rw [e] at q; exact q
  | no => rw [e] at q; exact q
theorem spNot {t : TT} (s : SpT X W tc t) : SpT X W (gNot tc) (tNot t) := fun σ H en Q ve q => s σ H en _ ve (by
  unfold gNot at q
  cases e : tc en with
  | ok x => rw [e] at q; exact q
  | ex c => rw [e] at q; exact q
  | no => rw [e] at q; exact q)
theorem c_not (ha : PC X W a tc) : PC X W (.UnaryOp .Not a pos) (gNot tc) := by
  obtain ⟨t, p, s⟩ := ha
  exact ⟨_, pt_not p, spNot s⟩
theorem n_not (ha : PV X W a g) : PN X W (.UnaryOp .Not a pos) (gNotV g) := by
  obtain ⟨t, p, s⟩ := ha
  refine ⟨_, pe_notT p, fun σ H en Q ve q => s σ H en _ ve ?_⟩
  unfold gNotV at q
  cases e : g en with
  | ok x =>
    rw [e] at q
    intro v H' G sm o
    cases ek : tru x with
    | none => simp only [R.bind_ok, ek, R.of_none] at q; exact q.elim
    | some k =>
      simp only [R.bind_ok, ek, R.of_some] at q
      exact ⟨k, tru_is o ek, q _ H' _ sm (.d (.bl _)) Fresh.nil⟩
  | ex c => rw [e] at q; exact q
  | no => rw [e] at q; exact q
theorem w_and1 (ha : PC X W a tc) : PWc X W (.BoolOp .And [a] pos) tc := let ⟨t, p, s⟩ := ha; ⟨t, pw_and1 p, s⟩
theorem w_or1 (ha : PC X W a tc) : PWc X W (.BoolOp .Or [a] pos) tc := let ⟨t, p, s⟩ := ha; ⟨t, pw_or1 p, s⟩
theorem w_and (ha : PC X W a tc) (hb : PWc X W (.BoolOp .And (b :: rest) pos) td) : PWc X W (.BoolOp .And (a :: b :: rest) pos) (gAnd tc td) := by
  obtain ⟨t, p, s⟩ := ha
  obtain ⟨t2, p2, s2⟩ := hb
  refine ⟨_, pw_and p p2, fun σ H en Q ve q => s σ H en _ ve ?_⟩
  unfold gAnd at q
  cases e : tc en with
  | ok x =>
    rw [e] at q
    intro H' sm
    cases x with
    | true => exact iteT (s2 σ H' en Q (ve.mono sm) (TQ.same (X := X) (W := W) sm q))
    | false => exact iteF (q H' sm)
  | ex c => rw [e] at q; exact q
  | no => rw [e] at q; exact q
theorem w_or (ha : PC X W a tc) (hb : PWc X W (.BoolOp .Or (b :: rest) pos) td) : PWc X W (.BoolOp .Or (a :: b :: rest) pos) (gOr tc td) := by
  obtain ⟨t, p, s⟩ := ha
  obtain ⟨t2, p2, s2⟩ := hb
  refine ⟨_, pw_or p p2, fun σ H en Q ve q => s σ H en _ ve ?_⟩
  unfold gOr at q
  cases e : tc en with
  | ok x =>
    rw [e] at q
    intro H' sm
    cases x with
    | false => exact iteF (s2 σ H' en Q (ve.mono sm) (TQ.same (X := X) (W := W) sm q))
    | true => exact iteT (q H' sm)
  | ex c => rw [e] at q; exact q
  | no => rw [e] at q; exact q
theorem c_w (h : PWc X W a tc) : PC X W a tc := let ⟨t, p, s⟩ := h; ⟨t, p.pt, s⟩
theorem v_one {op} (ha : PV X W a g) : PV X W (.BoolOp op [a] pos) g := let ⟨t, p, s⟩ := ha; ⟨t, pe_one p, s⟩
theorem v_and (ha : PV X W a ga) (hb : PV X W (.BoolOp .And (b :: rest) pos) gb) : PV X W (.BoolOp .And (a :: b :: rest) pos) (gAndV ga gb) := by
  obtain ⟨t, p, s⟩ := ha
  obtain ⟨t2, p2, s2⟩ := hb
  refine ⟨_, pe_andT p p2, fun σ H en Q ve q => s σ H en _ ve ?_⟩
  unfold gAndV at q
  cases e : ga en with
  | ok x =>
    rw [e] at q
    intro v H' G sm o
    cases ek : tru x with
    | none => simp only [R.bind_ok, ek, R.of_none] at q; exact q.elim
    | some k =>
      simp only [R.bind_ok, ek, R.of_some] at q
      refine ⟨k, tru_is o ek, ?_⟩
      cases k with
      | true => exact iteT (s2 σ H' en Q (ve.mono sm) (VQ.same (X := X) (W := W) sm q))
      | false => exact iteF (q v H' G sm o)
  | ex c => rw [e] at q; exact q
  | no => rw [e] at q; exact q
theorem v_or (ha : PV X W a ga) (hb : PV X W (.BoolOp .Or (b :: rest) pos) gb) : PV X W (.BoolOp .Or (a :: b :: rest) pos) (gOrV ga gb) := by
  obtain ⟨t, p, s⟩ := ha
  obtain ⟨t2, p2, s2⟩ := hb
  refine ⟨_, pe_orT p p2, fun σ H en Q ve q => s σ H en _ ve ?_⟩
  unfold gOrV at q
  cases e : ga en with
  | ok x =>
    rw [e] at q
    intro v H' G sm o
    cases ek : tru x with
    | none => simp only [R.bind_ok, ek, R.of_none] at q; exact q.elim
    | some k =>
      simp only [R.bind_ok, ek, R.of_some] at q
      refine ⟨k, tru_is o ek, ?_⟩
      cases k with
      | false => exact iteF (s2 σ H' en Q (ve.mono sm) (VQ.same (X := X) (W := W) sm q))
      | true => exact iteT (q v H' G sm o)
  | ex c => rw [e] at q; exact q
  | no => rw [e] at q; exact q
theorem v_if (hc : PC X W c tc) (ha : PV X W a ga) (hb : PV X W b gb) : PV X W (.IfExp c a b pos) (gIf tc ga gb) := by
  obtain ⟨t, p, s⟩ := hc
  obtain ⟨t1, p1, s1⟩ := ha
  obtain ⟨t2, p2, s2⟩ := hb
  refine ⟨_, pe_ifExp p p1 p2, fun σ H en Q ve q => s σ H en _ ve ?_⟩
  unfold gIf at q
  cases e : tc en with
  | ok x =>
    rw [e] at q
    intro H' sm
    cases x with
    | true => exact iteT (s1 σ H' en Q (ve.mono sm) (VQ.same (X := X) (W := W) sm q))
    | false => exact iteF (s2 σ H' en Q (ve.mono sm) (VQ.same (X := X) (W := W) sm q))
  | ex c => rw [e] at q; exact q
  | no => rw [e] at q; exact q
theorem n_if (hc : PC X W c tc) (ha : PN X W a ga) (hb : PN X W b gb) : PN X W (.IfExp c a b pos) (gIf tc ga gb) := by
  obtain ⟨t, p, s⟩ := hc
  obtain ⟨t1, p1, s1⟩ := ha
  obtain ⟨t2, p2, s2⟩ := hb
  refine ⟨_, pe_ifExp p p1 p2, fun σ H en Q ve q => s σ H en _ ve ?_⟩
  unfold gIf at q
  cases e : tc en with
  | ok x =>
    rw [e] at q
    intro H' sm
    cases x with
    | true => exact iteT (s1 σ H' en Q (ve.mono sm) (NQ.same (X := X) (W := W) sm q))
    | false => exact iteF (s2 σ H' en Q (ve.mono sm) (NQ.same (X := X) (W := W) sm q))
  | ex c => rw [e] at q; exact q
  | no => rw [e] at q; exact q
/-! ### chains -/
def gCh (f f' : T → T → Option T) (ga gb gc : En → R T) : En → R T := fun en => (ga en).bind fun x => (gb en).bind fun y => (R.of (f x y)).bind fun z => (R.of (tst z)).bind fun k =>
  if k = true then (gc en).bind fun w => .of (f' y w) else .ok (.d (.bl false))
theorem spCh {r r' : R2} {f f' : T → T → Option T} {ga gb gc : En → R T} {ta tb tc : TE} (q : Q2 X.K r f) (q' : Q2 X.K r' f') (a : SpV X W ga ta) (b : SpV X W gb tb) (c : SpV X W gc tc) : SpV X W (gCh f f' ga gb gc) (tChain r r' ta tb tc) := by
  intro σ H en Q ve h
  refine a σ H en _ ve ?_
  unfold gCh at h
  cases ea : ga en with
  | ok x =>
    rw [ea] at h
    intro v1 H1 G1 s1 o1
    refine b σ H1 en _ (ve.mono s1) ?_
    cases eb : gb en with
    | ok y =>
      rw [eb] at h
      intro v2 H2 G2 s2 o2
      cases ef : f x y with
      | none => simp only [R.bind_ok, ef, R.of_none] at h; exact h.elim
      | some z =>
        simp only [R.bind_ok, ef, R.of_some] at h
        refine q H2 x y z v1 v2 G1 G2 _ (o1.mono s2) o2 ef fun v3 H3 G3 s3 o3 _ => ?_
        cases z with
        | l xs => exact h.elim
        | d d =>
          cases o3 with
          | d r3 =>
            cases r3 with
            | bl k =>
              refine ⟨k, rfl, ?_⟩
              have s13 := (s1.trans s2).trans s3
              cases k with
              | false => exact iteF (h _ H3 _ s13 (.d (.bl _)))
              | true =>
                refine iteT (c σ H3 en _ (ve.mono s13) ?_)
                simp only [tst, R.of_some, R.bind_ok, if_true] at h
                cases ec : gc en with
                | ok w =>
                  rw [ec] at h
                  intro v4 H4 G4 s4 o4
                  cases eg : f' y w with
                  | none => simp only [R.bind_ok, eg, R.of_none] at h; exact h.elim
                  | some z =>
                    simp only [R.bind_ok, eg, R.of_some] at h
                    exact q' H4 y w z v2 v4 G2 G4 Q (o2.mono (s3.trans s4)) o4 eg fun v H' G s o _ => h v H' G ((s13.trans s4).trans s) o
                | ex c => rw [ec] at h; exact XQ.mono (W := W) s13 h
                | no => rw [ec] at h; exact h
            | _ => exact h.elim
    | ex c => rw [eb] at h; exact XQ.mono (W := W) s1 h
    | no => rw [eb] at h; exact h
  | ex c => rw [ea] at h; exact h
  | no => rw [ea] at h; exact h
theorem v_chain {op op' : CmpOp} {f f' : T → T → Option T} {gc : En → R T} (o : Cm X op f) (o' : Cm X op' f') (ha : PV X W a ga) (hb : PV X W b gb) (hc : PV X W c gc)
    (hm : lastMarks [op, op'] [b, c] = false := by with_unfolding_all rfl) : PV X W (.Compare a [op, op'] [b, c] pos) (gCh f f' ga gb gc) := by
  obtain ⟨r, ho, q⟩ := o.p
  obtain ⟨r', ho', q'⟩ := o'.p
  obtain ⟨ta, pa, sa⟩ := ha
  obtain ⟨tb, pb, sb⟩ := hb
  obtain ⟨tc, pc, sc⟩ := hc
  exact ⟨_, pe_chain ho ho' pa pb pc hm, spCh q q' sa sb sc⟩
theorem c_chain {op op' : CmpOp} {f f' : T → T → Option T} {gc : En → R T} (o : Cm X op f) (o' : Cm X op' f') (ha : PV X W a ga) (hb : PV X W b gb) (hc : PV X W c gc)
    (hm : lastMarks [op, op'] [b, c] = false := by with_unfolding_all rfl) : PC X W (.Compare a [op, op'] [b, c] pos) (gT (gCh f f' ga gb gc)) := by
  obtain ⟨r, ho, q⟩ := o.p
  obtain ⟨r', ho', q'⟩ := o'.p
  obtain ⟨ta, pa, sa⟩ := ha
  obtain ⟨tb, pb, sb⟩ := hb
  obtain ⟨tc, pc, sc⟩ := hc
  exact ⟨_, pt_chain ho ho' pa pb pc hm, spTest (spCh q q' sa sb sc)⟩
/-! ### minus -/
def fNeg : T → Option T
  | .d (.int i) => some (.d (.int (-i)))
  | _ => none
def g1 (f : T → Option T) (g : En → R T) : En → R T := fun en => (g en).bind fun x => .of (f x)
theorem n_neg (ha : PV X W a g) : PN X W (.UnaryOp .USub a pos) (g1 fNeg g) := by
  obtain ⟨t, p, s⟩ := ha
  refine ⟨_, pe_un un_neg p, fun σ H en Q ve q => s σ H en _ ve ?_⟩
  unfold g1 at q
  cases e : g en with
  | ok x =>
    rw [e] at q
    intro v H' G sm o
    cases x with
    | l xs => exact q.elim
    | d d =>
      cases o with
      | d r =>
        cases r with
        | int i => exact ⟨i, rfl, q _ H' _ sm (.d (.int _)) Fresh.nil⟩
        | _ => exact q.elim
  | ex c => rw [e] at q; exact q
  | no => rw [e] at q; exact q
/-! ### items -/
def fIx : T → T → Option T
  | .d (.tup ds), .d (.int i) => (atI ds i).map T.d
  | .d (.rol ds), .d (.int i) => (atI ds i).map T.d
  | .l xs, .d (.int i) => atI xs i
  | .d (.str z), .d (.int i) => if z.length ≤ most then (atI z.cps.toList i).map fun c => T.d (.str ⟨#[c]⟩) else none
  | _, _ => none
theorem atI_rep {K : PySem.W.Frag} {H : Hp} {vs : List V} {ds : List D} {i : Int} {d : D} (r : RepDs K H vs ds) (h : atI ds i = some d) : ∃ v, atI vs i = some v ∧ RepD K H v d := by
  unfold atI at h ⊢
  rw [r.length]
  cases e : ixN ds.length i with
  | none => rw [e] at h; cases h
  | some j =>
    rw [e] at h
    obtain ⟨v, h1, h2⟩ := r.get h
    exact ⟨v, h1, h2⟩
theorem atI_own {K : PySem.W.Frag} {H : Hp} {vs : List V} {ds : List T} {F : List Addr} {i : Int} {d : T} (r : Owns K H vs ds F) (h : atI ds i = some d) : ∃ v G, atI vs i = some v ∧ Own K H v d G ∧ ∀ a ∈ G, a ∈ F := by
  unfold atI at h ⊢
  rw [r.length]
  cases e : ixN ds.length i with
  | none => rw [e] at h; cases h
  | some j =>
    rw [e] at h
    obtain ⟨v, G, h1, h2, h3⟩ := r.get h
    exact ⟨v, G, h1, h2, h3⟩
theorem q_ix : Q2v X.K (rIx X.K) fIx := fun H x y z vx vy Gx Gy Q ox oy e q => by
  unfold fIx at e
  split at e
  · obtain ⟨d, e1, rfl⟩ := Option.map_eq_some_iff.mp e
    cases ox with | d r1 => cases oy with
      | d r2 =>
        cases r2
        cases r1 with
        | tup s r =>
          obtain ⟨v, h1, h2⟩ := atI_rep r e1
          exact .inr (.inl ⟨_, _, _, v, rfl, rfl, s, h1, q v H [] (Same.refl H) (.d h2)⟩)
  · obtain ⟨d, e1, rfl⟩ := Option.map_eq_some_iff.mp e
    cases ox with | d r1 => cases oy with
      | d r2 =>
        cases r2
        cases r1 with
        | rol s r =>
          obtain ⟨v, h1, h2⟩ := atI_rep r e1
          exact .inl ⟨_, _, _, v, rfl, rfl, s H (Pst.refl H), h1, q v H [] (Same.refl H) (.d h2)⟩
  · cases oy with
    | d r2 =>
      cases r2
      cases ox with
      | l s r =>
        obtain ⟨v, G, h1, h2, _⟩ := atI_own r e
        exact .inl ⟨_, _, _, v, rfl, rfl, SqL.of s, h1, q v H G (Same.refl H) h2⟩
  · split at e
    · rename_i hz
      obtain ⟨c, e1, rfl⟩ := Option.map_eq_some_iff.mp e
      cases ox with | d r1 => cases oy with
        | d r2 =>
          cases r2
          cases r1
          exact .inr (.inr ⟨_, _, c, rfl, rfl, by rw [most_eq]; exact hz, e1, q _ H [] (Same.refl H) (.d (.str _))⟩)
    · cases e
  · cases e
theorem v_ix (ha : PV X W a ga) (hb : PV X W b gb) (hs : PlainIx b := by exact fun _ _ => rfl) : PV X W (.Subscript a b pos) (g2 fIx ga gb) := by
  obtain ⟨ta, pa, sa⟩ := ha
  obtain ⟨tb, pb, sb⟩ := hb
  exact ⟨_, pe_ix ix_seq pa pb hs, sp2v q_ix sa sb⟩
/-! ### slices -/
def cutG {α : Type} (xs : List α) (lo hi : Option Int) : List α := (xs.drop (HT.sIx xs.length 0 lo)).take (HT.sIx xs.length xs.length hi - HT.sIx xs.length 0 lo)
theorem cutG_rep {K : PySem.W.Frag} {H : Hp} {vs : List V} {ds : List D} (lo hi : Option Int) (r : RepDs K H vs ds) : RepDs K H (cutV vs lo hi) (cutG ds lo hi) := by
  unfold cutV cutG
  rw [r.length]
  exact (r.drop _).take _
theorem cutG_whole {α : Type} {xs : List α} {lo hi : Option Int} (h1 : HT.sIx xs.length 0 lo = 0) (h2 : HT.sIx xs.length xs.length hi = xs.length) : cutG xs lo hi = xs := by
  unfold cutG
  rw [h1, h2, List.drop_zero, Nat.sub_zero, List.take_length]
def fSl : T → Option Int → Option Int → Option T
  | .d (.tup ds), lo, hi => some (.d (.tup (cutG ds lo hi)))
  | .d (.rol ds), lo, hi => some (.l ((cutG ds lo hi).map T.d))
  | .l xs, lo, hi => (allD xs).map fun ds => .l ((cutG ds lo hi).map T.d)
  | .d (.str z), lo, hi => if z.length ≤ most then some (.d (.str (cutS z lo hi))) else none
  | _, _, _ => none
def asI : T → Option Int
  | .d (.int i) => some i
  | _ => none
def oN : En → R (Option Int) := fun _ => .ok none
def oS (g : En → R T) : En → R (Option Int) := fun en => (g en).bind fun x => (R.of (asI x)).bind fun i => .ok (some i)
def OQ (σ : St) (H : Hp) (Q : Option Int → Hp → Prop) : R (Option Int) → Prop
  | .ok i => ∀ H', Same H H' → Q i H'
  | .ex c => XQ X W σ H c
  | .no => False
def SpO (X : Cx) (W : WX) (g : En → R (Option Int)) (t : TO) : Prop := ∀ σ H en Q, VEn X.K H σ en → OQ (X := X) (W := W) σ H Q (g en) → t σ H Q
def POv (X : Cx) (W : WX) (e : Option Expr) (g : En → R (Option Int)) : Prop := ∃ t, PO X e t ∧ SpO X W g t
theorem o_none : POv X W none oN := ⟨_, po_none, fun σ H en Q ve q => q H (Same.refl H)⟩
theorem o_some (ha : PV X W a g) : POv X W (some a) (oS g) := by
  obtain ⟨t, p, s⟩ := ha
  refine ⟨_, po_some p, fun σ H en Q ve q => s σ H en _ ve ?_⟩
  unfold oS at q
  cases e : g en with
  | ok x =>
    rw [e] at q
    intro v H' G sm o
    cases x with
    | l xs => exact q.elim
    | d d =>
      cases o with
      | d r =>
        cases r with
        | int i => exact ⟨i, rfl, q H' sm⟩
        | _ => exact q.elim
  | ex c => rw [e] at q; exact q
  | no => rw [e] at q; exact q
def gSl (g : En → R T) (lo hi : En → R (Option Int)) : En → R T := fun en => (g en).bind fun x => (lo en).bind fun l => (hi en).bind fun h => .of (fSl x l h)
theorem n_slice {lo hi : Option Expr} {gl gh : En → R (Option Int)} {p2 : Pos} (ha : PV X W a g) (hl : POv X W lo gl) (hh : POv X W hi gh) : PN X W (.Subscript a (.Slice lo hi none p2) pos) (gSl g gl gh) := by
  obtain ⟨t, p, s⟩ := ha
  obtain ⟨tl, pl, sl⟩ := hl
  obtain ⟨th, ph, sh⟩ := hh
  refine ⟨_, pe_slice (sl_list.or (sl_tupA.or sl_str)) p pl ph, fun σ H en Q ve q => s σ H en _ ve ?_⟩
  unfold gSl at q
  cases e : g en with
  | ok x =>
    rw [e] at q
    intro v H' G sm o
    refine sl σ H' en _ (ve.mono sm) ?_
    cases e2 : gl en with
    | ok l =>
      rw [e2] at q
      intro H2 s2
      refine sh σ H2 en _ (ve.mono (sm.trans s2)) ?_
      cases e3 : gh en with
      | ok h =>
        rw [e3] at q
        intro H3 s3
        have sm3 := (sm.trans s2).trans s3
        replace o := o.mono (s2.trans s3)
        simp only [R.bind_ok] at q
        cases o with
        | d r =>
          cases r with
          | tup sq rr =>
            refine .inr (.inl ⟨_, _, rfl, sq, fun hw => ?_, fun hw p np => ?_⟩)
            · rw [rr.length] at hw
              simp only [fSl, R.of_some, cutG_whole hw.1 hw.2] at q
              exact q _ H3 [] sm3 (.d (.tup sq rr)) Fresh.nil
            · exact q _ _ [] (sm3.trans (same_new np)) (.d (.tup (SqT.of upd_same) ((cutG_rep l h rr).mono (.of (same_new np))))) Fresh.nil
          | rol sq rr =>
            refine .inl ⟨_, _, rfl, sq H3 (Pst.refl H3), fun p np => ?_⟩
            refine q _ _ [p] (sm3.trans (same_new np)) (.l upd_same ((cutG_rep l h rr).mono (.of (same_new np))).owns) ⟨by simp, fun c m => ?_⟩
            have e : c = p := by simpa using m
            rw [e]; exact sm3.free np
          | str z =>
            simp only [fSl] at q
            split at q
            · rename_i hz
              exact .inr (.inr ⟨z, rfl, by rw [most_eq]; exact hz, q _ H3 [] sm3 (.d (.str _)) Fresh.nil⟩)
            · exact q.elim
          | _ => exact q.elim
        | @l a' vs xs F hs rr =>
          cases ea : allD xs with
          | none => simp only [fSl, ea, Option.map_none, R.of_none] at q; exact q.elim
          | some ds =>
            simp only [fSl, ea, Option.map_some, R.of_some] at q
            have e1 := allD_eq ea
            subst e1
            refine .inl ⟨_, _, rfl, SqL.of hs, fun p np => ?_⟩
            refine q _ _ [p] (sm3.trans (same_new np)) (.l upd_same ((cutG_rep l h rr.data.1).mono (.of (same_new np))).owns) ⟨by simp, fun c m => ?_⟩
            have e : c = p := by simpa using m
            rw [e]; exact sm3.free np
      | ex c => rw [e3] at q; exact XQ.mono (W := W) (sm.trans s2) q
      | no => rw [e3] at q; exact q
    | ex c => rw [e2] at q; exact XQ.mono (W := W) sm q
    | no => rw [e2] at q; exact q
  | ex c => rw [e] at q; exact q
  | no => rw [e] at q; exact q
/-! ### displays, arguments -/
def aNil {α : Type} : En → R (List α) := fun _ => .ok []
def aCons {α : Type} (g : En → R α) (h : En → R (List α)) : En → R (List α) := fun en => (g en).bind fun x => (h en).bind fun xs => .ok (x :: xs)
variable {es : List Expr} {gs : En → R (List T)}
theorem av_nil : PAv X W [] aNil := ⟨_, pa_nil, fun σ H en Q ve q => q [] H (Same.refl H) .nil⟩
theorem av_cons (ha : PV X W a g) (hr : PAv X W es gs) (hs : starEach (a :: es) X.env = (false, eval a X.env) :: starEach es X.env := by rfl) : PAv X W (a :: es) (aCons g gs) := by
  obtain ⟨t, p, s⟩ := ha
  obtain ⟨t2, p2, s2⟩ := hr
  refine ⟨_, pa_cons p p2 hs, fun σ H en Q ve q => s σ H en _ ve ?_⟩
  unfold aCons at q
  cases e : g en with
  | ok x =>
    rw [e] at q
    intro v H' G sm o
    refine s2 σ H' en _ (ve.mono sm) ?_
    cases e2 : gs en with
    | ok xs =>
      rw [e2] at q
      exact fun vs H2 sm2 w => q (v :: vs) H2 (sm.trans sm2) (.cons (o.mono sm2) w)
    | ex c => rw [e2] at q; exact XQ.mono (W := W) sm q
    | no => rw [e2] at q; exact q
  | ex c => rw [e] at q; exact q
  | no => rw [e] at q; exact q
theorem an_nil : PAn X W [] aNil := ⟨_, pa_nil, fun σ H en Q ve q => q [] H [] (Same.refl H) .nil Fresh.nil⟩
theorem Fresh.app {H H' : Hp} {F G : List Addr} (s : Same H H') (f : Fresh H F) (d : ∀ a ∈ F, H' a ≠ none) (g : Fresh H' G) : Fresh H (F ++ G) := by
  refine ⟨List.nodup_append.mpr ⟨f.1, g.1, fun a ha b hb e => ?_⟩, fun a m => (List.mem_append.mp m).elim (f.2 a) fun z => s.free (g.2 a z)⟩
  subst e
  exact d a ha (g.2 a hb)
theorem Own.there {K : PySem.W.Frag} {H : Hp} {v : V} {x : T} {F : List Addr} (o : Own K H v x F) : ∀ a ∈ F, H a ≠ none := fun a m e => by
  obtain ⟨vs, h⟩ := o.dom a m
  rw [e] at h; cases h
theorem Owns.there {K : PySem.W.Frag} {H : Hp} {vs : List V} {xs : List T} {F : List Addr} (o : Owns K H vs xs F) : ∀ a ∈ F, H a ≠ none := fun a m e => by
  obtain ⟨vs, h⟩ := o.dom a m
  rw [e] at h; cases h
theorem an_cons (ha : PN X W a g) (hr : PAn X W es gs) (hs : starEach (a :: es) X.env = (false, eval a X.env) :: starEach es X.env := by rfl) : PAn X W (a :: es) (aCons g gs) := by
  obtain ⟨t, p, s⟩ := ha
  obtain ⟨t2, p2, s2⟩ := hr
  refine ⟨_, pa_cons p p2 hs, fun σ H en Q ve q => s σ H en _ ve ?_⟩
  unfold aCons at q
  cases e : g en with
  | ok x =>
    rw [e] at q
    intro v H' G sm o f
    refine s2 σ H' en _ (ve.mono sm) ?_
    cases e2 : gs en with
    | ok xs =>
      rw [e2] at q
      exact fun vs H2 F sm2 w f2 => q (v :: vs) H2 (G ++ F) (sm.trans sm2) (.cons (o.mono sm2) w) (f.app sm o.there f2)
    | ex c => rw [e2] at q; exact XQ.mono (W := W) sm q
    | no => rw [e2] at q; exact q
  | ex c => rw [e] at q; exact q
  | no => rw [e] at q; exact q
theorem Vws.data {K : PySem.W.Frag} {H : Hp} : ∀ {vs : List V} {ds : List D}, Vws K H vs (ds.map T.d) → RepDs K H vs ds
  | _, [], .nil => .nil
  | _, d :: ds, .cons (.d r) t => .cons r (Vws.data t)
def mkTup (xs : List T) : R T := match allD xs with
  | some ds => if ds.length ≤ most then .ok (.d (.tup ds)) else .no
  | none => .no
def mkLst (xs : List T) : R T := if xs.length ≤ most then .ok (.l xs) else .no
def gTup (g : En → R (List T)) : En → R T := fun en => (g en).bind mkTup
def gLst (g : En → R (List T)) : En → R T := fun en => (g en).bind mkLst
theorem n_tup {k} (ha : PAv X W es gs) : PN X W (.Tuple es k pos) (gTup gs) := by
  obtain ⟨t, p, s⟩ := ha
  refine ⟨_, pe_tup p, fun σ H en Q ve q => s σ H en _ ve ?_⟩
  unfold gTup at q
  cases e : gs en with
  | ok xs =>
    rw [e] at q
    intro vs H' sm w
    simp only [R.bind_ok, mkTup] at q
    cases ea : allD xs with
    | none => rw [ea] at q; exact q.elim
    | some ds =>
      rw [ea] at q
      have e1 := allD_eq ea
      subst e1
      have rr := w.data
      simp only at q
      split at q
      · rename_i hz
        refine ⟨by rw [most_eq, rr.length]; exact hz, fun p np => ?_⟩
        exact q _ _ [] (sm.trans (same_new np)) (.d (.tup (SqT.of upd_same) (rr.mono (.of (same_new np))))) Fresh.nil
      · exact q.elim
  | ex c => rw [e] at q; exact q
  | no => rw [e] at q; exact q
theorem n_lst (ha : PAn X W es gs) : PN X W (.List es pos) (gLst gs) := by
  obtain ⟨t, p, s⟩ := ha
  refine ⟨_, pe_lst p, fun σ H en Q ve q => s σ H en _ ve ?_⟩
  unfold gLst at q
  cases e : gs en with
  | ok xs =>
    rw [e] at q
    intro vs H' F sm w f
    simp only [R.bind_ok, mkLst] at q
    split at q
    · rename_i hz
      refine ⟨by rw [most_eq, w.length]; exact hz, fun p np => ?_⟩
      have np' : H p = none := sm.free np
      refine q _ _ (p :: F) (sm.trans (same_new np)) (.l upd_same (w.mono (same_new np))) ⟨List.nodup_cons.mpr ⟨fun m => w.there p m np, f.1⟩, fun c m => ?_⟩
      rcases List.mem_cons.mp m with rfl | m
      · exact np'
      · exact f.2 c m
    · exact q.elim
  | ex c => rw [e] at q; exact q
  | no => rw [e] at q; exact q
/-! ### built-ins -/
def QL (K : PySem.W.Frag) (r : List V → Hp → VK → Prop) (f : List T → Option T) : Prop := ∀ (H : Hp) (xs : List T) (vs : List V) (z : T) (Q : VK), Vws K H vs xs → f xs = some z → (∀ v H' G, Same H H' → Own K H' v z G → Fresh H G → Q v H') → r vs H Q
structure Bf (X : Cx) (u : Value) (f : List T → Option T) : Prop where
  p : ∃ r, CallR X u r ∧ QL X.K r f
def gCall (f : List T → Option T) (g : En → R (List T)) : En → R T := fun en => (g en).bind fun xs => .of (f xs)
theorem spCB {r : List V → Hp → VK → Prop} {f : List T → Option T} {t : TA} (q : QL X.K r f) (s : SpA X W gs t) : SpN X W (gCall f gs) (tCB r t) := by
  intro σ H en Q ve h
  refine s σ H en _ ve ?_
  unfold gCall at h
  cases e : gs en with
  | ok xs =>
    rw [e] at h
    intro vs H' sm w
    cases ef : f xs with
    | none => simp only [R.bind_ok, ef, R.of_none] at h; exact h.elim
    | some z =>
      simp only [R.bind_ok, ef, R.of_some] at h
      exact q H' xs vs z Q w ef fun v H2 G s2 o fr => h v H2 G (sm.trans s2) o (fr.back sm)
  | ex c => rw [e] at h; exact h
  | no => rw [e] at h; exact h
theorem n_callB {x id : String} {f : List T → Option T} {p : Pos} (o : Bf X (.builtin id) f) (hv : bootBuiltins x = some (.builtin id)) (hm : X.mg x = none) (ha : PAv X W (a :: es) gs) (hg : Gl X x := by rfl) (hn : (Str.ofString x) ≠ "__name__" := by decide) (hdb : ((Str.ofString x) == ("__debug__" : Str)) = false := by decide)
    (he : starEach (a :: es) X.env = (false, eval a X.env) :: starEach es X.env := by rfl) (hpl : (backTo pos (starEach es X.env)).any (·.1) = false := by rfl) : PN X W (.Call (.Name x p) (a :: es) [] pos) (gCall f gs) := by
  obtain ⟨r, hc, q⟩ := o.p
  obtain ⟨t, pa, s⟩ := ha
  exact ⟨_, pe_callB hc hg hm hv pa hn hdb he hpl, spCB q s⟩
theorem n_callT {x Ty : String} {f : List T → Option T} {p : Pos} (o : Bf X (.type Ty) f) (hv : bootBuiltins x = some (.type Ty)) (hm : X.mg x = none) (ha : PAv X W (a :: es) gs) (hg : Gl X x := by rfl) (hn : (Str.ofString x) ≠ "__name__" := by decide) (hdb : ((Str.ofString x) == ("__debug__" : Str)) = false := by decide)
    (he : starEach (a :: es) X.env = (false, eval a X.env) :: starEach es X.env := by rfl) (hpl : (backTo pos (starEach es X.env)).any (·.1) = false := by rfl) : PN X W (.Call (.Name x p) (a :: es) [] pos) (gCall f gs) := by
  obtain ⟨r, hc, q⟩ := o.p
  obtain ⟨t, pa, s⟩ := ha
  exact ⟨_, pe_callTy hc hg hm hv pa hn hdb he hpl, spCB q s⟩
def fLen : List T → Option T
  | [.d (.str y)] => if y.length ≤ most then some (.d (.int y.length)) else none
  | [.d (.tup ds)] => some (.d (.int ds.length))
  | [.d (.rol ds)] => some (.d (.int ds.length))
  | [.l xs] => some (.d (.int xs.length))
  | _ => none
theorem f_len : Bf X (.builtin "len") fLen := ⟨_, call_len, fun H xs vs z Q w e q => by
  unfold fLen at e
  split at e
  · split at e <;> cases e
    rename_i hz
    cases w with | cons o t => cases t; cases o with | d r => cases r; exact ⟨_, _, rfl, ⟨by rw [most_eq]; exact hz, rfl⟩, fin_d (.int _) q⟩
  · cases e
    cases w with | cons o t => cases t; cases o with | d r => cases r with | tup s r => exact ⟨_, _, rfl, .inr ⟨_, s, rfl⟩, by rw [r.length]; exact fin_d (.int _) q⟩
  · cases e
    cases w with | cons o t => cases t; cases o with | d r => cases r with | rol s r => exact ⟨_, _, rfl, .inl ⟨_, s H (Pst.refl H), rfl⟩, by rw [r.length]; exact fin_d (.int _) q⟩
  · cases e
    cases w with | cons o t => cases t; cases o with | l s r => exact ⟨_, _, rfl, .inl ⟨_, SqL.of s, rfl⟩, by rw [r.length]; exact fin_d (.int _) q⟩
  · cases e⟩
def fAbs : List T → Option T
  | [.d (.int i)] => some (.d (.int (if i < 0 then -i else i)))
  | _ => none
theorem f_abs : Bf X (.builtin "abs") fAbs := ⟨_, call_abs, fun H xs vs z Q w e q => by
  unfold fAbs at e
  split at e <;> cases e
  cases w with | cons o t => cases t; cases o with | d r => cases r; exact ⟨_, rfl, fin_d (.int _) q⟩⟩
def fInt : List T → Option T
  | [.d (.int i)] => some (.d (.int i))
  | [.d (.bl k)] => some (.d (.int (if k then 1 else 0)))
  | _ => none
theorem f_int : Bf X (.type "int") fInt := ⟨_, call_int1, fun H xs vs z Q w e q => by
  unfold fInt at e
  split at e <;> cases e
  · cases w with | cons o t => cases t; cases o with | d r => cases r; exact .inl ⟨_, rfl, fin_d (.int _) q⟩
  · cases w with | cons o t => cases t; cases o with | d r => cases r; exact .inr ⟨_, rfl, fin_d (.int _) q⟩⟩
def asInts : List D → Option (List Int)
  | [] => some []
  | .int i :: r => (asInts r).map (i :: ·)
  | _ :: _ => none
@[simp] theorem asInts_map : ∀ ns : List Int, asInts (ns.map D.int) = some ns
  | [] => rfl
  | n :: r => by rw [List.map_cons, asInts, asInts_map r]; rfl
theorem asInts_eq : ∀ {ds : List D} {ns : List Int}, asInts ds = some ns → ds = ns.map D.int
  | [], ns, h => by cases h; rfl
  | .int i :: r, ns, h => by
    unfold asInts at h
    cases e : asInts r with
    | none => rw [e] at h; cases h
    | some es => rw [e] at h; cases h; rw [asInts_eq e]; rfl
  | .non :: _, _, h => by cases h
  | .bl _ :: _, _, h => by cases h
  | .str _ :: _, _, h => by cases h
  | .tup _ :: _, _, h => by cases h
  | .rol _ :: _, _, h => by cases h
theorem RepDs.ints {K : PySem.W.Frag} {H : Hp} : ∀ {vs : List V} {ns : List Int}, RepDs K H vs (ns.map D.int) → vs = ns.map V.int
  | _, [], .nil => rfl
  | _, n :: r, .cons (.int _) t => by rw [RepDs.ints t]; rfl
def asBls : List D → Option (List Bool)
  | [] => some []
  | .bl i :: r => (asBls r).map (i :: ·)
  | _ :: _ => none
@[simp] theorem asBls_map : ∀ ns : List Bool, asBls (ns.map D.bl) = some ns
  | [] => rfl
  | n :: r => by rw [List.map_cons, asBls, asBls_map r]; rfl
theorem asBls_eq : ∀ {ds : List D} {ns : List Bool}, asBls ds = some ns → ds = ns.map D.bl
  | [], ns, h => by cases h; rfl
  | .bl i :: r, ns, h => by
    unfold asBls at h
    cases e : asBls r with
    | none => rw [e] at h; cases h
    | some es => rw [e] at h; cases h; rw [asBls_eq e]; rfl
  | .non :: _, _, h => by cases h
  | .int _ :: _, _, h => by cases h
  | .str _ :: _, _, h => by cases h
  | .tup _ :: _, _, h => by cases h
  | .rol _ :: _, _, h => by cases h
theorem RepDs.bls {K : PySem.W.Frag} {H : Hp} : ∀ {vs : List V} {ns : List Bool}, RepDs K H vs (ns.map D.bl) → vs = ns.map V.bl
  | _, [], .nil => rfl
  | _, n :: r, .cons (.bl _) t => by rw [RepDs.bls t]; rfl
/-- the items of a list that are data -/
def lstOf : T → Option (List D)
  | .d (.rol ds) => some ds
  | .l xs => allD xs
  | _ => none
theorem lstOf_ok {K : PySem.W.Frag} {H : Hp} {v : V} {x : T} {G : List Addr} {ds : List D} (o : Own K H v x G) (h : lstOf x = some ds) : ∃ a vs, v = .ref a ∧ SqL K H a vs ∧ RepDs K H vs ds := by
  cases o with
  | d r =>
    cases r with
    | rol s r => cases h; exact ⟨_, _, rfl, s H (Pst.refl H), r⟩
    | _ => cases h
  | l s r =>
    have e := allD_eq h
    subst e
    exact ⟨_, _, rfl, SqL.of s, r.data.1⟩
def fSum : List T → Option T
  | [x] => (lstOf x).bind fun ds => (asInts ds).map fun ns => .d (.int ns.sum)
  | _ => none
theorem f_sum (hc : X.calm = true) : Bf X (.builtin "sum") fSum := ⟨_, cr_sum hc, fun H xs vs z Q w e q => by
  unfold fSum at e
  split at e
  · obtain ⟨ds, e1, e⟩ := Option.bind_eq_some_iff.mp e
    obtain ⟨ns, e2, rfl⟩ := Option.map_eq_some_iff.mp e
    have e3 := asInts_eq e2
    subst e3
    cases w with
    | cons o t =>
      cases t
      obtain ⟨a, us, rfl, s, r⟩ := lstOf_ok o e1
      have e4 := r.ints
      subst e4
      exact ⟨a, ns, rfl, s, fin_d (.int _) q⟩
  · cases e⟩
def fAll : List T → Option T
  | [x] => (lstOf x).bind fun ds => (asBls ds).map fun ns => .d (.bl (ns.all id))
  | _ => none
theorem f_all (hc : X.calm = true) : Bf X (.builtin "all") fAll := ⟨_, cr_all hc, fun H xs vs z Q w e q => by
  unfold fAll at e
  split at e
  · obtain ⟨ds, e1, e⟩ := Option.bind_eq_some_iff.mp e
    obtain ⟨ns, e2, rfl⟩ := Option.map_eq_some_iff.mp e
    have e3 := asBls_eq e2
    subst e3
    cases w with
    | cons o t =>
      cases t
      obtain ⟨a, us, rfl, s, r⟩ := lstOf_ok o e1
      have e4 := r.bls
      subst e4
      exact ⟨a, ns, rfl, s, fin_d (.bl _) q⟩
  · cases e⟩
def truD (d : D) : Option Bool := tru (.d d)
def truDs : List D → Option (List Bool)
  | [] => some []
  | d :: r => (truD d).bind fun b => (truDs r).map (b :: ·)
def fMax2 : List T → Option T
  | [.d (.int i), .d (.int j)] => some (.d (.int (max i j)))
  | _ => none
theorem f_max2 (hc : X.calm = true) : Bf X (.builtin "max") fMax2 := ⟨_, call_max2 hc, fun H xs vs z Q w e q => by
  unfold fMax2 at e
  split at e <;> cases e
  cases w with | cons o t => cases o with | d r => cases r; cases t with | cons o2 t => cases t; cases o2 with | d r2 => cases r2; exact ⟨_, _, rfl, by
    have := fin_d (.int _) q
    rename_i i j
    rw [show (if j > i then j else i) = max i j by omega]
    exact this⟩⟩
def fMin2 : List T → Option T
  | [.d (.int i), .d (.int j)] => some (.d (.int (min i j)))
  | _ => none
theorem f_min2 (hc : X.calm = true) : Bf X (.builtin "min") fMin2 := ⟨_, call_min2 hc, fun H xs vs z Q w e q => by
  unfold fMin2 at e
  split at e <;> cases e
  cases w with | cons o t => cases o with | d r => cases r; cases t with | cons o2 t => cases t; cases o2 with | d r2 => cases r2; exact ⟨_, _, rfl, by
    have := fin_d (.int _) q
    rename_i i j
    rw [show (if j < i then j else i) = min i j by omega]
    exact this⟩⟩
def fList : List T → Option T
  | [x] => (dataOf x).map fun ds => .l (ds.map T.d)
  | _ => none
theorem f_list : Bf X (.type "list") fList := ⟨_, call_list_of, fun H xs vs z Q w e q => by
  unfold fList at e
  split at e
  · obtain ⟨ds, e1, rfl⟩ := Option.map_eq_some_iff.mp e
    cases w with
    | cons o t =>
      cases t
      obtain ⟨a, us, rfl, s, r⟩ := dataOf_ok o e1
      refine ⟨a, us, rfl, s, fun p np => ?_⟩
      refine q _ _ [p] (same_new np) (.l upd_same (r.mono (.of (same_new np))).owns) ⟨by simp, fun c m => ?_⟩
      have e : c = p := by simpa using m
      rw [e]; exact np
  · cases e⟩
def fTuple : List T → Option T
  | [x] => (dataOf x).map fun ds => .d (.tup ds)
  | _ => none
theorem f_tuple : Bf X (.type "tuple") fTuple := ⟨_, call_tuple_of, fun H xs vs z Q w e q => by
  unfold fTuple at e
  split at e
  · rename_i x
    obtain ⟨ds, e1, rfl⟩ := Option.map_eq_some_iff.mp e
    cases w with
    | cons o t =>
      cases t
      have viaL : ∀ {a us}, SqL X.K H a us → RepDs X.K H us ds → ∀ l, H l = none → Q (.ref l) (upd H l (.tup us)) := fun {a us} _ r p np =>
        q _ _ [] (same_new np) (.d (.tup (SqT.of upd_same) (r.mono (.of (same_new np))))) Fresh.nil
      cases o with
      | d r =>
        cases r with
        | tup s r => cases e1; exact ⟨_, _, rfl, .inr ⟨s, fin_d (.tup s r) q⟩⟩
        | rol s r => cases e1; exact ⟨_, _, rfl, .inl ⟨s H (Pst.refl H), viaL (s H (Pst.refl H)) r⟩⟩
        | _ => cases e1
      | l s r =>
        have e := allD_eq e1
        subst e
        exact ⟨_, _, rfl, .inl ⟨SqL.of s, viaL (SqL.of s) r.data.1⟩⟩
  · cases e⟩
/-! ### isinstance -/
def tyN : T → String
  | .d .non => "NoneType"
  | .d (.bl _) => "bool"
  | .d (.int _) => "int"
  | .d (.str _) => "str"
  | .d (.tup _) => "tuple"
  | .d (.rol _) => "list"
  | .l _ => "list"
theorem sqL_ty {K : PySem.W.Frag} {H : Hp} {a : Addr} {vs : List V} (h : SqL K H a vs) : TyX K H (.ref a) (.type "list") := by
  rcases h with (h | ⟨o, h⟩) | ⟨o, its, n, h, c, _⟩
  · exact .base (.lst h)
  · exact .base (.frz h)
  · exact .kList h c
theorem sqT_ty {K : PySem.W.Frag} {H : Hp} {a : Addr} {vs : List V} (h : SqT K H a vs) : TyX K H (.ref a) (.type "tuple") := by
  rcases h with (h | ⟨o, h⟩) | ⟨o, its, n, h, c, _⟩
  · exact .base (.tup h)
  · exact .fTuple h
  · exact .kTuple h c
theorem ty_of {K : PySem.W.Frag} {H : Hp} {v : V} {x : T} {G : List Addr} (o : Own K H v x G) : TyX K H v (.type (tyN x)) := by
  cases o with
  | d r =>
    cases r with
    | non => exact .base .non
    | bl b => exact .base (.bl b)
    | int b => exact .base (.int b)
    | str b => exact .base (.str b)
    | tup s r => exact sqT_ty s
    | rol s r => exact sqL_ty (s H (Pst.refl H))
  | l s r => exact sqL_ty (SqL.of s)
def isA (cls : String) (f : T → Bool) : Prop := ∀ x, kitB (tyN x) cls = some (f x)
def gIsi (f : T → Bool) (g : En → R T) : En → R T := fun en => (g en).bind fun x => .ok (.d (.bl (f x)))
theorem n_isi {cls : String} {f : T → Bool} {p p2 : Pos} (hf : isA cls f) (hm : X.mg "isinstance" = none) (hm2 : X.mg cls = none) (hv2 : bootBuiltins cls = some (.type cls)) (ha : PV X W a g) (hg : Gl X "isinstance" := by rfl) (hg2 : Gl X cls := by rfl)
    (hn2 : (Str.ofString cls) ≠ "__name__" := by decide) (hd2 : ((Str.ofString cls) == ("__debug__" : Str)) = false := by decide)
    (he : starEach [a, .Name cls p2] X.env = (false, eval a X.env) :: starEach [.Name cls p2] X.env := by rfl) (he2 : starEach [.Name cls p2] X.env = (false, eval (.Name cls p2) X.env) :: starEach [] X.env := by rfl) (hpl : (backTo pos (starEach [.Name cls p2] X.env)).any (·.1) = false := by rfl) :
    PN X W (.Call (.Name "isinstance" p) [a, .Name cls p2] [] pos) (gIsi f g) := by
  obtain ⟨t, pa, s⟩ := ha
  refine ⟨_, pe_callB call_isi hg hm boot_isinstance (pa_cons pa (pa_cons (pe_bltn hg2 hm2 hv2 (show RelV (.ty cls) (.type cls) from rfl) hn2 hd2) pa_nil he2) he) (by decide) (by decide) he hpl, fun σ H en Q ve q => s σ H en _ ve ?_⟩
  unfold gIsi at q
  cases e : g en with
  | ok x =>
    rw [e] at q
    intro v H' G sm o
    exact ⟨v, .ty cls, _, _, f x, rfl, .ty cls, ty_of o, kit_ty (hf x), q _ H' [] sm (.d (.bl _)) Fresh.nil⟩
  | ex c => rw [e] at q; exact q
  | no => rw [e] at q; exact q
def isInt : T → Bool
  | .d (.int _) => true
  | .d (.bl _) => true
  | _ => false
def isBl : T → Bool
  | .d (.bl _) => true
  | _ => false
def isStr : T → Bool
  | .d (.str _) => true
  | _ => false
def isTup : T → Bool
  | .d (.tup _) => true
  | _ => false
def isLst : T → Bool
  | .d (.rol _) => true
  | .l _ => true
  | _ => false
end
theorem kit_int : isA "int" isInt := fun x => match x with
  | .d .non => (by decide +kernel : kitB "NoneType" "int" = some false)
  | .d (.bl _) => (by decide +kernel : kitB "bool" "int" = some true)
  | .d (.int _) => (by decide +kernel : kitB "int" "int" = some true)
  | .d (.str _) => (by decide +kernel : kitB "str" "int" = some false)
  | .d (.tup _) => (by decide +kernel : kitB "tuple" "int" = some false)
  | .d (.rol _) => (by decide +kernel : kitB "list" "int" = some false)
  | .l _ => (by decide +kernel : kitB "list" "int" = some false)
theorem kit_bl : isA "bool" isBl := fun x => match x with
  | .d .non => (by decide +kernel : kitB "NoneType" "bool" = some false)
  | .d (.bl _) => (by decide +kernel : kitB "bool" "bool" = some true)
  | .d (.int _) => (by decide +kernel : kitB "int" "bool" = some false)
  | .d (.str _) => (by decide +kernel : kitB "str" "bool" = some false)
  | .d (.tup _) => (by decide +kernel : kitB "tuple" "bool" = some false)
  | .d (.rol _) => (by decide +kernel : kitB "list" "bool" = some false)
  | .l _ => (by decide +kernel : kitB "list" "bool" = some false)
theorem kit_str : isA "str" isStr := fun x => match x with
  | .d .non => (by decide +kernel : kitB "NoneType" "str" = some false)
  | .d (.bl _) => (by decide +kernel : kitB "bool" "str" = some false)
  | .d (.int _) => (by decide +kernel : kitB "int" "str" = some false)
  | .d (.str _) => (by decide +kernel : kitB "str" "str" = some true)
  | .d (.tup _) => (by decide +kernel : kitB "tuple" "str" = some false)
  | .d (.rol _) => (by decide +kernel : kitB "list" "str" = some false)
  | .l _ => (by decide +kernel : kitB "list" "str" = some false)
theorem kit_tup : isA "tuple" isTup := fun x => match x with
  | .d .non => (by decide +kernel : kitB "NoneType" "tuple" = some false)
  | .d (.bl _) => (by decide +kernel : kitB "bool" "tuple" = some false)
  | .d (.int _) => (by decide +kernel : kitB "int" "tuple" = some false)
  | .d (.str _) => (by decide +kernel : kitB "str" "tuple" = some false)
  | .d (.tup _) => (by decide +kernel : kitB "tuple" "tuple" = some true)
  | .d (.rol _) => (by decide +kernel : kitB "list" "tuple" = some false)
  | .l _ => (by decide +kernel : kitB "list" "tuple" = some false)
theorem kit_lst : isA "list" isLst := fun x => match x with
  | .d .non => (by decide +kernel : kitB "NoneType" "list" = some false)
  | .d (.bl _) => (by decide +kernel : kitB "bool" "list" = some false)
  | .d (.int _) => (by decide +kernel : kitB "int" "list" = some false)
  | .d (.str _) => (by decide +kernel : kitB "str" "list" = some false)
  | .d (.tup _) => (by decide +kernel : kitB "tuple" "list" = some false)
  | .d (.rol _) => (by decide +kernel : kitB "list" "list" = some true)
  | .l _ => (by decide +kernel : kitB "list" "list" = some true)
end Z
/-! Z: what is walked, targets, comprehensions, calls of the text's own defs. -/
namespace Z
open PySem PySem.Spec L2
open PyProof.Rows hiding St

/-! ### what is walked -/
def Kept (G : List Addr) (H H' : Hp) : Prop := Pst H H' ∧ ∀ a ∈ G, ∀ o, H a = some o → H' a = some o
theorem Kept.of {G : List Addr} {H H' : Hp} (s : Same H H') : Kept G H H' := ⟨.of s, fun a _ o e => s a o e⟩
theorem Kept.own {K : PySem.W.Frag} {G F : List Addr} {H H' : Hp} {v : V} {x : T} (k : Kept G H H') (o : Own K H v x F) (h : ∀ a ∈ F, a ∈ G) : Own K H' v x F := o.frame k.1 fun a m => k.2 a (h a m)
theorem Kept.trans {G : List Addr} {H H1 H2 : Hp} (a : Kept G H H1) (b : Kept G H1 H2) : Kept G H H2 := ⟨a.1.trans b.1, fun c m o e => b.2 c m o (a.2 c m o e)⟩
/-- it gives the things of xs, as long as the addresses of G are kept -/
def ItOk (K : PySem.W.Frag) (G : List Addr) (H0 : Hp) (J : It) (xs : List T) : Prop :=
  Walk J xs.length (Kept G H0) fun i H v H' => Same H H' ∧ ∃ x F, xs[i]? = some x ∧ Own K H' v x F ∧ ∀ a ∈ F, a ∈ G
section
variable (X : Cx) (W : WX)
def IQ (σ : St) (H : Hp) (Q : It → Hp → Prop) : R (List T) → Prop
  | .ok xs => ∀ J H' G, Same H H' → ItOk X.K G H' J xs → Q J H'
  | .ex c => XQ X W σ H c
  | .no => False
def JQ (σ : St) (H : Hp) (Q : It → Hp → Prop) : R (List T) → Prop
  | .ok xs => ∀ J H' G, Same H H' → ItOk X.K G H' J xs → Fresh H G → (∀ a ∈ G, H' a ≠ none) → Q J H'
  | .ex c => XQ X W σ H c
  | .no => False
def SpI (g : En → R (List T)) (t : TI) : Prop := ∀ σ H en Q, VEn X.K H σ en → IQ X W σ H Q (g en) → t σ H Q
def SpJ (g : En → R (List T)) (t : TI) : Prop := ∀ σ H en Q, VEn X.K H σ en → JQ X W σ H Q (g en) → t σ H Q
/-- what is walked, seen; .. new -/
def PIv (tg e : Expr) (g : En → R (List T)) : Prop := ∃ t, PI X tg e t ∧ SpI X W g t
def PIn (tg e : Expr) (g : En → R (List T)) : Prop := ∃ t, PI X tg e t ∧ SpJ X W g t
end
section
variable {X : Cx} {W : WX} {tg e : Expr} {g : En → R T} {gi : En → R (List T)}
theorem IQ.jq {σ : St} {H : Hp} {Q : It → Hp → Prop} {r : R (List T)} (h : IQ X W σ H Q r) : JQ X W σ H Q r := by
  cases r with
  | ok xs => exact fun J H' G s o _ _ => h J H' G s o
  | ex c => exact h
  | no => exact h
theorem PIn.v (h : PIn X W tg e gi) : PIv X W tg e gi := let ⟨t, p, s⟩ := h; ⟨t, p, fun σ H en Q v q => s σ H en Q v q.jq⟩
/-- a list, a tuple, a text, walked -/
def tSq (K : PySem.W.Frag) (tl : TE) : TI := fun σ H Q => tl σ H fun x H1 => (∃ a, x = .ref a ∧ (∃ xs, SqL K H1 a xs) ∧ Q (Itl K a) H1) ∨ (∃ a, x = .ref a ∧ (∃ xs, SqT K H1 a xs) ∧ Q (Itt K a) H1) ∨ ∃ z, x = .str z ∧ Q (Its z) H1
/-- an expression whose value is known to be one of three -/
theorem pe_cut {tl : TE} {P : V → Hp → Prop} (h : PE X e tl) : PE X e (fun σ H Q => tl σ H fun x H1 => P x H1 ∧ Q x H1) := ⟨fun pins s σ H Q I hw => thn (h.run pins s σ H _ I hw) fun u s1 ⟨x, H1, I1, r, q⟩ => ⟨x, H1, I1, r, q.2⟩⟩
theorem pi_sq {tl : TE} (hl : PE X e tl) : PI X tg e (tSq X.K tl) := by
  refine ⟨fun pins s σ H Q I h => thn (hl.run pins s σ H _ I h) fun u s1 q => ?_⟩
  obtain ⟨x, H1, I1, r1, q1⟩ := q
  rcases q1 with ⟨a, e1, ⟨xs, hq⟩, q⟩ | ⟨a, e1, ⟨xs, hq⟩, q⟩ | ⟨z, e1, q⟩
  · subst e1; cases r1
    obtain ⟨its, _, p, _⟩ := I1.list hq
    exact wpAny_pyIter_list p.isList (pi_one (tk := s1.toks) I1 _ (turn_list a _) ⟨_, Heap.get?_push_size _ rfl, rfl, rfl⟩ q)
  · subst e1; cases r1
    obtain ⟨its, _, p, _⟩ := I1.tuple hq
    exact wpAny_pyIter_tuple (show s1.heap.IsTuple a its.toArray from p) (pi_one (tk := s1.toks) I1 _ (turn_tuple a _) ⟨_, Heap.get?_push_size _ rfl, rfl, rfl⟩ q)
  · subst e1
    obtain ⟨t, rfl⟩ := r1
    cases ha : z.cps.all (· < 128)
    · exact wpAny_pyIter_wide ha (pi_one (tk := s1.toks) I1 _ (turn_str _ z t "str_iterator" (.inr rfl)) ⟨_, Heap.get?_push_size _ rfl, rfl, rfl⟩ q)
    · exact wpAny_pyIter_ascii ha (pi_one (tk := s1.toks) I1 _ (turn_str _ z t "str_ascii_iterator" (.inl rfl)) ⟨_, Heap.get?_push_size _ rfl, rfl, rfl⟩ q)
def signs (z : Str) : List T := z.cps.toList.map fun c => T.d (.str ⟨#[c]⟩)
/-- the things of a list, a tuple, a text -/
def items : T → Option (List T)
  | .d (.tup ds) => some (ds.map T.d)
  | .d (.rol ds) => some (ds.map T.d)
  | .d (.str z) => some (signs z)
  | .l xs => some xs
  | _ => none
def gIt (g : En → R T) : En → R (List T) := fun en => (g en).bind fun x => .of (items x)
theorem it_list {K : PySem.W.Frag} {H : Hp} {a : Addr} {vs : List V} {xs : List T} {F G : List Addr} (h : ∀ H', Kept G H H' → SqL K H' a vs) (o : Owns K H vs xs F) (s : ∀ c ∈ F, c ∈ G) : ItOk K G H (Itl K a) xs := by
  unfold ItOk
  rw [← o.length]
  refine walk_list.mono h fun i H1 v H2 hi k y => ?_
  obtain ⟨rfl, y⟩ := y
  refine ⟨Same.refl _, ?_⟩
  have hx : i < xs.length := by rw [← o.length]; exact hi
  obtain ⟨v', G', h1, h2, h3⟩ := o.get (List.getElem?_eq_getElem hx)
  rw [y] at h1; cases h1
  exact ⟨_, G', List.getElem?_eq_getElem hx, k.own h2 fun c m => s c (h3 c m), fun c m => s c (h3 c m)⟩
theorem it_tup {K : PySem.W.Frag} {H : Hp} {a : Addr} {vs : List V} {xs : List T} {F G : List Addr} (h : SqT K H a vs) (o : Owns K H vs xs F) (s : ∀ c ∈ F, c ∈ G) : ItOk K G H (Itt K a) xs := by
  unfold ItOk
  rw [← o.length]
  refine walk_tup.mono (fun H' k => sqT_pst k.1 h) fun i H1 v H2 hi k y => ?_
  obtain ⟨rfl, y⟩ := y
  refine ⟨Same.refl _, ?_⟩
  have hx : i < xs.length := by rw [← o.length]; exact hi
  obtain ⟨v', G', h1, h2, h3⟩ := o.get (List.getElem?_eq_getElem hx)
  rw [y] at h1; cases h1
  exact ⟨_, G', List.getElem?_eq_getElem hx, k.own h2 fun c m => s c (h3 c m), fun c m => s c (h3 c m)⟩
theorem it_str {K : PySem.W.Frag} {H : Hp} {z : Str} {G : List Addr} : ItOk K G H (Its z) (signs z) := by
  unfold ItOk
  have e : (signs z).length = z.cps.size := by unfold signs; rw [List.length_map, Array.length_toList]
  rw [e]
  refine walk_str.mono (fun _ _ => trivial) fun i H1 v H2 hi k y => ?_
  obtain ⟨rfl, c, hc, rfl⟩ := y
  refine ⟨Same.refl _, T.d (.str ⟨#[c]⟩), [], ?_, .d (.str _), fun _ m => absurd m List.not_mem_nil⟩
  unfold signs
  rw [List.getElem?_map, Array.getElem?_toList, hc]
  rfl
theorem it_own {K : PySem.W.Frag} {H : Hp} {v : V} {x : T} {G : List Addr} {xs : List T} {Q : It → Hp → Prop} (o : Own K H v x G) (h : items x = some xs) (q : ∀ J, ItOk K G H J xs → Q J H) :
    (∃ a, v = .ref a ∧ (∃ xs, SqL K H a xs) ∧ Q (Itl K a) H) ∨ (∃ a, v = .ref a ∧ (∃ xs, SqT K H a xs) ∧ Q (Itt K a) H) ∨ ∃ z, v = .str z ∧ Q (Its z) H := by
  cases o with
  | d r =>
    cases r with
    | tup s r => cases h; exact .inr (.inl ⟨_, rfl, ⟨_, s⟩, q _ (it_tup s r.owns fun _ m => m)⟩)
    | rol s r => cases h; exact .inl ⟨_, rfl, ⟨_, s H (Pst.refl H)⟩, q _ (it_list (fun H' k => s H' k.1) r.owns fun _ m => m)⟩
    | str z => cases h; exact .inr (.inr ⟨_, rfl, q _ it_str⟩)
    | _ => cases h
  | l s r => cases h; exact .inl ⟨_, rfl, ⟨_, SqL.of s⟩, q _ (it_list (fun H' k => SqL.of (k.2 _ List.mem_cons_self _ s)) r fun c m => List.mem_cons_of_mem _ m)⟩
theorem i_sq (h : PV X W e g) : PIv X W tg e (gIt g) := by
  obtain ⟨t, p, s⟩ := h
  refine ⟨_, pi_sq p, fun σ H en Q ve q => s σ H en _ ve ?_⟩
  unfold gIt at q
  cases e : g en with
  | ok x =>
    rw [e] at q
    intro v H' G sm o
    cases ef : items x with
    | none => simp only [R.bind_ok, ef, R.of_none] at q; exact q.elim
    | some xs =>
      simp only [R.bind_ok, ef, R.of_some] at q
      exact it_own o ef fun J j => q J H' G sm j
  | ex c => rw [e] at q; exact q
  | no => rw [e] at q; exact q
theorem j_sq (h : PN X W e g) : PIn X W tg e (gIt g) := by
  obtain ⟨t, p, s⟩ := h
  refine ⟨_, pi_sq p, fun σ H en Q ve q => s σ H en _ ve ?_⟩
  unfold gIt at q
  cases e : g en with
  | ok x =>
    rw [e] at q
    intro v H' G sm o fr
    cases ef : items x with
    | none => simp only [R.bind_ok, ef, R.of_none] at q; exact q.elim
    | some xs =>
      simp only [R.bind_ok, ef, R.of_some] at q
      exact it_own o ef fun J j => q J H' G sm j fr o.there
  | ex c => rw [e] at q; exact q
  | no => rw [e] at q; exact q
/-! ranges -/
def rng (a c : Int) (n : Nat) : List T := (List.range n).map fun i => T.d (.int (a + (i : Nat) * c))
theorem rng_get {a c : Int} {n i : Nat} (h : i < n) : (rng a c n)[i]? = some (T.d (.int (a + (i : Nat) * c))) := by
  unfold rng
  rw [List.getElem?_map, List.getElem?_range h]
  rfl
theorem rng_len {a c : Int} {n : Nat} : (rng a c n).length = n := by unfold rng; rw [List.length_map, List.length_range]
theorem it_rng {K : PySem.W.Frag} {H : Hp} {a : Int} {n : Nat} {G : List Addr} : ItOk K G H (Itr a n) (rng a 1 n) := by
  unfold ItOk
  rw [rng_len]
  refine walk_range.mono (fun _ _ => trivial) fun i H1 v H2 hi k y => ?_
  obtain ⟨rfl, rfl⟩ := y
  refine ⟨Same.refl _, _, [], rng_get hi, ?_, fun _ m => absurd m List.not_mem_nil⟩
  rw [Int.mul_one]
  exact .d (.int _)
theorem it_rngC {K : PySem.W.Frag} {H : Hp} {a c : Int} {n : Nat} {G : List Addr} : ItOk K G H (Itc a c n) (rng a c n) := by
  unfold ItOk
  rw [rng_len]
  refine walk_rangeC.mono (fun _ _ => trivial) fun i H1 v H2 hi k y => ?_
  obtain ⟨rfl, rfl⟩ := y
  exact ⟨Same.refl _, _, [], rng_get hi, .d (.int _), fun _ m => absurd m List.not_mem_nil⟩
abbrev far : Int := 4611686018427387904
def fR1 : T → R (List T)
  | .d (.int j) => if -far ≤ j ∧ j < far then .ok (rng 0 1 j.toNat) else .no
  | _ => .no
def fR2 : T → T → R (List T)
  | .d (.int i), .d (.int j) => if -far ≤ i ∧ i < far ∧ -far ≤ j ∧ j < far then .ok (rng i 1 (j - i).toNat) else .no
  | _, _ => .no
def fR3 : T → T → T → R (List T)
  | .d (.int i), .d (.int j), .d (.int c) => if c ≠ 0 ∧ c.natAbs < 1073741824 ∧ Builtin.Range.small i j c = true ∧ 0 ≤ Builtin.Range.rangeSize i j c then .ok (rng i c (Builtin.Range.rangeSize i j c).toNat) else .no
  | _, _, _ => .no
def gR1 (g : En → R T) : En → R (List T) := fun en => (g en).bind fR1
def gR2 (ga gb : En → R T) : En → R (List T) := fun en => (ga en).bind fun x => (gb en).bind fun y => fR2 x y
def gR3 (ga gb gc : En → R T) : En → R (List T) := fun en => (ga en).bind fun x => (gb en).bind fun y => (gc en).bind fun z => fR3 x y z
variable {a b c : Expr} {ga gb gc : En → R T} {gs : En → R (List T)} {p pos : Pos}
/-- the reading of arguments, told by what they are -/
theorem JQ.same {σ : St} {H H' : Hp} {Q : It → Hp → Prop} {r : R (List T)} (s : Same H H') (h : JQ X W σ H Q r) : JQ X W σ H' Q r := by
  cases r with
  | ok b => exact fun J H2 G s2 o f t => h J H2 G (s.trans s2) o (f.back s) t
  | ex c => exact XQ.mono (W := W) s h
  | no => exact h
theorem j_rng1 (hm : X.mg "range" = none) (h : PV X W a ga) (hg : Gl X "range" := by rfl) (hs : starEach [a] X.env = [(false, eval a X.env)] := by rfl) : PIn X W tg (.Call (.Name "range" p) [a] [] pos) (gR1 ga) := by
  obtain ⟨t, pp, s⟩ := h
  refine ⟨_, pi_range1 hg hm (pa_cons pp pa_nil (by rw [hs]; rfl)) hs, fun σ H en Q ve q => s σ H en _ ve ?_⟩
  unfold gR1 at q
  cases e : ga en with
  | ok x =>
    rw [e] at q
    intro v H' G sm o
    simp only [R.bind_ok] at q
    unfold fR1 at q
    split at q
    · split at q
      · rename_i hj
        cases o with | d r => cases r; exact ⟨_, rfl, hj.1, hj.2, q _ H' [] sm it_rng Fresh.nil fun _ m => absurd m List.not_mem_nil⟩
      · exact q.elim
    · exact q.elim
  | ex c => rw [e] at q; exact q
  | no => rw [e] at q; exact q
theorem j_rng2 (hm : X.mg "range" = none) (ha : PV X W a ga) (hb : PV X W b gb) (hg : Gl X "range" := by rfl) (hs : starEach [a, b] X.env = [(false, eval a X.env), (false, eval b X.env)] := by rfl) (hs2 : starEach [b] X.env = [(false, eval b X.env)] := by rfl) : PIn X W tg (.Call (.Name "range" p) [a, b] [] pos) (gR2 ga gb) := by
  obtain ⟨t, pp, s⟩ := ha
  obtain ⟨t2, pp2, s2⟩ := hb
  refine ⟨_, pi_range2 hg hm (pa_cons pp (pa_cons pp2 pa_nil (by rw [hs2]; rfl)) (by rw [hs, hs2])) hs hs2, fun σ H en Q ve q => s σ H en _ ve ?_⟩
  unfold gR2 at q
  cases e : ga en with
  | ok x =>
    rw [e] at q
    intro v H' G sm o
    refine s2 σ H' en _ (ve.mono sm) ?_
    cases e2 : gb en with
    | ok y =>
      rw [e2] at q
      intro v2 H2 G2 sm2 o2
      simp only [R.bind_ok] at q
      unfold fR2 at q
      split at q
      · split at q
        · rename_i hj
          cases o with | d r => cases r; cases o2 with | d r2 => cases r2; exact ⟨_, _, rfl, hj, q _ H2 [] (sm.trans sm2) it_rng Fresh.nil fun _ m => absurd m List.not_mem_nil⟩
        · exact q.elim
      · exact q.elim
    | ex c => rw [e2] at q; exact XQ.mono (W := W) sm q
    | no => rw [e2] at q; exact q
  | ex c => rw [e] at q; exact q
  | no => rw [e] at q; exact q
theorem j_rng3 (hm : X.mg "range" = none) (ha : PV X W a ga) (hb : PV X W b gb) (hc : PV X W c gc) (hg : Gl X "range" := by rfl) (hs : starEach [a, b, c] X.env = (false, eval a X.env) :: starEach [b, c] X.env := by rfl) (hs2 : starEach [b, c] X.env = (false, eval b X.env) :: starEach [c] X.env := by rfl) (hs3 : starEach [c] X.env = (false, eval c X.env) :: starEach [] X.env := by rfl)
    (hpl : (backTo pos (starEach [b, c] X.env)).any (·.1) = false := by rfl) : PIn X W tg (.Call (.Name "range" p) [a, b, c] [] pos) (gR3 ga gb gc) := by
  obtain ⟨t, pp, s⟩ := ha
  obtain ⟨t2, pp2, s2⟩ := hb
  obtain ⟨t3, pp3, s3⟩ := hc
  refine ⟨_, pi_range3 hg hm (pa_cons pp (pa_cons pp2 (pa_cons pp3 pa_nil hs3) hs2) hs) hs hpl, fun σ H en Q ve q => s σ H en _ ve ?_⟩
  unfold gR3 at q
  cases e : ga en with
  | ok x =>
    rw [e] at q
    intro v H' G sm o
    refine s2 σ H' en _ (ve.mono sm) ?_
    cases e2 : gb en with
    | ok y =>
      rw [e2] at q
      intro v2 H2 G2 sm2 o2
      refine s3 σ H2 en _ (ve.mono (sm.trans sm2)) ?_
      cases e3 : gc en with
      | ok z =>
        rw [e3] at q
        intro v3 H3 G3 sm3 o3
        simp only [R.bind_ok] at q
        unfold fR3 at q
        split at q
        · split at q
          · rename_i hj
            cases o with | d r => cases r; cases o2 with | d r2 => cases r2; cases o3 with | d r3 => cases r3; exact ⟨_, _, _, _, rfl, ⟨hj.1, hj.2.1, hj.2.2.1, (Int.toNat_of_nonneg hj.2.2.2).symm⟩, q _ H3 [] ((sm.trans sm2).trans sm3) it_rngC Fresh.nil fun _ m => absurd m List.not_mem_nil⟩
          · exact q.elim
        · exact q.elim
      | ex c => rw [e3] at q; exact XQ.mono (W := W) (sm.trans sm2) q
      | no => rw [e3] at q; exact q
    | ex c => rw [e2] at q; exact XQ.mono (W := W) sm q
    | no => rw [e2] at q; exact q
  | ex c => rw [e] at q; exact q
  | no => rw [e] at q; exact q
/-- list(range(..)) -/
def gLR1 (g : En → R T) : En → R T := fun en => (g en).bind fun x => match x with
  | .d (.int n) => if 0 ≤ n ∧ n ≤ 16777216 then .ok (.l (rng 0 1 n.toNat)) else .no
  | _ => .no
def gLR2 (ga gb : En → R T) : En → R T := fun en => (ga en).bind fun x => (gb en).bind fun y => match x, y with
  | .d (.int m), .d (.int n) => if 0 ≤ m ∧ m ≤ 16777216 ∧ 0 ≤ n ∧ n ≤ 16777216 then .ok (.l (rng m 1 (n - m).toNat)) else .no
  | _, _ => .no
theorem rg_rng {K : PySem.W.Frag} {H : Hp} (a b : Int) : RepDs K H (rgV a b) ((List.range (b - a).toNat).map fun i => D.int (a + (i : Nat) * 1)) := by
  unfold rgV
  generalize List.range (b - a).toNat = l
  induction l with
  | nil => exact .nil
  | cons x r ih => exact .cons (by show RepD K H (.int (a + (x : Nat))) (.int (a + (x : Nat) * 1)); rw [Int.mul_one]; exact .int _) ih
theorem rng_own {K : PySem.W.Frag} {H : Hp} (a b : Int) : Owns K H (rgV a b) (rng a 1 (b - a).toNat) [] := by
  have := (rg_rng (K := K) (H := H) a b).owns
  rw [List.map_map] at this
  exact this
theorem new_lst {K : PySem.W.Frag} {H : Hp} {p : Addr} {vs : List V} {xs : List T} (np : H p = none) (o : Owns K H vs xs []) : Own K (upd H p (.lst vs)) (.ref p) (.l xs) [p] := .l upd_same (o.mono (same_new np))
theorem fresh1 {H : Hp} {p : Addr} (np : H p = none) : Fresh H [p] := ⟨by simp, fun c m => by
  have e : c = p := by simpa using m
  rw [e]; exact np⟩
theorem n_lrng1 {p2 pos2 : Pos} (hc : X.calm = true) (hm : X.mg "range" = none) (hm2 : X.mg "list" = none) (ha : PV X W a ga) (hg : Gl X "range" := by rfl) (hg2 : Gl X "list" := by rfl) (hs : starEach [a] X.env = (false, eval a X.env) :: starEach [] X.env := by rfl)
    (hs2 : starEach [.Call (.Name "range" p) [a] [] pos] X.env = (false, eval (.Call (.Name "range" p) [a] [] pos) X.env) :: starEach [] X.env := by rfl) : PN X W (.Call (.Name "list" p2) [.Call (.Name "range" p) [a] [] pos] [] pos2) (gLR1 ga) := by
  obtain ⟨t, pp, s⟩ := ha
  refine ⟨_, pe_listRg hc hg2 hm2 (prg_1 hg hm pp hs) hs2, fun σ H en Q ve q => s σ H en _ ve ?_⟩
  unfold gLR1 at q
  cases e : ga en with
  | ok x =>
    rw [e] at q
    intro v H' G sm o
    simp only [R.bind_ok] at q
    split at q
    · split at q
      · rename_i n hn
        cases o with
        | d r =>
          cases r
          refine ⟨n, rfl, .of_le (by omega) (by omega) (by omega) (by omega), fun p np => ?_⟩
          have ow := rng_own (K := X.K) (H := H') 0 n
          rw [Int.sub_zero] at ow
          exact q _ _ [p] (sm.trans (same_new np)) (new_lst np ow) ((fresh1 np).back sm)
      · exact q.elim
    · exact q.elim
  | ex c => rw [e] at q; exact q
  | no => rw [e] at q; exact q
theorem n_lrng2 {p2 pos2 : Pos} (hc : X.calm = true) (hm : X.mg "range" = none) (hm2 : X.mg "list" = none) (ha : PV X W a ga) (hb : PV X W b gb) (hg : Gl X "range" := by rfl) (hg2 : Gl X "list" := by rfl) (hs : starEach [a, b] X.env = (false, eval a X.env) :: starEach [b] X.env := by rfl) (hsb : starEach [b] X.env = (false, eval b X.env) :: starEach [] X.env := by rfl)
    (hpl : (backTo pos (starEach [b] X.env)).any (·.1) = false := by rfl)
    (hs2 : starEach [.Call (.Name "range" p) [a, b] [] pos] X.env = (false, eval (.Call (.Name "range" p) [a, b] [] pos) X.env) :: starEach [] X.env := by rfl) : PN X W (.Call (.Name "list" p2) [.Call (.Name "range" p) [a, b] [] pos] [] pos2) (gLR2 ga gb) := by
  obtain ⟨t, pp, s⟩ := ha
  obtain ⟨t2, pp2, s2⟩ := hb
  refine ⟨_, pe_listRg hc hg2 hm2 (prg_2 hg hm pp pp2 hs hsb hpl) hs2, fun σ H en Q ve q => s σ H en _ ve ?_⟩
  unfold gLR2 at q
  cases e : ga en with
  | ok x =>
    rw [e] at q
    intro v H' G sm o
    refine s2 σ H' en _ (ve.mono sm) ?_
    cases e2 : gb en with
    | ok y =>
      rw [e2] at q
      intro v2 H2 G2 sm2 o2
      simp only [R.bind_ok] at q
      split at q
      · split at q
        · rename_i n hn
          cases o with
          | d r =>
            cases r
            cases o2 with
            | d r =>
              cases r
              refine ⟨_, _, rfl, rfl, .of_le (by omega) (by omega) (by omega) (by omega), fun p np => ?_⟩
              exact q _ _ [p] ((sm.trans sm2).trans (same_new np)) (new_lst np (rng_own _ _)) ((fresh1 np).back (sm.trans sm2))
        · exact q.elim
      · exact q.elim
    | ex c => rw [e2] at q; exact XQ.mono (W := W) sm q
    | no => rw [e2] at q; exact q
  | ex c => rw [e] at q; exact q
  | no => rw [e] at q; exact q
end
/-! ### targets -/
abbrev Ass := List (Nat × T)
def setS : St → List (Nat × V) → St
  | σ, [] => σ
  | σ, (i, v) :: r => setS (σ.set i (some v)) r
/-- a thing that is seen, or a datum -/
def mkS : T → Sl
  | .d d => .v (.d d)
  | .l xs => .w (.l xs)
theorem mkS_get (x : T) : (mkS x).get = some x := by cases x <;> rfl
def setE : En → Ass → En
  | en, [] => en
  | en, (i, x) :: r => setE (en.set i (mkS x)) r
inductive AsOk (K : PySem.W.Frag) (H : Hp) (G : List Addr) : List (Nat × V) → Ass → Prop
  | nil : AsOk K H G [] []
  | cons {i : Nat} {v : V} {x : T} {F : List Addr} {r : List (Nat × V)} {s : Ass} : Own K H v x F → (∀ a ∈ F, a ∈ G) → AsOk K H G r s → AsOk K H G ((i, v) :: r) ((i, x) :: s)
theorem AsOk.app {K : PySem.W.Frag} {H : Hp} {G : List Addr} : ∀ {r r2 : List (Nat × V)} {s s2 : Ass}, AsOk K H G r s → AsOk K H G r2 s2 → AsOk K H G (r ++ r2) (s ++ s2)
  | _, _, _, _, .nil, h => h
  | _, _, _, _, .cons o m t, h => .cons o m (AsOk.app t h)
theorem setS_app : ∀ (σ : St) (r r2 : List (Nat × V)), setS σ (r ++ r2) = setS (setS σ r) r2
  | _, [], _ => rfl
  | _, (i, v) :: r, r2 => setS_app _ r r2
def tgt (K : PySem.W.Frag) (k : T → Option Ass) : TG := fun v σ H Q => ∃ x G as, Own K H v x G ∧ k x = some as ∧ ∀ vs, AsOk K H G vs as → Q (setS σ vs) H
def PTg (X : Cx) (tg : Expr) (k : T → Option Ass) : Prop := PG X tg (tgt X.K k)
def kName (i : Nat) : T → Option Ass := fun x => some [(i, x)]
theorem t_name (i : Nat) {X : Cx} {x : Str} {pos : Pos} (hN : X.N.Nodup) (hi : X.N[i]? = some x := by rfl) (hx : Loc X.env.scope x := by first | exact .inl rfl | exact .inr rfl) (hf : X.fn x = true ∨ X.env.scope.names.lookup x = some .local := by first | exact .inl rfl | exact .inr rfl) : PTg X (.Name x pos) (kName i) := by
  refine ⟨fun pins s σ H v u Q I r h => (pg_name hN hi hx hf).run pins s σ H v u Q I r ?_⟩
  obtain ⟨x, G, as, o, e, q⟩ := h
  cases e
  exact q [(i, v)] (.cons o (fun _ m => m) .nil)
/-- the parts of a tuple's target -/
def kNil : List D → Option Ass
  | [] => some []
  | _ => none
def kCons (k : T → Option Ass) (r : List D → Option Ass) : List D → Option Ass
  | d :: ds => (k (.d d)).bind fun a => (r ds).map fun b => a ++ b
  | [] => none
def tgts (K : PySem.W.Frag) (k : List D → Option Ass) : TGs := fun vs σ H Q => ∃ ds as, RepDs K H vs ds ∧ k ds = some as ∧ ∀ ws, AsOk K H [] ws as → Q (setS σ ws) H
def PTgs (X : Cx) (ts : List Expr) (k : List D → Option Ass) : Prop := PGs X ts (tgts X.K k)
theorem ts_nil {X : Cx} : PTgs X [] kNil := by
  refine ⟨fun pins s σ H vs us Q I r h => pgs_nil.run pins s σ H vs us Q I r ?_⟩
  obtain ⟨ds, as, rr, e, q⟩ := h
  cases rr with
  | nil => cases e; exact ⟨rfl, q [] .nil⟩
  | cons _ _ => cases e
theorem ts_cons {X : Cx} {e : Expr} {es : List Expr} {k : T → Option Ass} {r : List D → Option Ass} (h1 : PTg X e k) (h2 : PTgs X es r) (hs : (assignEach (e :: es) X.env).map (·.2) = assign e X.env :: (assignEach es X.env).map (·.2) := by rfl) : PTgs X (e :: es) (kCons k r) := by
  refine ⟨fun pins s σ H vs us Q I r h => (pgs_cons h1 h2 hs).run pins s σ H vs us Q I r ?_⟩
  obtain ⟨ds, as, rr, e, q⟩ := h
  cases rr with
  | nil => cases e
  | @cons v vs d ds r1 r2 =>
    obtain ⟨a1, e1, e⟩ := Option.bind_eq_some_iff.mp e
    obtain ⟨a2, e2, rfl⟩ := Option.map_eq_some_iff.mp e
    exact ⟨v, vs, rfl, _, [], a1, .d r1, e1, fun ws w => ⟨ds, a2, r2, e2, fun ws2 w2 => by rw [← setS_app]; exact q _ (w.app w2)⟩⟩
def kTup (n : Nat) (k : List D → Option Ass) : T → Option Ass
  | .d (.tup ds) => if ds.length = n then k ds else none
  | _ => none
theorem t_tup {X : Cx} {es : List Expr} {j : Nat} {n : Nat} {k : List D → Option Ass} {pos : Pos} (hc : X.calm = true) (h : PTgs X es k) (hn : (assignEach es X.env).length = n := by rfl) (hst : (assignEach es X.env).findIdx? (·.1) = none := by rfl) : PTg X (.Tuple es j pos) (kTup n k) := by
  refine ⟨fun pins s σ H v u Q I r hh => (pg_tup hc h hn hst).run pins s σ H v u Q I r ?_⟩
  obtain ⟨x, G, as, o, e, q⟩ := hh
  unfold kTup at e
  split at e
  · split at e
    · rename_i hl
      cases o with
      | d r =>
        cases r with
        | tup s r =>
          refine ⟨_, _, rfl, s, by rw [r.length]; exact hl, _, _, r, e, fun ws w => q ws ?_⟩
          clear q e
          induction w with
          | nil => exact .nil
          | cons o m _ ih => exact .cons o (fun a z => absurd (m a z) List.not_mem_nil) ih
    · cases e
  · cases e
/-! ### the frame behind stores -/
theorem set_at {en : En} {i j : Nat} {s : Sl} {x : T} (h : at_ (en.set i s) j = some x) : (j = i ∧ i < en.length ∧ s.get = some x) ∨ (j ≠ i ∧ at_ en j = some x) := by
  unfold at_ at h
  by_cases e : j = i
  · subst e
    by_cases hl : j < en.length
    · rw [List.getElem?_set_self hl] at h
      exact .inl ⟨rfl, hl, h⟩
    · rw [List.getElem?_eq_none (by rw [List.length_set]; omega)] at h
      cases h
  · rw [List.getElem?_set_ne (Ne.symm e)] at h
    exact .inr ⟨e, h⟩
theorem VEn.set {K : PySem.W.Frag} {H : Hp} {σ : St} {en : En} {i : Nat} {v : V} {x : T} {G : List Addr} {s : Sl} (h : VEn K H σ en) (o : Own K H v x G) (hs : s.get = some x) : VEn K H (σ.set i (some v)) (en.set i s) := by
  refine ⟨by rw [List.length_set, List.length_set]; exact h.len, fun j y e => ?_⟩
  rcases set_at e with ⟨rfl, hl, e1⟩ | ⟨hj, e1⟩
  · rw [hs] at e1; cases e1
    have hz := h.len
    exact ⟨v, G, List.getElem?_set_self (by omega), o⟩
  · obtain ⟨w, F, h1, h2⟩ := h.see j y e1
    exact ⟨w, F, by rw [List.getElem?_set_ne (Ne.symm hj)]; exact h1, h2⟩
theorem VEn.sets {K : PySem.W.Frag} {H : Hp} {G : List Addr} : ∀ {vs : List (Nat × V)} {as : Ass} {σ : St} {en : En}, VEn K H σ en → AsOk K H G vs as → VEn K H (setS σ vs) (setE en as)
  | _, _, _, _, h, .nil => h
  | _, _, σ, en, h, .cons (i := i) (v := v) (x := x) o _ t => by
    show VEn K H (setS (σ.set i (some v)) _) (setE (en.set i (mkS x)) _)
    exact VEn.sets (h.set o (mkS_get x)) t
def wipeE (en : En) : List Nat → En
  | [] => en
  | v :: vs => (wipeE en vs).set v .n
theorem wipeE_len (en : En) : ∀ vs, (wipeE en vs).length = en.length
  | [] => rfl
  | v :: vs => by unfold wipeE; rw [List.length_set, wipeE_len en vs]
theorem VEn.wipe {K : PySem.W.Frag} {H : Hp} {σ : St} {en : En} (h : VEn K H σ en) : ∀ vs : List Nat, VEn K H (wipe σ vs) (wipeE en vs)
  | [] => h
  | v :: vs => by
    have ih := VEn.wipe h vs
    refine ⟨by unfold L2.wipe wipeE; rw [List.length_set, List.length_set]; exact ih.len, fun j y e => ?_⟩
    unfold wipeE at e
    rcases set_at e with ⟨rfl, hl, e1⟩ | ⟨hj, e1⟩
    · cases e1
    · obtain ⟨w, F, h1, h2⟩ := ih.see j y e1
      refine ⟨w, F, ?_, h2⟩
      unfold L2.wipe
      rw [List.getElem?_set_ne (Ne.symm hj)]
      exact h1
theorem wipe_get (σ : St) (i : Nat) : ∀ vs : List Nat, (wipe σ vs)[i]? = if i ∈ vs then (σ[i]?).map fun _ => none else σ[i]?
  | [] => by simp [L2.wipe]
  | v :: vs => by
    unfold L2.wipe
    by_cases e : v = i
    · subst e
      rw [if_pos List.mem_cons_self]
      by_cases hl : v < σ.length
      · rw [List.getElem?_set_self (by rw [wipe_length]; exact hl), List.getElem?_eq_getElem hl]; rfl
      · rw [List.getElem?_eq_none (by rw [List.length_set, wipe_length]; omega), List.getElem?_eq_none (by omega)]; rfl
    · rw [List.getElem?_set_ne e, wipe_get σ i vs]
      have : (i ∈ v :: vs) ↔ i ∈ vs := by simp only [List.mem_cons]; exact ⟨fun h => h.elim (fun z => absurd z.symm e) id, .inr⟩
      by_cases hm : i ∈ vs
      · rw [if_pos hm, if_pos (this.mpr hm)]
      · rw [if_neg hm, if_neg fun z => hm (this.mp z)]
theorem wipe_set {σ : St} {i : Nat} {o : Option V} {vs : List Nat} (h : i ∈ vs) : wipe (σ.set i o) vs = wipe σ vs := by
  apply List.ext_getElem?
  intro j
  rw [wipe_get, wipe_get]
  by_cases e : i = j
  · subst e
    rw [if_pos h, if_pos h]
    by_cases hl : i < σ.length
    · rw [List.getElem?_set_self hl, List.getElem?_eq_getElem hl]; rfl
    · rw [List.getElem?_eq_none (by rw [List.length_set]; omega), List.getElem?_eq_none (by omega)]
  · rw [List.getElem?_set_ne e]
theorem wipe_sets {K : PySem.W.Frag} {H : Hp} {G : List Addr} {ix : List Nat} : ∀ {vs : List (Nat × V)} {as : Ass} {σ : St}, AsOk K H G vs as → (∀ p ∈ as, p.1 ∈ ix) → wipe (setS σ vs) ix = wipe σ ix
  | _, _, _, .nil, _ => rfl
  | _, _, σ, .cons (i := i) (v := v) o _ t, h => by
    show wipe (setS (σ.set i (some v)) _) ix = _
    rw [wipe_sets t fun p m => h p (List.mem_cons_of_mem _ m)]
    exact wipe_set (h _ List.mem_cons_self)
theorem wipe_wipe (σ : St) (vs : List Nat) : wipe (wipe σ vs) vs = wipe σ vs := by
  apply List.ext_getElem?
  intro j
  rw [wipe_get, wipe_get]
  by_cases h : j ∈ vs
  · rw [if_pos h, if_pos h]; cases σ[j]? <;> rfl
  · rw [if_neg h, if_neg h]
end Z
/-! Z: comprehensions, calls of the text's own defs. -/
namespace Z
open PySem PySem.Spec L2
open PyProof.Rows hiding St

/-- nothing leaves a comprehension's block -/
abbrev W0 : WX := fun _ _ _ _ => False
/-! readings by what is computed alone -/
section
variable (X : Cx) (W : WX)
def cN (g : En → R T) : TE := fun σ H Q => ∃ en, VEn X.K H σ en ∧ NQ X W σ H Q (g en)
def cV (g : En → R T) : TE := fun σ H Q => ∃ en, VEn X.K H σ en ∧ VQ X W σ H Q (g en)
def cT (g : En → R Bool) : TT := fun σ H Q => ∃ en, VEn X.K H σ en ∧ TQ X W σ H Q (g en)
def cI (g : En → R (List T)) : TI := fun σ H Q => ∃ en, VEn X.K H σ en ∧ IQ X W σ H Q (g en)
end
section
variable {X : Cx} {W : WX} {e c : Expr} {tg : Expr} {g : En → R T} {gc : En → R Bool} {gi : En → R (List T)}
theorem PN.can (h : PN X W e g) : PE X e (cN X W g) := by
  obtain ⟨t, p, s⟩ := h
  exact ⟨fun pins st σ H Q I ⟨en, ve, q⟩ => p.run pins st σ H Q I (s σ H en Q ve q)⟩
theorem PV.can (h : PV X W e g) : PE X e (cV X W g) := by
  obtain ⟨t, p, s⟩ := h
  exact ⟨fun pins st σ H Q I ⟨en, ve, q⟩ => p.run pins st σ H Q I (s σ H en Q ve q)⟩
theorem PC.can (h : PC X W c gc) : PT X c (cT X W gc) := by
  obtain ⟨t, p, s⟩ := h
  exact ⟨fun pins st σ H Q I ⟨en, ve, q⟩ => p.run pins st σ H Q I (s σ H en Q ve q)⟩
theorem PIv.can (h : PIv X W tg e gi) : PI X tg e (cI X W gi) := by
  obtain ⟨t, p, s⟩ := h
  exact ⟨fun pins st σ H Q I ⟨en, ve, q⟩ => p.run pins st σ H Q I (s σ H en Q ve q)⟩
/-- a clause's tests -/
def PCs (X : Cx) (W : WX) (ifs : List Expr) (g : En → R Bool) : Prop := PTs X ifs (cT X W g)
def gYes : En → R Bool := fun _ => .ok true
theorem cs_nil : PCs X W [] gYes := ⟨fun pins s σ H Q I ⟨en, ve, q⟩ => pts_nil.run pins s σ H Q I (q H (Same.refl H))⟩
theorem cs_one (h : PC X W c gc) : PCs X W [c] gc := pts_one h.can
end
/-! ### [elt for tg in it if ..] -/
def lcL (k : T → Option Ass) (tt : En → R Bool) (te : En → R T) (en : En) : List T → R (List T)
  | [] => .ok []
  | x :: xs => (R.of (k x)).bind fun as => (tt (setE en as)).bind fun b => if b = true then (te (setE en as)).bind fun y => (lcL k tt te en xs).bind fun ys => .ok (y :: ys) else lcL k tt te en xs
/-- a comprehension lets no error out -/
def R.calm {α : Type} : R α → R α
  | .ok a => .ok a
  | _ => .no
def gLc (vs : List Nat) (gi : En → R (List T)) (k : T → Option Ass) (tt : En → R Bool) (te : En → R T) : En → R T := fun en => (gi en).bind fun xs =>
  if xs.length < most then (lcL k tt te (wipeE en vs) xs).calm.bind fun ys => .ok (.l ys) else .no
theorem lcL_len {k : T → Option Ass} {tt : En → R Bool} {te : En → R T} {en : En} : ∀ {xs ys : List T}, lcL k tt te en xs = .ok ys → ys.length ≤ xs.length
  | [], _, h => by cases h; exact Nat.le_refl _
  | x :: xs, ys, h => by
    unfold lcL at h
    cases e1 : k x with
    | none => rw [e1] at h; cases h
    | some as =>
      rw [e1] at h
      simp only [R.of_some, R.bind_ok] at h
      cases e2 : tt (setE en as) with
      | ok b =>
        rw [e2] at h
        simp only [R.bind_ok] at h
        cases b with
        | true =>
          simp only [if_true] at h
          cases e3 : te (setE en as) with
          | ok y =>
            rw [e3] at h
            simp only [R.bind_ok] at h
            cases e4 : lcL k tt te en xs with
            | ok zs => rw [e4] at h; cases h; exact Nat.succ_le_succ (lcL_len e4)
            | ex c => rw [e4] at h; cases h
            | no => rw [e4] at h; cases h
          | ex c => rw [e3] at h; cases h
          | no => rw [e3] at h; cases h
        | false =>
          simp only [Bool.false_eq_true, if_false] at h
          exact Nat.le_succ_of_le (lcL_len h)
      | ex c => rw [e2] at h; cases h
      | no => rw [e2] at h; cases h
theorem Owns.snoc {K : PySem.W.Frag} {H : Hp} {vs : List V} {xs : List T} {F G : List Addr} {v : V} {x : T} (o : Owns K H vs xs F) (p : Own K H v x G) : Owns K H (vs ++ [v]) (xs ++ [x]) (F ++ G) := by
  have := o.append (.cons p .nil)
  rwa [List.append_nil] at this
/-- the new list so far -/
structure Grown (K : PySem.W.Frag) (H0 H1 : Hp) (D : Addr) (ts : List T) (H : Hp) : Prop where
  same : Same H1 H
  own : ∃ vs F, H D = some (.lst vs) ∧ Owns K H vs ts F ∧ Fresh H0 (D :: F)
theorem Grown.more {K : PySem.W.Frag} {H0 H1 H2 H3 H4 : Hp} {D : Addr} {ts : List T} {v : V} {x : T} {G : List Addr} (nD : H1 D = none) (g : Grown K H0 H1 D ts H2) (s : Same H2 H3) (s2 : Same H3 H4) (o : Own K H4 v x G) (f : Fresh H3 G) (s01 : Same H0 H1) (hz : ts.length < most) :
    ∃ acc, H4 D = some (.lst acc) ∧ acc.length < sizeLine ∧ Grown K H0 H1 D (ts ++ [x]) (upd H4 D (.lst (acc ++ [v]))) := by
  obtain ⟨sm, vs, F, hD, ow, fr⟩ := g
  have s24 := s.trans s2
  have hD4 := s24 _ _ hD
  refine ⟨vs, hD4, by rw [most_eq, ow.length]; exact hz, ⟨?_, ?_⟩⟩
  · intro a o' e
    have e4 := s24 _ _ (sm _ _ e)
    rw [upd_ne (ne_of_none e nD)]
    exact e4
  · have nF : ∀ a ∈ F, a ≠ D := fun a m e => (List.nodup_cons.mp fr.1).1 (e ▸ m)
    have tF : ∀ a ∈ F, H2 a ≠ none := fun a m => ow.there a m
    have nG : ∀ a ∈ G, a ≠ D := fun a m e => by
      have := f.2 a m
      rw [e, s _ _ hD] at this; cases this
    have pst : Pst H4 (upd H4 D (.lst (vs ++ [v]))) := ⟨fun a us e => by
      by_cases h : a = D
      · rw [h, hD4] at e; cases e
      · rw [upd_ne h]; exact e, fun a ob u e => by
      by_cases h : a = D
      · rw [h, hD4] at e; cases e
      · rw [upd_ne h]; exact e⟩
    have ow4 : Owns K (upd H4 D (.lst (vs ++ [v]))) vs ts F := (ow.mono s24).frame pst fun a m o' e => by rw [upd_ne (nF a m)]; exact e
    have o4 : Own K (upd H4 D (.lst (vs ++ [v]))) v x G := o.frame pst fun a m o' e => by rw [upd_ne (nG a m)]; exact e
    have fr2 : Fresh H0 (D :: F ++ G) := by
      refine ⟨List.nodup_append.mpr ⟨fr.1, f.1, fun a ha b hb e => ?_⟩, fun a m => (List.mem_append.mp m).elim (fr.2 a) fun m => ((s01.trans sm).trans s).free (f.2 a m)⟩
      subst e
      rcases List.mem_cons.mp ha with rfl | ha
      · exact nG _ hb rfl
      · exact tF a ha (s.free (f.2 a hb))
    exact ⟨vs ++ [v], F ++ G, upd_same, ow4.snoc o4, by rw [List.cons_append] at fr2; exact fr2⟩
section
variable {X : Cx} {W : WX} {elt tg it : Expr} {ifs : List Expr} {scope : Scope} {pos : Pos} {gi : En → R (List T)} {k : T → Option Ass} {tt : En → R Bool} {te : En → R T}
/-- the reading -/
theorem sp_lc {own : List (Str × Nat)} (hk : ∀ x as, k x = some as → ∀ p ∈ as, p.1 ∈ own.map (·.2)) : ∀ σ H en Q, VEn X.K H σ en → NQ X W σ H Q (gLc (own.map (·.2)) gi k tt te en) → tLc (cI X W gi) (tgt X.K k) (cT X W0 tt) (cN X W0 te) (own.map (·.2)) σ H Q := by
  intro σ H en Q ve q
  refine ⟨en, ve, ?_⟩
  unfold gLc at q
  cases e : gi en with
  | ex c => rw [e] at q; exact q
  | no => rw [e] at q; exact q
  | ok xs =>
    rw [e] at q
    intro J H1 G s1 iok D nD
    simp only [R.bind_ok] at q
    split at q
    · rename_i hz
      cases el : lcL k tt te (wipeE en (own.map (·.2))) xs with
      | ex c => rw [el] at q; exact q.elim
      | no => rw [el] at q; exact q.elim
      | ok ys =>
        rw [el] at q
        simp only [R.calm, R.bind_ok] at q
        have yz : ys.length < most := Nat.lt_of_le_of_lt (lcL_len el) hz
        refine lc_it iok (fun i H2 => ∃ ts rest, Grown X.K H H1 D ts H2 ∧ lcL k tt te (wipeE en (own.map (·.2))) (xs.drop i) = .ok rest ∧ ts ++ rest = ys) ⟨[], ys, ⟨same_new nD, [], [], upd_same, .nil, (fresh1 nD).back s1⟩, by rw [List.drop_zero]; exact el, rfl⟩ (fun i H2 _ h => ?_) (fun i v H2 H3 hi h y => ?_) (fun H2 h => ?_)
        · obtain ⟨ts, rest, g, _, _⟩ := h
          exact .of g.same
        · obtain ⟨ts, rest, g, er, eq⟩ := h
          obtain ⟨s3, x, F, hx, ox, hF⟩ := y
          have hd : xs.drop i = x :: xs.drop (i + 1) := by
            rw [List.drop_eq_getElem_cons hi]
            rw [List.getElem?_eq_getElem hi] at hx
            rw [Option.some.inj hx]
          rw [hd] at er
          unfold lcL at er
          cases ek : k x with
          | none => rw [ek] at er; cases er
          | some as =>
            rw [ek] at er
            simp only [R.of_some, R.bind_ok] at er
            refine ⟨x, F, as, ox, ek, fun ws aok => ⟨by rw [wipe_sets aok (hk x as ek), wipe_wipe], ?_⟩⟩
            have s13 : Same H H3 := (s1.trans g.same).trans s3
            have ve3 : VEn X.K H3 (setS (wipe σ (own.map (·.2))) ws) (setE (wipeE en (own.map (·.2))) as) := ((ve.mono s13).wipe _).sets aok
            refine ⟨_, ve3, ?_⟩
            cases et : tt (setE (wipeE en (own.map (·.2))) as) with
            | ex c => rw [et] at er; cases er
            | no => rw [et] at er; cases er
            | ok b =>
              rw [et] at er
              simp only [R.bind_ok] at er
              intro H4 s4
              cases b with
              | false =>
                simp only [Bool.false_eq_true, if_false] at er ⊢
                obtain ⟨sm, vs, F', hD, ow, fr⟩ := g
                exact ⟨ts, rest, ⟨(sm.trans s3).trans s4, vs, F', s4 _ _ (s3 _ _ hD), ow.mono (s3.trans s4), fr⟩, er, eq⟩
              | true =>
                simp only [if_true] at er ⊢
                refine ⟨_, ve3.mono s4, ?_⟩
                cases ee : te (setE (wipeE en (own.map (·.2))) as) with
                | ex c => rw [ee] at er; cases er
                | no => rw [ee] at er; cases er
                | ok y =>
                  rw [ee] at er
                  simp only [R.bind_ok] at er
                  cases e2 : lcL k tt te (wipeE en (own.map (·.2))) (xs.drop (i + 1)) with
                  | ex c => rw [e2] at er; cases er
                  | no => rw [e2] at er; cases er
                  | ok rs =>
                    rw [e2] at er
                    simp only [R.bind_ok] at er
                    cases er
                    intro v2 H5 G2 s5 o5 f5
                    have tz : ts.length < most := by rw [← eq, List.length_append] at yz; omega
                    obtain ⟨acc, h1, h2, h3⟩ := g.more nD (s3.trans s4) s5 o5 f5 s1 tz
                    exact ⟨acc, h1, h2, ts ++ [y], rs, h3, rfl, by rw [← eq, List.append_assoc]; rfl⟩
        · obtain ⟨ts, rest, g, er, eq⟩ := h
          rw [List.drop_length] at er
          cases er
          rw [List.append_nil] at eq
          subst eq
          obtain ⟨sm, vs, F', hD, ow, fr⟩ := g
          exact q _ H2 (D :: F') (s1.trans sm) (.l hD ow) fr
    · exact q.elim
variable (own : List (Str × Nat))
theorem n_lc (hc : X.calm = true) (hN : X.N.Nodup) (hi : PIv X W tg it gi) (ok : blkC X.N X.env.scope scope own = true) (hk : ∀ x as, k x = some as → ∀ p ∈ as, p.1 ∈ own.map (·.2))
    (hg : ∀ (s : Shared) (H : Hp) (C : Addr) (cl : List (Str × Addr)) (fp : List Addr), PTg (X.blk s H scope (compEnvC scope cl C X.env) fp) tg k) (ht : ∀ (s : Shared) (H : Hp) (C : Addr) (cl : List (Str × Addr)) (fp : List Addr), PCs (X.blk s H scope (compEnvC scope cl C X.env) fp) W0 ifs tt)
    (he : ∀ (s : Shared) (H : Hp) (C : Addr) (cl : List (Str × Addr)) (fp : List Addr), PN (X.blk s H scope (compEnvC scope cl C X.env) fp) W0 elt te) (hs : ∀ x, foldedSetIterable it X.env x = pure x := by intro _; rfl) :
    PN X W (.ListComp elt [⟨tg, it, ifs, 0⟩] scope pos) (gLc (own.map (·.2)) gi k tt te) :=
  ⟨_, pe_lc (own := own) (g := tgt X.K k) (tt := cT X W0 tt) (te := cN X W0 te) hc hN hi.can (blkOk_by ok) hg ht (fun s H C cl fp => (he s H C cl fp).can) hs, sp_lc hk⟩
end
end Z
/-! Z: comprehensions of two clauses; calls of the text's own defs that change nothing. -/
namespace Z
open PySem PySem.Spec L2
open PyProof.Rows hiding St

section
variable (X : Cx) (W : WX)
def cJ (g : En → R (List T)) : TI := fun σ H Q => ∃ en, VEn X.K H σ en ∧ JQ X W σ H Q (g en)
end
theorem PIn.can {X : Cx} {W : WX} {tg e : Expr} {gi : En → R (List T)} (h : PIn X W tg e gi) : PI X tg e (cJ X W gi) := by
  obtain ⟨t, p, s⟩ := h
  exact ⟨fun pins st σ H Q I ⟨en, ve, q⟩ => p.run pins st σ H Q I (s σ H en Q ve q)⟩
/-- of data alone -/
def kD (k : T → Option Ass) : T → Option Ass
  | .d d => k (.d d)
  | .l _ => none
theorem AsOk.pst {K : PySem.W.Frag} {H H' : Hp} (p : Pst H H') : ∀ {vs : List (Nat × V)} {as : Ass}, AsOk K H [] vs as → AsOk K H' [] vs as
  | _, _, .nil => .nil
  | _, _, .cons o m t => .cons (o.frame p fun a z => absurd (m a z) List.not_mem_nil) m (AsOk.pst p t)
def lcL2 (k : T → Option Ass) (tt : En → R Bool) (gi1 : En → R (List T)) (vs1 : List Nat) (k1 : T → Option Ass) (tt1 : En → R Bool) (te : En → R T) (en : En) : List T → R (List T)
  | [] => .ok []
  | x :: xs => (R.of (kD k x)).bind fun as => (tt (setE en as)).bind fun b => if b = true then (gi1 (setE en as)).bind fun zs => (lcL k1 tt1 te (wipeE (setE en as) vs1) zs).bind fun ys => (lcL2 k tt gi1 vs1 k1 tt1 te en xs).bind fun r => .ok (ys ++ r)
    else lcL2 k tt gi1 vs1 k1 tt1 te en xs
def gLc2 (vs : List Nat) (gi : En → R (List T)) (k : T → Option Ass) (tt : En → R Bool) (gi1 : En → R (List T)) (vs1 : List Nat) (k1 : T → Option Ass) (tt1 : En → R Bool) (te : En → R T) : En → R T := fun en => (gi en).bind fun xs =>
  (lcL2 k tt gi1 vs1 k1 tt1 te (wipeE en vs) xs).calm.bind fun ys => if ys.length < most then .ok (.l ys) else .no
section
variable {X : Cx} {W : WX} {elt tg it tg1 it1 : Expr} {ifs ifs1 : List Expr} {scope : Scope} {pos : Pos} {gi gi1 : En → R (List T)} {k k1 : T → Option Ass} {tt tt1 : En → R Bool} {te : En → R T}
theorem Grown.stay {K : PySem.W.Frag} {H0 H1 H2 H3 : Hp} {D : Addr} {ts : List T} (g : Grown K H0 H1 D ts H2) (s : Same H2 H3) : Grown K H0 H1 D ts H3 := by
  obtain ⟨sm, vs, F, hD, ow, fr⟩ := g
  exact ⟨sm.trans s, vs, F, s _ _ hD, ow.mono s, fr⟩
/-- a list that others are not in has grown: what was there besides is there -/
theorem kept_grow {K : PySem.W.Frag} {H0 H1 H2 H3 : Hp} {D : Addr} {acc vs : List V} {G : List Addr} (k : Kept G H1 H2) (hD : H2 D = some (.lst acc)) (nD : D ∉ G) : Kept G H1 (upd H2 D (.lst vs)) := by
  refine ⟨k.1.trans ⟨fun a us e => ?_, fun a ob u e => ?_⟩, fun a m o e => ?_⟩
  · by_cases h : a = D
    · rw [h, hD] at e; cases e
    · rw [upd_ne h]; exact e
  · by_cases h : a = D
    · rw [h, hD] at e; cases e
    · rw [upd_ne h]; exact e
  · rw [upd_ne (fun z => nD (by rw [← z]; exact m))]
    exact k.2 a m o e
/-- the inner loop -/
theorem sp_in {σ2 : L2.St} {en2 : En} {vs1 : List Nat} {H0 H1 H3 H4 : Hp} {D : Addr} {J1 : It} {zs ys pre : List T} {G : List Addr} {Nx : Hp → Prop} (hk1 : ∀ x as, k1 x = some as → ∀ p ∈ as, p.1 ∈ vs1) (nD : H1 D = none) (s01 : Same H0 H1)
    (g : Grown X.K H0 H1 D pre H3) (s34 : Same H3 H4) (ve : ∀ H, Same H1 H → Pst H4 H → VEn X.K H σ2 en2) (iok : ItOk X.K G H4 J1 zs) (nDG : D ∉ G) (el : lcL k1 tt1 te (wipeE en2 vs1) zs = .ok ys) (hz : pre.length + ys.length < most) (nx : ∀ H, Grown X.K H0 H1 D (pre ++ ys) H → Nx H) :
    ∃ W1 : Nat → Nat → Hp → Prop, (∃ m, W1 0 m H4) ∧ ∀ j n H, W1 j n H → (J1.stop j H ∧ Nx H) ∨ (J1.go j H ∧ ∃ Nx1 : Hp → Prop, (∀ H', Nx1 H' → ∃ n', n' < n ∧ W1 (j + 1) n' H') ∧ ∀ x H', J1.yld j H x H' → tgt X.K k1 x (wipe σ2 vs1) H' fun σ3 H5 => wipe σ3 vs1 = wipe σ2 vs1 ∧ cT X W0 tt1 σ3 H5 fun b H6 =>
      if b = true then cN X W0 te σ3 H6 fun y H7 => ∃ acc, H7 D = some (.lst acc) ∧ acc.length < sizeLine ∧ Nx1 (upd H7 D (.lst (acc ++ [y]))) else Nx1 H6) := by
  refine ⟨fun j n H => n = zs.length - j ∧ j ≤ zs.length ∧ Kept G H4 H ∧ ∃ ts rest, Grown X.K H0 H1 D (pre ++ ts) H ∧ lcL k1 tt1 te (wipeE en2 vs1) (zs.drop j) = .ok rest ∧ ts ++ rest = ys,
    ⟨zs.length, by simp, Nat.zero_le _, .of (Same.refl _), [], ys, by rw [List.append_nil]; exact g.stay s34, by rw [List.drop_zero]; exact el, rfl⟩, ?_⟩
  rintro j n H ⟨rfl, hj, kp, ts, rest, gr, er, eq⟩
  by_cases hlt : j < zs.length
  · refine .inr ⟨iok.goes j H hlt kp, fun H' => Kept G H4 H' ∧ ∃ ts rest, Grown X.K H0 H1 D (pre ++ ts) H' ∧ lcL k1 tt1 te (wipeE en2 vs1) (zs.drop (j + 1)) = .ok rest ∧ ts ++ rest = ys, fun H' h => ⟨zs.length - (j + 1), by omega, rfl, hlt, h⟩, fun v H' y => ?_⟩
    obtain ⟨s5, x, F, hx, ox, hF⟩ := iok.yields j H v H' hlt kp y
    have hd : zs.drop j = x :: zs.drop (j + 1) := by
      rw [List.drop_eq_getElem_cons hlt]
      rw [List.getElem?_eq_getElem hlt] at hx
      rw [Option.some.inj hx]
    rw [hd] at er
    unfold lcL at er
    cases ek : k1 x with
    | none => rw [ek] at er; cases er
    | some as =>
      rw [ek] at er
      simp only [R.of_some, R.bind_ok] at er
      refine ⟨x, F, as, ox, ek, fun ws aok => ⟨by rw [wipe_sets aok (hk1 x as ek), wipe_wipe], ?_⟩⟩
      have s15 : Same H1 H' := gr.same.trans s5
      have ve3 : VEn X.K H' (setS (wipe σ2 vs1) ws) (setE (wipeE en2 vs1) as) := ((ve H' s15 (kp.1.trans (.of s5))).wipe _).sets aok
      refine ⟨_, ve3, ?_⟩
      cases et : tt1 (setE (wipeE en2 vs1) as) with
      | ex c => rw [et] at er; cases er
      | no => rw [et] at er; cases er
      | ok b =>
        rw [et] at er
        simp only [R.bind_ok] at er
        intro H6 s6
        cases b with
        | false =>
          simp only [Bool.false_eq_true, if_false] at er ⊢
          exact ⟨kp.trans (.of (s5.trans s6)), ts, rest, gr.stay (s5.trans s6), er, eq⟩
        | true =>
          simp only [if_true] at er ⊢
          refine ⟨_, ve3.mono s6, ?_⟩
          cases ee : te (setE (wipeE en2 vs1) as) with
          | ex c => rw [ee] at er; cases er
          | no => rw [ee] at er; cases er
          | ok y =>
            rw [ee] at er
            simp only [R.bind_ok] at er
            cases e2 : lcL k1 tt1 te (wipeE en2 vs1) (zs.drop (j + 1)) with
            | ex c => rw [e2] at er; cases er
            | no => rw [e2] at er; cases er
            | ok rs =>
              rw [e2] at er
              simp only [R.bind_ok] at er
              cases er
              intro v2 H7 G2 s7 o7 f7
              have tz : (pre ++ ts).length < most := by rw [← eq, List.length_append] at hz; rw [List.length_append]; omega
              obtain ⟨acc, h1, h2, h3⟩ := gr.more nD (s5.trans s6) s7 o7 f7 s01 tz
              refine ⟨acc, h1, h2, kept_grow (K := X.K) (H0 := H0) (H3 := H3) (kp.trans (.of ((s5.trans s6).trans s7))) h1 nDG, ts ++ [y], rs, by rw [← List.append_assoc]; exact h3, rfl, by rw [← eq, List.append_assoc]; rfl⟩
  · have e : j = zs.length := by omega
    subst e
    rw [List.drop_length] at er
    cases er
    rw [List.append_nil] at eq
    subst eq
    exact .inl ⟨iok.stops H kp, nx H gr⟩
theorem sp_lc2 {own : List (Str × Nat)} {vs1 : List Nat} (hk : ∀ x as, k x = some as → ∀ p ∈ as, p.1 ∈ own.map (·.2)) (hk1 : ∀ x as, k1 x = some as → ∀ p ∈ as, p.1 ∈ vs1) : ∀ σ H en Q, VEn X.K H σ en → NQ X W σ H Q (gLc2 (own.map (·.2)) gi k tt gi1 vs1 k1 tt1 te en) →
    tLc2 (cI X W gi) (tgt X.K k) (cT X W0 tt) (cJ X W0 gi1) (tgt X.K k1) (cT X W0 tt1) (cN X W0 te) (own.map (·.2)) vs1 σ H Q := by
  intro σ H en Q ve q
  refine ⟨en, ve, ?_⟩
  unfold gLc2 at q
  cases e : gi en with
  | ex c => rw [e] at q; exact q
  | no => rw [e] at q; exact q
  | ok xs =>
    rw [e] at q
    intro J H1 G s1 iok D nD
    simp only [R.bind_ok] at q
    cases el : lcL2 k tt gi1 vs1 k1 tt1 te (wipeE en (own.map (·.2))) xs with
    | ex c => rw [el] at q; exact q.elim
    | no => rw [el] at q; exact q.elim
    | ok ys =>
      rw [el] at q
      simp only [R.calm, R.bind_ok] at q
      split at q
      · rename_i yz
        refine ⟨fun i n H2 => n = xs.length - i ∧ i ≤ xs.length ∧ ∃ ts rest, Grown X.K H H1 D ts H2 ∧ lcL2 k tt gi1 vs1 k1 tt1 te (wipeE en (own.map (·.2))) (xs.drop i) = .ok rest ∧ ts ++ rest = ys,
          ⟨xs.length, by simp, Nat.zero_le _, [], ys, ⟨same_new nD, [], [], upd_same, .nil, (fresh1 nD).back s1⟩, by rw [List.drop_zero]; exact el, rfl⟩, ?_⟩
        rintro i n H2 ⟨rfl, hi, ts, rest, g, er, eq⟩
        by_cases hlt : i < xs.length
        · refine .inr ⟨iok.goes i H2 hlt (.of g.same), fun H' => ∃ ts rest, Grown X.K H H1 D ts H' ∧ lcL2 k tt gi1 vs1 k1 tt1 te (wipeE en (own.map (·.2))) (xs.drop (i + 1)) = .ok rest ∧ ts ++ rest = ys, fun H' h => ⟨xs.length - (i + 1), by omega, rfl, hlt, h⟩, fun v H3 y => ?_⟩
          obtain ⟨s3, x, F, hx, ox, hF⟩ := iok.yields i H2 v H3 hlt (.of g.same) y
          have hd : xs.drop i = x :: xs.drop (i + 1) := by
            rw [List.drop_eq_getElem_cons hlt]
            rw [List.getElem?_eq_getElem hlt] at hx
            rw [Option.some.inj hx]
          rw [hd] at er
          unfold lcL2 at er
          cases ek : kD k x with
          | none => rw [ek] at er; cases er
          | some as =>
            rw [ek] at er
            simp only [R.of_some, R.bind_ok] at er
            have ek : ∃ d, x = .d d ∧ k x = some as := by
              cases x with
              | d d => exact ⟨d, rfl, ek⟩
              | l _ => cases ek
            obtain ⟨d, rfl, ek⟩ := ek
            obtain ⟨ox, rfl⟩ : Own X.K H3 v (.d d) [] ∧ F = [] := by cases ox with | d r => exact ⟨.d r, rfl⟩
            refine ⟨_, [], as, ox, ek, fun ws aok => ⟨by rw [wipe_sets aok (hk _ as ek), wipe_wipe], ?_⟩⟩
            have s13 : Same H H3 := (s1.trans g.same).trans s3
            have ve3 : VEn X.K H3 (setS (wipe σ (own.map (·.2))) ws) (setE (wipeE en (own.map (·.2))) as) := ((ve.mono s13).wipe _).sets aok
            refine ⟨_, ve3, ?_⟩
            cases et : tt (setE (wipeE en (own.map (·.2))) as) with
            | ex c => rw [et] at er; cases er
            | no => rw [et] at er; cases er
            | ok b =>
              rw [et] at er
              simp only [R.bind_ok] at er
              intro H4 s4
              cases b with
              | false =>
                simp only [Bool.false_eq_true, if_false] at er ⊢
                exact ⟨ts, rest, g.stay (s3.trans s4), er, eq⟩
              | true =>
                simp only [if_true] at er ⊢
                refine ⟨_, ve3.mono s4, ?_⟩
                cases ej : gi1 (setE (wipeE en (own.map (·.2))) as) with
                | ex c => rw [ej] at er; cases er
                | no => rw [ej] at er; cases er
                | ok zs =>
                  rw [ej] at er
                  simp only [R.bind_ok] at er
                  intro J1 H5 G1 s5 iok1 f1 _
                  cases e1 : lcL k1 tt1 te (wipeE (setE (wipeE en (own.map (·.2))) as) vs1) zs with
                  | ex c => rw [e1] at er; cases er
                  | no => rw [e1] at er; cases er
                  | ok us =>
                    rw [e1] at er
                    simp only [R.bind_ok] at er
                    cases e2 : lcL2 k tt gi1 vs1 k1 tt1 te (wipeE en (own.map (·.2))) (xs.drop (i + 1)) with
                    | ex c => rw [e2] at er; cases er
                    | no => rw [e2] at er; cases er
                    | ok rs =>
                      rw [e2] at er
                      simp only [R.bind_ok] at er
                      cases er
                      have nDG : D ∉ G1 := fun m => by
                        have z := f1.2 D m
                        obtain ⟨_, vs, F', hD, _, _⟩ := g
                        rw [s4 _ _ (s3 _ _ hD)] at z; cases z
                      obtain ⟨_, vs, F', hD, _, _⟩ := id g
                      -- the inner frame is seen in the heap of the outer turn
                      have hz : ts.length + us.length < most := by rw [← eq, List.length_append, List.length_append] at yz; omega
                      exact sp_in (X := X) (H1 := H1) (pre := ts) hk1 nD s1 (g.stay (s3.trans s4)) s5 (fun H' a b => ((ve.mono (s1.trans a)).wipe _).sets (aok.pst ((Pst.of (s4.trans s5)).trans b))) iok1 nDG e1 hz fun H' g' => ⟨ts ++ us, rs, g', rfl, by rw [← eq, List.append_assoc]⟩
        · have e : i = xs.length := by omega
          subst e
          rw [List.drop_length] at er
          cases er
          rw [List.append_nil] at eq
          subst eq
          obtain ⟨sm, vs, F', hD, ow, fr⟩ := g
          exact .inl ⟨iok.stops H2 (.of sm), q _ H2 (D :: F') (s1.trans sm) (.l hD ow) fr⟩
      · exact q.elim
theorem n_lc2 (own : List (Str × Nat)) (vs1 : List Nat) (hc : X.calm = true) (hN : X.N.Nodup) (hi : PIv X W tg it gi) (ok : blkC X.N X.env.scope scope own = true) (hv : ∀ i ∈ vs1, i ∈ own.map (·.2)) (hk : ∀ x as, k x = some as → ∀ p ∈ as, p.1 ∈ own.map (·.2)) (hk1 : ∀ x as, k1 x = some as → ∀ p ∈ as, p.1 ∈ vs1)
    (hg : ∀ (s : Shared) (H : Hp) (C : Addr) (cl : List (Str × Addr)) (fp : List Addr), PTg (X.blk s H scope (compEnvC scope cl C X.env) fp) tg k) (ht : ∀ (s : Shared) (H : Hp) (C : Addr) (cl : List (Str × Addr)) (fp : List Addr), PCs (X.blk s H scope (compEnvC scope cl C X.env) fp) W0 ifs tt)
    (hi1 : ∀ (s : Shared) (H : Hp) (C : Addr) (cl : List (Str × Addr)) (fp : List Addr), PIn (X.blk s H scope (compEnvC scope cl C X.env) fp) W0 tg1 it1 gi1)
    (hg1 : ∀ (s : Shared) (H : Hp) (C : Addr) (cl : List (Str × Addr)) (fp : List Addr), PTg (X.blk s H scope (compEnvC scope cl C X.env) fp) tg1 k1) (ht1 : ∀ (s : Shared) (H : Hp) (C : Addr) (cl : List (Str × Addr)) (fp : List Addr), PCs (X.blk s H scope (compEnvC scope cl C X.env) fp) W0 ifs1 tt1)
    (he : ∀ (s : Shared) (H : Hp) (C : Addr) (cl : List (Str × Addr)) (fp : List Addr), PN (X.blk s H scope (compEnvC scope cl C X.env) fp) W0 elt te) (hs : ∀ x, foldedSetIterable it X.env x = pure x := by intro _; rfl) (hs1 : ∀ env x, foldedSetIterable it1 env x = pure x := by intro _ _; rfl) :
    PN X W (.ListComp elt [⟨tg, it, ifs, 0⟩, ⟨tg1, it1, ifs1, 0⟩] scope pos) (gLc2 (own.map (·.2)) gi k tt gi1 vs1 k1 tt1 te) :=
  ⟨_, pe_lc2 (own := own) (vs1 := vs1) (g := tgt X.K k) (tt := cT X W0 tt) (te := cN X W0 te) (wi1 := cJ X W0 gi1) (g1 := tgt X.K k1) (tt1 := cT X W0 tt1) hc hN hi.can (blkOk_by ok) hv hg ht (fun s H C cl fp => (hi1 s H C cl fp).can) hg1 ht1 (fun s H C cl fp => (he s H C cl fp).can) hs hs1, sp_lc2 hk hk1⟩
end
/-! ### a def that changes nothing -/
/-- its promise, by what it computes -/
def spP (K : PySem.W.Frag) (mg : Str → Option Value) (F : List T → R T) : Sp := fun vs H Q E => ∃ xs, Vws K H vs xs ∧ match F xs with
  | .ok r => ∀ v H' G, Same H H' → Own K H' v r G → Fresh H G → Q v H'
  | .ex c => ∀ cls dx H', Same H H' → ExIs K mg H' c cls dx → E cls dx H'
  | .no => False
/-- the def of this name keeps it -/
structure FnP (P : Program) (w : World) (K : PySem.W.Frag) (mg : Str → Option Value) (base : Heap) (x : Str) (k : Nat) (F : List T → R T) : Prop where
  ex : ∃ (f : Addr) (fd : FuncData) (ps : List Str), FnOk P w K mg base (L2.CX P w) k f fd ps (spP K mg F) ∧ mg x = some (.ref f) ∧ PySem.W.keepIn K (.ref f) = true ∧ Binds K fd ps []
def gFn (F : List T → R T) (g : En → R (List T)) : En → R T := fun en => (g en).bind F
theorem n_call {X : Cx} {W : WX} {x : Str} {k : Nat} {F : List T → R T} {p pos : Pos} {a : Expr} {es : List Expr} {gs : En → R (List T)} (f : FnP X.prog X.w X.K X.mg X.base x k F) (tk : Takes X W) (hr : Room k X.A) (ha : PAv X W (a :: es) gs) (hg : Gl X x := by rfl)
    (hdb : (x == ("__debug__" : Str)) = false := by decide) (he : starEach (a :: es) X.env = (false, eval a X.env) :: starEach es X.env := by rfl) (hpl : (backTo pos (starEach es X.env)).any (·.1) = false := by rfl) : PN X W (.Call (.Name x p) (a :: es) [] pos) (gFn F gs) := by
  obtain ⟨f, fd, ps, ok, hm, hk, hb⟩ := f.ex
  obtain ⟨t, pa, s⟩ := ha
  refine ⟨_, pe_callS (E := WE W) ok hr hg hm hk hb (fun σ => passAt tk σ) pa hdb he hpl, fun σ H en Q ve q => s σ H en _ ve ?_⟩
  unfold gFn at q
  cases e : gs en with
  | ok xs =>
    rw [e] at q
    intro vs H' sm w
    refine ⟨xs, w, ?_⟩
    simp only [R.bind_ok] at q
    cases ef : F xs with
    | ok r => rw [ef] at q; exact fun v H2 G s2 o fr => q v H2 G (sm.trans s2) o (fr.back sm)
    | ex c => rw [ef] at q; exact fun cls dx H2 s2 i => q cls dx H2 (sm.trans s2) i
    | no => rw [ef] at q; exact q
  | ex c => rw [e] at q; exact q
  | no => rw [e] at q; exact q
end Z
/-! Z: what is owned; expressions that change the frame's lists; statements. -/
namespace Z
open PySem PySem.Spec L2
open PyProof.Rows hiding St

abbrev Ft := Nat → List Addr
def InF (Fs : Ft) (a : Addr) : Prop := ∃ i, a ∈ Fs i
def ownAt (en : En) (i : Nat) : Option T := match en[i]? with
  | some (.v x) => some x
  | some (.b x) => some x
  | _ => none
def seeAt (en : En) (i : Nat) : Option T := match en[i]? with
  | some (.w x) => some x
  | _ => none
theorem at_split {en : En} {i : Nat} {x : T} (h : at_ en i = some x) : ownAt en i = some x ∨ seeAt en i = some x := by
  unfold at_ at h
  unfold ownAt seeAt
  cases e : en[i]? with
  | none => rw [e] at h; cases h
  | some s => rw [e] at h; cases s <;> first | (cases h; done) | exact .inl h | exact .inr h
/-- the things of the names, where their lists lie: what is ours lies apart from all else -/
structure EOk (K : PySem.W.Frag) (H : Hp) (σ : L2.St) (en : En) (Fs : Ft) : Prop where
  len : en.length ≤ σ.length
  has : ∀ i x, at_ en i = some x → ∃ v, σ[i]? = some (some v) ∧ Own K H v x (Fs i)
  nod : ∀ i, ownAt en i ≠ none → (Fs i).Nodup
  dis : ∀ i j a, i ≠ j → ownAt en i ≠ none → a ∈ Fs i → a ∉ Fs j
  emp : ∀ i, at_ en i = none → Fs i = []
def InO (en : En) (Fs : Ft) (a : Addr) : Prop := ∃ i, ownAt en i ≠ none ∧ a ∈ Fs i
theorem InO.a {en : En} {Fs : Ft} {a : Addr} (h : InO en Fs a) : InF Fs a := let ⟨i, _, m⟩ := h; ⟨i, m⟩
theorem EOk.ven {K : PySem.W.Frag} {H : Hp} {σ : L2.St} {en : En} {Fs : Ft} (h : EOk K H σ en Fs) : VEn K H σ en := ⟨h.len, fun i x e => let ⟨v, h1, h2⟩ := h.has i x e; ⟨v, _, h1, h2⟩⟩
theorem EOk.there {K : PySem.W.Frag} {H : Hp} {σ : L2.St} {en : En} {Fs : Ft} (h : EOk K H σ en Fs) {a : Addr} (m : InF Fs a) : ∃ vs, H a = some (.lst vs) := by
  obtain ⟨i, m⟩ := m
  cases e : at_ en i with
  | none => rw [h.emp i e] at m; cases m
  | some x =>
    obtain ⟨v, _, o⟩ := h.has i x e
    exact o.dom a m
/-- how a step changes the heap: what lies in P is ours before, what lies in P' behind; what lies in A is known before, what lies in A' behind -/
structure Stp (H : Hp) (P A : Addr → Prop) (H' : Hp) (P' A' : Addr → Prop) : Prop where
  pst : Pst H H'
  keep : ∀ a o, H a = some o → ¬ P a → H' a = some o
  dom : ∀ a, H' a = none → H a = none
  subO : ∀ a, P' a → P a ∨ H a = none
  subA : ∀ a, A' a → A a ∨ H a = none
theorem Stp.refl (H : Hp) (P A : Addr → Prop) : Stp H P A H P A := ⟨Pst.refl H, fun _ _ e _ => e, fun _ e => e, fun _ m => .inl m, fun _ m => .inl m⟩
theorem Stp.trans {H H1 H2 : Hp} {P P1 P2 A A1 A2 : Addr → Prop} (a : Stp H P A H1 P1 A1) (b : Stp H1 P1 A1 H2 P2 A2) : Stp H P A H2 P2 A2 where
  pst := a.pst.trans b.pst
  keep := fun c o e n => b.keep c o (a.keep c o e n) fun m => (a.subO c m).elim n fun z => by rw [e] at z; cases z
  dom := fun c e => a.dom c (b.dom c e)
  subO := fun c m => (b.subO c m).elim (a.subO c) fun z => .inr (a.dom c z)
  subA := fun c m => (b.subA c m).elim (a.subA c) fun z => .inr (a.dom c z)
theorem Stp.imp {H H1 : Hp} {P P1 P2 A A1 A2 : Addr → Prop} (a : Stp H P A H1 P1 A1) (h : ∀ c, P2 c → P1 c) (h' : ∀ c, A2 c → A1 c) : Stp H P A H1 P2 A2 := ⟨a.pst, a.keep, a.dom, fun c m => a.subO c (h c m), fun c m => a.subA c (h' c m)⟩
theorem Stp.of {H H' : Hp} {P A : Addr → Prop} {G : List Addr} (s : Same H H') (f : ∀ a ∈ G, H a = none) : Stp H P A H' (fun a => P a ∨ a ∈ G) (fun a => A a ∨ a ∈ G) :=
  ⟨.of s, fun a o e _ => s a o e, fun a e => s.free e, fun a m => m.elim .inl fun z => .inr (f a z), fun a m => m.elim .inl fun z => .inr (f a z)⟩
/-- what is held aside stays -/
theorem Stp.frame {K : PySem.W.Frag} {H H' : Hp} {P P' A A' : Addr → Prop} {v : V} {x : T} {G : List Addr} (s : Stp H P A H' P' A') (pa : ∀ a, P a → A a) (o : Own K H v x G) (d : ∀ a ∈ G, ¬ A a) : Own K H' v x G ∧ ∀ a ∈ G, ¬ A' a :=
  ⟨o.frame s.pst fun a m o' e => s.keep a o' e fun z => d a m (pa a z), fun a m z => (s.subA a z).elim (d a m) (o.there a m)⟩
theorem Stp.frames {K : PySem.W.Frag} {H H' : Hp} {P P' A A' : Addr → Prop} {vs : List V} {xs : List T} {G : List Addr} (s : Stp H P A H' P' A') (pa : ∀ a, P a → A a) (o : Owns K H vs xs G) (d : ∀ a ∈ G, ¬ A a) : Owns K H' vs xs G ∧ ∀ a ∈ G, ¬ A' a :=
  ⟨o.frame s.pst fun a m o' e => s.keep a o' e fun z => d a m (pa a z), fun a m z => (s.subA a z).elim (d a m) (o.there a m)⟩
/-- what is lent stays where it is -/
def BK (σ : L2.St) (en : En) (σ' : L2.St) (en' : En) : Prop := ∀ (i : Nat) (x' : T), en'[i]? = some (Sl.b x') → (∃ x, en[i]? = some (Sl.b x)) ∧ σ'[i]? = σ[i]?
structure Aft (K : PySem.W.Frag) (H : Hp) (Fs : Ft) (σ : L2.St) (en : En) (H' : Hp) (Fs' : Ft) (σ' : L2.St) (en' : En) (G : List Addr) : Prop where
  ok : EOk K H' σ' en' Fs'
  nod : G.Nodup
  dis : ∀ a ∈ G, ¬ InF Fs' a
  stp : Stp H (InO en Fs) (InF Fs) H' (fun a => InO en' Fs' a ∨ a ∈ G) (fun a => InF Fs' a ∨ a ∈ G)
  bk : BK σ en σ' en'
theorem BK.refl (σ : L2.St) (en : En) : BK σ en σ en := fun i x e => ⟨⟨x, e⟩, rfl⟩
theorem BK.trans {σ σ1 σ2 : L2.St} {en en1 en2 : En} (a : BK σ en σ1 en1) (b : BK σ1 en1 σ2 en2) : BK σ en σ2 en2 := fun i x e =>
  let ⟨⟨y, e1⟩, h1⟩ := b i x e
  let ⟨z, h2⟩ := a i y e1
  ⟨z, h1.trans h2⟩
theorem Aft.trans {K : PySem.W.Frag} {H H1 H2 : Hp} {Fs Fs1 Fs2 : Ft} {σ σ1 σ2 : L2.St} {en en1 en2 : En} {G : List Addr} (a : Aft K H Fs σ en H1 Fs1 σ1 en1 []) (b : Aft K H1 Fs1 σ1 en1 H2 Fs2 σ2 en2 G) : Aft K H Fs σ en H2 Fs2 σ2 en2 G :=
  ⟨b.ok, b.nod, b.dis, (a.stp.imp (fun _ m => .inl m) (fun _ m => .inl m)).trans b.stp, a.bk.trans b.bk⟩
theorem EOk.same {K : PySem.W.Frag} {H H' : Hp} {σ : L2.St} {en : En} {Fs : Ft} (h : EOk K H σ en Fs) (s : Same H H') : EOk K H' σ en Fs :=
  ⟨h.len, fun i x e => let ⟨v, a, b⟩ := h.has i x e; ⟨v, a, b.mono s⟩, h.nod, h.dis, h.emp⟩
/-- behind a quiet step -/
theorem Aft.quiet {K : PySem.W.Frag} {H H' : Hp} {Fs : Ft} {σ : L2.St} {en : En} {G : List Addr} (h : EOk K H σ en Fs) (s : Same H H') (f : Fresh H G) : Aft K H Fs σ en H' Fs σ en G :=
  ⟨h.same s, f.1, fun a m z => (by obtain ⟨vs, e⟩ := h.there z; rw [f.2 a m] at e; cases e), .of s f.2, BK.refl σ en⟩
theorem Aft.refl {K : PySem.W.Frag} {H : Hp} {Fs : Ft} {σ : L2.St} {en : En} (h : EOk K H σ en Fs) : Aft K H Fs σ en H Fs σ en [] := .quiet h (Same.refl H) Fresh.nil
/-- a second step, what the first one left held aside -/
theorem Aft.held {K : PySem.W.Frag} {H H1 H2 : Hp} {Fs Fs1 Fs2 : Ft} {σ σ1 σ2 : L2.St} {en en1 en2 : En} {F G : List Addr} (a : Aft K H Fs σ en H1 Fs1 σ1 en1 F) (tF : ∀ c ∈ F, H1 c ≠ none) (b : Aft K H1 Fs1 σ1 en1 H2 Fs2 σ2 en2 G) : Aft K H Fs σ en H2 Fs2 σ2 en2 (F ++ G) := by
  have nF : ∀ c ∈ F, ¬ (InF Fs2 c ∨ c ∈ G) := fun c m z => (b.stp.subA c z).elim (a.dis c m) (tF c m)
  refine ⟨b.ok, List.nodup_append.mpr ⟨a.nod, b.nod, fun c hc d hd e => nF c hc (.inr (e ▸ hd))⟩, fun c m => (List.mem_append.mp m).elim (fun z y => nF c z (.inl y)) (b.dis c), ⟨a.stp.pst.trans b.stp.pst, fun c o e n => ?_, fun c e => a.stp.dom c (b.stp.dom c e), fun c m => ?_, fun c m => ?_⟩, a.bk.trans b.bk⟩
  · exact b.stp.keep c o (a.stp.keep c o e n) fun z => (a.stp.subO c (.inl z)).elim n fun y => by rw [e] at y; cases y
  · rcases m with m | m
    · exact (b.stp.subO c (.inl m)).elim (fun z => a.stp.subO c (.inl z)) fun z => .inr (a.stp.dom c z)
    · rcases List.mem_append.mp m with m | m
      · exact a.stp.subO c (.inr m)
      · exact (b.stp.subO c (.inr m)).elim (fun z => a.stp.subO c (.inl z)) fun z => .inr (a.stp.dom c z)
  · rcases m with m | m
    · exact (b.stp.subA c (.inl m)).elim (fun z => a.stp.subA c (.inl z)) fun z => .inr (a.stp.dom c z)
    · rcases List.mem_append.mp m with m | m
      · exact a.stp.subA c (.inr m)
      · exact (b.stp.subA c (.inr m)).elim (fun z => a.stp.subA c (.inl z)) fun z => .inr (a.stp.dom c z)
/-- what a statement ends in -/
inductive SR where
  | nx (en : En) | ret (x : T) (en : En) | brk (en : En) | ct (en : En) | ex (c : Exc) (en : En) | no
inductive RM (α : Type) where
  | ok (a : α) (en : En) | ex (c : Exc) (en : En) | no
def RM.bind {α β : Type} (r : RM α) (f : α → En → RM β) : RM β := match r with
  | .ok a en => f a en
  | .ex c en => .ex c en
  | .no => .no
def RM.of {α : Type} (r : R α) (en : En) : RM α := match r with
  | .ok a => .ok a en
  | .ex c => .ex c en
  | .no => .no
def RM.s {α : Type} (r : RM α) (f : α → En → SR) : SR := match r with
  | .ok a en => f a en
  | .ex c en => .ex c en
  | .no => .no
@[simp] theorem RM.bind_ok {α β : Type} (a : α) (en : En) (f : α → En → RM β) : (RM.ok a en).bind f = f a en := Eq.trans (b := f a en) (Eq.refl _) (Eq.refl _)
@[simp] theorem RM.bind_no {α β : Type} (f : α → En → RM β) : (RM.no).bind f = .no := rfl
@[simp] theorem RM.bind_ex {α β : Type} (c : Exc) (en : En) (f : α → En → RM β) : (RM.ex c en).bind f = .ex c en := rfl
@[simp] theorem RM.s_ok {α : Type} (a : α) (en : En) (f : α → En → SR) : (RM.ok a en).s f = f a en := Eq.trans (b := f a en) (Eq.refl _) (Eq.refl _)
@[simp] theorem RM.s_no {α : Type} (f : α → En → SR) : (RM.no).s f = .no := rfl
@[simp] theorem RM.s_ex {α : Type} (c : Exc) (en : En) (f : α → En → SR) : (RM.ex c en).s f = .ex c en := rfl
@[simp] theorem RM.of_ok {α : Type} (a : α) (en : En) : RM.of (.ok a) en = .ok a en := rfl
@[simp] theorem RM.of_no {α : Type} (en : En) : RM.of (.no : R α) en = .no := rfl
@[simp] theorem RM.of_ex {α : Type} (c : Exc) (en : En) : RM.of (.ex c : R α) en = .ex c en := rfl
section
variable (X : Cx) (W : WX)
def XM (H : Hp) (Fs : Ft) (σ : L2.St) (en : En) (c : Exc) (en' : En) : Prop := ∀ cls dx H' Fs' σ', Aft X.K H Fs σ en H' Fs' σ' en' [] → ExIs X.K X.mg H' c cls dx → W cls dx σ' H'
def MQ (H : Hp) (Fs : Ft) (σ : L2.St) (en : En) (Q : VK) : RM T → Prop
  | .ok x en' => ∀ v H' Fs' G, Aft X.K H Fs σ en H' Fs' σ en' G → Own X.K H' v x G → Q v H'
  | .ex c en' => XM X W H Fs σ en c en'
  | .no => False
def MT (H : Hp) (Fs : Ft) (σ : L2.St) (en : En) (Q : Bool → Hp → Prop) : RM Bool → Prop
  | .ok b en' => ∀ H' Fs', Aft X.K H Fs σ en H' Fs' σ en' [] → Q b H'
  | .ex c en' => XM X W H Fs σ en c en'
  | .no => False
def MA (H : Hp) (Fs : Ft) (σ : L2.St) (en : En) (Q : List V → Hp → Prop) : RM (List T) → Prop
  | .ok xs en' => ∀ vs H' Fs' G, Aft X.K H Fs σ en H' Fs' σ en' G → Owns X.K H' vs xs G → Q vs H'
  | .ex c en' => XM X W H Fs σ en c en'
  | .no => False
def MI (H : Hp) (Fs : Ft) (σ : L2.St) (en : En) (Q : It → Hp → Prop) : RM (List T) → Prop
  | .ok xs en' => ∀ J H' Fs' G, Aft X.K H Fs σ en H' Fs' σ en' G → ItOk X.K G H' J xs → (∀ a ∈ G, H' a ≠ none) → Q J H'
  | .ex c en' => XM X W H Fs σ en c en'
  | .no => False
def SQ (H : Hp) (Fs : Ft) (σ : L2.St) (en : En) (D : Ends) : SR → Prop
  | .nx en' => ∀ H' Fs' σ', Aft X.K H Fs σ en H' Fs' σ' en' [] → D.nx σ' H'
  | .ret x en' => ∀ v H' Fs' σ' G, Aft X.K H Fs σ en H' Fs' σ' en' G → Own X.K H' v x G → D.rt v H'
  | .brk en' => ∀ H' Fs' σ', Aft X.K H Fs σ en H' Fs' σ' en' [] → D.bk σ' H'
  | .ct en' => ∀ H' Fs' σ', Aft X.K H Fs σ en H' Fs' σ' en' [] → D.ct σ' H'
  | .ex c en' => XM X W H Fs σ en c en'
  | .no => False
def SpM (m : En → RM T) (t : TE) : Prop := ∀ σ H en Fs Q, EOk X.K H σ en Fs → MQ X W H Fs σ en Q (m en) → t σ H Q
def SpMT (m : En → RM Bool) (t : TT) : Prop := ∀ σ H en Fs Q, EOk X.K H σ en Fs → MT X W H Fs σ en Q (m en) → t σ H Q
def SpMA (m : En → RM (List T)) (t : TA) : Prop := ∀ σ H en Fs Q, EOk X.K H σ en Fs → MA X W H Fs σ en Q (m en) → t σ H Q
def SpMI (m : En → RM (List T)) (t : TI) : Prop := ∀ σ H en Fs Q, EOk X.K H σ en Fs → MI X W H Fs σ en Q (m en) → t σ H Q
def SpS (f : En → SR) (t : TS) : Prop := ∀ σ H en Fs D, EOk X.K H σ en Fs → SQ X W H Fs σ en D (f en) → t D σ H
/-- an expression that may change the frame's lists: a value of our own; a test; arguments; what is walked; a statement; a block -/
def PM (e : Expr) (m : En → RM T) : Prop := ∃ t, PE X e t ∧ SpM X W m t
def PMT (e : Expr) (m : En → RM Bool) : Prop := ∃ t, PT X e t ∧ SpMT X W m t
def PMA (es : List Expr) (m : En → RM (List T)) : Prop := ∃ t, PA X es t ∧ SpMA X W m t
def PMI (tg e : Expr) (m : En → RM (List T)) : Prop := ∃ t, PI X tg e t ∧ SpMI X W m t
def PSt (st : Stmt) (f : En → SR) : Prop := ∃ t, PS X st t ∧ SpS X W f t
def PBl (st : List Stmt) (f : En → SR) : Prop := ∃ t, PSs X st t ∧ SpS X W f t
end
section
variable {X : Cx} {W : WX} {e c : Expr} {st : Stmt} {sts : List Stmt} {pos : Pos} {g : En → R T} {gc : En → R Bool} {m : En → RM T} {f h : En → SR} {mc : En → RM Bool}
theorem XQ.xm {H : Hp} {Fs : Ft} {σ : L2.St} {en : En} {c : Exc} (ok : EOk X.K H σ en Fs) (h : XM X W H Fs σ en c en) : XQ X W σ H c := fun cls dx H' s i => h cls dx H' Fs σ (.quiet ok s Fresh.nil) i
def lft {α : Type} (g : En → R α) : En → RM α := fun en => RM.of (g en) en
theorem PN.up (h : PN X W e g) : PM X W e (lft g) := by
  obtain ⟨t, p, s⟩ := h
  refine ⟨t, p, fun σ H en Fs Q ok q => s σ H en Q ok.ven ?_⟩
  unfold lft at q
  cases e : g en with
  | ok x => rw [e] at q; exact fun v H' G sm o fr => q v H' Fs G (.quiet ok sm fr) o
  | ex c => rw [e] at q; exact XQ.xm (W := W) ok q
  | no => rw [e] at q; exact q
theorem PC.up (h : PC X W c gc) : PMT X W c (lft gc) := by
  obtain ⟨t, p, s⟩ := h
  refine ⟨t, p, fun σ H en Fs Q ok q => s σ H en Q ok.ven ?_⟩
  unfold lft at q
  cases e : gc en with
  | ok x => rw [e] at q; exact fun H' sm => q H' Fs (.quiet ok sm Fresh.nil)
  | ex c => rw [e] at q; exact XQ.xm (W := W) ok q
  | no => rw [e] at q; exact q
theorem PIn.up {tg : Expr} {gi : En → R (List T)} (h : PIn X W tg e gi) : PMI X W tg e (lft gi) := by
  obtain ⟨t, p, s⟩ := h
  refine ⟨t, p, fun σ H en Fs Q ok q => s σ H en Q ok.ven ?_⟩
  unfold lft at q
  cases e : gi en with
  | ok x => rw [e] at q; exact fun J H' G sm o fr th => q J H' Fs G (.quiet ok sm fr) o th
  | ex c => rw [e] at q; exact XQ.xm (W := W) ok q
  | no => rw [e] at q; exact q
/-! ### blocks -/
def fNil : En → SR := fun en => .nx en
def fSeq (f h : En → SR) : En → SR := fun en => match f en with
  | .nx en' => h en'
  | r => r
theorem SQ.after {H H1 : Hp} {Fs Fs1 : Ft} {σ σ1 : L2.St} {en en1 : En} {D : Ends} {r : SR} (a : Aft X.K H Fs σ en H1 Fs1 σ1 en1 []) (q : SQ X W H Fs σ en D r) : SQ X W H1 Fs1 σ1 en1 D r := by
  cases r with
  | nx en' => exact fun H' Fs' σ' b => q H' Fs' σ' (a.trans b)
  | ret x en' => exact fun v H' Fs' σ' G b o => q v H' Fs' σ' G (a.trans b) o
  | brk en' => exact fun H' Fs' σ' b => q H' Fs' σ' (a.trans b)
  | ct en' => exact fun H' Fs' σ' b => q H' Fs' σ' (a.trans b)
  | ex c en' => exact fun cls dx H' Fs' σ' b i => q cls dx H' Fs' σ' (a.trans b) i
  | no => exact q
theorem b_nil : PBl X W [] fNil := ⟨_, pss_nil, fun σ H en Fs D ok q => q H Fs σ (.refl ok)⟩
theorem b_cons (h1 : PSt X W st f) (h2 : PBl X W sts h) : PBl X W (st :: sts) (fSeq f h) := by
  obtain ⟨t, p, s⟩ := h1
  obtain ⟨t2, p2, s2⟩ := h2
  refine ⟨_, pss_cons p p2, fun σ H en Fs D ok q => s σ H en Fs _ ok ?_⟩
  unfold fSeq at q
  cases e : f en with
  | nx en' => rw [e] at q; exact fun H' Fs' σ' a => s2 σ' H' en' Fs' D a.ok (SQ.after (X := X) (W := W) a q)
  | ret x en' => rw [e] at q; exact q
  | brk en' => rw [e] at q; exact q
  | ct en' => rw [e] at q; exact q
  | ex c en' => rw [e] at q; exact q
  | no => rw [e] at q; exact q
theorem b_one (h1 : PSt X W st f) : PBl X W [st] f := let ⟨t, p, s⟩ := h1; ⟨t, pss_one p, s⟩
theorem s_pass : PSt X W (.Pass pos) fNil := ⟨_, ps_pass, fun σ H en Fs D ok q => q H Fs σ (.refl ok)⟩
theorem s_break : PSt X W (.Break pos) (fun en => .brk en) := ⟨_, ps_break, fun σ H en Fs D ok q => q H Fs σ (.refl ok)⟩
theorem s_cont : PSt X W (.Continue pos) (fun en => .ct en) := ⟨_, ps_continue, fun σ H en Fs D ok q => q H Fs σ (.refl ok)⟩
def fExpr (m : En → RM T) : En → SR := fun en => (m en).s fun _ en' => .nx en'
def fRet (m : En → RM T) : En → SR := fun en => (m en).s fun x en' => .ret x en'
/-- what is left aside is forgotten -/
theorem Aft.drop {K : PySem.W.Frag} {H H1 : Hp} {Fs Fs1 : Ft} {σ σ1 : L2.St} {en en1 : En} {G : List Addr} (a : Aft K H Fs σ en H1 Fs1 σ1 en1 G) : Aft K H Fs σ en H1 Fs1 σ1 en1 [] :=
  ⟨a.ok, List.nodup_nil, fun _ m => absurd m List.not_mem_nil, a.stp.imp (fun _ z => z.elim .inl fun y => absurd y List.not_mem_nil) (fun _ z => z.elim .inl fun y => absurd y List.not_mem_nil), a.bk⟩
theorem s_expr (h : PM X W e m) (hs : swapsWith e none pos.line X.env = pure false := by rfl) : PSt X W (.Expr e pos) (fExpr m) := by
  obtain ⟨t, p, s⟩ := h
  refine ⟨_, ps_expr p hs, fun σ H en Fs D ok q => s σ H en Fs _ ok ?_⟩
  unfold fExpr at q
  cases e : m en with
  | ok x en' => rw [e] at q; exact fun v H' Fs' G a _ => q H' Fs' σ a.drop
  | ex c en' => rw [e] at q; exact q
  | no => rw [e] at q; exact q
theorem s_ret (h : PM X W e m) : PSt X W (.Return (some e) pos) (fRet m) := by
  obtain ⟨t, p, s⟩ := h
  refine ⟨_, ps_ret p, fun σ H en Fs D ok q => s σ H en Fs _ ok ?_⟩
  unfold fRet at q
  cases e : m en with
  | ok x en' => rw [e] at q; exact fun v H' Fs' G a o => q v H' Fs' σ G a o
  | ex c en' => rw [e] at q; exact q
  | no => rw [e] at q; exact q
theorem s_retN : PSt X W (.Return none pos) (fun en => .ret (.d .non) en) := ⟨_, ps_retN, fun σ H en Fs D ok q => q .non H Fs σ [] (.refl ok) (.d .non)⟩
def fIf (c : En → RM Bool) (f h : En → SR) : En → SR := fun en => (c en).s fun b en' => if b = true then f en' else h en'
theorem s_if {a b : List Stmt} (hc : PMT X W c mc) (ha : PBl X W a f) (hb : PBl X W b h) : PSt X W (.If c a b pos) (fIf mc f h) := by
  obtain ⟨t, p, s⟩ := hc
  obtain ⟨t1, p1, s1⟩ := ha
  obtain ⟨t2, p2, s2⟩ := hb
  refine ⟨_, ps_if p p1 p2, fun σ H en Fs D ok q => s σ H en Fs _ ok ?_⟩
  unfold fIf at q
  cases e : mc en with
  | ok k en' =>
    rw [e] at q
    intro H' Fs' a
    simp only [RM.s_ok] at q
    cases k with
    | true => exact iteT (s1 σ H' en' Fs' D a.ok (SQ.after (X := X) (W := W) a q))
    | false => exact iteF (s2 σ H' en' Fs' D a.ok (SQ.after (X := X) (W := W) a q))
  | ex c en' => rw [e] at q; exact q
  | no => rw [e] at q; exact q
end
end Z
/-! Z: stores, loops. -/
namespace Z
open PySem PySem.Spec L2
open PyProof.Rows hiding St

/-- what the rules of a body ask of where they stand -/
structure Cz (X : Cx) (W : WX) : Prop where
  tk : Takes X W
  hp : PassesOwn (model X.prog X.w) X.A X.env X.xe
  calm : X.calm = true
  nd : X.N.Nodup
def stow (en : En) (i : Nat) (s : Sl) : Option En := match en[i]? with
  | some (.b _) => none
  | some _ => some (en.set i s)
  | none => none
theorem stow_ok {en en' : En} {i : Nat} {s : Sl} (h : stow en i s = some en') : i < en.length ∧ en' = en.set i s ∧ ∀ x, en[i]? ≠ some (.b x) := by
  unfold stow at h
  cases e : en[i]? with
  | none => rw [e] at h; cases h
  | some y =>
    rw [e] at h
    obtain ⟨hl, _⟩ := List.getElem?_eq_some_iff.mp e
    cases y <;> first | (cases h; done) | (cases h; exact ⟨hl, rfl, fun x z => by cases z⟩)
def updF (Fs : Ft) (i : Nat) (G : List Addr) : Ft := fun j => if j = i then G else Fs j
theorem updF_same {Fs : Ft} {i : Nat} {G : List Addr} : updF Fs i G i = G := if_pos rfl
theorem updF_ne {Fs : Ft} {i j : Nat} {G : List Addr} (h : j ≠ i) : updF Fs i G j = Fs j := if_neg h
theorem ownAt_set {en : En} {i j : Nat} {s : Sl} (h : j ≠ i) : ownAt (en.set i s) j = ownAt en j := by unfold ownAt; rw [List.getElem?_set_ne (Ne.symm h)]
theorem at_set {en : En} {i j : Nat} {s : Sl} (h : j ≠ i) : at_ (en.set i s) j = at_ en j := by unfold at_; rw [List.getElem?_set_ne (Ne.symm h)]
theorem at_set_same {en : En} {i : Nat} {s : Sl} (h : i < en.length) : at_ (en.set i s) i = s.get := by unfold at_; rw [List.getElem?_set_self h]
theorem own_at {en : En} {i : Nat} {x : T} (h : ownAt en i = some x) : at_ en i = some x := by
  unfold ownAt at h
  unfold at_
  cases e : en[i]? with
  | none => rw [e] at h; cases h
  | some s => rw [e] at h; cases s <;> first | (cases h; done) | exact h
theorem Own.rep {K : PySem.W.Frag} {H : Hp} {v : V} {d : D} {F : List Addr} (h : Own K H v (.d d) F) : RepD K H v d := by cases h with | d r => exact r
theorem Own.dnil {K : PySem.W.Frag} {H : Hp} {v : V} {d : D} {F : List Addr} (h : Own K H v (.d d) F) : F = [] := by cases h with | d r => rfl
/-- a thing of our own, or one that is seen, put at a name -/
theorem Aft.put {K : PySem.W.Frag} {H H1 : Hp} {Fs Fs1 : Ft} {σ σ1 : L2.St} {en en1 en2 : En} {F G : List Addr} {i : Nat} {v : V} {x : T} {s : Sl} (a : Aft K H Fs σ en H1 Fs1 σ1 en1 G) (o : Own K H1 v x F) (hp : stow en1 i s = some en2) (hs : s.get = some x)
    (hs2 : ∀ y, s ≠ .b y) (hF : (F.Nodup ∧ (∀ c ∈ F, ¬ InF Fs1 c) ∧ ∀ c ∈ F, H c = none ∨ InO en Fs c) ∨ ((∀ y, s ≠ .v y) ∧ (∀ c ∈ F, ¬ InO en1 Fs1 c) ∧ ∀ c ∈ F, InF Fs c ∨ H c = none)) (hG : ∀ c ∈ F, c ∉ G) : Aft K H Fs σ en H1 (updF Fs1 i F) (σ1.set i (some v)) en2 G := by
  obtain ⟨hl, rfl, hb⟩ := stow_ok hp
  have hσ := a.ok.len
  have sub : ∀ {c j}, c ∈ updF Fs1 i F j → (j = i ∧ c ∈ F) ∨ (j ≠ i ∧ c ∈ Fs1 j) := fun {c j} m => by
    by_cases e : j = i
    · subst e; rw [updF_same] at m; exact .inl ⟨rfl, m⟩
    · rw [updF_ne e] at m; exact .inr ⟨e, m⟩
  have own_i : ownAt (en1.set i s) i ≠ none → ∃ y, s = .v y := fun h => by
    unfold ownAt at h
    rw [List.getElem?_set_self hl] at h
    cases s with
    | v y => exact ⟨y, rfl⟩
    | b y => exact absurd rfl (hs2 y)
    | n => exact absurd rfl h
    | w y => exact absurd rfl h
  refine ⟨⟨by rw [List.length_set, List.length_set]; exact hσ, fun j y e => ?_, fun j h => ?_, fun j l c ne h m => ?_, fun j e => ?_⟩, a.nod, fun c m z => ?_, ⟨a.stp.pst, a.stp.keep, a.stp.dom, fun c m => ?_, fun c m => ?_⟩, fun j y e => ?_⟩
  · by_cases hj : j = i
    · subst hj
      rw [at_set_same hl, hs] at e; cases e
      exact ⟨v, List.getElem?_set_self (by omega), by rw [updF_same]; exact o⟩
    · rw [at_set hj] at e
      obtain ⟨w, h1, h2⟩ := a.ok.has j y e
      exact ⟨w, by rw [List.getElem?_set_ne (Ne.symm hj)]; exact h1, by rw [updF_ne hj]; exact h2⟩
  · by_cases hj : j = i
    · subst hj
      rw [updF_same]
      rcases hF with hF | hF
      · exact hF.1
      · obtain ⟨y, e⟩ := own_i h; exact absurd e (hF.1 y)
    · rw [updF_ne hj]; rw [ownAt_set hj] at h; exact a.ok.nod j h
  · by_cases hj : j = i
    · subst hj
      rw [updF_same] at m
      rw [updF_ne (Ne.symm ne)]
      rcases hF with hF | hF
      · exact fun z => hF.2.1 c m ⟨l, z⟩
      · obtain ⟨y, e⟩ := own_i h; exact absurd e (hF.1 y)
    · rw [updF_ne hj] at m
      rw [ownAt_set hj] at h
      by_cases hl' : l = i
      · subst hl'
        rw [updF_same]
        rcases hF with hF | hF
        · exact fun z => hF.2.1 c z ⟨j, m⟩
        · exact fun z => hF.2.1 c z ⟨j, h, m⟩
      · rw [updF_ne hl']
        exact a.ok.dis j l c ne h m
  · by_cases hj : j = i
    · subst hj
      rw [at_set_same hl, hs] at e; cases e
    · rw [updF_ne hj]; rw [at_set hj] at e; exact a.ok.emp j e
  · obtain ⟨j, z⟩ := z
    rcases sub z with ⟨_, z⟩ | ⟨_, z⟩
    · exact hG c z m
    · exact a.dis c m ⟨j, z⟩
  · rcases m with ⟨j, h, m⟩ | m
    · rcases sub m with ⟨e, m2⟩ | ⟨e, m2⟩
      · rw [e] at h
        rcases hF with hF | hF
        · exact (hF.2.2 c m2).symm
        · obtain ⟨y, e⟩ := own_i h; exact absurd e (hF.1 y)
      · rw [ownAt_set e] at h
        exact a.stp.subO c (.inl ⟨j, h, m2⟩)
    · exact a.stp.subO c (.inr m)
  · rcases m with ⟨j, m⟩ | m
    · rcases sub m with ⟨e, m⟩ | ⟨e, m⟩
      · rcases hF with hF | hF
        · exact (hF.2.2 c m).elim .inr fun z => .inl z.a
        · exact hF.2.2 c m
      · exact a.stp.subA c (.inl ⟨j, m⟩)
    · exact a.stp.subA c (.inr m)
  · by_cases hj : j = i
    · subst hj
      rw [List.getElem?_set_self hl] at e
      exact absurd (Option.some.inj e) (hs2 y)
    · rw [List.getElem?_set_ne (Ne.symm hj)] at e
      obtain ⟨h1, h2⟩ := a.bk j y e
      exact ⟨h1, by rw [List.getElem?_set_ne (Ne.symm hj)]; exact h2⟩
/-- .. of what a step left aside -/
theorem Aft.keep {K : PySem.W.Frag} {H H1 : Hp} {Fs Fs1 : Ft} {σ σ1 : L2.St} {en en1 en2 : En} {F : List Addr} {i : Nat} {v : V} {x : T} (a : Aft K H Fs σ en H1 Fs1 σ1 en1 F) (o : Own K H1 v x F) (hp : stow en1 i (.v x) = some en2) : Aft K H Fs σ en H1 (updF Fs1 i F) (σ1.set i (some v)) en2 [] :=
  a.drop.put o hp rfl (fun _ z => by cases z) (.inl ⟨a.nod, a.dis, fun c m => (a.stp.subO c (.inr m)).symm⟩) fun _ _ m => absurd m List.not_mem_nil
section
variable {X : Cx} {W : WX} {e c : Expr} {st : Stmt} {sts : List Stmt} {pos : Pos} {m : En → RM T} {f h : En → SR} {mc : En → RM Bool}
def toS : Option En → SR
  | some en => .nx en
  | none => .no
def fSet (i : Nat) (m : En → RM T) : En → SR := fun en => (m en).s fun x en' => toS (stow en' i (.v x))
theorem sp_set {i : Nat} {t : TE} (s : SpM X W m t) : SpS X W (fSet i m) (tAsg t (gName i)) := by
  intro σ H en Fs D ok q
  refine s σ H en Fs _ ok ?_
  unfold fSet at q
  cases e : m en with
  | ok x en' =>
    rw [e] at q
    simp only [RM.s_ok] at q
    intro v H' Fs' G a o
    cases ep : stow en' i (.v x) with
    | none => rw [ep] at q; exact q.elim
    | some en2 => rw [ep] at q; exact q H' _ _ (a.keep o ep)
  | ex c en' => rw [e] at q; exact q
  | no => rw [e] at q; exact q
theorem s_set (i : Nat) {x : Str} {p : Pos} (cz : Cz X W) (h : PM X W e m) (hi : X.N[i]? = some x := by rfl) (hx : Loc X.env.scope x := by first | exact .inl rfl | exact .inr rfl) (hs : swapsWith e (some (.Name x p)) pos.line X.env = pure false := by rfl) (hf : X.fn x = true ∨ X.env.scope.names.lookup x = some .local := by first | exact .inl rfl | exact .inr rfl) :
    PSt X W (.Assign [.Name x p] e pos) (fSet i m) := by
  obtain ⟨t, pp, s⟩ := h
  exact ⟨_, ps_set cz.nd hi hx pp hs hf, sp_set s⟩
/-- many names -/
def stowD (en : En) : Ass → Option En
  | [] => some en
  | (i, .d d) :: r => (stow en i (.v (.d d))).bind fun en' => stowD en' r
  | (_, .l _) :: _ => none
theorem Aft.putD {K : PySem.W.Frag} {H H1 : Hp} {Fs : Ft} {σ : L2.St} {en : En} {G F : List Addr} : ∀ {as : Ass} {vs : List (Nat × V)} {Fs1 : Ft} {σ1 : L2.St} {en1 en2 : En}, Aft K H Fs σ en H1 Fs1 σ1 en1 G → AsOk K H1 F vs as → stowD en1 as = some en2 → ∃ Fs2, Aft K H Fs σ en H1 Fs2 (setS σ1 vs) en2 G
  | [], _, _, _, _, _, a, .nil, h => by cases h; exact ⟨_, a⟩
  | (i, .d d) :: r, _, _, σ1, _, _, a, .cons (v := v) (r := r') o _ t, h => by
    obtain ⟨en', h1, h2⟩ := Option.bind_eq_some_iff.mp h
    cases o with
    | d r => exact Aft.putD (vs := r') (σ1 := σ1.set i (some v)) (a.put (.d r) h1 rfl (fun _ z => by cases z) (.inl ⟨List.nodup_nil, fun _ m => absurd m List.not_mem_nil, fun _ m => absurd m List.not_mem_nil⟩) fun _ m => absurd m List.not_mem_nil) t h2
  | (_, .l _) :: _, _, _, _, _, _, _, _, h => by cases h
def fAsg (k : T → Option Ass) (m : En → RM T) : En → SR := fun en => (m en).s fun x en' => toS ((k x).bind fun as => stowD en' as)
theorem s_asg {tg : Expr} {k : T → Option Ass} (h : PM X W e m) (hg : PTg X tg k) (hs : swapsWithSole [tg] e pos.line X.env = pure false := by rfl) (hw : swappedStores [tg] e X.env = pure none := by rfl)
    (h1 : (assignEach [tg] X.env).map (·.2) = [assign tg X.env] := by rfl) : PSt X W (.Assign [tg] e pos) (fAsg k m) := by
  obtain ⟨t, pp, s⟩ := h
  refine ⟨_, ps_asg pp hg hs hw h1, fun σ H en Fs D ok q => s σ H en Fs _ ok ?_⟩
  unfold fAsg at q
  cases e : m en with
  | ok x en' =>
    rw [e] at q
    simp only [RM.s_ok] at q
    intro v H' Fs' G a o
    cases ek : k x with
    | none => rw [ek] at q; exact q.elim
    | some as =>
      rw [ek] at q
      simp only [Option.bind_some] at q
      cases ep : stowD en' as with
      | none => rw [ep] at q; exact q.elim
      | some en2 =>
        rw [ep] at q
        refine ⟨x, G, as, o, ek, fun vs aok => ?_⟩
        obtain ⟨Fs2, a2⟩ := a.drop.putD aok ep
        exact q H' Fs2 _ a2
  | ex c en' => rw [e] at q; exact q
  | no => rw [e] at q; exact q
/-- a, b = x, y -/
def fPar (i j : Nat) (m : En → RM (List T)) : En → SR := fun en => (m en).s fun xs en' => match xs with
  | [.d a, .d b] => toS (stowD en' [(i, .d a), (j, .d b)])
  | _ => .no
theorem s_par (i j : Nat) {x y : Str} {a b : Expr} {px py pt : Pos} {kt k2 pt2} {ma : En → RM (List T)} (cz : Cz X W) (h : PMA X W [a, b] ma) (hi : X.N[i]? = some x := by rfl) (hj : X.N[j]? = some y := by rfl) (hij : i ≠ j := by decide) (hx : X.env.scope.names.lookup x = some .local := by rfl) (hy : X.env.scope.names.lookup y = some .local := by rfl)
    (hw : swappedStores [.Tuple [.Name x px, .Name y py] kt pt] (.Tuple [a, b] k2 pt2) X.env = pure (some [x, y]) := by rfl) (hs : swapsWithSole [.Tuple [.Name x px, .Name y py] kt pt] (.Tuple [a, b] k2 pt2) pos.line X.env = pure false := by rfl) :
    PSt X W (.Assign [.Tuple [.Name x px, .Name y py] kt pt] (.Tuple [a, b] k2 pt2) pos) (fPar i j ma) := by
  obtain ⟨t, pp, s⟩ := h
  refine ⟨_, ps_par cz.calm cz.nd hi hj hij hx hy pp hw hs, fun σ H en Fs D ok q => s σ H en Fs _ ok ?_⟩
  unfold fPar at q
  cases e : ma en with
  | ok xs en' =>
    rw [e] at q
    simp only [RM.s_ok] at q
    intro vs H' Fs' G a o
    split at q
    · rename_i a' b'
      cases ep : stowD en' [(i, .d a'), (j, .d b')] with
      | none => rw [ep] at q; exact q.elim
      | some en2 =>
        rw [ep] at q
        cases o with
        | cons o1 o =>
          cases o with
          | cons o2 o =>
            cases o
            cases o1 with
            | d r1 =>
              cases o2 with
              | d r2 =>
                obtain ⟨Fs2, a2⟩ := a.drop.putD (F := []) (.cons (.d r1) (fun _ m => m) (.cons (.d r2) (fun _ m => m) .nil)) ep
                exact ⟨_, _, rfl, q H' Fs2 _ a2⟩
    · exact q.elim
  | ex c en' => rw [e] at q; exact q
  | no => rw [e] at q; exact q
/-! ### name op= e -/
structure Ib (X : Cx) (op : Operator) (f : T → T → Option T) : Prop where
  p : ∃ r, OpR X (inplaceOp op) r ∧ Q2 X.K r f
def datAt (en : En) (i : Nat) : R T := (R.of (at_ en i)).pur
def fAug (i : Nat) (op : T → T → Option T) (m : En → RM T) : En → SR := fun en => match datAt en i with
  | .ok x => (m en).s fun y en' => match op x y with
    | some z => toS (stow en' i (.v z))
    | none => .no
  | _ => .no
theorem datAt_ok {en : En} {i : Nat} {x : T} (h : datAt en i = .ok x) : ∃ d, x = .d d ∧ at_ en i = some (.d d) := by
  unfold datAt at h
  cases e : at_ en i with
  | none => rw [e] at h; cases h
  | some y =>
    rw [e] at h
    cases y with
    | d d => cases h; exact ⟨d, rfl, rfl⟩
    | l xs => cases h
/-- behind a step that left something aside, a quiet one -/
theorem Aft.fin {K : PySem.W.Frag} {H H1 H2 : Hp} {Fs Fs1 : Ft} {σ σ1 : L2.St} {en en1 : En} {F G : List Addr} (a : Aft K H Fs σ en H1 Fs1 σ1 en1 F) (s : Same H1 H2) (f : Fresh H1 G) : Aft K H Fs σ en H2 Fs1 σ1 en1 G := a.drop.trans (.quiet a.ok s f)
theorem s_aug (i : Nat) {x : Str} {p : Pos} {op : Operator} {fo : T → T → Option T} (cz : Cz X W) (ob : Ib X op fo) (h : PM X W e m) (hi : X.N[i]? = some x := by rfl) (hx : Loc X.env.scope x := by first | exact .inl rfl | exact .inr rfl) (hf : X.fn x = true ∨ X.env.scope.names.lookup x = some .local := by first | exact .inl rfl | exact .inr rfl) :
    PSt X W (.AugAssign (.Name x p) op e pos) (fAug i fo m) := by
  obtain ⟨t, pp, s⟩ := h
  obtain ⟨r, ho, qq⟩ := ob.p
  refine ⟨_, ps_aug (ti := r) cz.nd hi hx pp ho hf, fun σ H en Fs D ok q => ?_⟩
  unfold fAug at q
  cases ed : datAt en i with
  | ex c => rw [ed] at q; exact q.elim
  | no => rw [ed] at q; exact q.elim
  | ok x0 =>
    rw [ed] at q
    obtain ⟨d, rfl, hd⟩ := datAt_ok ed
    obtain ⟨v, h1, h2⟩ := ok.has i _ hd
    have h2 : RepD X.K H v d := h2.rep
    refine ⟨v, h1, s σ H en Fs _ ok ?_⟩
    cases e : m en with
    | ok y en' =>
      rw [e] at q
      simp only [RM.s_ok] at q
      intro v2 H' Fs' G a o
      cases ef : fo (.d d) y with
      | none => rw [ef] at q; exact q.elim
      | some z =>
        rw [ef] at q
        simp only at q
        cases ep : stow en' i (.v z) with
        | none => rw [ep] at q; exact q.elim
        | some en2 =>
          rw [ep] at q
          exact qq H' (.d d) y z v v2 [] G _ (.d (h2.mono a.stp.pst)) o ef fun v3 H3 G3 s3 o3 f3 => q H3 _ _ ((a.fin s3 f3).keep o3 ep)
    | ex c en' => rw [e] at q; exact q
    | no => rw [e] at q; exact q
/-! ### for -/
/-- a thing of what is walked, put at a name -/
def stows (en : En) : Ass → Option En
  | [] => some en
  | (i, x) :: r => (stow en i (mkS x)).bind fun en' => stows en' r
theorem mkS_b (x y : T) : mkS x ≠ .b y := by cases x <;> exact fun z => by cases z
theorem Aft.puts {K : PySem.W.Frag} {H H1 : Hp} {Fs : Ft} {σ : L2.St} {en : En} {G : List Addr} : ∀ {as : Ass} {vs : List (Nat × V)} {Fs1 : Ft} {σ1 : L2.St} {en1 en2 : En}, Aft K H Fs σ en H1 Fs1 σ1 en1 [] → AsOk K H1 G vs as → (∀ c ∈ G, ¬ InO en1 Fs1 c) → (∀ c ∈ G, InF Fs c ∨ H c = none) → stows en1 as = some en2 →
    ∃ Fs2, Aft K H Fs σ en H1 Fs2 (setS σ1 vs) en2 [] ∧ ∀ c, InO en2 Fs2 c → InO en1 Fs1 c
  | [], _, _, _, _, _, a, .nil, hG, _, h => by cases h; exact ⟨_, a, fun _ z => z⟩
  | (i, x) :: r, _, Fs1, σ1, en1, _, a, .cons (v := v) (r := r') (F := F) o m t, hG, hG2, h => by
    obtain ⟨en', h1, h2⟩ := Option.bind_eq_some_iff.mp h
    have case : (F.Nodup ∧ (∀ c ∈ F, ¬ InF Fs1 c) ∧ ∀ c ∈ F, H c = none ∨ InO en Fs c) ∨ ((∀ y, mkS x ≠ .v y) ∧ (∀ c ∈ F, ¬ InO en1 Fs1 c) ∧ ∀ c ∈ F, InF Fs c ∨ H c = none) := by
      cases x with
      | d d => cases o with | d r => exact .inl ⟨List.nodup_nil, fun _ m => absurd m List.not_mem_nil, fun _ m => absurd m List.not_mem_nil⟩
      | l xs => exact .inr ⟨fun y z => (by cases z), fun c n => hG c (m c n), fun c n => hG2 c (m c n)⟩
    have a2 := a.put o h1 (mkS_get x) (mkS_b x) case fun _ _ m => absurd m List.not_mem_nil
    have back : ∀ c, InO en' (updF Fs1 i F) c → InO en1 Fs1 c := fun c z => by
      obtain ⟨j, z1, z2⟩ := z
      obtain ⟨hl, e2, _⟩ := stow_ok h1
      subst e2
      by_cases hj : j = i
      · subst hj
        rw [updF_same] at z2
        cases x with
        | d d => rw [o.dnil] at z2; cases z2
        | l xs =>
          unfold ownAt at z1
          rw [List.getElem?_set_self hl] at z1
          exact absurd rfl z1
      · rw [updF_ne hj] at z2
        rw [ownAt_set hj] at z1
        exact ⟨j, z1, z2⟩
    obtain ⟨Fs2, a3, b3⟩ := Aft.puts (vs := r') (σ1 := σ1.set i (some v)) a2 t (fun c n z => hG c n (back c z)) hG2 h2
    exact ⟨Fs2, a3, fun c z => back c (b3 c z)⟩
def forE (k : T → Option Ass) (f : En → SR) : List T → En → SR
  | [], en => .nx en
  | x :: xs, en => match (k x).bind fun as => stows en as with
    | none => .no
    | some en1 => match f en1 with
      | .nx en2 => forE k f xs en2
      | .ct en2 => forE k f xs en2
      | .brk en2 => .nx en2
      | r => r
def fFor (k : T → Option Ass) (mi : En → RM (List T)) (f : En → SR) : En → SR := fun en => (mi en).s fun xs en' => forE k f xs en'
/-- what is left of a loop -/
abbrev forQ (K : PySem.W.Frag) (k : T → Option Ass) (tb : TS) (D : Ends) (σ : L2.St) : It → Hp → Prop := fun J H1 => ∃ W' : Nat → Nat → L2.St → Hp → Prop, (∃ n, W' 0 n σ H1) ∧ ∀ i n σ H, W' i n σ H →
  (J.stop i H ∧ D.nx σ H) ∨ (J.go i H ∧ ∃ N : L2.St → Hp → Prop, (∀ σ' H', N σ' H' → ∃ n', n' < n ∧ W' (i + 1) n' σ' H') ∧ ∀ x H', J.yld i H x H' → tgt K k x σ H' fun σ2 H2 => tb { D with nx := N, ct := N, bk := D.nx } σ2 H2)
/-- the loop, from where what is walked has come -/
theorem sp_for {k : T → Option Ass} {tb : TS} (s : SpS X W f tb) {σ0 σ : L2.St} {H0 H1 : Hp} {en0 en : En} {Fs0 Fs : Ft} {D : Ends} {J : It} {xs : List T} {G : List Addr} (a : Aft X.K H0 Fs0 σ0 en0 H1 Fs σ en []) (iok : ItOk X.K G H1 J xs) (tG : ∀ c ∈ G, H1 c ≠ none) (hG : ∀ c ∈ G, ¬ InO en Fs c) (hG2 : ∀ c ∈ G, InF Fs0 c ∨ H0 c = none) (q : SQ X W H0 Fs0 σ0 en0 D (forE k f xs en)) :
    forQ X.K k tb D σ J H1 := by
  refine ⟨fun i n σ H => n = xs.length - i ∧ i ≤ xs.length ∧ ∃ en Fs, Aft X.K H0 Fs0 σ0 en0 H Fs σ en [] ∧ Kept G H1 H ∧ (∀ c ∈ G, ¬ InO en Fs c) ∧ SQ X W H0 Fs0 σ0 en0 D (forE k f (xs.drop i) en),
    ⟨xs.length, by simp, Nat.zero_le _, en, Fs, a, .of (Same.refl _), hG, by rw [List.drop_zero]; exact q⟩, ?_⟩
  rintro i n σ1 H ⟨rfl, hi, en1, Fs1, a1, kp, hG1, q1⟩
  by_cases hlt : i < xs.length
  · refine .inr ⟨iok.goes i H hlt kp, fun σ' H' => ∃ en' Fs', Aft X.K H0 Fs0 σ0 en0 H' Fs' σ' en' [] ∧ Kept G H1 H' ∧ (∀ c ∈ G, ¬ InO en' Fs' c) ∧ SQ X W H0 Fs0 σ0 en0 D (forE k f (xs.drop (i + 1)) en'), fun σ' H' h => ⟨xs.length - (i + 1), by omega, rfl, hlt, h⟩, fun v H' y => ?_⟩
    obtain ⟨s5, x, F, hx, ox, hF⟩ := iok.yields i H v H' hlt kp y
    have hd : xs.drop i = x :: xs.drop (i + 1) := by
      rw [List.drop_eq_getElem_cons hlt]
      rw [List.getElem?_eq_getElem hlt] at hx
      rw [Option.some.inj hx]
    rw [hd] at q1
    unfold forE at q1
    have a2 : Aft X.K H0 Fs0 σ0 en0 H' Fs1 σ1 en1 [] := a1.trans (.quiet a1.ok s5 Fresh.nil)
    have kp2 : Kept G H1 H' := kp.trans (.of s5)
    cases ek : k x with
    | none => rw [ek] at q1; exact q1.elim
    | some as =>
      rw [ek] at q1
      simp only [Option.bind_some] at q1
      cases ep : stows en1 as with
      | none => rw [ep] at q1; exact q1.elim
      | some en2 =>
        rw [ep] at q1
        simp only at q1
        refine ⟨x, F, as, ox, ek, fun ws aok => ?_⟩
        obtain ⟨Fs2, a3, hG3⟩ := a2.puts aok (fun c m => hG1 c (hF c m)) (fun c m => hG2 c (hF c m)) ep
        have hG4 : ∀ c ∈ G, ¬ InO en2 Fs2 c := fun c m z => hG1 c m (hG3 c z)
        have tG3 : ∀ c ∈ G, H' c ≠ none := fun c m z => by
          cases e1 : H1 c with
          | none => exact tG c m e1
          | some o => rw [kp2.2 c m o e1] at z; cases z
        -- behind the body
        have fin : ∀ {H4 : Hp} {Fs4 : Ft} {σ4 : L2.St} {en4 : En}, Aft X.K H' Fs2 (setS σ1 ws) en2 H4 Fs4 σ4 en4 [] → Aft X.K H0 Fs0 σ0 en0 H4 Fs4 σ4 en4 [] ∧ Kept G H1 H4 ∧ ∀ c ∈ G, ¬ InO en4 Fs4 c := fun {H4 Fs4 σ4 en4} b =>
          ⟨a3.trans b, kp2.trans ⟨b.stp.pst, fun c m o e => b.stp.keep c o e (hG4 c m)⟩, fun c m z => (b.stp.subO c (.inl z)).elim (hG4 c m) (tG3 c m)⟩
        refine s _ H' en2 Fs2 _ a3.ok ?_
        cases ef : f en2 with
        | nx en' =>
          rw [ef] at q1
          exact fun H4 Fs4 σ4 b => let ⟨b1, b2, b3⟩ := fin b; ⟨en', Fs4, b1, b2, b3, q1⟩
        | ct en' =>
          rw [ef] at q1
          exact fun H4 Fs4 σ4 b => let ⟨b1, b2, b3⟩ := fin b; ⟨en', Fs4, b1, b2, b3, q1⟩
        | brk en' =>
          rw [ef] at q1
          exact fun H4 Fs4 σ4 b => q1 H4 Fs4 σ4 (fin b).1
        | ret x en' =>
          rw [ef] at q1
          exact fun v H4 Fs4 σ4 G b o => q1 v H4 Fs4 σ4 G (a3.trans b) o
        | ex c en' =>
          rw [ef] at q1
          exact fun cls dx H4 Fs4 σ4 b i => q1 cls dx H4 Fs4 σ4 (a3.trans b) i
        | no => rw [ef] at q1; exact q1.elim
  · have e : i = xs.length := by omega
    subst e
    rw [List.drop_length] at q1
    exact .inl ⟨iok.stops H kp, q1 H Fs1 σ1 a1⟩
theorem s_for {tg it : Expr} {body : List Stmt} {k : T → Option Ass} {mi : En → RM (List T)} (cz : Cz X W) (hi : PMI X W tg it mi) (hg : PTg X tg k) (hb : PBl X W body f) (hs : ∀ x, foldedSetIterable it X.env x = pure x := by intro _; rfl) : PSt X W (.For tg it body [] pos) (fFor k mi f) := by
  obtain ⟨t, p, s⟩ := hi
  obtain ⟨t2, p2, s2⟩ := hb
  refine ⟨_, ps_for cz.hp cz.calm p hg p2 hs, fun σ H en Fs D ok q => s σ H en Fs _ ok ?_⟩
  unfold fFor at q
  cases e : mi en with
  | ok xs en' =>
    rw [e] at q
    simp only [RM.s_ok] at q
    exact fun J H' Fs' G a iok tG => sp_for s2 a.drop iok tG (fun c m z => a.dis c m z.a) (fun c m => a.stp.subA c (.inr m)) q
  | ex c en' => rw [e] at q; exact q
  | no => rw [e] at q; exact q
/-- over a name's list: it is seen from then on -/
def weak (en : En) (i : Nat) : En := match en[i]? with
  | some (.v (.l xs)) => en.set i (.w (.l xs))
  | _ => en
/-- what is ours is seen from now on -/
theorem Aft.weak {K : PySem.W.Frag} {H H1 : Hp} {Fs Fs1 : Ft} {σ σ1 : L2.St} {en en1 : En} {G : List Addr} (a : Aft K H Fs σ en H1 Fs1 σ1 en1 G) (i : Nat) : Aft K H Fs σ en H1 Fs1 σ1 (weak en1 i) G := by
  unfold Z.weak
  cases e : en1[i]? with
  | none => exact a
  | some y =>
    cases y with
    | v x =>
      cases x with
      | d d => exact a
      | l xs =>
        obtain ⟨hl, _⟩ := List.getElem?_eq_some_iff.mp e
        have same : ∀ j, at_ (en1.set i (.w (.l xs))) j = at_ en1 j := fun j => by
          by_cases hj : j = i
          · subst hj; rw [at_set_same hl]; unfold at_; rw [e]; rfl
          · exact at_set hj
        have own : ∀ j, ownAt (en1.set i (.w (.l xs))) j ≠ none → ownAt en1 j ≠ none := fun j h => by
          by_cases hj : j = i
          · subst hj; unfold ownAt at h; rw [List.getElem?_set_self hl] at h; exact absurd rfl h
          · rwa [ownAt_set hj] at h
        show Aft K H Fs σ en H1 Fs1 σ1 (en1.set i (.w (.l xs))) G
        refine ⟨⟨by rw [List.length_set]; exact a.ok.len, fun j y h => a.ok.has j y (by rw [← same j]; exact h), fun j h => a.ok.nod j (own j h), fun j l c ne h m => a.ok.dis j l c ne (own j h) m, fun j h => a.ok.emp j (by rw [← same j]; exact h)⟩, a.nod, a.dis, a.stp.imp (fun c z => z.elim (fun ⟨j, h, m⟩ => .inl ⟨j, own j h, m⟩) .inr) (fun _ z => z), fun j y h => a.bk j y ?_⟩
        by_cases hj : j = i
        · subst hj; rw [List.getElem?_set_self hl] at h; cases h
        · rwa [List.getElem?_set_ne (Ne.symm hj)] at h
    | _ => exact a
def notOwn (en : En) (i : Nat) : Bool := match en[i]? with
  | some (.w _) => true
  | some (.v (.d _)) => true
  | _ => false
def fForN (k : T → Option Ass) (i : Nat) (f : En → SR) : En → SR := fun en => let en' := weak en i
  if notOwn en' i = true then match (at_ en' i).bind items with
    | some xs => forE k f xs en'
    | none => .no
  else .no
theorem s_forN (i : Nat) {tg : Expr} {x : Str} {px : Pos} {body : List Stmt} {k : T → Option Ass} (cz : Cz X W) (hg : PTg X tg k) (hb : PBl X W body f) (hN : X.N[i]? = some x := by rfl) (hv : Vis X.env.scope x := by first | exact Or.inl rfl | exact Or.inr (Or.inl rfl) | exact Or.inr (Or.inr rfl)) (hs : ∀ y, foldedSetIterable (.Name x px) X.env y = pure y := by intro _; rfl) (hd : (x == ("__debug__" : Str)) = false := by decide)
    (hcd : (x == ("__classdict__" : Str)) = false := by decide) : PSt X W (.For tg (.Name x px) body [] pos) (fForN k i f) := by
  obtain ⟨t2, p2, s2⟩ := hb
  refine ⟨_, ps_for cz.hp cz.calm (pi_sq (pe_var hN hv hd hcd)) hg p2 hs, fun σ H en Fs D ok q => ?_⟩
  unfold fForN at q
  have a : Aft X.K H Fs σ en H Fs σ (Z.weak en i) [] := (Aft.refl ok).weak i
  simp only at q
  split at q
  · rename_i hw
    cases e : at_ (Z.weak en i) i with
    | none => rw [e] at q; exact q.elim
    | some x =>
      rw [e] at q
      simp only [Option.bind_some] at q
      cases ei : items x with
      | none => rw [ei] at q; exact q.elim
      | some xs =>
        rw [ei] at q
        obtain ⟨v, h1, h2⟩ := a.ok.has i x e
        refine ⟨v, h1, it_own (Q := forQ X.K k t2 D σ) h2 ei fun J iok => sp_for s2 a iok h2.there (fun c m z => ?_) (fun c m => .inl ?_) q⟩
        · obtain ⟨j, z1, z2⟩ := z
          by_cases hj : j = i
          · subst hj
            unfold notOwn at hw
            unfold ownAt at z1
            cases es : (Z.weak en j)[j]? with
            | none => rw [es] at hw; cases hw
            | some y =>
              rw [es] at hw z1
              cases y with
              | v y =>
                cases y with
                | d d =>
                  have : x = .d d := by unfold at_ at e; rw [es] at e; cases e; rfl
                  subst this
                  rw [h2.dnil] at m; cases m
                | l _ => cases hw
              | w y => exact absurd rfl z1
              | n => cases hw
              | b y => cases hw
          · exact a.ok.dis j i c hj z1 z2 m
        · exact (a.stp.subA c (.inl ⟨i, m⟩)).elim id fun z => absurd z (h2.there c m)
  · exact q.elim
/-! ### while -/
def whE (c : En → RM Bool) (f : En → SR) : Nat → En → SR
  | 0, _ => .no
  | n + 1, en => (c en).s fun b en1 => if b = true then match f en1 with
      | .nx en2 => whE c f n en2
      | .ct en2 => whE c f n en2
      | .brk en2 => .nx en2
      | r => r
    else .nx en1
def fWh (μ : En → Nat) (c : En → RM Bool) (f : En → SR) : En → SR := fun en => whE c f (μ en) en
theorem s_while (μ : En → Nat) {body : List Stmt} (cz : Cz X W) (hc : PMT X W c mc) (hb : PBl X W body f) : PSt X W (.While c body [] pos) (fWh μ mc f) := by
  obtain ⟨t, p, s⟩ := hc
  obtain ⟨t2, p2, s2⟩ := hb
  refine ⟨_, ps_while cz.hp p p2, fun σ H en Fs D ok q => ?_⟩
  refine ⟨fun n σ1 H1 => ∃ en1 Fs1, Aft X.K H Fs σ en H1 Fs1 σ1 en1 [] ∧ SQ X W H Fs σ en D (whE mc f n en1), ⟨μ en, en, Fs, .refl ok, q⟩, ?_⟩
  rintro n σ1 H1 ⟨en1, Fs1, a, q⟩
  refine s σ1 H1 en1 Fs1 _ a.ok ?_
  cases n with
  | zero => exact q.elim
  | succ n =>
    unfold whE at q
    cases e : mc en1 with
    | ok b en2 =>
      rw [e] at q
      simp only [RM.s_ok] at q
      intro H2 Fs2 a2
      have a12 := a.trans a2
      cases b with
      | false => exact iteF (q H2 Fs2 σ1 a12)
      | true =>
        refine iteT ⟨fun σ' H' => ∃ en' Fs', Aft X.K H Fs σ en H' Fs' σ' en' [] ∧ SQ X W H Fs σ en D (whE mc f n en'), fun σ' H' h => ⟨n, Nat.lt_succ_self n, h⟩, s2 σ1 H2 en2 Fs2 _ a2.ok ?_⟩
        simp only [if_true] at q
        cases ef : f en2 with
        | nx en' => rw [ef] at q; exact fun H4 Fs4 σ4 b => ⟨en', Fs4, a12.trans b, q⟩
        | ct en' => rw [ef] at q; exact fun H4 Fs4 σ4 b => ⟨en', Fs4, a12.trans b, q⟩
        | brk en' => rw [ef] at q; exact fun H4 Fs4 σ4 b => q H4 Fs4 σ4 (a12.trans b)
        | ret x en' => rw [ef] at q; exact fun v H4 Fs4 σ4 G b o => q v H4 Fs4 σ4 G (a12.trans b) o
        | ex c en' => rw [ef] at q; exact fun cls dx H4 Fs4 σ4 b i => q cls dx H4 Fs4 σ4 (a12.trans b) i
        | no => rw [ef] at q; exact q.elim
    | ex c en' => rw [e] at q; exact fun cls dx H' Fs' σ' b i => q cls dx H' Fs' σ' (a.trans b) i
    | no => rw [e] at q; exact q
end
end Z
/-! Z: expressions that change the frame's lists; lists changed by their methods. -/
namespace Z
open PySem PySem.Spec L2
open PyProof.Rows hiding St

section
variable {X : Cx} {W : WX} {e a b c : Expr} {es : List Expr} {pos : Pos} {m ma mb : En → RM T} {ms : En → RM (List T)} {mc : En → RM Bool}
/-- a name's thing is given away; a datum stays there too -/
def mName (i : Nat) : En → RM T := fun en => match en[i]? with
  | some (.v (.l xs)) => .ok (.l xs) (en.set i .n)
  | some s => match s.get with
    | some (.d d) => .ok (.d d) en
    | _ => .no
  | none => .no
theorem Aft.take {K : PySem.W.Frag} {H : Hp} {Fs : Ft} {σ : L2.St} {en : En} {i : Nat} {xs : List T} (ok : EOk K H σ en Fs) (e : en[i]? = some (.v (.l xs))) : Aft K H Fs σ en H (updF Fs i []) σ (en.set i .n) (Fs i) := by
  obtain ⟨hl, _⟩ := List.getElem?_eq_some_iff.mp e
  have oi : ownAt en i ≠ none := by unfold ownAt; rw [e]; exact fun z => by cases z
  have own : ∀ j, ownAt (en.set i .n) j ≠ none → j ≠ i ∧ ownAt en j ≠ none := fun j h => by
    by_cases hj : j = i
    · subst hj; unfold ownAt at h; rw [List.getElem?_set_self hl] at h; exact absurd rfl h
    · rw [ownAt_set hj] at h; exact ⟨hj, h⟩
  refine ⟨⟨by rw [List.length_set]; exact ok.len, fun j y h => ?_, fun j h => ?_, fun j l c ne h m => ?_, fun j h => ?_⟩, ok.nod i oi, fun c m z => ?_, ⟨Pst.refl H, fun _ _ e _ => e, fun _ e => e, fun c m => ?_, fun c m => ?_⟩, fun j y h => ?_⟩
  · by_cases hj : j = i
    · subst hj; rw [at_set_same hl] at h; cases h
    · rw [at_set hj] at h; rw [updF_ne hj]; exact ok.has j y h
  · obtain ⟨hj, h⟩ := own j h; rw [updF_ne hj]; exact ok.nod j h
  · obtain ⟨hj, h⟩ := own j h
    rw [updF_ne hj] at m
    by_cases hl : l = i
    · rw [hl, updF_same]; exact List.not_mem_nil
    · rw [updF_ne hl]; exact ok.dis j l c ne h m
  · by_cases hj : j = i
    · rw [hj, updF_same]
    · rw [at_set hj] at h; rw [updF_ne hj]; exact ok.emp j h
  · obtain ⟨j, z⟩ := z
    by_cases hj : j = i
    · rw [hj, updF_same] at z; cases z
    · rw [updF_ne hj] at z; exact ok.dis i j c (Ne.symm hj) oi m z
  · rcases m with ⟨j, h, m⟩ | m
    · obtain ⟨hj, h⟩ := own j h; rw [updF_ne hj] at m; exact .inl ⟨j, h, m⟩
    · exact .inl ⟨i, oi, m⟩
  · rcases m with ⟨j, m⟩ | m
    · by_cases hj : j = i
      · rw [hj, updF_same] at m; cases m
      · rw [updF_ne hj] at m; exact .inl ⟨j, m⟩
    · exact .inl ⟨i, m⟩
  · by_cases hj : j = i
    · subst hj; rw [List.getElem?_set_self hl] at h; cases h
    · rw [List.getElem?_set_ne (Ne.symm hj)] at h; exact ⟨⟨y, h⟩, rfl⟩
theorem m_name (i : Nat) {x : Str} {p : Pos} (hN : X.N[i]? = some x := by rfl) (hv : Vis X.env.scope x := by first | exact Or.inl rfl | exact Or.inr (Or.inl rfl) | exact Or.inr (Or.inr rfl)) (hd : (x == ("__debug__" : Str)) = false := by decide)
    (hcd : (x == ("__classdict__" : Str)) = false := by decide) : PM X W (.Name x p) (mName i) := by
  refine ⟨_, pe_var hN hv hd hcd, fun σ H en Fs Q ok q => ?_⟩
  have data : ∀ d, at_ en i = some (.d d) → (MQ X W H Fs σ en Q (.ok (.d d) en)) → tVar i σ H Q := fun d h q => by
    obtain ⟨v, h1, h2⟩ := ok.has i _ h
    exact ⟨v, h1, q v H Fs [] (.refl ok) (.d h2.rep)⟩
  unfold mName at q
  cases e : en[i]? with
  | none => rw [e] at q; exact q.elim
  | some s =>
    rw [e] at q
    cases s with
    | v x =>
      cases x with
      | d d => exact data d (by unfold at_; rw [e]; rfl) q
      | l xs =>
        obtain ⟨v, h1, h2⟩ := ok.has i (.l xs) (by unfold at_; rw [e]; rfl)
        exact ⟨v, h1, q v H _ _ (.take ok e) h2⟩
    | n => exact q.elim
    | w x => cases x with
      | d d => exact data d (by unfold at_; rw [e]; rfl) q
      | l xs => exact q.elim
    | b x => cases x with
      | d d => exact data d (by unfold at_; rw [e]; rfl) q
      | l xs => exact q.elim
/-! ### of two -/
def m2 (f : T → T → Option T) (ma mb : En → RM T) : En → RM T := fun en => (ma en).bind fun x en1 => (mb en1).bind fun y en2 => RM.of (R.of (f x y)) en2
theorem XM.after {H H1 : Hp} {Fs Fs1 : Ft} {σ σ1 : L2.St} {en en1 en' : En} {c : Exc} {G : List Addr} (a : Aft X.K H Fs σ en H1 Fs1 σ1 en1 G) (q : XM X W H Fs σ en c en') : XM X W H1 Fs1 σ1 en1 c en' := fun cls dx H' Fs' σ' b i => q cls dx H' Fs' σ' (a.drop.trans b) i
theorem Own.here {K : PySem.W.Frag} {H : Hp} {v : V} {x : T} {F : List Addr} (o : Own K H v x F) : ∀ c ∈ F, H c ≠ none := o.there
theorem spM2 {r : R2} {f : T → T → Option T} {ta tb : TE} (q2 : Q2 X.K r f) (sa : SpM X W ma ta) (sb : SpM X W mb tb) : SpM X W (m2 f ma mb) (tOp r ta tb) := by
  intro σ H en Fs Q ok q
  refine sa σ H en Fs _ ok ?_
  unfold m2 at q
  cases ea : ma en with
  | ok x en1 =>
    rw [ea] at q
    simp only [RM.bind_ok] at q
    intro v1 H1 Fs1 G1 a1 o1
    refine sb σ H1 en1 Fs1 _ a1.ok ?_
    cases eb : mb en1 with
    | ok y en2 =>
      rw [eb] at q
      simp only [RM.bind_ok] at q
      intro v2 H2 Fs2 G2 a2 o2
      cases ef : f x y with
      | none => rw [ef] at q; exact q.elim
      | some z =>
        rw [ef] at q
        have o1' := (a2.stp.frame (fun _ z => z.a) o1 a1.dis).1
        exact q2 H2 x y z v1 v2 G1 G2 Q o1' o2 ef fun v H' G s o fr => q v H' Fs2 G ((a1.drop.trans a2).fin s fr) o
    | ex c en2 => rw [eb] at q; exact XM.after (W := W) a1 q
    | no => rw [eb] at q; exact q
  | ex c en1 => rw [ea] at q; exact q
  | no => rw [ea] at q; exact q
theorem m_bin {op : Operator} {f : T → T → Option T} (o : Bn X op f) (ha : PM X W a ma) (hb : PM X W b mb) : PM X W (.BinOp a op b pos) (m2 f ma mb) := by
  obtain ⟨r, ho, q⟩ := o.p
  obtain ⟨ta, pa, sa⟩ := ha
  obtain ⟨tb, pb, sb⟩ := hb
  exact ⟨_, pe_op ho pa pb, spM2 q sa sb⟩
theorem m_cmp {op : CmpOp} {f : T → T → Option T} (o : Cm X op f) (ha : PM X W a ma) (hb : PM X W b mb) (hm : behindInMarks op b = false := by first | exact nomark _ | with_unfolding_all rfl) : PM X W (.Compare a [op] [b] pos) (m2 f ma mb) := by
  obtain ⟨r, ho, q⟩ := o.p
  obtain ⟨ta, pa, sa⟩ := ha
  obtain ⟨tb, pb, sb⟩ := hb
  exact ⟨_, pe_cmpR ho pa pb hm, spM2 q sa sb⟩
def mT (m : En → RM T) : En → RM Bool := fun en => (m en).bind fun x en' => RM.of (R.of (tst x)) en'
theorem mc_cmp {op : CmpOp} {f : T → T → Option T} (o : Cm X op f) (ha : PM X W a ma) (hb : PM X W b mb) (hm : behindInMarks op b = false := by first | exact nomark _ | with_unfolding_all rfl) : PMT X W (.Compare a [op] [b] pos) (mT (m2 f ma mb)) := by
  obtain ⟨r, ho, q⟩ := o.p
  obtain ⟨ta, pa, sa⟩ := ha
  obtain ⟨tb, pb, sb⟩ := hb
  refine ⟨_, pt_cmpR ho pa pb hm, fun σ H en Fs Q ok h => spM2 q sa sb σ H en Fs _ ok ?_⟩
  unfold mT at h
  cases e : m2 f ma mb en with
  | ok x en' =>
    rw [e] at h
    simp only [RM.bind_ok] at h
    intro v H' Fs' G a o
    cases x with
    | l xs => exact h.elim
    | d d =>
      cases d with
      | bl k => have r := o.rep; cases r; exact ⟨k, rfl, h H' Fs' a.drop⟩
      | _ => exact h.elim
  | ex c en' => rw [e] at h; exact h
  | no => rw [e] at h; exact h
def mTru (m : En → RM T) : En → RM Bool := fun en => (m en).bind fun x en' => RM.of (R.of (tru x)) en'
theorem mc_truth (ha : PM X W a m) (he : ∀ whole, isTrue a X.env whole = (do let v ← whole; standAt a.pos; holding [v] (truthy v)) := by intro _; rfl) : PMT X W a (mTru m) := by
  obtain ⟨t, p, s⟩ := ha
  refine ⟨_, pt_truth p he, fun σ H en Fs Q ok q => s σ H en Fs _ ok ?_⟩
  unfold mTru at q
  cases e : m en with
  | ok x en' =>
    rw [e] at q
    intro v H' Fs' G a o
    cases ek : tru x with
    | none => simp only [RM.bind_ok, ek, R.of_none] at q; exact q.elim
    | some k =>
      simp only [RM.bind_ok, ek, R.of_some] at q
      exact ⟨k, tru_is o ek, q H' Fs' a.drop⟩
  | ex c en' => rw [e] at q; exact q
  | no => rw [e] at q; exact q
def mNot (m : En → RM Bool) : En → RM Bool := fun en => (m en).bind fun b en' => .ok (!b) en'
theorem mc_not (ha : PMT X W a mc) : PMT X W (.UnaryOp .Not a pos) (mNot mc) := by
  obtain ⟨t, p, s⟩ := ha
  refine ⟨_, pt_not p, fun σ H en Fs Q ok q => s σ H en Fs _ ok ?_⟩
  unfold mNot at q
  cases e : mc en with
  | ok x en' => rw [e] at q; exact q
  | ex c en' => rw [e] at q; exact q
  | no => rw [e] at q; exact q
/-! ### items -/
def mIx (ma mb : En → RM T) : En → RM T := fun en => (ma en).bind fun x en1 => (mb en1).bind fun y en2 => RM.of (R.of (fIx x y)).pur en2
theorem pur_ok {r : R T} {x : T} (h : r.pur = .ok x) : ∃ d, x = .d d ∧ r = .ok (.d d) := by
  cases r with
  | ok y => cases y with
    | d d => cases h; exact ⟨d, rfl, rfl⟩
    | l _ => cases h
  | ex c => cases h
  | no => cases h
theorem m_ix (ha : PM X W a ma) (hb : PM X W b mb) (hs : PlainIx b := by exact fun _ _ => rfl) : PM X W (.Subscript a b pos) (mIx ma mb) := by
  obtain ⟨ta, pa, sa⟩ := ha
  obtain ⟨tb, pb, sb⟩ := hb
  refine ⟨_, pe_ix ix_seq pa pb hs, ?_⟩
  intro σ H en Fs Q ok q
  refine sa σ H en Fs _ ok ?_
  unfold mIx at q
  cases ea : ma en with
  | ok x en1 =>
    rw [ea] at q
    simp only [RM.bind_ok] at q
    intro v1 H1 Fs1 G1 a1 o1
    refine sb σ H1 en1 Fs1 _ a1.ok ?_
    cases eb : mb en1 with
    | ok y en2 =>
      rw [eb] at q
      simp only [RM.bind_ok] at q
      intro v2 H2 Fs2 G2 a2 o2
      cases ef : (R.of (fIx x y)).pur with
      | ok z =>
        rw [ef] at q
        obtain ⟨d, rfl, e2⟩ := pur_ok ef
        cases e3 : fIx x y with
        | none => rw [e3] at e2; cases e2
        | some z =>
          rw [e3] at e2; cases e2
          have o1' := (a2.stp.frame (fun _ z => z.a) o1 a1.dis).1
          exact q_ix H2 x y _ v1 v2 G1 G2 Q o1' o2 e3 fun v H' G s o => q v H' Fs2 [] ((a1.drop.trans a2).fin s Fresh.nil) (.d o.rep)
      | ex c => rw [ef] at q; exact False.elim (by
          cases e3 : fIx x y with
          | none => rw [e3] at ef; cases ef
          | some z => rw [e3] at ef; cases z <;> cases ef)
      | no => rw [ef] at q; exact q.elim
    | ex c en2 => rw [eb] at q; exact XM.after (W := W) a1 q
    | no => rw [eb] at q; exact q
  | ex c en1 => rw [ea] at q; exact q
  | no => rw [ea] at q; exact q
/-- name[index], the name's thing as it stands behind the index -/
def mIxN (i : Nat) (mb : En → RM T) : En → RM T := fun en => (mb en).bind fun y en2 => RM.of ((R.of (at_ en2 i)).bind fun x => (R.of (fIx x y)).pur) en2
theorem m_ixN (i : Nat) {x : Str} {p : Pos} (hb : PM X W b mb) (hN : X.N[i]? = some x := by rfl) (hv : Vis X.env.scope x := by first | exact Or.inl rfl | exact Or.inr (Or.inl rfl) | exact Or.inr (Or.inr rfl)) (hs : PlainIx b := by exact fun _ _ => rfl) (hd : (x == ("__debug__" : Str)) = false := by decide)
    (hcd : (x == ("__classdict__" : Str)) = false := by decide) (hst : ∀ en, (∃ y en2, mb en = .ok y en2) → ∀ z, at_ en i = some z → True := by intros; trivial) : PM X W (.Subscript (.Name x p) b pos) (fun en => if (at_ en i).isSome then mIxN i mb en else .no) := by
  obtain ⟨tb, pb, sb⟩ := hb
  refine ⟨_, pe_ix ix_seq (pe_var hN hv hd hcd) pb hs, ?_⟩
  intro σ H en Fs Q ok q
  simp only at q
  split at q
  · rename_i hsome
    cases e0 : at_ en i with
    | none => rw [e0] at hsome; cases hsome
    | some x0 =>
      obtain ⟨v0, h0, _⟩ := ok.has i x0 e0
      refine ⟨v0, h0, sb σ H en Fs _ ok ?_⟩
      unfold mIxN at q
      cases eb : mb en with
      | ok y en2 =>
        rw [eb] at q
        simp only [RM.bind_ok] at q
        intro v2 H2 Fs2 G2 a2 o2
        cases e1 : at_ en2 i with
        | none => rw [e1] at q; exact q.elim
        | some x1 =>
          rw [e1] at q
          simp only [R.of_some, R.bind_ok] at q
          obtain ⟨v1, h1, o1⟩ := a2.ok.has i x1 e1
          rw [h0] at h1; cases h1
          cases ef : (R.of (fIx x1 y)).pur with
          | ok z =>
            rw [ef] at q
            obtain ⟨d, rfl, e2⟩ := pur_ok ef
            cases e3 : fIx x1 y with
            | none => rw [e3] at e2; cases e2
            | some z =>
              rw [e3] at e2; cases e2
              exact q_ix H2 x1 y _ v0 v2 _ G2 Q o1 o2 e3 fun v H' G s o => q v H' Fs2 [] (a2.fin s Fresh.nil) (.d o.rep)
          | ex c => rw [ef] at q; exact False.elim (by
              cases e3 : fIx x1 y with
              | none => rw [e3] at ef; cases ef
              | some z => rw [e3] at ef; cases z <;> cases ef)
          | no => rw [ef] at q; exact q.elim
      | ex c en2 => rw [eb] at q; exact q
      | no => rw [eb] at q; exact q
  · exact q.elim
/-! ### arguments -/
def mNil : En → RM (List T) := fun en => .ok [] en
def mCons (m : En → RM T) (ms : En → RM (List T)) : En → RM (List T) := fun en => (m en).bind fun x en1 => (ms en1).bind fun xs en2 => .ok (x :: xs) en2
theorem ma_nil : PMA X W [] mNil := ⟨_, pa_nil, fun σ H en Fs Q ok q => q [] H Fs [] (.refl ok) .nil⟩
theorem ma_cons (ha : PM X W a m) (hr : PMA X W es ms) (hs : starEach (a :: es) X.env = (false, eval a X.env) :: starEach es X.env := by rfl) : PMA X W (a :: es) (mCons m ms) := by
  obtain ⟨t, p, s⟩ := ha
  obtain ⟨t2, p2, s2⟩ := hr
  refine ⟨_, pa_cons p p2 hs, fun σ H en Fs Q ok q => s σ H en Fs _ ok ?_⟩
  unfold mCons at q
  cases e : m en with
  | ok x en1 =>
    rw [e] at q
    simp only [RM.bind_ok] at q
    intro v H' Fs' G a o
    refine s2 σ H' en1 Fs' _ a.ok ?_
    cases e2 : ms en1 with
    | ok xs en2 =>
      rw [e2] at q
      exact fun vs H2 Fs2 G2 a2 o2 => q (v :: vs) H2 Fs2 (G ++ G2) (a.held o.there a2) (.cons (a2.stp.frame (fun _ z => z.a) o a.dis).1 o2)
    | ex c en2 => rw [e2] at q; exact XM.after (W := W) a q
    | no => rw [e2] at q; exact q
  | ex c en1 => rw [e] at q; exact q
  | no => rw [e] at q; exact q
def mOf (f : List T → R T) (ms : En → RM (List T)) : En → RM T := fun en => (ms en).bind fun xs en' => RM.of (f xs) en'
theorem m_tup {k} (ha : PMA X W es ms) : PM X W (.Tuple es k pos) (mOf mkTup ms) := by
  obtain ⟨t, p, s⟩ := ha
  refine ⟨_, pe_tup p, fun σ H en Fs Q ok q => s σ H en Fs _ ok ?_⟩
  unfold mOf at q
  cases e : ms en with
  | ok xs en1 =>
    rw [e] at q
    simp only [RM.bind_ok, mkTup] at q
    intro vs H' Fs' G a w
    cases ea : allD xs with
    | none => rw [ea] at q; exact q.elim
    | some ds =>
      rw [ea] at q
      have e1 := allD_eq ea
      subst e1
      have rr := w.data.1
      simp only at q
      split at q
      · rename_i hz
        refine ⟨by rw [most_eq, rr.length]; exact hz, fun p np => ?_⟩
        exact q _ _ Fs' [] (a.fin (same_new np) Fresh.nil) (.d (.tup (SqT.of upd_same) (rr.mono (.of (same_new np)))))
      · exact q.elim
  | ex c en1 => rw [e] at q; exact q
  | no => rw [e] at q; exact q
theorem m_lst (ha : PMA X W es ms) : PM X W (.List es pos) (mOf mkLst ms) := by
  obtain ⟨t, p, s⟩ := ha
  refine ⟨_, pe_lst p, fun σ H en Fs Q ok q => s σ H en Fs _ ok ?_⟩
  unfold mOf at q
  cases e : ms en with
  | ok xs en1 =>
    rw [e] at q
    simp only [RM.bind_ok, mkLst] at q
    intro vs H' Fs' G a w
    split at q
    · rename_i hz
      refine ⟨by rw [most_eq, w.length]; exact hz, fun p np => ?_⟩
      have b : Aft X.K H' Fs' σ en1 (upd H' p (.lst vs)) Fs' σ en1 [p] := .quiet a.ok (same_new np) (fresh1 np)
      have h := a.held w.there b
      have h2 : Aft X.K H Fs σ en (upd H' p (.lst vs)) Fs' σ en1 (p :: G) := ⟨h.ok, by
          have := h.nod
          exact (List.perm_append_comm (l₁ := G) (l₂ := [p])).nodup_iff.mp this, fun c m => h.dis c (by simp only [List.mem_append, List.mem_cons, List.not_mem_nil, or_false] at m ⊢; exact m.symm), h.stp.imp (fun c z => z.imp id fun m => by simp only [List.mem_append, List.mem_cons, List.not_mem_nil, or_false] at m ⊢; exact m.symm) (fun c z => z.imp id fun m => by simp only [List.mem_append, List.mem_cons, List.not_mem_nil, or_false] at m ⊢; exact m.symm), h.bk⟩
      exact q _ _ Fs' (p :: G) h2 (.l upd_same (w.mono (same_new np)))
    · exact q.elim
  | ex c en1 => rw [e] at q; exact q
  | no => rw [e] at q; exact q
def rOf (f : List T → Option T) : List T → R T := fun xs => R.of (f xs)
theorem spMB {r : List V → Hp → VK → Prop} {f : List T → Option T} {t : TA} (q2 : QL X.K r f) (s : SpMA X W ms t) : SpM X W (mOf (rOf f) ms) (tCB r t) := by
  intro σ H en Fs Q ok q
  refine s σ H en Fs _ ok ?_
  unfold mOf rOf at q
  cases e : ms en with
  | ok xs en1 =>
    rw [e] at q
    simp only [RM.bind_ok] at q
    intro vs H' Fs' G a w
    cases ef : f xs with
    | none => rw [ef] at q; exact q.elim
    | some z =>
      rw [ef] at q
      exact q2 H' xs vs z Q w.vws ef fun v H2 G2 s2 o fr => q v H2 Fs' G2 (a.fin s2 fr) o
  | ex c en1 => rw [e] at q; exact q
  | no => rw [e] at q; exact q
theorem m_callB {x id : String} {f : List T → Option T} {p : Pos} (o : Bf X (.builtin id) f) (hv : bootBuiltins x = some (.builtin id)) (hm : X.mg x = none) (ha : PMA X W (a :: es) ms) (hg : Gl X x := by rfl) (hn : (Str.ofString x) ≠ "__name__" := by decide) (hdb : ((Str.ofString x) == ("__debug__" : Str)) = false := by decide)
    (he : starEach (a :: es) X.env = (false, eval a X.env) :: starEach es X.env := by rfl) (hpl : (backTo pos (starEach es X.env)).any (·.1) = false := by rfl) : PM X W (.Call (.Name x p) (a :: es) [] pos) (mOf (rOf f) ms) := by
  obtain ⟨r, hc, q⟩ := o.p
  obtain ⟨t, pa, s⟩ := ha
  exact ⟨_, pe_callB hc hg hm hv pa hn hdb he hpl, spMB q s⟩
theorem m_callT {x Ty : String} {f : List T → Option T} {p : Pos} (o : Bf X (.type Ty) f) (hv : bootBuiltins x = some (.type Ty)) (hm : X.mg x = none) (ha : PMA X W (a :: es) ms) (hg : Gl X x := by rfl) (hn : (Str.ofString x) ≠ "__name__" := by decide) (hdb : ((Str.ofString x) == ("__debug__" : Str)) = false := by decide)
    (he : starEach (a :: es) X.env = (false, eval a X.env) :: starEach es X.env := by rfl) (hpl : (backTo pos (starEach es X.env)).any (·.1) = false := by rfl) : PM X W (.Call (.Name x p) (a :: es) [] pos) (mOf (rOf f) ms) := by
  obtain ⟨r, hc, q⟩ := o.p
  obtain ⟨t, pa, s⟩ := ha
  exact ⟨_, pe_callTy hc hg hm hv pa hn hdb he hpl, spMB q s⟩
/-- a def that changes nothing, its arguments our own -/
theorem m_call {x : Str} {k : Nat} {F : List T → R T} {p : Pos} (f : FnP X.prog X.w X.K X.mg X.base x k F) (tk : Takes X W) (hr : Room k X.A) (ha : PMA X W (a :: es) ms) (hg : Gl X x := by rfl)
    (hdb : (x == ("__debug__" : Str)) = false := by decide) (he : starEach (a :: es) X.env = (false, eval a X.env) :: starEach es X.env := by rfl) (hpl : (backTo pos (starEach es X.env)).any (·.1) = false := by rfl) : PM X W (.Call (.Name x p) (a :: es) [] pos) (mOf F ms) := by
  obtain ⟨f, fd, ps, ok, hm, hk, hb⟩ := f.ex
  obtain ⟨t, pa, s⟩ := ha
  refine ⟨_, pe_callS (E := WE W) ok hr hg hm hk hb (fun σ => passAt tk σ) pa hdb he hpl, fun σ H en Fs Q ok q => s σ H en Fs _ ok ?_⟩
  unfold mOf at q
  cases e : ms en with
  | ok xs en1 =>
    rw [e] at q
    simp only [RM.bind_ok] at q
    intro vs H' Fs' G a w
    refine ⟨xs, w.vws, ?_⟩
    cases ef : F xs with
    | ok r => rw [ef] at q; exact fun v H2 G2 s2 o fr => q v H2 Fs' G2 (a.fin s2 fr) o
    | ex c => rw [ef] at q; exact fun cls dx H2 s2 i => q cls dx H2 Fs' σ (a.fin s2 Fresh.nil) i
    | no => rw [ef] at q; exact q
  | ex c en1 => rw [e] at q; exact q
  | no => rw [e] at q; exact q
end
end Z
/-! Z: lists changed in their place. -/
namespace Z
open PySem PySem.Spec L2
open PyProof.Rows hiding St

def setO (en : En) (i : Nat) (x : T) : En := match en[i]? with
  | some (.b _) => en.set i (.b x)
  | _ => en.set i (.v x)
theorem own_lt {en : En} {i : Nat} {x : T} (h : ownAt en i = some x) : i < en.length := by
  unfold ownAt at h
  cases e : en[i]? with
  | none => rw [e] at h; cases h
  | some s => exact (List.getElem?_eq_some_iff.mp e).1
theorem setO_own {en : En} {i : Nat} {x y : T} (h : ownAt en i = some y) : ownAt (setO en i x) i = some x := by
  have hl := own_lt h
  unfold setO
  cases e : en[i]? with
  | none => unfold ownAt at h; rw [e] at h; cases h
  | some s => cases s <;> (simp only; unfold ownAt; rw [List.getElem?_set_self hl])
theorem setO_ne {en : En} {i j : Nat} {x : T} (h : j ≠ i) : (setO en i x)[j]? = en[j]? := by
  unfold setO
  cases e : en[i]? with
  | none => simp only; rw [List.getElem?_set_ne (Ne.symm h)]
  | some s => cases s <;> (simp only; rw [List.getElem?_set_ne (Ne.symm h)])
theorem setO_len {en : En} {i : Nat} {x : T} : (setO en i x).length = en.length := by
  unfold setO
  cases e : en[i]? with
  | none => simp only; rw [List.length_set]
  | some s => cases s <;> (simp only; rw [List.length_set])
theorem setO_own_ne {en : En} {i j : Nat} {x : T} (h : j ≠ i) : ownAt (setO en i x) j = ownAt en j := by unfold ownAt; rw [setO_ne h]
theorem setO_at_ne {en : En} {i j : Nat} {x : T} (h : j ≠ i) : at_ (setO en i x) j = at_ en j := by unfold at_; rw [setO_ne h]
theorem Own.lst {K : PySem.W.Frag} {H : Hp} {v : V} {xs : List T} {F : List Addr} (h : Own K H v (.l xs) F) : ∃ a vs F', v = .ref a ∧ H a = some (.lst vs) ∧ Owns K H vs xs F' ∧ F = a :: F' := by
  cases h with
  | l h o => exact ⟨_, _, _, rfl, h, o, rfl⟩
theorem pst_upd {H : Hp} {a : Addr} {vs ws : List V} (h : H a = some (.lst vs)) : Pst H (upd H a (.lst ws)) := ⟨fun b us e => by
  by_cases hb : b = a
  · rw [hb, h] at e; cases e
  · rw [upd_ne hb]; exact e, fun b ob u e => by
  by_cases hb : b = a
  · rw [hb, h] at e; cases e
  · rw [upd_ne hb]; exact e⟩
/-- a list of ours has other items -/
theorem Aft.mut {K : PySem.W.Frag} {H0 H : Hp} {Fs0 Fs : Ft} {σ0 σ : L2.St} {en0 en : En} {G G' F F' : List Addr} {i : Nat} {xs xs' : List T} {vs vs' : List V} {a : Addr} (A : Aft K H0 Fs0 σ0 en0 H Fs σ en G) (e : ownAt en i = some (.l xs)) (hσ : σ[i]? = some (some (.ref a)))
    (ha : H a = some (.lst vs)) (hF : Fs i = a :: F) (o : Owns K H vs' xs' F') (nd : (F' ++ G').Nodup) (sub : ∀ c ∈ F' ++ G', c ∈ F ∨ c ∈ G) : Aft K H0 Fs0 σ0 en0 (upd H a (.lst vs')) (updF Fs i (a :: F')) σ (setO en i (.l xs')) G' := by
  have oi : ownAt en i ≠ none := by rw [e]; exact fun z => by cases z
  have ai : a ∈ Fs i := by rw [hF]; exact List.mem_cons_self
  have ndi := A.ok.nod i oi
  rw [hF] at ndi
  have aF : a ∉ F := (List.nodup_cons.mp ndi).1
  have aG : a ∉ G := fun m => A.dis a m ⟨i, ai⟩
  have aS : ∀ c ∈ F' ++ G', c ≠ a := fun c m z => (sub c m).elim (fun y => aF (z ▸ y)) fun y => aG (z ▸ y)
  have Fi : ∀ {c}, c ∈ F → c ∈ Fs i := fun {c} m => by rw [hF]; exact List.mem_cons_of_mem _ m
  have p := pst_upd (ws := vs') ha
  have nj : ∀ {j c}, j ≠ i → c ∈ F' ++ G' → c ∉ Fs j := fun {j c} hj m z => (sub c m).elim (fun y => A.ok.dis i j c (Ne.symm hj) oi (Fi y) z) fun y => A.dis c y ⟨j, z⟩
  have aj : ∀ {j}, j ≠ i → a ∉ Fs j := fun {j} hj z => A.ok.dis i j a (Ne.symm hj) oi ai z
  have own : ∀ j, ownAt (setO en i (.l xs')) j ≠ none → ownAt en j ≠ none := fun j h => by
    by_cases hj : j = i
    · rw [hj]; exact oi
    · rwa [setO_own_ne hj] at h
  have F'l : ∀ c ∈ F', c ∈ F' ++ G' := fun c m => List.mem_append_left _ m
  refine ⟨⟨by rw [setO_len]; exact A.ok.len, fun j y h => ?_, fun j h => ?_, fun j l c ne h m => ?_, fun j h => ?_⟩, (List.nodup_append.mp nd).2.1, fun c m z => ?_, ⟨A.stp.pst.trans p, fun c ob e n => ?_, fun c e => ?_, fun c m => ?_, fun c m => ?_⟩, fun j y h => ?_⟩
  · by_cases hj : j = i
    · subst hj
      rw [own_at (setO_own e)] at h; cases h
      exact ⟨_, hσ, by rw [updF_same]; exact .l upd_same (o.frame p fun c m ob e => by rw [upd_ne (aS c (F'l c m))]; exact e)⟩
    · rw [setO_at_ne hj] at h
      obtain ⟨v, h1, h2⟩ := A.ok.has j y h
      have h3 : Own K (upd H a (.lst vs')) v y (Fs j) := h2.frame p fun c m ob e => by
        have hc : c ≠ a := fun z => aj hj (by rw [← z]; exact m)
        rw [upd_ne hc]; exact e
      exact ⟨v, h1, by rw [updF_ne hj]; exact h3⟩
  · by_cases hj : j = i
    · rw [hj, updF_same]; exact List.nodup_cons.mpr ⟨fun m => aS a (F'l a m) rfl, (List.nodup_append.mp nd).1⟩
    · rw [updF_ne hj]; exact A.ok.nod j (own j h)
  · by_cases hj : j = i
    · rw [hj, updF_same] at m
      rw [updF_ne (by rw [← hj]; exact Ne.symm ne)]
      have hl : l ≠ i := by rw [← hj]; exact Ne.symm ne
      rcases List.mem_cons.mp m with rfl | m
      · exact aj hl
      · exact nj hl (F'l c m)
    · rw [updF_ne hj] at m
      by_cases hl : l = i
      · rw [hl, updF_same]
        intro z
        rcases List.mem_cons.mp z with rfl | z
        · exact aj hj m
        · exact nj hj (F'l c z) m
      · rw [updF_ne hl]; exact A.ok.dis j l c ne (own j h) m
  · by_cases hj : j = i
    · rw [hj, own_at (setO_own e)] at h; cases h
    · rw [updF_ne hj]; rw [setO_at_ne hj] at h; exact A.ok.emp j h
  · obtain ⟨j, z⟩ := z
    by_cases hj : j = i
    · rw [hj, updF_same] at z
      rcases List.mem_cons.mp z with rfl | z
      · exact aS _ (List.mem_append_right _ m) rfl
      · exact (List.nodup_append.mp nd).2.2 c z c m rfl
    · rw [updF_ne hj] at z; exact nj hj (List.mem_append_right _ m) z
  · have hc : c ≠ a := fun z => (A.stp.subO a (.inl ⟨i, oi, ai⟩)).elim (fun y => n (z ▸ y)) fun y => by rw [z, y] at e; cases e
    rw [upd_ne hc]; exact A.stp.keep c ob e n
  · by_cases hc : c = a
    · rw [hc, upd_same] at e; cases e
    · rw [upd_ne hc] at e; exact A.stp.dom c e
  · have back : ∀ c ∈ F' ++ G', InO en Fs c ∨ c ∈ G := fun c m => (sub c m).imp (fun y => ⟨i, oi, Fi y⟩) id
    rcases m with ⟨j, h, m⟩ | m
    · by_cases hj : j = i
      · rw [hj, updF_same] at m
        rcases List.mem_cons.mp m with rfl | m
        · exact A.stp.subO _ (.inl ⟨i, oi, ai⟩)
        · exact A.stp.subO c (back c (F'l c m))
      · rw [updF_ne hj] at m; exact A.stp.subO c (.inl ⟨j, own j h, m⟩)
    · exact A.stp.subO c (back c (List.mem_append_right _ m))
  · have back : ∀ c ∈ F' ++ G', InF Fs c ∨ c ∈ G := fun c m => (sub c m).imp (fun y => ⟨i, Fi y⟩) id
    rcases m with ⟨j, m⟩ | m
    · by_cases hj : j = i
      · rw [hj, updF_same] at m
        rcases List.mem_cons.mp m with rfl | m
        · exact A.stp.subA _ (.inl ⟨i, ai⟩)
        · exact A.stp.subA c (back c (F'l c m))
      · rw [updF_ne hj] at m; exact A.stp.subA c (.inl ⟨j, m⟩)
    · exact A.stp.subA c (back c (List.mem_append_right _ m))
  · by_cases hj : j = i
    · subst hj
      unfold setO at h
      cases es : en[j]? with
      | none => unfold ownAt at e; rw [es] at e; cases e
      | some s =>
        rw [es] at h
        cases s with
        | b x0 => exact A.bk j x0 es
        | _ => simp only [List.getElem?_set_self (own_lt e)] at h; cases h
    · rw [setO_ne hj] at h; exact A.bk j y h
section
variable {X : Cx} {W : WX} {e a b c : Expr} {es : List Expr} {pos apos : Pos} {m ma mb : En → RM T} {gi : En → R T}
def mApp (i : Nat) (m : En → RM T) : En → RM T := fun en => match ownAt en i with
  | some (.l _) => (m en).bind fun x en1 => match ownAt en1 i with
    | some (.l xs) => if xs.length < most then .ok (.d .non) (setO en1 i (.l (xs ++ [x]))) else .no
    | _ => .no
  | _ => .no
theorem ty_list {K : PySem.W.Frag} {H : Hp} {a : Addr} {vs : List V} (h : H a = some (.lst vs)) : tyV K "list" (.ref a) H := .inl ⟨rfl, _, SqL.of h⟩
theorem m_app (i : Nat) {x : Str} {p : Pos} (ha : PM X W e m) (hN : X.N[i]? = some x := by rfl) (hv : Vis X.env.scope x := by first | exact Or.inl rfl | exact Or.inr (Or.inl rfl) | exact Or.inr (Or.inr rfl)) (hd : (x == ("__debug__" : Str)) = false := by decide) (hcd : (x == ("__classdict__" : Str)) = false := by decide)
    (hbase : attributeBase (.Name x p) "append" X.env (eval (.Name x p) X.env) = eval (.Name x p) X.env := by rfl)
    (hfew : ((backTo pos (starEach [e] X.env)).all (fun x => !x.1) && (backToKw pos (keywordEach [] X.env)).all (fun x => x.1.isSome) && decide ([e].length + ([] : List Keyword).length + (if ([] : List Keyword).isEmpty then 0 else 1) < 30)) = true := by rfl)
    (hline : (apos.endLine == pos.line) = true := by rfl) (hs : starEach [e] X.env = (false, eval e X.env) :: starEach [] X.env := by rfl) (hplain : (backTo pos (starEach [] X.env)).any (·.1) = false := by rfl) :
    PM X W (.Call (.Attribute (.Name x p) "append" apos) [e] [] pos) (mApp i m) := by
  obtain ⟨t, pp, s⟩ := ha
  refine ⟨_, pe_bm PySem.F.plainAttrs_list PySem.F.slot_list_append PySem.F.type_list_append mt_append (pe_var hN hv hd hcd) (pa_cons pp pa_nil hs) hbase hfew hline hs hplain, fun σ H en Fs Q ok q => ?_⟩
  unfold mApp at q
  cases e0 : ownAt en i with
  | none => rw [e0] at q; exact q.elim
  | some x0 =>
    rw [e0] at q
    cases x0 with
    | d d => exact q.elim
    | l xs0 =>
      obtain ⟨v0, h0, o0⟩ := ok.has i _ (own_at e0)
      obtain ⟨a0, vs0, F0, rfl, hH0, _, _⟩ := o0.lst
      refine ⟨_, h0, ty_list hH0, s σ H en Fs _ ok ?_⟩
      simp only at q
      cases e1 : m en with
      | ok x en1 =>
        rw [e1] at q
        simp only [RM.bind_ok] at q
        intro v H' Fs' G A o
        cases e2 : ownAt en1 i with
        | none => rw [e2] at q; exact q.elim
        | some x1 =>
          rw [e2] at q
          cases x1 with
          | d d => exact q.elim
          | l xs =>
            simp only at q
            split at q
            · rename_i hz
              obtain ⟨v1, h1, o1⟩ := A.ok.has i _ (own_at e2)
              rw [h0] at h1; cases h1
              obtain ⟨a1, vs, F, e3, hH, ow, hF⟩ := o1.lst
              cases e3
              have oi : ownAt en1 i ≠ none := by rw [e2]; exact fun z => by cases z
              have nF := A.ok.nod i oi
              rw [hF] at nF
              refine ⟨a0, vs, v, rfl, rfl, hH, by rw [most_eq, ow.length]; exact hz, ?_⟩
              have A2 := A.mut (G' := []) e2 h0 hH hF (ow.snoc o) (by
                rw [List.append_nil]
                exact List.nodup_append.mpr ⟨(List.nodup_cons.mp nF).2, A.nod, fun c hc d hd z => A.dis d hd ⟨i, by rw [hF, ← z]; exact List.mem_cons_of_mem _ hc⟩⟩) (fun c m => by rw [List.append_nil] at m; exact List.mem_append.mp m)
              exact q _ _ _ [] A2 (.d .non)
            · exact q.elim
      | ex c en1 => rw [e1] at q; exact q
      | no => rw [e1] at q; exact q
/-- the last one apart -/
theorem Owns.last {K : PySem.W.Frag} {H : Hp} : ∀ {vs : List V} {xs : List T} {F : List Addr} {x : T}, Owns K H vs xs F → xs.getLast? = some x → ∃ v F' G, vs[vs.length - 1]? = some v ∧ Owns K H vs.dropLast xs.dropLast F' ∧ Own K H v x G ∧ F = F' ++ G
  | _, _, _, x, .nil, h => by cases h
  | _, _, _, x, .cons (v := v) (F := F) o .nil, h => by
    cases h
    exact ⟨v, [], F, rfl, .nil, o, by rw [List.append_nil]; rfl⟩
  | _, _, _, x, .cons (v := v) (x := y) (F := F) o (.cons (v := w) (vs := vs) (x := z) (xs := xs) (F := F2) (G := G2) o2 t), h => by
    rw [List.getLast?_cons_cons] at h
    obtain ⟨u, F', G, h1, h2, h3, h4⟩ := Owns.last (.cons o2 t) h
    refine ⟨u, F ++ F', G, ?_, .cons o h2, h3, by rw [h4, List.append_assoc]⟩
    simpa using h1
def mPop (i : Nat) : En → RM T := fun en => match ownAt en i with
  | some (.l xs) => match xs.getLast? with
    | some x => .ok x (setO en i (.l xs.dropLast))
    | none => .no
  | _ => .no
theorem m_pop (i : Nat) {x : Str} {p : Pos} (hN : X.N[i]? = some x := by rfl) (hv : Vis X.env.scope x := by first | exact Or.inl rfl | exact Or.inr (Or.inl rfl) | exact Or.inr (Or.inr rfl)) (hd : (x == ("__debug__" : Str)) = false := by decide) (hcd : (x == ("__classdict__" : Str)) = false := by decide)
    (hbase : attributeBase (.Name x p) "pop" X.env (eval (.Name x p) X.env) = eval (.Name x p) X.env := by rfl) (hline : (apos.endLine == pos.line) = true := by rfl) :
    PM X W (.Call (.Attribute (.Name x p) "pop" apos) [] [] pos) (mPop i) := by
  refine ⟨_, pe_bm0 PySem.F.plainAttrs_list PySem.F.slot_list_pop PySem.F.type_list_pop mt_pop (pe_var hN hv hd hcd) hbase hline, fun σ H en Fs Q ok q => ?_⟩
  unfold mPop at q
  cases e0 : ownAt en i with
  | none => rw [e0] at q; exact q.elim
  | some x0 =>
    rw [e0] at q
    cases x0 with
    | d d => exact q.elim
    | l xs =>
      simp only at q
      cases el : xs.getLast? with
      | none => rw [el] at q; exact q.elim
      | some x =>
        rw [el] at q
        obtain ⟨v0, h0, o0⟩ := ok.has i _ (own_at e0)
        obtain ⟨a0, vs, F, rfl, hH, ow, hF⟩ := o0.lst
        obtain ⟨v, F', G, h1, h2, h3, h4⟩ := ow.last el
        have oi : ownAt en i ≠ none := by rw [e0]; exact fun z => by cases z
        have nF := ok.nod i oi
        rw [hF] at nF
        refine ⟨_, h0, ty_list hH, a0, vs, v, rfl, rfl, hH, h1, ?_⟩
        have A2 := (Aft.refl ok).mut (G' := G) e0 h0 hH hF h2 (by rw [← h4]; exact (List.nodup_cons.mp nF).2) (fun c m => .inl (by rw [h4]; exact m))
        have nG : ∀ c ∈ G, c ≠ a0 := fun c m z => (List.nodup_cons.mp nF).1 (by rw [h4, ← z]; exact List.mem_append_right _ m)
        exact q v _ _ G A2 (h3.frame (pst_upd hH) fun c m ob e => by rw [upd_ne (nG c m)]; exact e)
/-! ### x[i] = e -/
theorem Owns.put {K : PySem.W.Frag} {H : Hp} {v : V} {x : T} {G : List Addr} (p : Own K H v x G) : ∀ {vs : List V} {xs : List T} {F : List Addr} {j : Nat}, Owns K H vs xs F → j < xs.length → (F ++ G).Nodup → ∃ F', Owns K H (vs.set j v) (xs.set j x) F' ∧ F'.Nodup ∧ ∀ c ∈ F', c ∈ F ∨ c ∈ G
  | _, _, _, j, .nil, h, _ => absurd h (Nat.not_lt_zero _)
  | _, _, _, 0, .cons (F := F) (G := F2) o t, _, nd => by
    refine ⟨G ++ F2, .cons p t, ?_, fun c m => (List.mem_append.mp m).elim .inr fun z => .inl (List.mem_append_right _ z)⟩
    obtain ⟨n1, n2, n3⟩ := List.nodup_append.mp nd
    exact List.nodup_append.mpr ⟨n2, (List.nodup_append.mp n1).2.1, fun c hc d hd z => n3 d (List.mem_append_right _ hd) c hc z.symm⟩
  | _, _, _, j + 1, .cons (F := F) (G := F2) o t, h, nd => by
    obtain ⟨n1, n2, n3⟩ := List.nodup_append.mp nd
    obtain ⟨m1, m2, m3⟩ := List.nodup_append.mp n1
    obtain ⟨F', h1, h2, h3⟩ := Owns.put p t (Nat.lt_of_succ_lt_succ h) (List.nodup_append.mpr ⟨m2, n2, fun c hc d hd z => n3 c (List.mem_append_right _ hc) d hd z⟩)
    refine ⟨F ++ F', .cons o h1, List.nodup_append.mpr ⟨m1, h2, fun c hc d hd z => (h3 d hd).elim (fun y => m3 c hc d y z) fun y => n3 c (List.mem_append_left _ hc) d y z⟩, fun c m => (List.mem_append.mp m).elim (fun z => .inl (List.mem_append_left _ z)) fun z => (h3 c z).imp (List.mem_append_right _) id⟩
def fStore (i : Nat) (gi : En → R T) (m : En → RM T) : En → SR := fun en => (m en).s fun x en1 => match gi en1 with
  | .ok (.d (.int k)) => match ownAt en1 i with
    | some (.l xs) => match ixN xs.length k with
      | some j => .nx (setO en1 i (.l (xs.set j x)))
      | none => .no
    | _ => .no
  | _ => .no
theorem ixN_lt {n j : Nat} {k : Int} (h : ixN n k = some j) : j < n := (ixN_seq h).2.1
theorem s_store (i : Nat) {x : Str} {p tpos : Pos} {ix : Expr} (he : PM X W e m) (hi : PV X W ix gi) (hN : X.N[i]? = some x := by rfl) (hv : Vis X.env.scope x := by first | exact Or.inl rfl | exact Or.inr (Or.inl rfl) | exact Or.inr (Or.inr rfl)) (hd : (x == ("__debug__" : Str)) = false := by decide) (hcd : (x == ("__classdict__" : Str)) = false := by decide)
    (ha : ∀ v, assign (.Subscript (.Name x p) ix tpos) X.env v = (do
      let ov ← holding [v] (eval (.Name x p) X.env)
      let iv ← holding [v, ov] (eval ix X.env); standAt tpos
      holding [v, ov, iv] (setItem ov iv v); release [v, ov, iv] []) := by intro _; rfl) (hs : swapsWithSole [.Subscript (.Name x p) ix tpos] e pos.line X.env = pure false := by rfl) (hw : swappedStores [.Subscript (.Name x p) ix tpos] e X.env = pure none := by rfl)
    (h1 : (assignEach [.Subscript (.Name x p) ix tpos] X.env).map (·.2) = [assign (.Subscript (.Name x p) ix tpos) X.env] := by rfl) : PSt X W (.Assign [.Subscript (.Name x p) ix tpos] e pos) (fStore i gi m) := by
  obtain ⟨t, pp, s⟩ := he
  obtain ⟨t2, p2, s2⟩ := hi
  refine ⟨_, ps_asg pp (pg_sub (pe_var hN hv hd hcd) p2 set_list ha) hs hw h1, fun σ H en Fs D ok q => s σ H en Fs _ ok ?_⟩
  unfold fStore at q
  cases e1 : m en with
  | ok x en1 =>
    rw [e1] at q
    simp only [RM.s_ok] at q
    intro v H' Fs' G A o
    cases eg : gi en1 with
    | ex c => rw [eg] at q; exact q.elim
    | no => rw [eg] at q; exact q.elim
    | ok y =>
      rw [eg] at q
      cases y with
      | l _ => exact q.elim
      | d y =>
        cases y with
        | int k =>
          simp only at q
          cases e2 : ownAt en1 i with
          | none => rw [e2] at q; exact q.elim
          | some x1 =>
            rw [e2] at q
            cases x1 with
            | d d => exact q.elim
            | l xs =>
              simp only at q
              cases ej : ixN xs.length k with
              | none => rw [ej] at q; exact q.elim
              | some j =>
                rw [ej] at q
                obtain ⟨v1, h1, o1⟩ := A.ok.has i _ (own_at e2)
                refine ⟨v1, h1, s2 σ H' en1 _ A.ok.ven ?_⟩
                rw [eg]
                intro w H2 G2 sm ow2
                have r := ow2.rep
                cases r
                have A' : Aft X.K H Fs σ en H2 Fs' σ en1 G := ⟨A.ok.same sm, A.nod, A.dis, ⟨A.stp.pst.trans (.of sm), fun c ob e n => sm _ _ (A.stp.keep c ob e n), fun c e => A.stp.dom c (sm.free e), A.stp.subO, A.stp.subA⟩, A.bk⟩
                obtain ⟨a0, vs, F, rfl, hH, ow, hF⟩ := (o1.mono sm).lst
                have oi : ownAt en1 i ≠ none := by rw [e2]; exact fun z => by cases z
                have nF := A.ok.nod i oi
                rw [hF] at nF
                have o' := o.mono sm
                obtain ⟨F', n1, n2, n3⟩ := ow.put o' (ixN_lt ej) (List.nodup_append.mpr ⟨(List.nodup_cons.mp nF).2, A.nod, fun c hc d hd z => A.dis d hd ⟨i, by rw [hF, ← z]; exact List.mem_cons_of_mem _ hc⟩⟩)
                exact ⟨a0, vs, k, j, rfl, rfl, hH, by rw [ow.length]; exact ej, q _ _ σ (A'.mut (G' := []) e2 h1 hH hF n1 (by rw [List.append_nil]; exact n2) (fun c m => n3 c (by rwa [List.append_nil] at m)))⟩
        | _ => exact q.elim
  | ex c en1 => rw [e1] at q; exact q
  | no => rw [e1] at q; exact q
end
end Z
/-! Z: comprehensions that change the frame's lists; names = comprehensions. -/
namespace Z
open PySem PySem.Spec L2
open PyProof.Rows hiding St

theorem wipeE_get (en : En) (i : Nat) : ∀ vs : List Nat, (wipeE en vs)[i]? = if i ∈ vs then (en[i]?).map fun _ => Sl.n else en[i]?
  | [] => by simp [wipeE]
  | v :: vs => by
    unfold wipeE
    by_cases e : v = i
    · subst e
      rw [if_pos List.mem_cons_self]
      by_cases hl : v < en.length
      · rw [List.getElem?_set_self (by rw [wipeE_len]; exact hl), List.getElem?_eq_getElem hl]; rfl
      · rw [List.getElem?_eq_none (by rw [List.length_set, wipeE_len]; omega), List.getElem?_eq_none (by omega)]; rfl
    · rw [List.getElem?_set_ne e, wipeE_get en i vs]
      have : (i ∈ v :: vs) ↔ i ∈ vs := by simp only [List.mem_cons]; exact ⟨fun h => h.elim (fun z => absurd z.symm e) id, .inr⟩
      by_cases hm : i ∈ vs
      · rw [if_pos hm, if_pos (this.mpr hm)]
      · rw [if_neg hm, if_neg fun z => hm (this.mp z)]
def wipeF (Fs : Ft) (vs : List Nat) : Ft := fun i => if i ∈ vs then [] else Fs i
theorem wipeF_in {Fs : Ft} {vs : List Nat} {i : Nat} {a : Addr} (m : a ∈ wipeF Fs vs i) : i ∉ vs ∧ a ∈ Fs i := by
  unfold wipeF at m
  split at m
  · cases m
  · exact ⟨by assumption, m⟩
theorem wipe_at {en : En} {vs : List Nat} {i : Nat} {x : T} (h : at_ (wipeE en vs) i = some x) : i ∉ vs ∧ at_ en i = some x := by
  unfold at_ at h ⊢
  rw [wipeE_get] at h
  by_cases hm : i ∈ vs
  · rw [if_pos hm] at h; cases e : en[i]? <;> (rw [e] at h; cases h)
  · rw [if_neg hm] at h; exact ⟨hm, h⟩
theorem wipe_own {en : En} {vs : List Nat} {i : Nat} (h : ownAt (wipeE en vs) i ≠ none) : i ∉ vs ∧ ownAt en i ≠ none := by
  unfold ownAt at h ⊢
  rw [wipeE_get] at h
  by_cases hm : i ∈ vs
  · rw [if_pos hm] at h; cases e : en[i]? <;> (rw [e] at h; exact absurd rfl h)
  · rw [if_neg hm] at h; exact ⟨hm, h⟩
/-- the names vs forgotten -/
theorem Aft.wipeTo {K : PySem.W.Frag} {H0 H : Hp} {Fs0 Fs : Ft} {σ0 σ σ' : L2.St} {en0 en : En} {G : List Addr} {vs : List Nat} (a : Aft K H0 Fs0 σ0 en0 H Fs σ en G) (hs : ∀ i, i ∉ vs → σ'[i]? = σ[i]?) (hl : en.length ≤ σ'.length) : Aft K H0 Fs0 σ0 en0 H (wipeF Fs vs) σ' (wipeE en vs) G := by
  refine ⟨⟨by rw [wipeE_len]; exact hl, fun i x h => ?_, fun i h => ?_, fun i j c ne h m => ?_, fun i h => ?_⟩, a.nod, fun c m z => ?_, a.stp.imp (fun c z => z.imp (fun ⟨i, h, m⟩ => ⟨i, (wipe_own h).2, (wipeF_in m).2⟩) id) (fun c z => z.imp (fun ⟨i, m⟩ => ⟨i, (wipeF_in m).2⟩) id), fun i x h => ?_⟩
  · obtain ⟨hn, h⟩ := wipe_at h
    obtain ⟨v, h1, h2⟩ := a.ok.has i x h
    exact ⟨v, by rw [hs i hn]; exact h1, by unfold wipeF; rw [if_neg hn]; exact h2⟩
  · obtain ⟨hn, h⟩ := wipe_own h
    unfold wipeF; rw [if_neg hn]; exact a.ok.nod i h
  · obtain ⟨hn, h⟩ := wipe_own h
    exact fun z => a.ok.dis i j c ne h (wipeF_in m).2 (wipeF_in z).2
  · by_cases hn : i ∈ vs
    · unfold wipeF; rw [if_pos hn]
    · unfold wipeF; rw [if_neg hn]
      refine a.ok.emp i ?_
      unfold at_ at h ⊢
      rw [wipeE_get, if_neg hn] at h
      exact h
  · obtain ⟨i, z⟩ := z
    exact a.dis c m ⟨i, (wipeF_in z).2⟩
  · rw [wipeE_get] at h
    by_cases hn : i ∈ vs
    · rw [if_pos hn] at h; cases e : en[i]? <;> (rw [e] at h; cases h)
    · rw [if_neg hn] at h
      obtain ⟨h1, h2⟩ := a.bk i x h
      exact ⟨h1, by rw [hs i hn]; exact h2⟩
theorem setS_len : ∀ (σ : L2.St) (ws : List (Nat × V)), (setS σ ws).length = σ.length
  | _, [] => rfl
  | σ, (i, v) :: r => by
    show (setS (σ.set i (some v)) r).length = _
    rw [setS_len, List.length_set]
/-- a list that is held aside grows -/
theorem Aft.grow {K : PySem.W.Frag} {H0 H : Hp} {Fs0 Fs : Ft} {σ0 σ : L2.St} {en0 en : En} {F G : List Addr} {D : Addr} {vs : List V} {ts : List T} {v : V} {y : T} (a : Aft K H0 Fs0 σ0 en0 H Fs σ en (D :: F ++ G)) (hD : H D = some (.lst vs)) (o : Owns K H vs ts F) (oy : Own K H v y G) :
    Aft K H0 Fs0 σ0 en0 (upd H D (.lst (vs ++ [v]))) Fs σ en (D :: (F ++ G)) ∧ Owns K (upd H D (.lst (vs ++ [v]))) (vs ++ [v]) (ts ++ [y]) (F ++ G) := by
  have p := pst_upd (ws := vs ++ [v]) hD
  have nd : (D :: (F ++ G)).Nodup := a.nod
  have nD : ∀ c ∈ F ++ G, c ≠ D := fun c m z => (List.nodup_cons.mp nd).1 (z ▸ m)
  have inD : D ∈ D :: F ++ G := List.mem_cons_self
  have up : ∀ {c ob}, c ≠ D → H c = some ob → upd H D (.lst (vs ++ [v])) c = some ob := fun {c ob} h e => by rw [upd_ne h]; exact e
  have fD : ∀ {c}, InF Fs c → c ≠ D := fun {c} m z => a.dis D inD (z ▸ m)
  refine ⟨⟨⟨a.ok.len, fun i x h => ?_, a.ok.nod, a.ok.dis, a.ok.emp⟩, nd, a.dis, ⟨a.stp.pst.trans p, fun c ob e n => ?_, fun c e => ?_, a.stp.subO, a.stp.subA⟩, a.bk⟩, ?_⟩
  · obtain ⟨w, h1, h2⟩ := a.ok.has i x h
    exact ⟨w, h1, h2.frame p fun c m ob e => up (fD ⟨i, m⟩) e⟩
  · have hc : c ≠ D := fun z => (a.stp.subO D (.inr inD)).elim (fun y => n (z ▸ y)) fun y => by rw [z, y] at e; cases e
    exact up hc (a.stp.keep c ob e n)
  · by_cases hc : c = D
    · rw [hc, upd_same] at e; cases e
    · rw [upd_ne hc] at e; exact a.stp.dom c e
  · exact (o.frame p fun c m ob e => up (nD c (List.mem_append_left _ m)) e).snoc (oy.frame p fun c m ob e => up (nD c (List.mem_append_right _ m)) e)
def lcM (vs : List Nat) (k : T → Option Ass) (tt : En → R Bool) (te : En → RM T) : List T → En → RM (List T)
  | [], en => .ok [] en
  | x :: xs, en => match (kD k x).bind fun as => stowD (wipeE en vs) as with
    | none => .no
    | some en2 => match tt en2 with
      | .ok true => match te en2 with
        | .ok y en4 => (lcM vs k tt te xs (wipeE en4 vs)).bind fun ys en' => .ok (y :: ys) en'
        | _ => .no
      | .ok false => lcM vs k tt te xs (wipeE en2 vs)
      | _ => .no
def RM.calm {α : Type} : RM α → RM α
  | .ok a en => .ok a en
  | _ => .no
def mLc (vs : List Nat) (mi : En → RM (List T)) (k : T → Option Ass) (tt : En → R Bool) (te : En → RM T) : En → RM T := fun en => (mi en).bind fun xs en1 => (lcM vs k tt te xs en1).calm.bind fun ys en2 => if ys.length < most then .ok (.l ys) en2 else .no
section
variable (X : Cx) (W : WX)
def cM (m : En → RM T) : TE := fun σ H Q => ∃ en Fs, EOk X.K H σ en Fs ∧ MQ X W H Fs σ en Q (m en)
def cMI (m : En → RM (List T)) : TI := fun σ H Q => ∃ en Fs, EOk X.K H σ en Fs ∧ MI X W H Fs σ en Q (m en)
end
theorem PM.can {X : Cx} {W : WX} {e : Expr} {m : En → RM T} (h : PM X W e m) : PE X e (cM X W m) := by
  obtain ⟨t, p, s⟩ := h
  exact ⟨fun pins st σ H Q I ⟨en, Fs, ok, q⟩ => p.run pins st σ H Q I (s σ H en Fs Q ok q)⟩
theorem PMI.can {X : Cx} {W : WX} {tg e : Expr} {m : En → RM (List T)} (h : PMI X W tg e m) : PI X tg e (cMI X W m) := by
  obtain ⟨t, p, s⟩ := h
  exact ⟨fun pins st σ H Q I ⟨en, Fs, ok, q⟩ => p.run pins st σ H Q I (s σ H en Fs Q ok q)⟩
theorem wipe_ne {σ : L2.St} {i : Nat} {vs : List Nat} (h : i ∉ vs) : (wipe σ vs)[i]? = σ[i]? := by rw [wipe_get, if_neg h]
section
variable {X : Cx} {W : WX} {elt tg it : Expr} {ifs : List Expr} {scope : Scope} {pos : Pos} {mi : En → RM (List T)} {gi : En → R (List T)} {k : T → Option Ass} {tt : En → R Bool} {te : En → RM T} {tq : En → R T}
theorem sp_lcM {own : List (Str × Nat)} (hk : ∀ x as, k x = some as → ∀ p ∈ as, p.1 ∈ own.map (·.2)) : ∀ σ H en Fs Q, EOk X.K H σ en Fs → MQ X W H Fs σ en Q (mLc (own.map (·.2)) mi k tt te en) → tLc (cMI X W mi) (tgt X.K k) (cT X W0 tt) (cM X W0 te) (own.map (·.2)) σ H Q := by
  intro σ H en Fs Q ok q
  refine ⟨en, Fs, ok, ?_⟩
  unfold mLc at q
  cases e : mi en with
  | ex c en1 => rw [e] at q; exact q
  | no => rw [e] at q; exact q
  | ok xs en1 =>
    rw [e] at q
    intro J H1 Fs1 Gi a1 iok tG D nD
    simp only [RM.bind_ok] at q
    cases el : lcM (own.map (·.2)) k tt te xs en1 with
    | ex c en2 => rw [el] at q; exact q.elim
    | no => rw [el] at q; exact q.elim
    | ok ys enf =>
      rw [el] at q
      simp only [RM.calm, RM.bind_ok] at q
      split at q
      · rename_i yz
        have base : Aft X.K H1 Fs1 σ en1 (upd H1 D (.lst [])) Fs1 σ en1 [D] := .quiet a1.ok (same_new nD) (fresh1 nD)
        have nDG : D ∉ Gi := fun m => tG D m nD
        refine lc_it iok (fun i H2 => ∃ en2 Fs2 vs ts F rest, Aft X.K H Fs σ en H2 Fs2 σ en2 (D :: F) ∧ H2 D = some (.lst vs) ∧ Owns X.K H2 vs ts F ∧ Kept Gi H1 H2 ∧ (∀ c ∈ Gi, ¬ InO en2 Fs2 c) ∧ lcM (own.map (·.2)) k tt te (xs.drop i) en2 = .ok rest enf ∧ ts ++ rest = ys)
          ⟨en1, Fs1, [], [], [], ys, a1.drop.trans base, upd_same, .nil, .of (same_new nD), fun c m z => a1.dis c m z.a, by rw [List.drop_zero]; exact el, rfl⟩ (fun i H2 _ h => ?_) (fun i v H2 H3 hi h y => ?_) (fun H2 h => ?_)
        · obtain ⟨_, _, _, _, _, _, _, _, _, kp, _⟩ := h
          exact kp
        · obtain ⟨en2, Fs2, vs, ts, F, rest, A, hD, ow, kp, nO, er, eq⟩ := h
          obtain ⟨s3, x, Fx, hx, ox, hF⟩ := y
          have hd : xs.drop i = x :: xs.drop (i + 1) := by
            rw [List.drop_eq_getElem_cons hi]
            rw [List.getElem?_eq_getElem hi] at hx
            rw [Option.some.inj hx]
          rw [hd] at er
          unfold lcM at er
          cases ek : kD k x with
          | none => rw [ek] at er; cases er
          | some as =>
            rw [ek] at er
            simp only [Option.bind_some] at er
            obtain ⟨d, rfl, ek⟩ : ∃ d, x = .d d ∧ k x = some as := by
              cases x with
              | d d => exact ⟨d, rfl, ek⟩
              | l _ => cases ek
            have ox : Own X.K H3 v (.d d) [] := .d ox.rep
            cases es : stowD (wipeE en2 (own.map (·.2))) as with
            | none => rw [es] at er; cases er
            | some en3 =>
              rw [es] at er
              simp only at er
              refine ⟨_, [], as, ox, ek, fun ws aok => ⟨by rw [wipe_sets aok (hk _ as ek), wipe_wipe], ?_⟩⟩
              have A3 : Aft X.K H Fs σ en H3 Fs2 σ en2 (D :: F) := by
                have b : Aft X.K H2 Fs2 σ en2 H3 Fs2 σ en2 [] := .quiet A.ok s3 Fresh.nil
                have := A.held (fun c m => by
                  rcases List.mem_cons.mp m with rfl | m
                  · rw [hD]; exact fun z => by cases z
                  · exact ow.there c m) b
                rwa [List.append_nil] at this
              have A4 := A3.wipeTo (σ' := wipe σ (own.map (·.2))) (vs := own.map (·.2)) (fun j hj => wipe_ne hj) (by rw [wipe_length]; exact A3.ok.len)
              obtain ⟨Fs3, B⟩ := (Aft.refl A4.ok).putD aok es
              have ow3 := ow.mono s3
              have hD3 := s3 _ _ hD
              have tDF : ∀ c ∈ D :: F, H3 c ≠ none := fun c m => by
                rcases List.mem_cons.mp m with rfl | m
                · rw [hD3]; exact fun z => by cases z
                · exact ow3.there c m
              have AB := A4.held tDF B
              rw [List.append_nil] at AB
              have kp3 : Kept Gi H1 H3 := kp.trans (.of s3)
              have tG3 : ∀ c ∈ Gi, H3 c ≠ none := fun c m z => by
                cases e1 : H1 c with
                | none => exact tG c m e1
                | some o => rw [kp3.2 c m o e1] at z; cases z
              have nO3 : ∀ c ∈ Gi, ¬ InO en3 Fs3 c := fun c m z => (B.stp.subO c (.inl z)).elim (fun ⟨j, h, y⟩ => nO c m ⟨j, (wipe_own h).2, (wipeF_in y).2⟩) (tG3 c m)
              have len2 : (setS (wipe σ (own.map (·.2))) ws).length = σ.length := by rw [setS_len, wipe_length]
              have same2 : ∀ j, j ∉ own.map (·.2) → σ[j]? = (setS (wipe σ (own.map (·.2))) ws)[j]? := fun j hj => by
                have := wipe_sets (σ := wipe σ (own.map (·.2))) aok (hk _ as ek)
                have t := congrArg (fun l : L2.St => l[j]?) this
                simp only [wipe_ne hj] at t
                exact t.symm
              refine ⟨en3, B.ok.ven, ?_⟩
              cases et : tt en3 with
              | ex c => rw [et] at er; cases er
              | no => rw [et] at er; cases er
              | ok b =>
                rw [et] at er
                intro H4 s4
                have hD4 := s4 _ _ hD3
                have ow4 := ow3.mono s4
                have AB4 : Aft X.K H Fs σ en H4 Fs3 (setS (wipe σ (own.map (·.2))) ws) en3 (D :: F) := by
                  have := AB.held tDF (.quiet AB.ok s4 Fresh.nil)
                  rwa [List.append_nil] at this
                cases b with
                | false =>
                  simp only [Bool.false_eq_true, if_false] at er ⊢
                  refine ⟨_, _, vs, ts, F, rest, AB4.wipeTo same2 (by rw [← len2]; exact AB4.ok.len), hD4, ow4, kp3.trans (.of s4), fun c m ⟨j, h, y⟩ => nO3 c m ⟨j, (wipe_own h).2, (wipeF_in y).2⟩, er, eq⟩
                | true =>
                  simp only [if_true] at er ⊢
                  refine ⟨en3, Fs3, AB4.ok, ?_⟩
                  cases ee : te en3 with
                  | ex c en5 => rw [ee] at er; cases er
                  | no => rw [ee] at er; cases er
                  | ok y en5 =>
                    rw [ee] at er
                    simp only at er
                    cases e2 : lcM (own.map (·.2)) k tt te (xs.drop (i + 1)) (wipeE en5 (own.map (·.2))) with
                    | ex c en6 => rw [e2] at er; cases er
                    | no => rw [e2] at er; cases er
                    | ok rs en6 =>
                      rw [e2] at er
                      simp only [RM.bind_ok] at er
                      cases er
                      intro v5 H5 Fs5 G5 C o5
                      have nDF : ∀ c ∈ D :: F, ¬ InF Fs3 c := fun c m => AB4.dis c m
                      have hD5 : H5 D = some (.lst vs) := C.stp.keep D _ hD4 fun z => nDF D List.mem_cons_self z.a
                      have ow5 := (C.stp.frames (fun _ z => z.a) ow4 fun c m => nDF c (List.mem_cons_of_mem _ m)).1
                      have tz : ts.length < most := by rw [← eq, List.length_append] at yz; omega
                      have tDF4 : ∀ c ∈ D :: F, H4 c ≠ none := fun c m z => tDF c m (s4.free z)
                      have A6 := (AB4.held tDF4 C).wipeTo same2 (by rw [← len2]; exact C.ok.len)
                      obtain ⟨A7, ow7⟩ := A6.grow hD5 ow5 o5
                      refine ⟨vs, hD5, by rw [most_eq, ow5.length]; exact tz, _, _, vs ++ [v5], ts ++ [y], F ++ G5, rs, A7, upd_same, ow7, ?_, fun c m ⟨j, h, z⟩ => ?_, e2, by rw [← eq, List.append_assoc]; rfl⟩
                      · exact kept_grow (K := X.K) (H0 := H) (H3 := H) ((kp3.trans (.of s4)).trans ⟨C.stp.pst, fun c m o e => C.stp.keep c o e (nO3 c m)⟩) hD5 nDG
                      · exact (C.stp.subO c (.inl ⟨j, (wipe_own h).2, (wipeF_in z).2⟩)).elim (nO3 c m) fun z => tG3 c m (s4.free z)
        · obtain ⟨en2, Fs2, vs, ts, F, rest, A, hD, ow, kp, nO, er, eq⟩ := h
          rw [List.drop_length] at er
          cases er
          rw [List.append_nil] at eq
          subst eq
          exact q _ H2 Fs2 (D :: F) A (.l hD ow)
      · exact q.elim
variable (own : List (Str × Nat))
theorem m_lc (cz : Cz X W) (hi : PMI X W tg it mi) (ok : blkC X.N X.env.scope scope own = true) (hk : ∀ x as, k x = some as → ∀ p ∈ as, p.1 ∈ own.map (·.2))
    (hg : ∀ (s : Shared) (H : Hp) (C : Addr) (cl : List (Str × Addr)) (fp : List Addr), PTg (X.blk s H scope (compEnvC scope cl C X.env) fp) tg k) (ht : ∀ (s : Shared) (H : Hp) (C : Addr) (cl : List (Str × Addr)) (fp : List Addr), PCs (X.blk s H scope (compEnvC scope cl C X.env) fp) W0 ifs tt)
    (he : ∀ (s : Shared) (H : Hp) (C : Addr) (cl : List (Str × Addr)) (fp : List Addr), PM (X.blk s H scope (compEnvC scope cl C X.env) fp) W0 elt te) (hs : ∀ x, foldedSetIterable it X.env x = pure x := by intro _; rfl) :
    PM X W (.ListComp elt [⟨tg, it, ifs, 0⟩] scope pos) (mLc (own.map (·.2)) mi k tt te) :=
  ⟨_, pe_lc (own := own) (g := tgt X.K k) (tt := cT X W0 tt) (te := cM X W0 te) cz.calm cz.nd hi.can (blkOk_by ok) hg ht (fun s H C cl fp => (he s H C cl fp).can) hs, sp_lcM hk⟩
/-- name = [..] -/
theorem s_setLc (i : Nat) {y : Str} {py spos : Pos} (cz : Cz X W) (hi : PIv X W tg it gi) (ok : blkC X.N X.env.scope scope own = true) (hk : ∀ x as, k x = some as → ∀ p ∈ as, p.1 ∈ own.map (·.2))
    (hg : ∀ (s : Shared) (H : Hp) (C : Addr) (cl : List (Str × Addr)) (fp : List Addr), PTg (X.blk s H scope (compEnvC scope cl C X.env) fp) tg k) (ht : ∀ (s : Shared) (H : Hp) (C : Addr) (cl : List (Str × Addr)) (fp : List Addr), PCs (X.blk s H scope (compEnvC scope cl C X.env) fp) W0 ifs tt)
    (he : ∀ (s : Shared) (H : Hp) (C : Addr) (cl : List (Str × Addr)) (fp : List Addr), PN (X.blk s H scope (compEnvC scope cl C X.env) fp) W0 elt tq) (hy : X.N[i]? = some y := by rfl) (hyl : X.env.scope.names.lookup y = some .local := by rfl)
    (hsw : swapsWith (.ListComp elt [⟨tg, it, ifs, 0⟩] scope pos) (some (.Name y py)) spos.line X.env = pure true := by exact sw_true rfl rfl rfl (by decide +kernel)) (hs : ∀ x, foldedSetIterable it X.env x = pure x := by intro _; rfl) :
    PSt X W (.Assign [.Name y py] (.ListComp elt [⟨tg, it, ifs, 0⟩] scope pos) spos) (fSet i (lft (gLc (own.map (·.2)) gi k tt tq))) := by
  refine ⟨_, ps_setLc (own := own) (g := tgt X.K k) (tt := cT X W0 tt) (te := cN X W0 tq) cz.calm cz.nd hy hyl hsw hi.can (blkOk_by ok) hg ht (fun s H C cl fp => (he s H C cl fp).can) hs, sp_set ?_⟩
  intro σ H en Fs Q okE q
  refine sp_lc (W := W) hk σ H en Q okE.ven ?_
  unfold lft at q
  cases e : gLc (own.map (·.2)) gi k tt tq en with
  | ok x => rw [e] at q; exact fun v H' G sm o fr => q v H' Fs G (.quiet okE sm fr) o
  | ex c => rw [e] at q; exact XQ.xm (W := W) okE q
  | no => rw [e] at q; exact q
theorem s_setLcM (i : Nat) {y : Str} {py spos : Pos} (cz : Cz X W) (hi : PMI X W tg it mi) (ok : blkC X.N X.env.scope scope own = true) (hk : ∀ x as, k x = some as → ∀ p ∈ as, p.1 ∈ own.map (·.2))
    (hg : ∀ (s : Shared) (H : Hp) (C : Addr) (cl : List (Str × Addr)) (fp : List Addr), PTg (X.blk s H scope (compEnvC scope cl C X.env) fp) tg k) (ht : ∀ (s : Shared) (H : Hp) (C : Addr) (cl : List (Str × Addr)) (fp : List Addr), PCs (X.blk s H scope (compEnvC scope cl C X.env) fp) W0 ifs tt)
    (he : ∀ (s : Shared) (H : Hp) (C : Addr) (cl : List (Str × Addr)) (fp : List Addr), PM (X.blk s H scope (compEnvC scope cl C X.env) fp) W0 elt te) (hy : X.N[i]? = some y := by rfl) (hyl : X.env.scope.names.lookup y = some .local := by rfl)
    (hsw : swapsWith (.ListComp elt [⟨tg, it, ifs, 0⟩] scope pos) (some (.Name y py)) spos.line X.env = pure true := by exact sw_true rfl rfl rfl (by decide +kernel)) (hs : ∀ x, foldedSetIterable it X.env x = pure x := by intro _; rfl) :
    PSt X W (.Assign [.Name y py] (.ListComp elt [⟨tg, it, ifs, 0⟩] scope pos) spos) (fSet i (mLc (own.map (·.2)) mi k tt te)) :=
  ⟨_, ps_setLc (own := own) (g := tgt X.K k) (tt := cT X W0 tt) (te := cM X W0 te) cz.calm cz.nd hy hyl hsw hi.can (blkOk_by ok) hg ht (fun s H C cl fp => (he s H C cl fp).can) hs, sp_set (sp_lcM hk)⟩
end
section
variable {X : Cx} {W : WX} {elt tg it tg1 it1 : Expr} {ifs ifs1 : List Expr} {scope : Scope} {pos : Pos} {gi gi1 : En → R (List T)} {k k1 : T → Option Ass} {tt tt1 : En → R Bool} {te : En → R T}
theorem s_setLc2 (own : List (Str × Nat)) (vs1 : List Nat) (i : Nat) {y : Str} {py spos : Pos} (cz : Cz X W) (hi : PIv X W tg it gi) (ok : blkC X.N X.env.scope scope own = true) (hv : ∀ i ∈ vs1, i ∈ own.map (·.2)) (hk : ∀ x as, k x = some as → ∀ p ∈ as, p.1 ∈ own.map (·.2)) (hk1 : ∀ x as, k1 x = some as → ∀ p ∈ as, p.1 ∈ vs1)
    (hg : ∀ (s : Shared) (H : Hp) (C : Addr) (cl : List (Str × Addr)) (fp : List Addr), PTg (X.blk s H scope (compEnvC scope cl C X.env) fp) tg k) (ht : ∀ (s : Shared) (H : Hp) (C : Addr) (cl : List (Str × Addr)) (fp : List Addr), PCs (X.blk s H scope (compEnvC scope cl C X.env) fp) W0 ifs tt)
    (hi1 : ∀ (s : Shared) (H : Hp) (C : Addr) (cl : List (Str × Addr)) (fp : List Addr), PIn (X.blk s H scope (compEnvC scope cl C X.env) fp) W0 tg1 it1 gi1)
    (hg1 : ∀ (s : Shared) (H : Hp) (C : Addr) (cl : List (Str × Addr)) (fp : List Addr), PTg (X.blk s H scope (compEnvC scope cl C X.env) fp) tg1 k1) (ht1 : ∀ (s : Shared) (H : Hp) (C : Addr) (cl : List (Str × Addr)) (fp : List Addr), PCs (X.blk s H scope (compEnvC scope cl C X.env) fp) W0 ifs1 tt1)
    (he : ∀ (s : Shared) (H : Hp) (C : Addr) (cl : List (Str × Addr)) (fp : List Addr), PN (X.blk s H scope (compEnvC scope cl C X.env) fp) W0 elt te) (hy : X.N[i]? = some y := by rfl) (hyl : X.env.scope.names.lookup y = some .local := by rfl)
    (hsw : swapsWith (.ListComp elt [⟨tg, it, ifs, 0⟩, ⟨tg1, it1, ifs1, 0⟩] scope pos) (some (.Name y py)) spos.line X.env = pure true := by exact sw_true rfl rfl rfl (by decide +kernel)) (hs : ∀ x, foldedSetIterable it X.env x = pure x := by intro _; rfl) (hs1 : ∀ env x, foldedSetIterable it1 env x = pure x := by intro _ _; rfl) :
    PSt X W (.Assign [.Name y py] (.ListComp elt [⟨tg, it, ifs, 0⟩, ⟨tg1, it1, ifs1, 0⟩] scope pos) spos) (fSet i (lft (gLc2 (own.map (·.2)) gi k tt gi1 vs1 k1 tt1 te))) := by
  refine ⟨_, ps_setLc2 (own := own) (vs1 := vs1) (g := tgt X.K k) (tt := cT X W0 tt) (te := cN X W0 te) (wi1 := cJ X W0 gi1) (g1 := tgt X.K k1) (tt1 := cT X W0 tt1) cz.calm cz.nd hy hyl hsw hi.can (blkOk_by ok) hv hg ht (fun s H C cl fp => (hi1 s H C cl fp).can) hg1 ht1 (fun s H C cl fp => (he s H C cl fp).can) hs hs1, sp_set ?_⟩
  intro σ H en Fs Q okE q
  refine sp_lc2 (W := W) hk hk1 σ H en Q okE.ven ?_
  unfold lft at q
  cases e : gLc2 (own.map (·.2)) gi k tt gi1 vs1 k1 tt1 te en with
  | ok x => rw [e] at q; exact fun v H' G sm o fr => q v H' Fs G (.quiet okE sm fr) o
  | ex c => rw [e] at q; exact XQ.xm (W := W) okE q
  | no => rw [e] at q; exact q
end
end Z
/-! Z: defs: what their bodies compute; a first argument that is changed. -/
namespace Z
open PySem PySem.Spec L2
open PyProof.Rows hiding St

/-! ### a def that changes its first argument's list -/
inductive RF where
  | ok (r x0 : T) | ex (c : Exc) (x0 : T) | no
/-- seen, away from some addresses -/
inductive Vwa (K : PySem.W.Frag) (H : Hp) (Z : List Addr) : List V → List T → Prop
  | nil : Vwa K H Z [] []
  | cons {v : V} {vs : List V} {x : T} {xs : List T} {G : List Addr} : Own K H v x G → (∀ a ∈ G, a ∉ Z) → Vwa K H Z vs xs → Vwa K H Z (v :: vs) (x :: xs)
def spM (K : PySem.W.Frag) (mg : Str → Option Value) (F : T → List T → RF) : Sp := fun vs H Q E => ∃ v0 us x0 G0 xs, vs = v0 :: us ∧ Own K H v0 x0 G0 ∧ G0.Nodup ∧ Vwa K H G0 us xs ∧ match F x0 xs with
  | .ok r x' => ∀ v H' G' G, Stp H (· ∈ G0) (· ∈ G0) H' (· ∈ G' ++ G) (· ∈ G' ++ G) → Own K H' v0 x' G' → Own K H' v r G → (G' ++ G).Nodup → Q v H'
  | .ex c x' => ∀ cls dx H' G', Stp H (· ∈ G0) (· ∈ G0) H' (· ∈ G') (· ∈ G') → Own K H' v0 x' G' → G'.Nodup → ExIs K mg H' c cls dx → E cls dx H'
  | .no => False
structure FnM (P : Program) (w : World) (K : PySem.W.Frag) (mg : Str → Option Value) (base : Heap) (x : Str) (k : Nat) (F : T → List T → RF) : Prop where
  ex : ∃ (f : Addr) (fd : FuncData) (ps : List Str), FnOk P w K mg base (L2.CX P w) k f fd ps (spM K mg F) ∧ mg x = some (.ref f) ∧ PySem.W.keepIn K (.ref f) = true ∧ Binds K fd ps []
/-! arguments: values of our own, or names -/
inductive Hd where
  | o (x : T) | n (i : Nat)
inductive HdsOk (K : PySem.W.Frag) (H : Hp) (σ : L2.St) : List Hd → List V → List Addr → Prop
  | nil : HdsOk K H σ [] [] []
  | o {v : V} {vs : List V} {x : T} {hs : List Hd} {F G : List Addr} : Own K H v x F → HdsOk K H σ hs vs G → HdsOk K H σ (.o x :: hs) (v :: vs) (F ++ G)
  | n {v : V} {vs : List V} {i : Nat} {hs : List Hd} {G : List Addr} : σ[i]? = some (some v) → HdsOk K H σ hs vs G → HdsOk K H σ (.n i :: hs) (v :: vs) G
theorem HdsOk.frame {K : PySem.W.Frag} {H H' : Hp} {σ : L2.St} (p : Pst H H') : ∀ {hs : List Hd} {vs : List V} {G : List Addr}, HdsOk K H σ hs vs G → (∀ a ∈ G, ∀ o, H a = some o → H' a = some o) → HdsOk K H' σ hs vs G
  | _, _, _, .nil, _ => .nil
  | _, _, _, .o r t, k => .o (r.frame p fun a m => k a (List.mem_append_left _ m)) (HdsOk.frame p t fun a m => k a (List.mem_append_right _ m))
  | _, _, _, .n e t, k => .n e (HdsOk.frame p t k)
theorem HdsOk.there {K : PySem.W.Frag} {H : Hp} {σ : L2.St} : ∀ {hs : List Hd} {vs : List V} {G : List Addr}, HdsOk K H σ hs vs G → ∀ a ∈ G, H a ≠ none
  | _, _, _, .nil, a, m => absurd m List.not_mem_nil
  | _, _, _, .o r t, a, m => (List.mem_append.mp m).elim (r.there a) (HdsOk.there t a)
  | _, _, _, .n e t, a, m => HdsOk.there t a m
section
variable (X : Cx) (W : WX)
def MH (H : Hp) (Fs : Ft) (σ : L2.St) (en : En) (Q : List V → Hp → Prop) : RM (List Hd) → Prop
  | .ok hs en' => ∀ vs H' Fs' G, Aft X.K H Fs σ en H' Fs' σ en' G → HdsOk X.K H' σ hs vs G → Q vs H'
  | .ex c en' => XM X W H Fs σ en c en'
  | .no => False
def PMH (es : List Expr) (m : En → RM (List Hd)) : Prop := ∃ t, PA X es t ∧ ∀ σ H en Fs Q, EOk X.K H σ en Fs → MH X W H Fs σ en Q (m en) → t σ H Q
end
section
variable {X : Cx} {W : WX} {a : Expr} {es : List Expr} {pos : Pos} {m : En → RM T} {ms : En → RM (List Hd)}
def hNil : En → RM (List Hd) := fun en => .ok [] en
def hO (m : En → RM T) (ms : En → RM (List Hd)) : En → RM (List Hd) := fun en => (m en).bind fun x en1 => (ms en1).bind fun xs en2 => .ok (.o x :: xs) en2
def hN (i : Nat) (ms : En → RM (List Hd)) : En → RM (List Hd) := fun en => if (at_ en i).isSome then (ms en).bind fun xs en2 => .ok (.n i :: xs) en2 else .no
theorem mh_nil : PMH X W [] hNil := ⟨_, pa_nil, fun σ H en Fs Q ok q => q [] H Fs [] (.refl ok) .nil⟩
theorem mh_o (ha : PM X W a m) (hr : PMH X W es ms) (hs : starEach (a :: es) X.env = (false, eval a X.env) :: starEach es X.env := by rfl) : PMH X W (a :: es) (hO m ms) := by
  obtain ⟨t, p, s⟩ := ha
  obtain ⟨t2, p2, s2⟩ := hr
  refine ⟨_, pa_cons p p2 hs, fun σ H en Fs Q ok q => s σ H en Fs _ ok ?_⟩
  unfold hO at q
  cases e : m en with
  | ok x en1 =>
    rw [e] at q
    simp only [RM.bind_ok] at q
    intro v H' Fs' G a o
    refine s2 σ H' en1 Fs' _ a.ok ?_
    cases e2 : ms en1 with
    | ok xs en2 =>
      rw [e2] at q
      exact fun vs H2 Fs2 G2 a2 o2 => q (v :: vs) H2 Fs2 (G ++ G2) (a.held o.there a2) (.o (a2.stp.frame (fun _ z => z.a) o a.dis).1 o2)
    | ex c en2 => rw [e2] at q; exact XM.after (W := W) a q
    | no => rw [e2] at q; exact q
  | ex c en1 => rw [e] at q; exact q
  | no => rw [e] at q; exact q
theorem mh_n (i : Nat) {x : Str} {p : Pos} (hr : PMH X W es ms) (hN : X.N[i]? = some x := by rfl) (hv : Vis X.env.scope x := by first | exact Or.inl rfl | exact Or.inr (Or.inl rfl) | exact Or.inr (Or.inr rfl)) (hd : (x == ("__debug__" : Str)) = false := by decide) (hcd : (x == ("__classdict__" : Str)) = false := by decide)
    (hs : starEach (.Name x p :: es) X.env = (false, eval (.Name x p) X.env) :: starEach es X.env := by rfl) : PMH X W (.Name x p :: es) (Z.hN i ms) := by
  obtain ⟨t2, p2, s2⟩ := hr
  refine ⟨_, pa_cons (pe_var hN hv hd hcd) p2 hs, fun σ H en Fs Q ok q => ?_⟩
  unfold Z.hN at q
  split at q
  · rename_i h
    cases e : at_ en i with
    | none => rw [e] at h; cases h
    | some x =>
      obtain ⟨v, h1, _⟩ := ok.has i x e
      refine ⟨v, h1, s2 σ H en Fs _ ok ?_⟩
      cases e2 : ms en with
      | ok xs en2 =>
        rw [e2] at q
        exact fun vs H2 Fs2 G2 a2 o2 => q (v :: vs) H2 Fs2 G2 a2 (.n h1 o2)
      | ex c en2 => rw [e2] at q; exact q
      | no => rw [e2] at q; exact q
  · exact q.elim
/-- what the arguments are, beside the name i -/
def hds (en : En) (i : Nat) : List Hd → Option (List T)
  | [] => some []
  | .o x :: r => (hds en i r).map (x :: ·)
  | .n j :: r => if j = i then none else (at_ en j).bind fun x => (hds en i r).map (x :: ·)
theorem HdsOk.vwa {K : PySem.W.Frag} {H : Hp} {σ : L2.St} {en : En} {Fs : Ft} {i : Nat} (ok : EOk K H σ en Fs) (oi : ownAt en i ≠ none) : ∀ {hs : List Hd} {vs : List V} {G : List Addr} {xs : List T}, HdsOk K H σ hs vs G → (∀ a ∈ G, ¬ InF Fs a) → hds en i hs = some xs → Vwa K H (Fs i) vs xs
  | _, _, _, _, .nil, _, h => by cases h; exact .nil
  | _, _, _, _, .o r t, d, h => by
    obtain ⟨ys, h1, rfl⟩ := Option.map_eq_some_iff.mp h
    exact .cons r (fun a m z => d a (List.mem_append_left _ m) ⟨i, z⟩) (HdsOk.vwa ok oi t (fun a m => d a (List.mem_append_right _ m)) h1)
  | _, _, _, _, .n (i := j) e t, d, h => by
    unfold hds at h
    split at h
    · cases h
    · rename_i hj
      obtain ⟨x, h0, h⟩ := Option.bind_eq_some_iff.mp h
      obtain ⟨ys, h1, rfl⟩ := Option.map_eq_some_iff.mp h
      obtain ⟨v, h2, h3⟩ := ok.has j x h0
      rw [e] at h2; cases h2
      exact .cons h3 (fun a m z => ok.dis i j a (Ne.symm hj) oi z m) (HdsOk.vwa ok oi t d h1)
/-- what one name holds was changed -/
theorem Aft.slot {K : PySem.W.Frag} {H0 H H' : Hp} {Fs0 Fs : Ft} {σ0 σ : L2.St} {en0 en : En} {G G' F' : List Addr} {i : Nat} {x x' : T} {v : V} (A : Aft K H0 Fs0 σ0 en0 H Fs σ en G) (e : ownAt en i = some x) (hσ : σ[i]? = some (some v)) (s : Stp H (· ∈ Fs i) (· ∈ Fs i) H' (· ∈ F' ++ G') (· ∈ F' ++ G')) (o : Own K H' v x' F') (nd : (F' ++ G').Nodup) :
    Aft K H0 Fs0 σ0 en0 H' (updF Fs i F') σ (setO en i x') G' := by
  have oi : ownAt en i ≠ none := by rw [e]; exact fun z => by cases z
  have own : ∀ j, ownAt (setO en i x') j ≠ none → ownAt en j ≠ none := fun j h => by
    by_cases hj : j = i
    · rw [hj]; exact oi
    · rwa [setO_own_ne hj] at h
  have nj : ∀ {j c}, j ≠ i → c ∈ F' ++ G' → c ∉ Fs j := fun {j c} hj m z => (s.subO c m).elim (fun y => A.ok.dis i j c (Ne.symm hj) oi y z) fun y => by
    obtain ⟨vs, hv⟩ := A.ok.there ⟨j, z⟩
    rw [y] at hv; cases hv
  have F'l : ∀ c ∈ F', c ∈ F' ++ G' := fun c m => List.mem_append_left _ m
  refine ⟨⟨by rw [setO_len]; exact A.ok.len, fun j y h => ?_, fun j h => ?_, fun j l c ne h m => ?_, fun j h => ?_⟩, (List.nodup_append.mp nd).2.1, fun c m z => ?_, ⟨A.stp.pst.trans s.pst, fun c ob e n => ?_, fun c e => A.stp.dom c (s.dom c e), fun c m => ?_, fun c m => ?_⟩, fun j y h => ?_⟩
  · by_cases hj : j = i
    · subst hj
      rw [own_at (setO_own e)] at h; cases h
      exact ⟨_, hσ, by rw [updF_same]; exact o⟩
    · rw [setO_at_ne hj] at h
      obtain ⟨w, h1, h2⟩ := A.ok.has j y h
      have h3 : Own K H' w y (Fs j) := h2.frame s.pst fun c m ob e => s.keep c ob e fun z => A.ok.dis i j c (Ne.symm hj) oi z m
      exact ⟨w, h1, by rw [updF_ne hj]; exact h3⟩
  · by_cases hj : j = i
    · rw [hj, updF_same]; exact (List.nodup_append.mp nd).1
    · rw [updF_ne hj]; exact A.ok.nod j (own j h)
  · by_cases hj : j = i
    · rw [hj, updF_same] at m
      have hl : l ≠ i := by rw [← hj]; exact Ne.symm ne
      rw [updF_ne hl]
      exact nj hl (F'l c m)
    · rw [updF_ne hj] at m
      by_cases hl : l = i
      · rw [hl, updF_same]
        exact fun z => nj hj (F'l c z) m
      · rw [updF_ne hl]; exact A.ok.dis j l c ne (own j h) m
  · by_cases hj : j = i
    · rw [hj, own_at (setO_own e)] at h; cases h
    · rw [updF_ne hj]; rw [setO_at_ne hj] at h; exact A.ok.emp j h
  · obtain ⟨j, z⟩ := z
    by_cases hj : j = i
    · rw [hj, updF_same] at z; exact (List.nodup_append.mp nd).2.2 c z c m rfl
    · rw [updF_ne hj] at z; exact nj hj (List.mem_append_right _ m) z
  · refine s.keep c ob (A.stp.keep c ob e n) fun z => ?_
    exact (A.stp.subO c (.inl ⟨i, oi, z⟩)).elim n fun y => by rw [y] at e; cases e
  · have back : c ∈ F' ++ G' → InO en0 Fs0 c ∨ H0 c = none := fun m => (s.subO c m).elim (fun y => A.stp.subO c (.inl ⟨i, oi, y⟩)) fun y => .inr (A.stp.dom c y)
    rcases m with ⟨j, h, m⟩ | m
    · by_cases hj : j = i
      · rw [hj, updF_same] at m; exact back (F'l c m)
      · rw [updF_ne hj] at m; exact A.stp.subO c (.inl ⟨j, own j h, m⟩)
    · exact back (List.mem_append_right _ m)
  · have back : c ∈ F' ++ G' → InF Fs0 c ∨ H0 c = none := fun m => (s.subA c m).elim (fun y => A.stp.subA c (.inl ⟨i, y⟩)) fun y => .inr (A.stp.dom c y)
    rcases m with ⟨j, m⟩ | m
    · by_cases hj : j = i
      · rw [hj, updF_same] at m; exact back (F'l c m)
      · rw [updF_ne hj] at m; exact A.stp.subA c (.inl ⟨j, m⟩)
    · exact back (List.mem_append_right _ m)
  · by_cases hj : j = i
    · subst hj
      unfold setO at h
      cases es : en[j]? with
      | none => unfold ownAt at e; rw [es] at e; cases e
      | some s =>
        rw [es] at h
        cases s with
        | b x0 => exact A.bk j x0 es
        | _ => simp only [List.getElem?_set_self (own_lt e)] at h; cases h
    · rw [setO_ne hj] at h; exact A.bk j y h
def mCallM (i : Nat) (F : T → List T → RF) (ms : En → RM (List Hd)) : En → RM T := fun en => match ownAt en i with
  | none => .no
  | some _ => (ms en).bind fun hs en1 => match ownAt en1 i with
    | none => .no
    | some x0 => match hds en1 i hs with
      | none => .no
      | some xs => match F x0 xs with
        | .ok r x' => .ok r (setO en1 i x')
        | .ex c x' => .ex c (setO en1 i x')
        | .no => .no
theorem m_callM (i : Nat) {x y : Str} {k : Nat} {F : T → List T → RF} {p py : Pos} (f : FnM X.prog X.w X.K X.mg X.base x k F) (tk : Takes X W) (hr : Room k X.A) (ha : PMH X W es ms) (hg : Gl X x := by rfl) (hN : X.N[i]? = some y := by rfl) (hv : Vis X.env.scope y := by first | exact Or.inl rfl | exact Or.inr (Or.inl rfl) | exact Or.inr (Or.inr rfl))
    (hdb : (x == ("__debug__" : Str)) = false := by decide) (hd : (y == ("__debug__" : Str)) = false := by decide) (hcd : (y == ("__classdict__" : Str)) = false := by decide)
    (he : starEach (.Name y py :: es) X.env = (false, eval (.Name y py) X.env) :: starEach es X.env := by rfl) (hpl : (backTo pos (starEach es X.env)).any (·.1) = false := by rfl) : PM X W (.Call (.Name x p) (.Name y py :: es) [] pos) (mCallM i F ms) := by
  obtain ⟨f, fd, ps, okF, hm, hk, hb⟩ := f.ex
  obtain ⟨t, pa, s⟩ := ha
  refine ⟨_, pe_callS (E := WE W) okF hr hg hm hk hb (fun σ => passAt tk σ) (pa_cons (pe_var hN hv hd hcd) pa he) hdb he hpl, fun σ H en Fs Q ok q => ?_⟩
  unfold mCallM at q
  cases e0 : ownAt en i with
  | none => rw [e0] at q; exact q.elim
  | some x00 =>
    rw [e0] at q
    obtain ⟨v0, h0, _⟩ := ok.has i _ (own_at e0)
    refine ⟨v0, h0, s σ H en Fs _ ok ?_⟩
    simp only at q
    cases e : ms en with
    | ok hs en1 =>
      rw [e] at q
      simp only [RM.bind_ok] at q
      intro vs H' Fs' G A o
      cases e1 : ownAt en1 i with
      | none => rw [e1] at q; exact q.elim
      | some x0 =>
        rw [e1] at q
        simp only at q
        have oi : ownAt en1 i ≠ none := by rw [e1]; exact fun z => by cases z
        obtain ⟨v1, h1, o1⟩ := A.ok.has i _ (own_at e1)
        rw [h0] at h1; cases h1
        cases e2 : hds en1 i hs with
        | none => rw [e2] at q; exact q.elim
        | some xs =>
          rw [e2] at q
          simp only at q
          refine ⟨v0, vs, x0, Fs' i, xs, rfl, o1, A.ok.nod i oi, o.vwa A.ok oi A.dis e2, ?_⟩
          cases ef : F x0 xs with
          | ok r x' => rw [ef] at q; exact fun v H2 G' G2 st o2 o3 nd => q v H2 _ G2 (A.slot e1 h0 st o2 nd) o3
          | ex c x' =>
            rw [ef] at q
            exact fun cls dx H2 G' st o2 nd i => q cls dx H2 _ σ (A.slot (G' := []) e1 h0 (by rw [List.append_nil]; exact st) o2 (by rw [List.append_nil]; exact nd)) i
          | no => rw [ef] at q; exact q
    | ex c en1 => rw [e] at q; exact q
    | no => rw [e] at q; exact q
end
/-! ### a def's frame at its entry -/
def startE (n : Nat) (xs : List T) : En := xs.map mkS ++ List.replicate (n - xs.length) .n
theorem startE_at {n : Nat} {xs : List T} {i : Nat} {x : T} (h : at_ (startE n xs) i = some x) : xs[i]? = some x := by
  unfold at_ startE at h
  by_cases hl : i < xs.length
  · rw [List.getElem?_append_left (by rw [List.length_map]; exact hl), List.getElem?_map] at h
    cases e : xs[i]? with
    | none => rw [e] at h; cases h
    | some y => rw [e] at h; rw [← h]; exact (mkS_get y).symm
  · rw [List.getElem?_append_right (by rw [List.length_map]; omega), List.getElem?_replicate] at h
    split at h
    · rename_i h2; split at h2 <;> cases h2; cases h
    · cases h
theorem startE_own {n : Nat} {xs : List T} {i : Nat} (h : ownAt (startE n xs) i ≠ none) : ∃ d, xs[i]? = some (.d d) := by
  unfold ownAt startE at h
  by_cases hl : i < xs.length
  · rw [List.getElem?_append_left (by rw [List.length_map]; exact hl), List.getElem?_map] at h
    cases e : xs[i]? with
    | none => rw [e] at h; exact absurd rfl h
    | some y =>
      rw [e] at h
      cases y with
      | d d => exact ⟨d, rfl⟩
      | l ys => exact absurd rfl h
  · rw [List.getElem?_append_right (by rw [List.length_map]; omega), List.getElem?_replicate] at h
    split at h <;> rename_i h2
    · split at h2 <;> cases h2
    · split at h2 <;> cases h2
    · exact absurd rfl h
theorem Vws.get {K : PySem.W.Frag} {H : Hp} : ∀ {vs : List V} {xs : List T} {i : Nat} {x : T}, Vws K H vs xs → xs[i]? = some x → ∃ v G, vs[i]? = some v ∧ Own K H v x G
  | _, _, _, _, .nil, h => by simp at h
  | _, _, 0, _, .cons o t, h => by simp at h; subst h; exact ⟨_, _, rfl, o⟩
  | _, _, i + 1, x, .cons _ t, h => by
    obtain ⟨v, G, h1, h2⟩ := Vws.get (i := i) (x := x) t (by simpa using h)
    exact ⟨v, G, by simpa using h1, h2⟩
/-- the footprints of what is seen -/
theorem Vws.fts {K : PySem.W.Frag} {H : Hp} {vs : List V} {xs : List T} (w : Vws K H vs xs) : ∃ Fs : Ft, (∀ i x, xs[i]? = some x → ∃ v, vs[i]? = some v ∧ Own K H v x (Fs i)) ∧ ∀ i, xs[i]? = none → Fs i = [] := by
  induction w with
  | nil => exact ⟨fun _ => [], fun i x h => by simp at h, fun _ _ => rfl⟩
  | @cons v vs x xs G o t ih =>
    obtain ⟨Fs, h1, h2⟩ := ih
    refine ⟨fun i => match i with
      | 0 => G
      | i + 1 => Fs i, fun i y h => ?_, fun i h => ?_⟩
    · cases i with
      | zero => simp at h; subst h; exact ⟨v, rfl, o⟩
      | succ i => obtain ⟨w, a, b⟩ := h1 i y (by simpa using h); exact ⟨w, by simpa using a, b⟩
    · cases i with
      | zero => simp at h
      | succ i => exact h2 i (by simpa using h)
theorem start_get {N : List Str} {vs : List V} {i : Nat} {v : V} (h : vs[i]? = some v) : (L2.start N vs)[i]? = some (some v) := by
  unfold L2.start
  obtain ⟨hl, _⟩ := List.getElem?_eq_some_iff.mp h
  rw [List.getElem?_append_left (by rw [List.length_map]; exact hl), List.getElem?_map, h]
  rfl
theorem start_ok {K : PySem.W.Frag} {H : Hp} {N : List Str} {vs : List V} {xs : List T} (w : Vws K H vs xs) : ∃ Fs, EOk K H (L2.start N vs) (startE N.length xs) Fs ∧ (∀ c, ¬ InO (startE N.length xs) Fs c) := by
  obtain ⟨Fs, h1, h2⟩ := w.fts
  have dn : ∀ i, ownAt (startE N.length xs) i ≠ none → Fs i = [] := fun i h => by
    obtain ⟨d, e⟩ := startE_own h
    obtain ⟨v, _, o⟩ := h1 i _ e
    exact o.dnil
  refine ⟨Fs, ⟨?_, fun i x h => ?_, fun i h => by rw [dn i h]; exact List.nodup_nil, fun i j a _ h m => (by rw [dn i h] at m; cases m), fun i h => ?_⟩, fun c ⟨i, h, m⟩ => (by rw [dn i h] at m; cases m)⟩
  · unfold startE L2.start
    rw [List.length_append, List.length_append, List.length_map, List.length_map, List.length_replicate, List.length_replicate, w.length]
    exact Nat.le_refl _
  · obtain ⟨v, a, b⟩ := h1 i x (startE_at h)
    exact ⟨v, start_get a, b⟩
  · cases e : xs[i]? with
    | none => exact h2 i e
    | some x =>
      obtain ⟨hl, _⟩ := List.getElem?_eq_some_iff.mp e
      unfold at_ startE at h
      rw [List.getElem?_append_left (by rw [List.length_map]; exact hl), List.getElem?_map, e] at h
      rw [show (Option.map mkS (some x)) = some (mkS x) from rfl] at h
      simp only [mkS_get] at h
      cases h
def runP (n k : Nat) (f : En → SR) (xs : List T) : R T := if xs.length = k then match f (startE n xs) with
    | .ret x _ => .ok x
    | .nx _ => .ok (.d .non)
    | .ex c _ => .ex c
    | _ => .no
  else .no
section
variable {P : Program} {w : World} {K : PySem.W.Frag} {mg : Str → Option Value} {base : Heap}
/-- THE RULE for a def that changes nothing -/
theorem fnPk {x : String} {st : Stmt} {f : Addr} {fd : FuncData} {N ps : List Str} {k : Nat} {body : En → SR} (F : Fun K x x st f fd) (S : FnScope N ps (defScope st))
    (hbody : ∀ (cdv : Value) (A : Around) (outer : List Env) (s : Shared) (H : Hp) (E : XK), Room k (A.deeper (envOfC x (defScope st) s.heap.objs.size f cdv)) → Cz (cxOf (L2.CX P w) P w K mg base N x (defScope st) f cdv A outer s H E) (fun cls d _ H => E cls d H) →
      PBl (cxOf (L2.CX P w) P w K mg base N x (defScope st) f cdv A outer s H E) (fun cls d _ H => E cls d H) (defBody st) body) : FnOk P w K mg base (L2.CX P w) (k + 1) f fd ps (spP K mg (runP N.length ps.length body)) := by
  refine F.okX S (fun vs H Q E h => ?_) (fun cdv A outer s H vs Q E hr h => ?_)
  · obtain ⟨xs, w, h⟩ := h
    unfold runP at h
    by_cases hl : xs.length = ps.length
    · rw [w.length]; exact hl
    · rw [if_neg hl] at h; exact h.elim
  · obtain ⟨t, p, sp⟩ := hbody cdv A outer s H E hr ⟨takes_of rfl rfl rfl rfl, passes_of rfl, rfl, S.nd⟩
    refine ⟨t, p, ?_⟩
    obtain ⟨xs, w, h⟩ := h
    obtain ⟨Fs, ok, no⟩ := start_ok (N := N) w
    refine sp _ H _ Fs _ ok ?_
    unfold runP at h
    by_cases hl : xs.length = ps.length
    · rw [if_pos hl] at h
      have same : ∀ {H' : Hp} {Fs' : Ft} {σ' : L2.St} {en' : En} {G : List Addr}, Aft K H Fs (L2.start N vs) (startE N.length xs) H' Fs' σ' en' G → Same H H' ∧ Fresh H G := fun {H' Fs' σ' en' G} a =>
        ⟨fun c o e => a.stp.keep c o e (no c), a.nod, fun c m => (a.stp.subO c (.inr m)).elim (fun z => absurd z (no c)) id⟩
      cases e : body (startE N.length xs) with
      | nx en' => rw [e] at h; exact fun H' Fs' σ' a => h .non H' [] (same a).1 (.d .non) Fresh.nil
      | ret x en' => rw [e] at h; exact fun v H' Fs' σ' G a o => h v H' G (same a).1 o (same a).2
      | ex c en' => rw [e] at h; exact fun cls dx H' Fs' σ' a i => h cls dx H' (same a).1 i
      | brk en' => rw [e] at h; exact h.elim
      | ct en' => rw [e] at h; exact h.elim
      | no => rw [e] at h; exact h.elim
    · rw [if_neg hl] at h; exact h.elim
theorem fnP {x : String} {st : Stmt} {f : Addr} {fd : FuncData} {N ps : List Str} {k : Nat} {body : En → SR} (F : Fun K x x st f fd) (S : FnScope N ps (defScope st)) (hm : mg x = some (.ref f)) (hb : Binds K fd ps [])
    (hbody : ∀ (cdv : Value) (A : Around) (outer : List Env) (s : Shared) (H : Hp) (E : XK), Room k (A.deeper (envOfC x (defScope st) s.heap.objs.size f cdv)) → Cz (cxOf (L2.CX P w) P w K mg base N x (defScope st) f cdv A outer s H E) (fun cls d _ H => E cls d H) →
      PBl (cxOf (L2.CX P w) P w K mg base N x (defScope st) f cdv A outer s H E) (fun cls d _ H => E cls d H) (defBody st) body) : FnP P w K mg base x (k + 1) (runP N.length ps.length body) := ⟨f, fd, ps, fnPk F S hbody, hm, F.kp, hb⟩
end
end Z
/-! Z: a def whose first argument's list is changed; the law's own def. -/
namespace Z
open PySem PySem.Spec L2
open PyProof.Rows hiding St

theorem Vwa.vws {K : PySem.W.Frag} {H : Hp} {G : List Addr} : ∀ {vs : List V} {xs : List T}, Vwa K H G vs xs → Vws K H vs xs
  | _, _, .nil => .nil
  | _, _, .cons o _ t => .cons o (Vwa.vws t)
theorem Vwa.fts {K : PySem.W.Frag} {H : Hp} {Z : List Addr} {vs : List V} {xs : List T} (w : Vwa K H Z vs xs) : ∃ Fs : Ft, (∀ i x, xs[i]? = some x → ∃ v, vs[i]? = some v ∧ Own K H v x (Fs i)) ∧ (∀ i, xs[i]? = none → Fs i = []) ∧ ∀ i, ∀ a ∈ Fs i, a ∉ Z := by
  induction w with
  | nil => exact ⟨fun _ => [], fun i x h => by simp at h, fun _ _ => rfl, fun _ _ m => absurd m List.not_mem_nil⟩
  | @cons v vs x xs G o d t ih =>
    obtain ⟨Fs, h1, h2, h3⟩ := ih
    refine ⟨fun i => match i with
      | 0 => G
      | i + 1 => Fs i, fun i y h => ?_, fun i h => ?_, fun i => ?_⟩
    · cases i with
      | zero => simp at h; subst h; exact ⟨v, rfl, o⟩
      | succ i => obtain ⟨w, a, b⟩ := h1 i y (by simpa using h); exact ⟨w, by simpa using a, b⟩
    · cases i with
      | zero => simp at h
      | succ i => exact h2 i (by simpa using h)
    · cases i with
      | zero => exact d
      | succ i => exact h3 i
def startM (n : Nat) (x0 : T) (xs : List T) : En := .b x0 :: startE (n - 1) xs
theorem startM_at {n : Nat} {x0 : T} {xs : List T} {i : Nat} : at_ (startM n x0 xs) (i + 1) = at_ (startE (n - 1) xs) i := rfl
theorem startM_own {n : Nat} {x0 : T} {xs : List T} {i : Nat} : ownAt (startM n x0 xs) (i + 1) = ownAt (startE (n - 1) xs) i := rfl
theorem startM_ok {K : PySem.W.Frag} {H : Hp} {N : List Str} {v0 : V} {us : List V} {x0 : T} {xs : List T} {G0 : List Addr} (o : Own K H v0 x0 G0) (nd : G0.Nodup) (w : Vwa K H G0 us xs) : ∃ Fs, EOk K H (L2.start N (v0 :: us)) (startM N.length x0 xs) Fs ∧ Fs 0 = G0 ∧ ∀ c, InO (startM N.length x0 xs) Fs c → c ∈ G0 := by
  obtain ⟨Fs, h1, h2, h3⟩ := w.fts
  have hs : L2.start N (v0 :: us) = some v0 :: (us.map some ++ List.replicate (N.length - 1 - us.length) none) := by
    unfold L2.start
    rw [List.map_cons, List.length_cons, List.cons_append, Nat.sub_sub, Nat.add_comm 1]
  have dn : ∀ i, ownAt (startE (N.length - 1) xs) i ≠ none → Fs i = [] := fun i h => by
    obtain ⟨d, e⟩ := startE_own h
    obtain ⟨v, _, o⟩ := h1 i _ e
    exact o.dnil
  refine ⟨fun i => match i with
      | 0 => G0
      | i + 1 => Fs i, ⟨?_, fun i x h => ?_, fun i h => ?_, fun i j c ne h m => ?_, fun i h => ?_⟩, rfl, fun c z => ?_⟩
  · rw [hs]
    unfold startM startE
    rw [List.length_cons, List.length_cons, List.length_append, List.length_append, List.length_map, List.length_map, List.length_replicate, List.length_replicate, w.vws.length]
    exact Nat.le_refl _
  · cases i with
    | zero => cases h; exact ⟨v0, by rw [hs]; rfl, o⟩
    | succ i =>
      obtain ⟨v, a, b⟩ := h1 i x (startE_at h)
      refine ⟨v, ?_, b⟩
      obtain ⟨hl, _⟩ := List.getElem?_eq_some_iff.mp a
      rw [hs, List.getElem?_cons_succ, List.getElem?_append_left (by rw [List.length_map]; exact hl), List.getElem?_map, a]
      rfl
  · cases i with
    | zero => exact nd
    | succ i => show (Fs i).Nodup; rw [dn i h]; exact List.nodup_nil
  · cases i with
    | zero =>
      cases j with
      | zero => exact absurd rfl ne
      | succ j => exact fun z => h3 j c z m
    | succ i =>
      have : c ∈ Fs i := m
      rw [dn i h] at this; cases this
  · cases i with
    | zero => cases h
    | succ i =>
      show Fs i = []
      cases e : xs[i]? with
      | none => exact h2 i e
      | some x =>
        obtain ⟨hl, _⟩ := List.getElem?_eq_some_iff.mp e
        rw [startM_at] at h
        unfold at_ startE at h
        rw [List.getElem?_append_left (by rw [List.length_map]; exact hl), List.getElem?_map, e] at h
        rw [show (Option.map mkS (some x)) = some (mkS x) from rfl] at h
        simp only [mkS_get] at h
        cases h
  · obtain ⟨i, h, m⟩ := z
    cases i with
    | zero => exact m
    | succ i =>
      have : c ∈ Fs i := m
      rw [dn i h] at this; cases this
def back0 (en : En) : Option T := match (en[(0 : Nat)]? : Option Sl) with
  | some (.b x) => some x
  | _ => none
def runM (n k : Nat) (f : En → SR) (x0 : T) (xs : List T) : RF := if xs.length + 1 = k then match f (startM n x0 xs) with
    | .ret r en' => match back0 en' with
      | some x' => .ok r x'
      | none => .no
    | .nx en' => match back0 en' with
      | some x' => .ok (.d .non) x'
      | none => .no
    | .ex c en' => match back0 en' with
      | some x' => .ex c x'
      | none => .no
    | _ => .no
  else .no
section
variable {P : Program} {w : World} {K : PySem.W.Frag} {mg : Str → Option Value} {base : Heap}
/-- THE RULE for a def that changes its first argument -/
theorem fnM {x : String} {st : Stmt} {f : Addr} {fd : FuncData} {N ps : List Str} {k : Nat} {body : En → SR} (F : Fun K x x st f fd) (S : FnScope N ps (defScope st)) (hm : mg x = some (.ref f)) (hb : Binds K fd ps [])
    (hbody : ∀ (cdv : Value) (A : Around) (outer : List Env) (s : Shared) (H : Hp) (E : XK), Room k (A.deeper (envOfC x (defScope st) s.heap.objs.size f cdv)) → Cz (cxOf (L2.CX P w) P w K mg base N x (defScope st) f cdv A outer s H E) (fun cls d _ H => E cls d H) →
      PBl (cxOf (L2.CX P w) P w K mg base N x (defScope st) f cdv A outer s H E) (fun cls d _ H => E cls d H) (defBody st) body) : FnM P w K mg base x (k + 1) (runM N.length ps.length body) := by
  refine ⟨f, fd, ps, F.okX S (fun vs H Q E h => ?_) (fun cdv A outer s H vs Q E hr h => ?_), hm, F.kp, hb⟩
  · obtain ⟨v0, us, x0, G0, xs, rfl, o, nd, w, h⟩ := h
    unfold runM at h
    by_cases hl : xs.length + 1 = ps.length
    · rw [List.length_cons, w.vws.length]; exact hl
    · rw [if_neg hl] at h; exact h.elim
  · obtain ⟨t, p, sp⟩ := hbody cdv A outer s H E hr ⟨takes_of rfl rfl rfl rfl, passes_of rfl, rfl, S.nd⟩
    refine ⟨t, p, ?_⟩
    obtain ⟨v0, us, x0, G0, xs, rfl, o, nd, w, h⟩ := h
    obtain ⟨Fs, ok, e0, no⟩ := startM_ok (N := N) o nd w
    refine sp _ H _ Fs _ ok ?_
    unfold runM at h
    by_cases hl : xs.length + 1 = ps.length
    · rw [if_pos hl] at h
      have zero : (L2.start N (v0 :: us))[0]? = some (some v0) := start_get rfl
      have fin : ∀ {H' : Hp} {Fs' : Ft} {σ' : L2.St} {en' : En} {G : List Addr} {x' : T}, Aft K H Fs (L2.start N (v0 :: us)) (startM N.length x0 xs) H' Fs' σ' en' G → back0 en' = some x' → Own K H' v0 x' (Fs' 0) ∧ (Fs' 0 ++ G).Nodup ∧ Stp H (· ∈ G0) (· ∈ G0) H' (· ∈ Fs' 0 ++ G) (· ∈ Fs' 0 ++ G) := fun {H' Fs' σ' en' G x'} a b => by
        have e : en'[(0 : Nat)]? = some (Sl.b x') := by
          unfold back0 at b
          cases e : en'[(0 : Nat)]? with
          | none => rw [e] at b; cases b
          | some y => rw [e] at b; cases y <;> cases b; rfl
        have oe : ownAt en' 0 = some x' := by unfold ownAt; rw [e]
        have on : ownAt en' 0 ≠ none := by rw [oe]; exact fun z => by cases z
        obtain ⟨v, h1, h2⟩ := a.ok.has 0 x' (own_at oe)
        rw [(a.bk 0 x' e).2, zero] at h1
        cases h1
        refine ⟨h2, List.nodup_append.mpr ⟨a.ok.nod 0 on, a.nod, fun c hc d hd z => a.dis d hd ⟨0, z ▸ hc⟩⟩, a.stp.pst, fun c ob e n => a.stp.keep c ob e fun z => n (no c z), a.stp.dom, fun c m => ?_, fun c m => ?_⟩
        · exact (a.stp.subO c ((List.mem_append.mp m).imp (fun z => ⟨0, on, z⟩) id)).imp (no c) id
        · exact (a.stp.subO c ((List.mem_append.mp m).imp (fun z => ⟨0, on, z⟩) id)).imp (no c) id
      cases e : body (startM N.length x0 xs) with
      | nx en' =>
        rw [e] at h
        simp only at h
        cases eb : back0 en' with
        | none => rw [eb] at h; exact h.elim
        | some x' => rw [eb] at h; exact fun H' Fs' σ' a => let ⟨h1, h2, h3⟩ := fin a eb; h .non H' (Fs' 0) [] h3 h1 (.d .non) h2
      | ret x en' =>
        rw [e] at h
        simp only at h
        cases eb : back0 en' with
        | none => rw [eb] at h; exact h.elim
        | some x' => rw [eb] at h; exact fun v H' Fs' σ' G a o => let ⟨h1, h2, h3⟩ := fin a eb; h v H' (Fs' 0) G h3 h1 o h2
      | ex c en' =>
        rw [e] at h
        simp only at h
        cases eb : back0 en' with
        | none => rw [eb] at h; exact h.elim
        | some x' => rw [eb] at h; exact fun cls dx H' Fs' σ' a i => let ⟨h1, h2, h3⟩ := fin a eb; h cls dx H' (Fs' 0) (by rw [List.append_nil] at h3; exact h3) h1 (by rw [List.append_nil] at h2; exact h2) i
      | brk en' => rw [e] at h; exact h.elim
      | ct en' => rw [e] at h; exact h.elim
      | no => rw [e] at h; exact h.elim
    · rw [if_neg hl] at h; exact h.elim
/-- the script, as the law's def gets it -/
theorem script_ro {H : Hp} {a : Addr} {ns : List Int} (h : Only H) (s : SqL K H a (ns.map V.int)) : RepD K H (.ref a) (.rol (ns.map D.int)) := by
  refine .rol (fun H' p => ?_) (ints_rep ns)
  rcases s with (s | ⟨o, s⟩) | s
  · rcases h a with z | ⟨o, xs, z⟩ <;> (rw [s] at z; cases z)
  · exact .inl (.inr ⟨o, p.2 _ _ _ s⟩)
  · exact .inr s
where
  ints_rep : ∀ ns : List Int, RepDs K H (ns.map V.int) (ns.map D.int)
    | [] => .nil
    | n :: r => .cons (.int n) (ints_rep r)
/-- the law's def hands back True -/
theorem law_sp {F : List T → R T} {H : Hp} {a : Addr} {ns : List Int} (h : Only H) (s : SqL K H a (ns.map V.int)) (e : F [.d (.rol (ns.map D.int))] = .ok (.d (.bl true))) : spP K mg F [.ref a] H (fun v _ => v = .bl true) fun _ _ _ => False := by
  refine ⟨[.d (.rol (ns.map D.int))], .cons (.d (script_ro h s)) .nil, ?_⟩
  rw [e]
  intro v H' G _ o _
  have r := o.rep
  cases r
  rfl
end
end Z
/-! Z: short names for what is computed; operations in place; any; recursion. -/
namespace Z
open PySem PySem.Spec L2
open PyProof.Rows hiding St

def vN (i : Nat) : En → R T := fun en => R.of (at_ en i)
def kI (i : Int) : En → R T := fun _ => .ok (.d (.int i))
def kB (b : Bool) : En → R T := fun _ => .ok (.d (.bl b))
def kS (s : Str) : En → R T := fun _ => .ok (.d (.str s))
def kD' (d : D) : En → R T := fun _ => .ok (.d d)
def gPur (g : En → R T) : En → R T := fun en => (g en).pur
def fAddA : T → T → Option T
  | .d (.int i), .d (.int j) => some (.d (.int (i + j)))
  | .d (.str a), .d (.str b) => if a.length + b.length ≤ most then some (.d (.str (a ++ b))) else none
  | _, _ => none
def fMulA : T → T → Option T
  | .d (.int i), .d (.int j) => if i.natAbs < 18446744073709551616 ∨ j.natAbs < 18446744073709551616 then some (.d (.int (i * j))) else none
  | _, _ => none
def fDivA : T → T → Option T
  | .d (.int i), .d (.int j) => if 0 < j ∧ j < 1073741824 then some (.d (.int (i / j))) else none
  | _, _ => none
section
variable {X : Cx}
theorem i_add : Ib X .Add fAddA := ⟨_, iop_add.or iop_add_str, fun H x y z vx vy Gx Gy Q ox oy e q => by
  unfold fAddA at e
  split at e
  · cases e
    cases ox with | d r1 => cases oy with | d r2 => cases r1; cases r2; exact .inl ⟨_, _, rfl, rfl, fin_d (.int _) q⟩
  · split at e <;> cases e
    rename_i h
    cases ox with | d r1 => cases oy with | d r2 => cases r1; cases r2; exact .inr ⟨_, _, rfl, rfl, by rw [most_eq]; exact h, fin_d (.str _) q⟩
  · cases e⟩
theorem i_sub : Ib X .Sub fSub := ⟨_, iop_sub, fun H x y z vx vy Gx Gy Q ox oy e q => by
  unfold fSub at e
  split at e <;> cases e
  cases ox with | d r1 => cases oy with | d r2 => cases r1; cases r2; exact ⟨_, _, rfl, rfl, fin_d (.int _) q⟩⟩
theorem i_mul : Ib X .Mult fMulA := ⟨_, iop_mul, fun H x y z vx vy Gx Gy Q ox oy e q => by
  unfold fMulA at e
  split at e
  · split at e <;> cases e
    rename_i h
    cases ox with | d r1 => cases oy with | d r2 => cases r1; cases r2; exact ⟨_, _, rfl, rfl, h.imp (fun z => by omega) (fun z => by omega), fin_d (.int _) q⟩
  · cases e⟩
theorem i_div : Ib X .FloorDiv fDivA := ⟨_, iop_fdiv, fun H x y z vx vy Gx Gy Q ox oy e q => by
  unfold fDivA at e
  split at e
  · split at e <;> cases e
    rename_i h
    cases ox with | d r1 => cases oy with | d r2 => cases r1; cases r2; exact ⟨_, _, rfl, rfl, h, fin_d (.int _) q⟩
  · cases e⟩
theorem i_mod : Ib X .Mod fMod := ⟨_, iop_mod, fun H x y z vx vy Gx Gy Q ox oy e q => by
  unfold fMod at e
  split at e
  · split at e <;> cases e
    rename_i h
    cases ox with | d r1 => cases oy with | d r2 => cases r1; cases r2; exact ⟨_, _, rfl, rfl, h, fin_d (.int _) q⟩
  · cases e⟩
/-! ### any of ints and bools -/
def tr1 : D → Option Bool
  | .bl b => some b
  | .int i => some (i != 0)
  | _ => none
def trs : List D → Option (List Bool)
  | [] => some []
  | d :: r => (tr1 d).bind fun b => (trs r).map (b :: ·)
theorem trs_len : ∀ {ds : List D} {bs : List Bool}, trs ds = some bs → bs.length = ds.length
  | [], _, h => by cases h; rfl
  | d :: r, bs, h => by
    obtain ⟨b, _, h⟩ := Option.bind_eq_some_iff.mp h
    obtain ⟨cs, h2, rfl⟩ := Option.map_eq_some_iff.mp h
    exact congrArg Nat.succ (trs_len h2)
theorem truth_trs {prog : Program} {w : World} {A : Around} {K : PySem.W.Frag} {H : Hp} : ∀ {vs : List V} {ds : List D} {its : List Value} {bs : List Bool}, RepDs K H vs ds → Vals vs its → trs ds = some bs → ∀ (i : Nat) (v : Value) (s : Shared) (Q : Bool → Shared → Prop) (E : Value → Shared → Prop), its[i]? = some v → Q (bs.getD i false) s → wpAny (model prog w) A (truthy v) Q E s
  | _, _, _, _, .nil, .nil, _, i, v, s, Q, E, hv, hq => by simp at hv
  | _, _, _, bs, .cons r t, .cons r2 t2, h, i, v, s, Q, E, hv, hq => by
    obtain ⟨b, h1, h⟩ := Option.bind_eq_some_iff.mp h
    obtain ⟨cs, h2, rfl⟩ := Option.map_eq_some_iff.mp h
    cases i with
    | succ i => exact truth_trs t t2 h2 i v s Q E (by simpa using hv) (by simpa using hq)
    | zero =>
      simp at hv
      subst hv
      have hq : Q b s := hq
      cases r with
      | bl k => cases h1; cases r2; exact wpAny_truthy_bool hq
      | int k => cases h1; obtain ⟨tk, rfl⟩ := r2; exact PySem.P.truthy_int hq
      | _ => cases h1
def fAny : List T → Option T
  | [x] => (lstOf x).bind fun ds => (trs ds).map fun bs => .d (.bl (bs.any id))
  | _ => none
theorem call_anyT (hc : X.calm = true) : CallR X (.builtin "any") (fun vs H Q => ∃ (a : Addr) (us : List V) (ds : List D) (bs : List Bool), vs = [V.ref a] ∧ SqL X.K H a us ∧ RepDs X.K H us ds ∧ trs ds = some bs ∧ Q (.bl (bs.any id)) H) := by
  intro pins s σ H vs us Q I r h
  obtain ⟨a, ws, ds, bs, rfl, hs, rr, ht, q⟩ := h
  obtain ⟨its, rv, hl, _⟩ := I.list hs
  rw [Vals.ref1 r]
  refine call_any_walk (iter_any hl.isList fun s2 e2 st hne => ?_)
  subst e2
  refine ⟨_, _, _, _, _, _, _, rfl, Walks.list (A := X.A.in1) (I.ok.hd hc) _ a hne its.toArray, st, (fun i v s Q E hv hq => truth_trs rr rv ht i v s Q E (by simpa using hv) hq), fun h' tk hk => ?_⟩
  refine ⟨.bl _, H, I.kept fun b o eo => hk b o (fun hmem => (by
    rcases List.mem_cons.mp hmem with e1 | hmem
    · exact absurd (e1 ▸ Heap.lt_size eo) (Nat.lt_irrefl _)
    · cases hmem)) (Heap.get?_push_of_some _ eo), ?_, q⟩
  show Value.bool _ = Value.bool _
  rw [← L2.any_range, trs_len ht, ← rr.length, rv.length, List.size_toArray]
theorem f_any (hc : X.calm = true) : Bf X (.builtin "any") fAny := ⟨_, call_anyT hc, fun H xs vs z Q w e q => by
  unfold fAny at e
  split at e
  · obtain ⟨ds, e1, e⟩ := Option.bind_eq_some_iff.mp e
    obtain ⟨ns, e2, rfl⟩ := Option.map_eq_some_iff.mp e
    cases w with
    | cons o t =>
      cases t
      obtain ⟨a, us, rfl, s, r⟩ := lstOf_ok o e1
      exact ⟨a, us, ds, ns, rfl, s, r, e2, fin_d (.bl _) q⟩
  · cases e⟩
/-! ### what is walked, of our own -/
variable {W : WX} {tg e : Expr} {m : En → RM T} {p pos : Pos}
def mIt (m : En → RM T) : En → RM (List T) := fun en => (m en).bind fun x en' => RM.of (R.of (items x)) en'
theorem mi_sq (h : PM X W e m) : PMI X W tg e (mIt m) := by
  obtain ⟨t, p, s⟩ := h
  refine ⟨_, pi_sq p, fun σ H en Fs Q ok q => s σ H en Fs _ ok ?_⟩
  unfold mIt at q
  cases e : m en with
  | ok x en1 =>
    rw [e] at q
    intro v H' Fs' G a o
    cases ef : items x with
    | none => simp only [RM.bind_ok, ef, R.of_none] at q; exact q.elim
    | some xs =>
      simp only [RM.bind_ok, ef, R.of_some] at q
      exact it_own o ef fun J j => q J H' Fs' G a j o.there
  | ex c en1 => rw [e] at q; exact q
  | no => rw [e] at q; exact q
def mR1 (m : En → RM T) : En → RM (List T) := fun en => (m en).bind fun x en' => RM.of (fR1 x) en'
theorem mi_rng1 (hm : X.mg "range" = none) (h : PM X W e m) (hg : Gl X "range" := by rfl) (hs : starEach [e] X.env = [(false, eval e X.env)] := by rfl) : PMI X W tg (.Call (.Name "range" p) [e] [] pos) (mR1 m) := by
  obtain ⟨t, pp, s⟩ := h
  refine ⟨_, pi_range1 hg hm (pa_cons pp pa_nil (by rw [hs]; rfl)) hs, fun σ H en Fs Q ok q => s σ H en Fs _ ok ?_⟩
  unfold mR1 at q
  cases e : m en with
  | ok x en1 =>
    rw [e] at q
    intro v H' Fs' G a o
    simp only [RM.bind_ok] at q
    unfold fR1 at q
    split at q
    · split at q
      · rename_i hj
        have r := o.rep
        cases r
        exact ⟨_, rfl, hj.1, hj.2, q _ H' Fs' [] a.drop it_rng fun _ m => absurd m List.not_mem_nil⟩
      · exact q.elim
    · exact q.elim
  | ex c en1 => rw [e] at q; exact q
  | no => rw [e] at q; exact q
end
/-! ### a def that calls itself: at depth 0 nothing is said -/
theorem fnP_no {P : Program} {w : World} {K : PySem.W.Frag} {mg : Str → Option Value} {base : Heap} {x : String} {st : Stmt} {f : Addr} {fd : FuncData} {ps : List Str} {k : Nat} (F : Fun K x x st f fd) (hm : mg x = some (.ref f)) (hb : Binds K fd ps []) : FnP P w K mg base x k (fun _ => .no) :=
  ⟨f, fd, ps, ⟨fun _ _ _ _ ⟨_, _, h⟩ => h.elim, fun _ _ _ _ _ _ _ _ _ _ _ _ _ ⟨_, _, h⟩ => h.elim⟩, hm, F.kp, hb⟩
theorem fnM_no {P : Program} {w : World} {K : PySem.W.Frag} {mg : Str → Option Value} {base : Heap} {x : String} {st : Stmt} {f : Addr} {fd : FuncData} {ps : List Str} {k : Nat} (F : Fun K x x st f fd) (hm : mg x = some (.ref f)) (hb : Binds K fd ps []) : FnM P w K mg base x k (fun _ _ => .no) :=
  ⟨f, fd, ps, ⟨fun _ _ _ _ ⟨_, _, _, _, _, _, _, _, _, h⟩ => h.elim, fun _ _ _ _ _ _ _ _ _ _ _ _ _ ⟨_, _, _, _, _, _, _, _, _, h⟩ => h.elim⟩, hm, F.kp, hb⟩
end Z
/-! Z: the rest that printed texts ask. -/
namespace Z
open PySem PySem.Spec L2
open PyProof.Rows hiding St

def mIxNg (i : Nat) (mb : En → RM T) : En → RM T := fun en => if (at_ en i).isSome then mIxN i mb en else .no
/-- the places that a target stores to -/
def Ixs (vs : List Nat) (k : T → Option Ass) : Prop := ∀ x as, k x = some as → ∀ p ∈ as, p.1 ∈ vs
def Ixd (vs : List Nat) (k : List D → Option Ass) : Prop := ∀ x as, k x = some as → ∀ p ∈ as, p.1 ∈ vs
theorem ix_name {vs : List Nat} {i : Nat} (h : i ∈ vs) : Ixs vs (kName i) := fun x as e p m => by
  cases e
  have : p = (i, x) := by simpa using m
  rw [this]; exact h
theorem ix_nil {vs : List Nat} : Ixd vs kNil := fun x as e p m => by
  cases x with
  | nil => cases e; cases m
  | cons _ _ => cases e
theorem ix_cons {vs : List Nat} {k : T → Option Ass} {r : List D → Option Ass} (h1 : Ixs vs k) (h2 : Ixd vs r) : Ixd vs (kCons k r) := fun x as e p m => by
  cases x with
  | nil => cases e
  | cons d ds =>
    obtain ⟨a, e1, e⟩ := Option.bind_eq_some_iff.mp e
    obtain ⟨b, e2, rfl⟩ := Option.map_eq_some_iff.mp e
    exact (List.mem_append.mp m).elim (h1 _ _ e1 p) (h2 _ _ e2 p)
theorem ix_tup {vs : List Nat} {n : Nat} {k : List D → Option Ass} (h : Ixd vs k) : Ixs vs (kTup n k) := fun x as e p m => by
  unfold kTup at e
  split at e
  · split at e
    · exact h _ _ e p m
    · cases e
  · cases e
/-- the law's promise: a value, no error -/
def spL (K : PySem.W.Frag) (F : List T → R T) : Sp := fun vs H Q _ => ∃ xs r, Vws K H vs xs ∧ F xs = .ok r ∧ ∀ v H' G, Same H H' → Own K H' v r G → Fresh H G → Q v H'
theorem law_ok {P : Program} {w : World} {K : PySem.W.Frag} {mg : Str → Option Value} {base : Heap} {k : Nat} {f : Addr} {fd : FuncData} {ps : List Str} {F : List T → R T} (h : FnOk P w K mg base (L2.CX P w) k f fd ps (spP K mg F)) : FnOk P w K mg base (L2.CX P w) k f fd ps (spL K F) :=
  h.imp fun vs H Q E ⟨xs, r, w, e, q⟩ => ⟨xs, w, by rw [e]; exact q⟩
theorem law_spL {K : PySem.W.Frag} {F : List T → R T} {H : Hp} {a : Addr} {ns : List Int} (h : Only H) (s : SqL K H a (ns.map V.int)) (e : F [.d (.rol (ns.map D.int))] = .ok (.d (.bl true))) : spL K F [.ref a] H (fun v _ => v = .bl true) fun _ _ _ => False := by
  refine ⟨[.d (.rol (ns.map D.int))], _, .cons (.d (script_ro h s)) .nil, e, ?_⟩
  intro v H' G _ o _
  have r := o.rep
  cases r
  rfl
theorem blk_ok {N : List Str} {sc scope : Scope} {own : List (Str × Nat)} (h : blkC N sc scope own = true) : blkC N sc scope own = true := h
theorem cx_false {P : Program} {w : World} {H : Hp} {s : Shared} {e : Value} {s' : Shared} (h : L2.CX P w [] H s (fun _ _ _ => False) e s') : False := by
  obtain ⟨_, _, _, _, _, _, _, _, _, _, _, _, z⟩ := h
  exact z
end Z
/-! Z: reckoning with what is told. -/
namespace Z
open PySem PySem.Spec L2
open PyProof.Rows hiding St
variable {α : Type} {g h ga gb gc : En → R T} {f f' : T → T → Option T} {en : En} {m ma mb : En → RM T} {c : En → RM Bool} {gt ht : En → R Bool} {i j n : Nat} {x y : T} {s : Sl} {gs : En → R (List T)} {ms : En → RM (List T)} {hm : En → RM (List Hd)} {b d : En → SR}
/-! slots -/
@[simp] theorem at_nil : at_ [] i = none := rfl
@[simp] theorem at_zero : at_ (s :: en) 0 = s.get := rfl
@[simp] theorem at_succ : at_ (s :: en) (i + 1) = at_ en i := rfl
@[simp] theorem get_n : Sl.get .n = none := rfl
@[simp] theorem get_v : Sl.get (.v x) = some x := rfl
@[simp] theorem get_w : Sl.get (.w x) = some x := rfl
@[simp] theorem get_b : Sl.get (.b x) = some x := rfl
@[simp] theorem own_v0 : ownAt (.v x :: en) 0 = some x := rfl
@[simp] theorem own_b0 : ownAt (.b x :: en) 0 = some x := rfl
@[simp] theorem own_w0 : ownAt (.w x :: en) 0 = none := rfl
@[simp] theorem own_n0 : ownAt (.n :: en) 0 = none := rfl
@[simp] theorem own_succ : ownAt (s :: en) (i + 1) = ownAt en i := rfl
@[simp] theorem stow_v0 : stow (.v x :: en) 0 s = some (s :: en) := rfl
@[simp] theorem stow_w0 : stow (.w x :: en) 0 s = some (s :: en) := rfl
@[simp] theorem stow_n0 : stow (.n :: en) 0 s = some (s :: en) := rfl
@[simp] theorem stow_b0 : stow (.b x :: en) 0 s = none := rfl
@[simp] theorem stow_succ {s2 : Sl} : stow (s2 :: en) (i + 1) s = (stow en i s).map (s2 :: ·) := by
  unfold stow
  simp only [List.getElem?_cons_succ]
  cases e : en[i]? with
  | none => rfl
  | some z => cases z <;> rfl
@[simp] theorem setO_b0 : setO (.b y :: en) 0 x = .b x :: en := rfl
@[simp] theorem setO_v0 : setO (.v y :: en) 0 x = .v x :: en := rfl
@[simp] theorem setO_succ : setO (s :: en) (i + 1) x = s :: setO en i x := by
  unfold setO
  simp only [List.getElem?_cons_succ]
  cases e : en[i]? with
  | none => rfl
  | some z => cases z <;> rfl
@[simp] theorem mkS_d {d : D} : mkS (.d d) = .v (.d d) := rfl
@[simp] theorem mkS_l {xs : List T} : mkS (.l xs) = .w (.l xs) := rfl
@[simp] theorem setE_nil : setE en [] = en := rfl
@[simp] theorem setE_cons {r : Ass} : setE en ((i, x) :: r) = setE (en.set i (mkS x)) r := rfl
@[simp] theorem wipeE_nil : wipeE en [] = en := rfl
@[simp] theorem wipeE_cons {r : List Nat} : wipeE en (i :: r) = (wipeE en r).set i .n := rfl
@[simp] theorem stows_nil : stows en [] = some en := rfl
@[simp] theorem stows_cons {r : Ass} : stows en ((i, x) :: r) = (stow en i (mkS x)).bind fun en' => stows en' r := rfl
@[simp] theorem stowD_nil : stowD en [] = some en := rfl
@[simp] theorem stowD_cons {d : D} {r : Ass} : stowD en ((i, .d d) :: r) = (stow en i (.v (.d d))).bind fun en' => stowD en' r := rfl
@[simp] theorem weak_l0 {xs : List T} : weak (.v (.l xs) :: en) 0 = .w (.l xs) :: en := rfl
@[simp] theorem weak_d0 {d : D} : weak (.v (.d d) :: en) 0 = .v (.d d) :: en := rfl
@[simp] theorem weak_w0 : weak (.w x :: en) 0 = .w x :: en := rfl
@[simp] theorem weak_succ : weak (s :: en) (i + 1) = s :: weak en i := by
  unfold weak
  simp only [List.getElem?_cons_succ]
  cases e : en[i]? with
  | none => rfl
  | some z => cases z with
    | v x => cases x <;> rfl
    | _ => rfl
@[simp] theorem notOwn_w0 : notOwn (.w x :: en) 0 = true := rfl
@[simp] theorem notOwn_d0 {d : D} : notOwn (.v (.d d) :: en) 0 = true := rfl
@[simp] theorem notOwn_succ : notOwn (s :: en) (i + 1) = notOwn en i := rfl
@[simp] theorem kName_ev : kName i x = some [(i, x)] := rfl
@[simp] theorem kD_d {k : T → Option Ass} {d : D} : kD k (.d d) = k (.d d) := rfl
@[simp] theorem kNil_ev : kNil [] = some [] := rfl
@[simp] theorem kCons_ev {k : T → Option Ass} {r : List D → Option Ass} {d : D} {ds : List D} : kCons k r (d :: ds) = (k (.d d)).bind fun a => (r ds).map fun b => a ++ b := rfl
@[simp] theorem kTup_ev {k : List D → Option Ass} {ds : List D} : kTup n k (.d (.tup ds)) = if ds.length = n then k ds else none := rfl
/-! reading -/
@[simp] theorem vN_ev : vN i en = R.of (at_ en i) := rfl
@[simp] theorem kI_ev {z : Int} : kI z en = .ok (.d (.int z)) := rfl
@[simp] theorem kB_ev {z : Bool} : kB z en = .ok (.d (.bl z)) := rfl
@[simp] theorem kS_ev {z : Str} : kS z en = .ok (.d (.str z)) := rfl
@[simp] theorem kD'_ev {z : D} : kD' z en = .ok (.d z) := rfl
@[simp] theorem gPur_ev : gPur g en = (g en).pur := rfl
@[simp] theorem g2_ev : g2 f ga gb en = (ga en).bind fun x => (gb en).bind fun y => .of (f x y) := rfl
@[simp] theorem g1_ev {f : T → Option T} : g1 f g en = (g en).bind fun x => .of (f x) := rfl
@[simp] theorem gT_ev : gT g en = (g en).bind fun x => .of (tst x) := rfl
@[simp] theorem gTru_ev : gTru g en = (g en).bind fun x => .of (tru x) := rfl
@[simp] theorem gNot_ev : gNot gt en = (gt en).bind fun b => .ok (!b) := rfl
@[simp] theorem gAnd_ev : gAnd gt ht en = (gt en).bind fun b => if b = true then ht en else .ok false := rfl
@[simp] theorem gOr_ev : gOr gt ht en = (gt en).bind fun b => if b = true then .ok true else ht en := rfl
@[simp] theorem gNotV_ev : gNotV g en = (g en).bind fun x => (R.of (tru x)).bind fun b => .ok (.d (.bl (!b))) := rfl
@[simp] theorem gAndV_ev : gAndV g h en = (g en).bind fun x => (R.of (tru x)).bind fun b => if b = true then h en else .ok x := rfl
@[simp] theorem gOrV_ev : gOrV g h en = (g en).bind fun x => (R.of (tru x)).bind fun b => if b = true then .ok x else h en := rfl
@[simp] theorem gIf_ev {p q : En → R α} : gIf gt p q en = (gt en).bind fun b => if b = true then p en else q en := rfl
@[simp] theorem gCh_ev : gCh f f' ga gb gc en = (ga en).bind fun x => (gb en).bind fun y => (R.of (f x y)).bind fun z => (R.of (tst z)).bind fun k => if k = true then (gc en).bind fun u => R.of (f' y u) else .ok (.d (.bl false)) := rfl
@[simp] theorem oN_ev : oN en = .ok none := rfl
@[simp] theorem oS_ev : oS g en = (g en).bind fun x => (R.of (asI x)).bind fun i => .ok (some i) := rfl
@[simp] theorem asI_ev {z : Int} : asI (.d (.int z)) = some z := rfl
@[simp] theorem gSl_ev {lo hi : En → R (Option Int)} : gSl g lo hi en = (g en).bind fun x => (lo en).bind fun l => (hi en).bind fun h => .of (fSl x l h) := rfl
@[simp] theorem aNil_ev : (aNil : En → R (List α)) en = .ok [] := rfl
@[simp] theorem aCons_ev {p : En → R α} {q : En → R (List α)} : aCons p q en = (p en).bind fun x => (q en).bind fun xs => .ok (x :: xs) := rfl
@[simp] theorem gTup_ev : gTup gs en = (gs en).bind mkTup := rfl
@[simp] theorem gLst_ev : gLst gs en = (gs en).bind mkLst := rfl
@[simp] theorem gCall_ev {f : List T → Option T} : gCall f gs en = (gs en).bind fun xs => .of (f xs) := rfl
@[simp] theorem gFn_ev {F : List T → R T} : gFn F gs en = (gs en).bind F := rfl
@[simp] theorem gIsi_ev {p : T → Bool} : gIsi p g en = (g en).bind fun x => .ok (.d (.bl (p x))) := rfl
@[simp] theorem gIt_ev : gIt g en = (g en).bind fun x => .of (items x) := rfl
theorem gR1_ev : gR1 g en = (g en).bind fR1 := rfl
theorem gR2_ev : gR2 ga gb en = (ga en).bind fun x => (gb en).bind fun y => fR2 x y := rfl
theorem gR3_ev : gR3 ga gb gc en = (ga en).bind fun x => (gb en).bind fun y => (gc en).bind fun z => fR3 x y z := rfl
theorem gLR1_ev : gLR1 g en = (g en).bind fun x => match x with
  | .d (.int n) => if 0 ≤ n ∧ n ≤ 16777216 then .ok (.l (rng 0 1 n.toNat)) else .no
  | _ => .no := rfl
theorem gLR2_ev : gLR2 ga gb en = (ga en).bind fun x => (gb en).bind fun y => match x, y with
  | .d (.int m), .d (.int n) => if 0 ≤ m ∧ m ≤ 16777216 ∧ 0 ≤ n ∧ n ≤ 16777216 then .ok (.l (rng m 1 (n - m).toNat)) else .no
  | _, _ => .no := rfl
@[simp] theorem gYes_ev : gYes en = .ok true := rfl
@[simp] theorem gLc_ev {vs : List Nat} {k : T → Option Ass} : gLc vs gs k gt g en = (gs en).bind fun xs => if xs.length < most then (lcL k gt g (wipeE en vs) xs).calm.bind fun ys => .ok (.l ys) else .no := rfl
@[simp] theorem calm_ok {a : α} : (R.ok a).calm = .ok a := rfl
@[simp] theorem mcalm_ok {a : α} : (RM.ok a en).calm = .ok a en := rfl
/-! operations -/
variable {p q : Int} {u v : Bool} {as bs : List D}
@[simp] theorem fAdd_i : fAdd (.d (.int p)) (.d (.int q)) = some (.d (.int (p + q))) := rfl
@[simp] theorem fAdd_t : fAdd (.d (.tup as)) (.d (.tup bs)) = if as.length + bs.length ≤ most then some (.d (.tup (as ++ bs))) else none := rfl
@[simp] theorem fSub_i : fSub (.d (.int p)) (.d (.int q)) = some (.d (.int (p - q))) := rfl
@[simp] theorem fMul_i : fMul (.d (.int p)) (.d (.int q)) = if MulOk p q then some (.d (.int (p * q))) else none := rfl
@[simp] theorem fMod_i : fMod (.d (.int p)) (.d (.int q)) = if 0 < q then some (.d (.int (p % q))) else none := rfl
@[simp] theorem fDiv_i : fDiv (.d (.int p)) (.d (.int q)) = if 0 < q ∧ q.natAbs.log2 < 9000 then some (.d (.int (p / q))) else none := rfl
@[simp] theorem fPow_i : fPow (.d (.int p)) (.d (.int q)) = if 0 ≤ q ∧ q ≤ 1000000 ∧ p.natAbs < 18446744073709551616 then some (.d (.int (p ^ q.toNat))) else none := rfl
@[simp] theorem fNeg_i : fNeg (.d (.int p)) = some (.d (.int (-p))) := rfl
@[simp] theorem fAddA_i : fAddA (.d (.int p)) (.d (.int q)) = some (.d (.int (p + q))) := rfl
theorem fDivA_i : fDivA (.d (.int p)) (.d (.int q)) = if 0 < q ∧ q < 1073741824 then some (.d (.int (p / q))) else none := rfl
@[simp] theorem fLt_i : fLt (.d (.int p)) (.d (.int q)) = some (.d (.bl (decide (p < q)))) := rfl
@[simp] theorem fLe_i : fLe (.d (.int p)) (.d (.int q)) = some (.d (.bl (decide (p ≤ q)))) := rfl
@[simp] theorem fGt_i : fGt (.d (.int p)) (.d (.int q)) = some (.d (.bl (decide (q < p)))) := rfl
@[simp] theorem fGe_i : fGe (.d (.int p)) (.d (.int q)) = some (.d (.bl (decide (q ≤ p)))) := rfl
theorem eqv_ii : PyData.eqv (.int p) (.int q) = decide (p = q) := by
  by_cases e : p = q
  · subst e; simp [PyData.eqv]
  · simp [PyData.eqv, e]
@[simp] theorem fEq_i : fEq (.d (.int p)) (.d (.int q)) = some (.d (.bl (decide (p = q)))) := by
  show (if _ then _ else _) = _
  rw [if_pos (show (shp (T.py (.d (.int p))) && shp (T.py (.d (.int q)))) = true from rfl)]
  show some (T.d (.bl (PyData.eqv (.int p) (.int q)))) = _
  rw [eqv_ii]
@[simp] theorem fNe_i : fNe (.d (.int p)) (.d (.int q)) = some (.d (.bl (!decide (p = q)))) := by
  show (if _ then _ else _) = _
  rw [if_pos (show (shp (T.py (.d (.int p))) && shp (T.py (.d (.int q)))) = true from rfl)]
  show some (T.d (.bl (!PyData.eqv (.int p) (.int q)))) = _
  rw [eqv_ii]
@[simp] theorem tst_b : tst (.d (.bl u)) = some u := rfl
@[simp] theorem tru_n : tru (.d .non) = some false := rfl
@[simp] theorem tru_b : tru (.d (.bl u)) = some u := rfl
@[simp] theorem tru_i : tru (.d (.int p)) = some (p != 0) := rfl
@[simp] theorem tru_t : tru (.d (.tup as)) = some (!as.isEmpty) := rfl
@[simp] theorem tru_r : tru (.d (.rol as)) = some (!as.isEmpty) := rfl
@[simp] theorem tru_l {xs : List T} : tru (.l xs) = some (!xs.isEmpty) := rfl
@[simp] theorem isInt_i : isInt (.d (.int p)) = true := rfl
@[simp] theorem isInt_b : isInt (.d (.bl u)) = true := rfl
@[simp] theorem isInt_t : isInt (.d (.tup as)) = false := rfl
@[simp] theorem isBl_i : isBl (.d (.int p)) = false := rfl
@[simp] theorem isBl_b : isBl (.d (.bl u)) = true := rfl
@[simp] theorem isBl_t : isBl (.d (.tup as)) = false := rfl
@[simp] theorem fLen_l {xs : List T} : fLen [.l xs] = some (.d (.int xs.length)) := rfl
@[simp] theorem fLen_t : fLen [.d (.tup as)] = some (.d (.int as.length)) := rfl
@[simp] theorem fLen_r : fLen [.d (.rol as)] = some (.d (.int as.length)) := rfl
@[simp] theorem fAbs_i : fAbs [.d (.int p)] = some (.d (.int (if p < 0 then -p else p))) := rfl
@[simp] theorem fInt_i : fInt [.d (.int p)] = some (.d (.int p)) := rfl
@[simp] theorem fInt_b : fInt [.d (.bl u)] = some (.d (.int (if u then 1 else 0))) := rfl
@[simp] theorem fMin2_i : fMin2 [.d (.int p), .d (.int q)] = some (.d (.int (min p q))) := rfl
@[simp] theorem fMax2_i : fMax2 [.d (.int p), .d (.int q)] = some (.d (.int (max p q))) := rfl
@[simp] theorem dataOf_t : dataOf (.d (.tup as)) = some as := rfl
@[simp] theorem dataOf_r : dataOf (.d (.rol as)) = some as := rfl
@[simp] theorem dataOf_l {xs : List T} : dataOf (.l xs) = allD xs := rfl
@[simp] theorem lstOf_r : lstOf (.d (.rol as)) = some as := rfl
@[simp] theorem lstOf_l {xs : List T} : lstOf (.l xs) = allD xs := rfl
@[simp] theorem fList_ev : fList [x] = (dataOf x).map fun ds => .l (ds.map T.d) := rfl
@[simp] theorem fTuple_ev : fTuple [x] = (dataOf x).map fun ds => .d (.tup ds) := rfl
@[simp] theorem fSum_ev : fSum [x] = (lstOf x).bind fun ds => (asInts ds).map fun ns => .d (.int ns.sum) := rfl
@[simp] theorem fAll_ev : fAll [x] = (lstOf x).bind fun ds => (asBls ds).map fun ns => .d (.bl (ns.all id)) := rfl
@[simp] theorem fAny_ev : fAny [x] = (lstOf x).bind fun ds => (trs ds).map fun bs => .d (.bl (bs.any id)) := rfl
@[simp] theorem items_t : items (.d (.tup as)) = some (as.map T.d) := rfl
@[simp] theorem items_r : items (.d (.rol as)) = some (as.map T.d) := rfl
@[simp] theorem items_l {xs : List T} : items (.l xs) = some xs := rfl
@[simp] theorem pur_ok_t {d : D} : R.pur (.ok (.d d)) = .ok (.d d) := rfl
theorem fR1_i : fR1 (.d (.int p)) = if -far ≤ p ∧ p < far then .ok (rng 0 1 p.toNat) else .no := rfl
theorem fR2_i : fR2 (.d (.int p)) (.d (.int q)) = if -far ≤ p ∧ p < far ∧ -far ≤ q ∧ q < far then .ok (rng p 1 (q - p).toNat) else .no := rfl
theorem fIx_t {i : Int} : fIx (.d (.tup as)) (.d (.int i)) = (atI as i).map T.d := rfl
theorem fIx_r {i : Int} : fIx (.d (.rol as)) (.d (.int i)) = (atI as i).map T.d := rfl
theorem fIx_l {xs : List T} {i : Int} : fIx (.l xs) (.d (.int i)) = atI xs i := rfl
theorem atI_nat {xs : List α} {k : Int} (h0 : 0 ≤ k) (h1 : k < xs.length) : atI xs k = xs[k.toNat]? := by
  unfold atI ixN
  rw [if_pos h0, if_pos h1]
  rfl
theorem fIx_l_num {xs : List T} (k : Nat) (h : k < xs.length) : fIx (.l xs) (.d (.int (k : Int))) = xs[k]? := by
  rw [fIx_l, atI_nat (Int.natCast_nonneg k) (Int.ofNat_lt.mpr h)]
  rfl
@[simp] theorem mkTup_nil : mkTup [] = .ok (.d (.tup [])) := rfl
@[simp] theorem mkLst_ev {xs : List T} : mkLst xs = if xs.length ≤ most then .ok (.l xs) else .no := rfl
@[simp] theorem mkTup_ev {xs : List T} : mkTup xs = R.of ((allD xs).bind fun ds => if ds.length ≤ most then some (.d (.tup ds)) else none) := by
  unfold mkTup
  cases allD xs with
  | none => rfl
  | some ds => by_cases h : ds.length ≤ most <;> simp [h]
@[simp] theorem allD_nil : allD [] = some [] := rfl
@[simp] theorem allD_cons {d : D} {r : List T} : allD (.d d :: r) = (allD r).map (d :: ·) := rfl
/-! effects -/
@[simp] theorem lft_ev {g : En → R α} : lft g en = RM.of (g en) en := rfl
@[simp] theorem mT_ev : mT m en = (m en).bind fun x en' => RM.of (R.of (tst x)) en' := rfl
@[simp] theorem mTru_ev : mTru m en = (m en).bind fun x en' => RM.of (R.of (tru x)) en' := rfl
@[simp] theorem mNot_ev : mNot c en = (c en).bind fun b en' => .ok (!b) en' := rfl
@[simp] theorem m2_ev : m2 f ma mb en = (ma en).bind fun x en1 => (mb en1).bind fun y en2 => RM.of (R.of (f x y)) en2 := rfl
@[simp] theorem mNil_ev : mNil en = .ok [] en := rfl
@[simp] theorem mCons_ev : mCons m ms en = (m en).bind fun x en1 => (ms en1).bind fun xs en2 => .ok (x :: xs) en2 := rfl
@[simp] theorem mOf_ev {f : List T → R T} : mOf f ms en = (ms en).bind fun xs en' => RM.of (f xs) en' := rfl
@[simp] theorem mIt_ev : mIt m en = (m en).bind fun x en' => RM.of (R.of (items x)) en' := rfl
theorem mR1_ev : mR1 m en = (m en).bind fun x en' => RM.of (fR1 x) en' := rfl
@[simp] theorem hNil_ev : hNil en = .ok [] en := rfl
@[simp] theorem hO_ev : hO m hm en = (m en).bind fun x en1 => (hm en1).bind fun xs en2 => .ok (.o x :: xs) en2 := rfl
@[simp] theorem hN_ev : hN i hm en = if (at_ en i).isSome then (hm en).bind fun xs en2 => .ok (.n i :: xs) en2 else .no := rfl
@[simp] theorem hds_nil : hds en i [] = some [] := rfl
@[simp] theorem hds_o {r : List Hd} : hds en i (.o x :: r) = (hds en i r).map (x :: ·) := rfl
@[simp] theorem hds_n {r : List Hd} : hds en i (.n j :: r) = if j = i then none else (at_ en j).bind fun x => (hds en i r).map (x :: ·) := rfl
theorem mName_n {d : D} : ∀ {en : En} {i : Nat}, at_ en i = some (.d d) → mName i en = .ok (.d d) en
  | en, i, h => by
    unfold mName; unfold at_ at h
    cases e : en[i]? with
    | none => rw [e] at h; cases h
    | some s =>
      rw [e] at h
      cases s with
      | n => cases h
      | v x => cases h; rfl
      | w x => cases h; rfl
      | b x => cases h; rfl
theorem mName_l {xs : List T} {en : En} {i : Nat} (h : en[i]? = some (.v (.l xs))) : mName i en = .ok (.l xs) (en.set i .n) := by
  unfold mName; rw [h]
theorem callM {F : T → List T → RF} {hs : List Hd} {en en1 : En} {x0 x1 x' r : T} {xs : List T} (h0 : ownAt en i = some x0) (h1 : hm en = .ok hs en1) (h2 : ownAt en1 i = some x1) (h3 : hds en1 i hs = some xs) (h4 : F x1 xs = .ok r x') : mCallM i F hm en = .ok r (setO en1 i x') := by
  unfold mCallM
  rw [h0]
  simp only [h1, RM.bind_ok]
  rw [h2]
  simp only [h3, h4]
/-! statements -/
def SR.sq (r : SR) (d : En → SR) : SR := match r with
  | .nx en => d en
  | r => r
@[simp] theorem sq_nx : (SR.nx en).sq d = d en := rfl
@[simp] theorem sq_ret : (SR.ret x en).sq d = .ret x en := rfl
@[simp] theorem sq_brk : (SR.brk en).sq d = .brk en := rfl
@[simp] theorem sq_ct : (SR.ct en).sq d = .ct en := rfl
@[simp] theorem sq_no : SR.no.sq d = .no := rfl
@[simp] theorem sq_ex {c : Exc} : (SR.ex c en).sq d = .ex c en := rfl
@[simp] theorem fSeq_ev : fSeq b d en = (b en).sq d := by
  unfold fSeq SR.sq
  cases b en <;> rfl
@[simp] theorem fNil_ev : fNil en = .nx en := rfl
@[simp] theorem toS_some : toS (some en) = .nx en := rfl
@[simp] theorem toS_none : toS none = .no := rfl
@[simp] theorem fSet_ev : fSet i m en = (m en).s fun x en' => toS (stow en' i (.v x)) := rfl
@[simp] theorem fAsg_ev {k : T → Option Ass} : fAsg k m en = (m en).s fun x en' => toS ((k x).bind fun as => stowD en' as) := rfl
@[simp] theorem fExpr_ev : fExpr m en = (m en).s fun _ en' => .nx en' := rfl
@[simp] theorem fRet_ev : fRet m en = (m en).s fun x en' => .ret x en' := rfl
@[simp] theorem fIf_ev : fIf c b d en = (c en).s fun u en' => if u = true then b en' else d en' := rfl
theorem fAug_i {k z : Int} {t : T} (h : at_ en i = some (.d (.int k))) (hm : m en = .ok (.d (.int z)) en) (hf : f (.d (.int k)) (.d (.int z)) = some t) : fAug i f m en = toS (stow en i (.v t)) := by
  unfold fAug datAt
  rw [h]
  simp only [R.of_some, R.pur_d, hm, RM.s_ok, hf]
theorem sif_t {P : Prop} [Decidable P] {r s : SR} (h : P) : (if P then r else s) = r := if_pos h
/-! a whole def -/
theorem runP_ret {k : Nat} {xs : List T} {r : T} (hk : xs.length = k) (h : ∃ e, b (startE n xs) = .ret r e) : runP n k b xs = .ok r := by
  obtain ⟨e, h⟩ := h
  unfold runP
  rw [if_pos hk, h]
theorem runP_nx {k : Nat} {xs : List T} (hk : xs.length = k) (h : ∃ e, b (startE n xs) = .nx e) : runP n k b xs = .ok (.d .non) := by
  obtain ⟨e, h⟩ := h
  unfold runP
  rw [if_pos hk, h]
theorem runM_ret {k : Nat} {x0 x' : T} {xs : List T} {r : T} (hk : xs.length + 1 = k) (h : ∃ e, b (startM n x0 xs) = .ret r (.b x' :: e)) : runM n k b x0 xs = .ok r x' := by
  obtain ⟨e, h⟩ := h
  unfold runM
  rw [if_pos hk, h]
  rfl
theorem ret_seq {r : T} {en en1 : En} (h1 : b en = .nx en1) (h2 : ∃ e, d en1 = .ret r e) : ∃ e, fSeq b d en = .ret r e := by
  rw [fSeq_ev, h1]; exact h2
theorem nx_seq {en en1 : En} {P : En → Prop} (h1 : b en = .nx en1) (h2 : ∃ e, d en1 = .nx e ∧ P e) : ∃ e, fSeq b d en = .nx e ∧ P e := by
  rw [fSeq_ev, h1]; exact h2
theorem ret_if_f {r : T} {en : En} {z : En → SR} {g : En → R Bool} (h1 : g en = .ok false) (h2 : ∃ e, z en = .ret r e) : ∃ e, fSeq (fIf (lft g) b fNil) z en = .ret r e := by
  refine ret_seq (en1 := en) ?_ h2
  rw [fIf_ev, lft_ev, h1]; rfl
theorem fIf_f {en : En} {g : En → R Bool} (h1 : g en = .ok false) : fIf (lft g) b d en = d en := by
  rw [fIf_ev, lft_ev, h1]; rfl
theorem fIf_t {en : En} {g : En → R Bool} (h1 : g en = .ok true) : fIf (lft g) b d en = b en := by
  rw [fIf_ev, lft_ev, h1]; rfl
/-! loops -/
theorem forE_ix {k : T → Option Ass} {f : En → SR} : ∀ (xs : List T) (Q : Nat → En → Prop) (j : Nat), (∀ i (hi : i < xs.length) en, Q (j + i) en → ∃ as en1 en2, k xs[i] = some as ∧ stows en as = some en1 ∧ (f en1 = .nx en2 ∨ f en1 = .ct en2) ∧ Q (j + i + 1) en2) → ∀ en, Q j en → ∃ en', forE k f xs en = .nx en' ∧ Q (j + xs.length) en'
  | [], Q, j, _, en, q => ⟨en, rfl, q⟩
  | x :: xs, Q, j, h, en, q => by
    obtain ⟨as, en1, en2, h1, h2, h3, h4⟩ := h 0 (Nat.succ_pos _) en q
    obtain ⟨en', h5, h6⟩ := forE_ix xs Q (j + 1) (fun i hi en q => by
      have := h (i + 1) (Nat.succ_lt_succ hi) en (by rwa [Nat.add_assoc, Nat.add_comm 1] at q)
      rw [show j + 1 + i + 1 = j + (i + 1) + 1 by omega]
      exact this) en2 h4
    refine ⟨en', ?_, by rw [List.length_cons, show j + (xs.length + 1) = j + 1 + xs.length by omega]; exact h6⟩
    show (match (k x).bind fun as => stows en as with
    | none => SR.no
    | some en1 => match f en1 with
      | .nx en2 => forE k f xs en2
      | .ct en2 => forE k f xs en2
      | .brk en2 => .nx en2
      | r => r) = _
    rw [show k x = some as from h1, Option.bind_some, h2]
    rcases h3 with h3 | h3 <;> simp only [h3] <;> exact h5
/-- a loop over names, by what holds beside the count -/
theorem for_ix {v : Nat} {mi : En → RM (List T)} {f : En → SR} {xs : List T} (Q : Nat → En → Prop) (en : En) {en0 : En} (hm : mi en = .ok xs en0) (h0 : Q 0 en0) (h : ∀ i (hi : i < xs.length) en, Q i en → ∃ en1 en2, stow en v (mkS xs[i]) = some en1 ∧ (f en1 = .nx en2 ∨ f en1 = .ct en2) ∧ Q (i + 1) en2) : ∃ en', fFor (kName v) mi f en = .nx en' ∧ Q xs.length en' := by
  obtain ⟨en', h1, h2⟩ := forE_ix (k := kName v) (f := f) xs Q 0 (fun i hi en q => by
    rw [Nat.zero_add] at q ⊢
    obtain ⟨en1, en2, a, b, c⟩ := h i hi en q
    exact ⟨_, en1, en2, rfl, by rw [stows_cons, a]; rfl, b, c⟩) en0 h0
  refine ⟨en', ?_, by rwa [Nat.zero_add] at h2⟩
  show (mi en).s _ = _
  rw [hm]; exact h1
theorem forN_ix {v i : Nat} {f : En → SR} {xs : List T} (Q : Nat → En → Prop) (en : En) (hn : notOwn (weak en i) i = true) (hm : (at_ (weak en i) i).bind items = some xs) (h0 : Q 0 (weak en i)) (h : ∀ j (hj : j < xs.length) en, Q j en → ∃ en1 en2, stow en v (mkS xs[j]) = some en1 ∧ (f en1 = .nx en2 ∨ f en1 = .ct en2) ∧ Q (j + 1) en2) : ∃ en', fForN (kName v) i f en = .nx en' ∧ Q xs.length en' := by
  obtain ⟨en', h1, h2⟩ := forE_ix (k := kName v) (f := f) xs Q 0 (fun i hi en q => by
    rw [Nat.zero_add] at q ⊢
    obtain ⟨en1, en2, a, b, c⟩ := h i hi en q
    exact ⟨_, en1, en2, rfl, by rw [stows_cons, a]; rfl, b, c⟩) _ h0
  refine ⟨en', ?_, by rwa [Nat.zero_add] at h2⟩
  show (if _ then _ else _) = _
  rw [if_pos hn]
  simp only [hm]; exact h1
/-- a comprehension of things told one by one -/
theorem lcL_map {v : Nat} {te : En → R T} {en : En} {G : T → T} : ∀ {xs : List T}, (∀ x ∈ xs, te (en.set v (mkS x)) = .ok (G x)) → lcL (kName v) gYes te en xs = .ok (xs.map G)
  | [], _ => rfl
  | x :: xs, h => by
    unfold lcL
    simp only [kName_ev, R.of_some, R.bind_ok, setE_cons, setE_nil, gYes_ev, if_true, h x (List.mem_cons_self ..), lcL_map (xs := xs) fun y m => h y (List.mem_cons_of_mem _ m), List.map_cons]
theorem lc_rng {vs : List Nat} {v : Nat} {gs : En → R (List T)} {te : En → R T} {en : En} {a : Int} {n : Nat} {G : Nat → D} (hg : gs en = .ok (rng a 1 n)) (hn : n < 16777216) (h : ∀ i, i < n → te ((wipeE en vs).set v (.v (.d (.int (a + i))))) = .ok (.d (G i))) : gLc vs gs (kName v) gYes te en = .ok (.l (((List.range n).map G).map T.d)) := by
  rw [gLc_ev, hg]
  simp only [R.bind_ok]
  rw [if_pos (show (rng a 1 n).length < most by rw [rng_len]; exact hn)]
  have : ∀ (L : List Nat), (∀ i ∈ L, i < n) → lcL (kName v) gYes te (wipeE en vs) (L.map fun (i : Nat) => T.d (.int (a + (i : Nat) * 1))) = .ok ((L.map G).map T.d) := by
    intro L
    induction L with
    | nil => intro _; rfl
    | cons i L ih =>
      intro hL
      rw [List.map_cons]
      unfold lcL
      have e := h i (hL i (List.mem_cons_self ..))
      simp only [kName_ev, R.of_some, R.bind_ok, setE_cons, setE_nil, gYes_ev, if_true, mkS_d, Int.mul_one, e]
      have e2 := ih fun j m => hL j (List.mem_cons_of_mem _ m)
      simp only [Int.mul_one] at e2
      rw [e2]
      rfl
  have e := this (List.range n) fun i m => List.mem_range.mp m
  unfold rng
  rw [e]
  rfl
/-! the law's own draws -/
def St (ns : List Int) (i j k : Int) : T := .l [.l (ns.map fun z => T.d (.int z)), .d (.int i), .d (.int j), .d (.int k)]
def Stt (ns : List Int) (s : T) : Prop := ∃ i j k, s = St ns i j k
end Z
/-! Z: the draws that the laws make. -/
namespace Z
open PySem PySem.Spec L2
open PyProof.Rows hiding St
def d_start : En → SR :=
  (fRet (lft (gLst (aCons (gCall fList (aCons (vN 0) aNil)) (aCons (kI 0) (aCons (kI 0) (aCons (kI 0) aNil)))))))
def F_start := runP 1 1 d_start
def d_draw : En → SR :=
  (fSeq (fStore 0 (kI 3) (lft (g2 fAdd (g2 fIx (vN 0) (kI 3)) (kI 1))))
  (fSeq (fIf (lft (gT (g2 fGt (g2 fIx (vN 0) (kI 2)) (kI 0)))) (fSeq (fSet 2 (lft (g2 fMod (gCall fInt (aCons (g2 fIx (vN 0) (kI 2)) aNil)) (vN 1))))
  (fSeq (fStore 0 (kI 2) (lft (g2 fDiv (g2 fIx (vN 0) (kI 2)) (vN 1))))
  (fRet (mName 2)))) fNil)
  (fSeq (fSet 3 (lft (kI 0)))
  (fSeq (fIf (lft (gT (g2 fGt (gCall fLen (aCons (g2 fIx (vN 0) (kI 0)) aNil)) (kI 0)))) (fSet 3 (lft (gCall fAbs (aCons (g2 fIx (g2 fIx (vN 0) (kI 0)) (g2 fMod (gCall fInt (aCons (g2 fIx (vN 0) (kI 1)) aNil)) (gCall fLen (aCons (g2 fIx (vN 0) (kI 0)) aNil)))) aNil)))) fNil)
  (fSeq (fStore 0 (kI 1) (lft (g2 fAdd (g2 fIx (vN 0) (kI 1)) (kI 1))))
  (fSeq (fIf (lft (gT (g2 fGe (vN 3) (g2 fPow (kI 10) (kI 18))))) (fSeq (fStore 0 (kI 2) (lft (g2 fDiv (vN 3) (vN 1))))
  (fRet (lft (g2 fMod (gCall fInt (aCons (vN 3) aNil)) (vN 1))))) fNil)
  (fSeq (fSet 4 (lft (g2 fMod (gCall fInt (aCons (g2 fAdd (g2 fMul (g2 fAdd (vN 3) (kI 1)) (kI 48271)) (g2 fMul (g2 fIx (vN 0) (kI 3)) (kI 69621))) aNil)) (kI 2147483647))))
  (fSeq (fSet 4 (lft (g2 fMod (gCall fInt (aCons (g2 fAdd (g2 fAdd (g2 fMul (vN 4) (kI 16807)) (g2 fDiv (vN 3) (kI 97))) (g2 fIx (vN 0) (kI 3))) aNil)) (kI 2147483629))))
  (fRet (lft (g2 fMod (g2 fDiv (vN 4) (kI 11)) (vN 1))))))))))))
def F_draw := runM 5 2 d_draw
def d_oneof : En → SR :=
  (fRet (mIxNg 1 (mCallM 0 F_draw (hO (lft (gCall fLen (aCons (vN 1) aNil))) hNil))))
def F_oneof := runM 2 2 d_oneof
theorem start_St (ns : List Int) : F_start [.d (.rol (ns.map D.int))] = .ok (St ns 0 0 0) := by
  refine runP_ret rfl ⟨[.v (.d (.rol (ns.map D.int)))], ?_⟩
  simp [startE, d_start, St, most]
theorem log2_lt9000 {m : Int} (h1 : m < 1000000000) (h0 : 0 < m) : m.natAbs.log2 < 9000 := by
  have : m.natAbs < 1000000000 := by omega
  have : m.natAbs.log2 < 30 := by
    by_cases e : m.natAbs = 0
    · rw [e]; decide
    · rw [Nat.log2_lt e]; omega
  omega
theorem draw_lg {ns : List Int} (hl : ns.length ≤ 63) {s : T} (hs : Stt ns s) {m : Int} (h0 : 0 < m) (hm : m.natAbs.log2 < 9000) : ∃ v s', 0 ≤ v ∧ v < m ∧ F_draw s [.d (.int m)] = .ok (.d (.int v)) s' ∧ Stt ns s' := by
  obtain ⟨i, j, k, rfl⟩ := hs
  have r : ∀ z : Int, 0 ≤ z % m ∧ z % m < m := fun z => ⟨Int.emod_nonneg _ (by omega), Int.emod_lt_of_pos _ h0⟩
  have ix3 : ∀ i j k, fIx (St ns i j k) (.d (.int 3)) = some (.d (.int k)) := fun i j k => rfl
  have ix2 : ∀ i j k, fIx (St ns i j k) (.d (.int 2)) = some (.d (.int j)) := fun i j k => rfl
  have ix1 : ∀ i j k, fIx (St ns i j k) (.d (.int 1)) = some (.d (.int i)) := fun i j k => rfl
  have ix0 : ∀ i j k, fIx (St ns i j k) (.d (.int 0)) = some (.l (ns.map fun z => T.d (.int z))) := fun i j k => rfl
  have st3 : ∀ i j k z (m : En → RM T) en t, m (.b (St ns i j k) :: en) = .ok (.d (.int z)) (.b (St ns i j k) :: en) → fStore 0 (kI 3) m (.b (St ns i j k) :: t) = fStore 0 (kI 3) m (.b (St ns i j k) :: t) := fun _ _ _ _ _ _ _ _ => rfl
  have s3 : ∀ i j k z (m : En → RM T) en, m (.b (St ns i j k) :: en) = .ok (.d (.int z)) (.b (St ns i j k) :: en) → fStore 0 (kI 3) m (.b (St ns i j k) :: en) = .nx (.b (St ns i j z) :: en) := fun i j k z m en h => by unfold fStore; rw [h]; rfl
  have s2 : ∀ i j k z (m : En → RM T) en, m (.b (St ns i j k) :: en) = .ok (.d (.int z)) (.b (St ns i j k) :: en) → fStore 0 (kI 2) m (.b (St ns i j k) :: en) = .nx (.b (St ns i z k) :: en) := fun i j k z m en h => by unfold fStore; rw [h]; rfl
  have s1 : ∀ i j k z (m : En → RM T) en, m (.b (St ns i j k) :: en) = .ok (.d (.int z)) (.b (St ns i j k) :: en) → fStore 0 (kI 1) m (.b (St ns i j k) :: en) = .nx (.b (St ns z j k) :: en) := fun i j k z m en h => by unfold fStore; rw [h]; rfl
  by_cases hj : 0 < j
  · refine ⟨j % m, St ns i (j / m) (k + 1), (r j).1, (r j).2, runM_ret rfl ⟨[.v (.d (.int m)), .v (.d (.int (j % m))), .n, .n], ?_⟩, _, _, _, rfl⟩
    show d_draw [.b (St ns i j k), .v (.d (.int m)), .n, .n, .n] = _
    unfold d_draw
    rw [fSeq_ev, s3 i j k (k + 1) _ _ (by simp [ix3]), sq_nx, fSeq_ev, fIf_t (by simp [ix2, hj]), fSeq_ev]
    rw [show (fSet 2 (lft (g2 fMod (gCall fInt (aCons (g2 fIx (vN 0) (kI 2)) aNil)) (vN 1)))) [.b (St ns i j (k + 1)), .v (.d (.int m)), .n, .n, .n] = .nx [.b (St ns i j (k + 1)), .v (.d (.int m)), .v (.d (.int (j % m))), .n, .n] from by simp [ix2, h0]]
    rw [sq_nx, fSeq_ev, s2 i j (k + 1) (j / m) _ _ (by simp [ix2, h0, hm]), sq_nx]
    rfl
  · have main : ∀ (c : Int), 0 ≤ c → ∃ v s', 0 ≤ v ∧ v < m ∧ (∃ e, (fSeq (fStore 0 (kI 1) (lft (g2 fAdd (g2 fIx (vN 0) (kI 1)) (kI 1))))
  (fSeq (fIf (lft (gT (g2 fGe (vN 3) (g2 fPow (kI 10) (kI 18))))) (fSeq (fStore 0 (kI 2) (lft (g2 fDiv (vN 3) (vN 1))))
  (fRet (lft (g2 fMod (gCall fInt (aCons (vN 3) aNil)) (vN 1))))) fNil)
  (fSeq (fSet 4 (lft (g2 fMod (gCall fInt (aCons (g2 fAdd (g2 fMul (g2 fAdd (vN 3) (kI 1)) (kI 48271)) (g2 fMul (g2 fIx (vN 0) (kI 3)) (kI 69621))) aNil)) (kI 2147483647))))
  (fSeq (fSet 4 (lft (g2 fMod (gCall fInt (aCons (g2 fAdd (g2 fAdd (g2 fMul (vN 4) (kI 16807)) (g2 fDiv (vN 3) (kI 97))) (g2 fIx (vN 0) (kI 3))) aNil)) (kI 2147483629))))
  (fRet (lft (g2 fMod (g2 fDiv (vN 4) (kI 11)) (vN 1)))))))) [.b (St ns i j (k + 1)), .v (.d (.int m)), .n, .v (.d (.int c)), .n] = .ret (.d (.int v)) (.b s' :: e)) ∧ Stt ns s' := by
      intro c hc
      by_cases hb : 10 ^ 18 ≤ c
      · refine ⟨c % m, St ns (i + 1) (c / m) (k + 1), (r c).1, (r c).2, ⟨[.v (.d (.int m)), .n, .v (.d (.int c)), .n], ?_⟩, _, _, _, rfl⟩
        rw [fSeq_ev, s1 i j (k + 1) (i + 1) _ _ (by simp [ix1]), sq_nx, fSeq_ev, fIf_t (by simp [hb]; exact hb), fSeq_ev, s2 (i + 1) j (k + 1) (c / m) _ _ (by simp [h0, hm]), sq_nx]
        simp [h0]
      · refine ⟨(((c + 1) * 48271 + (k + 1) * 69621) % 2147483647 * 16807 + c / 97 + (k + 1)) % 2147483629 / 11 % m, St ns (i + 1) j (k + 1), (r _).1, (r _).2, ⟨[.v (.d (.int m)), .n, .v (.d (.int c)), .v (.d (.int ((((c + 1) * 48271 + (k + 1) * 69621) % 2147483647 * 16807 + c / 97 + (k + 1)) % 2147483629)))], ?_⟩, _, _, _, rfl⟩
        rw [fSeq_ev, s1 i j (k + 1) (i + 1) _ _ (by simp [ix1]), sq_nx, fSeq_ev, fIf_f (by simp [hb]; omega), fNil_ev, sq_nx, fSeq_ev]
        have m1 : ∀ x : Int, MulOk x 48271 := fun x => .r (by decide)
        have m2 : ∀ x : Int, MulOk x 69621 := fun x => .r (by decide)
        have m3 : ∀ x : Int, MulOk x 16807 := fun x => .r (by decide)
        have l1 : Nat.log2 97 < 9000 := by decide
        have l2 : Nat.log2 11 < 9000 := by decide
        simp [ix3, m1, m2, m3, h0, l1, l2]
    have hd : ∃ c : Int, 0 ≤ c ∧ (fSeq (fSet 3 (lft (kI 0))) (fIf (lft (gT (g2 fGt (gCall fLen (aCons (g2 fIx (vN 0) (kI 0)) aNil)) (kI 0)))) (fSet 3 (lft (gCall fAbs (aCons (g2 fIx (g2 fIx (vN 0) (kI 0)) (g2 fMod (gCall fInt (aCons (g2 fIx (vN 0) (kI 1)) aNil)) (gCall fLen (aCons (g2 fIx (vN 0) (kI 0)) aNil)))) aNil)))) fNil)) [.b (St ns i j (k + 1)), .v (.d (.int m)), .n, .n, .n] = .nx [.b (St ns i j (k + 1)), .v (.d (.int m)), .n, .v (.d (.int c)), .n] := by
      by_cases hn : 0 < (ns.length : Int)
      · have b1 : 0 ≤ i % (ns.length : Int) := Int.emod_nonneg _ (by omega)
        have b2 : i % (ns.length : Int) < (ns.length : Int) := Int.emod_lt_of_pos _ hn
        have b3 : (i % (ns.length : Int)).toNat < ns.length := by omega
        have e : fIx (.l (ns.map fun z => T.d (.int z))) (.d (.int (i % (ns.length : Int)))) = some (.d (.int ns[(i % (ns.length : Int)).toNat])) := by
          rw [fIx_l, atI_nat b1 (by simpa using b2), List.getElem?_map, List.getElem?_eq_getElem b3]; rfl
        refine ⟨if ns[(i % (ns.length : Int)).toNat] < 0 then -ns[(i % (ns.length : Int)).toNat] else ns[(i % (ns.length : Int)).toNat], by split <;> omega, ?_⟩
        rw [fSeq_ev]
        have hn' : 0 < ns.length := by omega
        simp [ix0, ix1, hn', e]
      · refine ⟨0, by omega, ?_⟩
        have : ns = [] := by
          cases ns with
          | nil => rfl
          | cons _ _ => simp at hn
        subst this
        rw [fSeq_ev]
        simp [ix0]
    obtain ⟨c, hc, hd⟩ := hd
    obtain ⟨v, s', v0, v1, hv, hs'⟩ := main c hc
    refine ⟨v, s', v0, v1, runM_ret rfl ?_, hs'⟩
    obtain ⟨e, hv⟩ := hv
    refine ⟨e, ?_⟩
    show d_draw [.b (St ns i j k), .v (.d (.int m)), .n, .n, .n] = _
    unfold d_draw
    rw [fSeq_ev, s3 i j k (k + 1) _ _ (by simp [ix3]), sq_nx, fSeq_ev, fIf_f (by simp [ix2, hj]), fNil_ev, sq_nx]
    rw [fSeq_ev] at hd
    rw [fSeq_ev]
    cases e1 : (fSet 3 (lft (kI 0))) [.b (St ns i j (k + 1)), .v (.d (.int m)), .n, .n, .n] with
    | nx en1 =>
      rw [e1, sq_nx] at hd
      rw [sq_nx, fSeq_ev, hd, sq_nx]
      exact hv
    | _ => rw [e1] at hd; cases hd
theorem draw_ok {ns : List Int} (hl : ns.length ≤ 63) {s : T} (hs : Stt ns s) {m : Int} (h0 : 0 < m) (h1 : m < 1000000000) : ∃ v s', 0 ≤ v ∧ v < m ∧ F_draw s [.d (.int m)] = .ok (.d (.int v)) s' ∧ Stt ns s' := draw_lg hl hs h0 (log2_lt9000 h1 h0)
end Z
/-! Z: more of the laws' common ways. -/
namespace Z
open PySem PySem.Spec L2
open PyProof.Rows hiding St
abbrev I (z : Int) : T := .d (.int z)
mutual
def beqD : D → D → Bool
  | .non, .non => true
  | .bl a, .bl b => a == b
  | .int a, .int b => a == b
  | .tup a, .tup b => beqDs a b
  | _, _ => false
def beqDs : List D → List D → Bool
  | [], [] => true
  | a :: r, b :: s => beqD a b && beqDs r s
  | _, _ => false
end
mutual
theorem beqD_eq : ∀ {a b : D}, beqD a b = true → a = b
  | .non, b, h => by cases b <;> first | rfl | cases h
  | .bl a, b, h => by
    cases b with
    | bl b => simp [beqD] at h; rw [h]
    | _ => cases h
  | .int a, b, h => by
    cases b with
    | int b => simp [beqD] at h; rw [h]
    | _ => cases h
  | .str a, b, h => by cases b <;> cases h
  | .tup a, b, h => by
    cases b with
    | tup b => rw [beqDs_eq (a := a) (b := b) h]
    | _ => cases h
  | .rol a, b, h => by cases b <;> cases h
theorem beqDs_eq : ∀ {a b : List D}, beqDs a b = true → a = b
  | [], [], _ => rfl
  | [], _ :: _, h => by cases h
  | _ :: _, [], h => by cases h
  | a :: r, b :: s, h => by
    rw [beqDs, Bool.and_eq_true] at h
    rw [beqD_eq h.1, beqDs_eq h.2]
end
def okIs (r : R T) (d : D) : Bool := match r with
  | .ok (.d e) => beqD e d
  | _ => false
theorem okIs_eq {r : R T} {d : D} (h : okIs r d = true) : r = .ok (.d d) := by
  unfold okIs at h
  split at h
  · rw [beqD_eq h]
  · cases h
theorem ret_lft {g : En → R T} {x : T} {en : En} (h : g en = .ok x) : ∃ e, fRet (lft g) en = .ret x e := ⟨en, by rw [fRet_ev, lft_ev, h]; rfl⟩
theorem small_ok {i j : Int} (h0 : -1000000 ≤ i) (h1 : i ≤ 1000000) : MulOk i j := .l (by omega)
theorem mod_range (z : Int) {p : Int} (h : 0 < p) : 0 ≤ z % p ∧ z % p < p := ⟨Int.emod_nonneg _ (by omega), Int.emod_lt_of_pos _ h⟩
theorem dvd_mod (z p : Int) : ∃ k, z % p = z + p * k := ⟨-(z / p), by rw [Int.emod_def, Int.mul_neg, Int.sub_eq_add_neg]⟩
theorem fR1_n {z : Int} (h1 : -1000000000 ≤ z) (h2 : z ≤ 1000000000) : fR1 (I z) = .ok (rng 0 1 z.toNat) := by
  show (if _ then _ else _) = _
  exact if_pos ⟨Int.le_trans (by decide) h1, Int.lt_of_le_of_lt h2 (by decide)⟩
theorem fR2_n {y z : Int} (h1 : -1000000000 ≤ y) (h2 : y ≤ 1000000000) (h3 : -1000000000 ≤ z) (h4 : z ≤ 1000000000) : fR2 (I y) (I z) = .ok (rng y 1 (z - y).toNat) := by
  show (if _ then _ else _) = _
  exact if_pos ⟨Int.le_trans (by decide) h1, Int.lt_of_le_of_lt h2 (by decide), Int.le_trans (by decide) h3, Int.lt_of_le_of_lt h4 (by decide)⟩
theorem gR1_n {g : En → R T} {en : En} {z : Int} (h : g en = .ok (I z)) (h1 : -1000000000 ≤ z) (h2 : z ≤ 1000000000) : gR1 g en = .ok (rng 0 1 z.toNat) := by
  rw [gR1_ev, h, R.bind_ok, fR1_n h1 h2]
theorem gR2_n {ga gb : En → R T} {en : En} {y z : Int} (ha : ga en = .ok (I y)) (hb : gb en = .ok (I z)) (h1 : -1000000000 ≤ y) (h2 : y ≤ 1000000000) (h3 : -1000000000 ≤ z) (h4 : z ≤ 1000000000) : gR2 ga gb en = .ok (rng y 1 (z - y).toNat) := by
  rw [gR2_ev, ha, R.bind_ok, hb, R.bind_ok, fR2_n h1 h2 h3 h4]
theorem gLR1_n {g : En → R T} {en : En} {z : Int} (h : g en = .ok (I z)) (h1 : 0 ≤ z) (h2 : z ≤ 16777216) : gLR1 g en = .ok (.l (rng 0 1 z.toNat)) := by
  rw [gLR1_ev, h, R.bind_ok]
  exact if_pos ⟨h1, h2⟩
theorem lft_n {α : Type} {g : En → R α} {en : En} {x : α} (h : g en = .ok x) : lft g en = .ok x en := by rw [lft_ev, h, RM.of_ok]
def NB (o : Sl) : Prop := ∀ z, o ≠ .b z
theorem NB.n : NB .n := fun z e => by cases e
theorem NB.v {x : T} : NB (.v x) := fun z e => by cases e
theorem NB.w {x : T} : NB (.w x) := fun z e => by cases e
theorem NB.s {o : Sl} (h : NB o) {en : En} {s : Sl} : stow (o :: en) 0 s = some (s :: en) := by
  cases o with
  | b z => exact absurd rfl (h z)
  | _ => rfl
theorem rng_at {n i : Nat} {a : Int} (h : i < (rng a 1 n).length) : (rng a 1 n)[i] = I (a + i) := by
  have h' : i < n := by rwa [rng_len] at h
  have := rng_get (a := a) (c := 1) h'
  rw [List.getElem?_eq_getElem h] at this
  injection this with this
  rw [this, Int.mul_one]
theorem rng_d (a c : Int) (n : Nat) : rng a c n = ((List.range n).map fun i => D.int (a + (i : Nat) * c)).map T.d := by
  unfold rng; rw [List.map_map]; rfl
theorem fAdd_l {as bs : List D} (h : as.length + bs.length ≤ most) : fAdd (.l (as.map T.d)) (.l (bs.map T.d)) = some (.l ((as ++ bs).map T.d)) := by
  unfold fAdd
  simp only [allD_map]
  rw [if_pos h]
theorem ints_of {P : Int → Prop} : ∀ {ys : List T}, (∀ y ∈ ys, ∃ z, y = I z ∧ P z) → ∃ zs : List Int, ys = (zs.map D.int).map T.d ∧ ∀ z ∈ zs, P z
  | [], _ => ⟨[], rfl, fun _ m => absurd m List.not_mem_nil⟩
  | y :: ys, h => by
    obtain ⟨z, rfl, hz⟩ := h y (List.mem_cons_self ..)
    obtain ⟨zs, rfl, hs⟩ := ints_of (ys := ys) fun y m => h y (List.mem_cons_of_mem _ m)
    exact ⟨z :: zs, rfl, fun w m => by
      rcases List.mem_cons.mp m with e | m
      · rw [e]; exact hz
      · exact hs w m⟩
/-- a comprehension with effects over data -/
theorem lcM_inv {vs : List Nat} {v : Nat} {te : En → RM T} (Q : En → Prop) (P : T → Prop) (h : ∀ d en, Q en → ∃ en2 y en4, stow (wipeE en vs) v (.v (.d d)) = some en2 ∧ te en2 = .ok y en4 ∧ P y ∧ Q (wipeE en4 vs)) : ∀ (ds : List D) en, Q en → ∃ ys en', lcM vs (kName v) gYes te (ds.map T.d) en = .ok ys en' ∧ ys.length = ds.length ∧ (∀ y ∈ ys, P y) ∧ Q en'
  | [], en, q => ⟨[], en, rfl, rfl, fun _ m => absurd m List.not_mem_nil, q⟩
  | d :: ds, en, q => by
    obtain ⟨en2, y, en4, h1, h2, h3, h4⟩ := h d en q
    obtain ⟨ys, en', h5, h6, h7, h8⟩ := lcM_inv Q P h ds _ h4
    refine ⟨y :: ys, en', ?_, by rw [List.length_cons, h6, List.length_cons], fun z m => ?_, h8⟩
    · rw [List.map_cons]
      unfold lcM
      simp only [kD_d, kName_ev, Option.bind_some, stowD_cons, stowD_nil, h1, gYes_ev, h2, h5, RM.bind_ok]
    · rcases List.mem_cons.mp m with e | m
      · rw [e]; exact h3
      · exact h7 z m
/-- one of many, drawn -/
theorem oneof_ok {ns : List Int} (hl : ns.length ≤ 63) {s : T} (hs : Stt ns s) {ds : List D} (h0 : 0 < ds.length) (h1 : ds.length < 1000000000) : ∃ d s', d ∈ ds ∧ F_oneof s [.l (ds.map T.d)] = .ok (.d d) s' ∧ Stt ns s' := by
  obtain ⟨v, s', v0, v1, e, hs'⟩ := draw_ok hl hs (m := (ds.length : Int)) (by omega) (by omega)
  have hv : v.toNat < ds.length := by omega
  refine ⟨ds[v.toNat], s', List.getElem_mem hv, runM_ret rfl ⟨[.w (.l (ds.map T.d))], ?_⟩, hs'⟩
  show d_oneof [.b s, .w (.l (ds.map T.d))] = _
  unfold d_oneof
  rw [fRet_ev]
  have c : mCallM 0 F_draw (hO (lft (gCall fLen (aCons (vN 1) aNil))) hNil) [.b s, .w (.l (ds.map T.d))] = .ok (I v) [.b s', .w (.l (ds.map T.d))] := by
    refine callM (hs := [.o (I ds.length)]) (x0 := s) (en1 := [.b s, .w (.l (ds.map T.d))]) (x1 := s) (xs := [I ds.length]) rfl ?_ rfl rfl e
    simp
  have e2 : fIx (.l (ds.map T.d)) (I v) = some (.d ds[v.toNat]) := by
    rw [fIx_l, atI_nat v0 (by simpa using v1), List.getElem?_map, List.getElem?_eq_getElem hv]; rfl
  unfold mIxNg
  rw [if_pos (show (at_ [.b s, .w (.l (ds.map T.d))] 1).isSome = true from rfl)]
  unfold mIxN
  rw [c]
  simp [e2]
end Z
/-! Z: enumerate of a tuple. -/
namespace Z
open PySem PySem.Spec L2
open PyProof.Rows hiding St
open AutoSeq1 (wpAny_loadPart')
theorem enumT_new (tp : Addr) (its : Array Value) (k : Nat) (dc : Option Addr) (sl : Array (Option Value)) :
    Meets (Builtin.«enumerate.__new__» ⟨[.type "enumerate", .ref tp], []⟩) (fun _ R u => u.heap.get? tp = some { cls := .type "tuple", dict := dc, data := .seq its k, slots := sl } ∧
      R (.ok (.ret (.ref (u.heap.push { cls := .type "tuple_iterator", data := .fields #[.ref tp, .int 0 0] }).objs.size)))
        { u with heap := (u.heap.push { cls := .type "tuple_iterator", data := .fields #[.ref tp, .int 0 0] }).push { cls := .type "enumerate", data := .fields #[.none, .bool false, .ref u.heap.objs.size, rawInt 0, .none, .none] } }) :=
  .of_wp fun prog w A R u h => by
    obtain ⟨hq, gq, dq, tq, oq⟩ := u
    obtain ⟨hl, h⟩ := h
    have su := sub_enumerate
    have isT : Heap.IsTuple (Shared.heap ⟨hq, gq, dq, tq, oq⟩) tp its := ⟨_, hl, rfl, k, rfl⟩
    wp_walk using wpAny_loadPart' hl
    refine wpAny_stack_any fun z => wpAny_pure ?_
    split
    · rename_i cq _ _ _ _ _
      cases (cq == Value.type "enumerate")
      · wp_walk using wpAny_loadPart' hl, wpAny_pyIter_tuple isT
        exact ⟨_, rfl, h⟩
      · wp_walk using wpAny_loadPart' hl, wpAny_pyIter_tuple isT
        exact ⟨_, rfl, h⟩
    · wp_walk using wpAny_loadPart' hl, wpAny_pyIter_tuple isT
      exact ⟨_, rfl, h⟩
section
variable {prog : Program} {w : World} {A : Around} {E : Value → Shared → Prop} {s : Shared}
theorem call_enumT {tp : Addr} {its : Array Value} {Q : Value → Shared → Prop} (isT : s.heap.IsTuple tp its)
    (q : ∀ hp', IsEnum hp' (s.heap.objs.size + 1) s.heap.objs.size 0 .none → hp'.IsTupleIter s.heap.objs.size tp 0 → hp'.objs.size = s.heap.objs.size + 2 →
      (∀ c o, s.heap.get? c = some o → hp'.get? c = some o) → Q (.ref (s.heap.objs.size + 1)) { s with heap := hp' }) :
    wpAny (model prog w) A (call (.type "enumerate") [.ref tp]) Q E s := by
  obtain ⟨⟨cq, dc, dt, sl⟩, hl, hc, k, hd⟩ := isT
  cases (show cq = .type "tuple" from hc)
  cases (show dt = .seq its k from hd)
  refine callType_new F.called_enumerate (by decide) (F.typeCall_enumerate_1 _) (F.newCall_enumerate_1 _) (fun ob => F.args_object_init_2 ob _) F.entry_enumerate_new (enumT_new tp its k dc sl) ⟨hl, ?_⟩
  have z1 : (s.heap.push { cls := .type "tuple_iterator", data := .fields #[.ref tp, .int 0 0] }).objs.size = s.heap.objs.size + 1 := Heap.size_push ..
  show _ ∧ _
  rw [z1]
  have en : IsEnum ((s.heap.push { cls := .type "tuple_iterator", data := .fields #[.ref tp, .int 0 0] }).push
      { cls := .type "enumerate", data := .fields #[.none, .bool false, .ref s.heap.objs.size, rawInt 0, .none, .none] }) (s.heap.objs.size + 1) s.heap.objs.size 0 .none := by
    have g := Heap.get?_push_size (s.heap.push { cls := .type "tuple_iterator", data := .fields #[.ref tp, .int 0 0] })
      (o := { cls := .type "enumerate", data := .fields #[.none, .bool false, .ref s.heap.objs.size, rawInt 0, .none, .none] }) rfl
    rwa [z1] at g
  refine ⟨⟨_, en, rfl⟩, q _ en ⟨_, Heap.get?_push_of_some _ (Heap.get?_push_size _ rfl), rfl, rfl⟩ (by rw [Heap.size_push, z1]) fun c o g => Heap.get?_push_of_some _ (Heap.get?_push_of_some _ g)⟩
end
theorem draws_tup {prog : Program} {w : World} {A : Around} (hh : A.handled = none) (it tp : Addr) (ne : tp ≠ it) (its : Array Value) :
    Draws prog w A it [it, tp] its.size (fun i v => its[i]? = some v) (fun i h => h.IsTupleIter it tp i ∧ h.IsTuple tp its) where
  live := fun _ _ z => let ⟨o, ho, _⟩ := z.1; ⟨o, ho⟩
  frame := fun _ _ _ z k => ⟨z.1.at fun o e => k it (by simp) o e, z.2.at fun o e => k tp (by simp) o e⟩
  item := fun i s Q E hi z q => by
    refine RZ.nextOf_tuple_item z.1 z.2 (x := its[i]) (by simp [hi]) fun hp' z1 sb => ?_
    exact q _ hp' s.toks (by simp [hi]) ⟨z1, z.2.extBut sb.extBut ne⟩ sb
  done := fun s Q E z q => RZ.nextOf_tuple_end hh z.1 z.2 (by simp) q
/-- a tuple's items with their places, each in a new pair -/
def IteT (K : PySem.W.Frag) (a : Addr) : It :=
  ⟨fun i H => ∃ (xs : List V) (x : V), SqT K H a xs ∧ xs[i]? = some x, fun i H v H' => ∃ T x, v = .ref T ∧ H T = none ∧ H' = upd H T (.tup [.int (i : Nat), x]) ∧ ∀ xs, SqT K H a xs → xs[i]? = some x, fun i H => ∃ xs : List V, SqT K H a xs ∧ xs.length ≤ i⟩
theorem turn_enumT {P : Program} {w : World} {K : PySem.W.Frag} {elts : List Expr} {kk : Nat} {tpos : Pos} (a e it : Addr) :
    Turn P w K (.Tuple elts kk tpos) (IteT K a) [e, it] e (fun i h => (∃ old, IsEnum h e it ((i : Nat) : Int) old) ∧ h.IsTupleIter it a i ∧ e ≠ it ∧ a ≠ it ∧ a ≠ e) where
  mem := by simp
  obj := fun i h st b hb => by
    obtain ⟨⟨old, he⟩, ⟨o, ho, hc, hd⟩, _⟩ := st
    rcases (show b = e ∨ b = it by simpa using hb) with z | z
    · rw [z]; exact ⟨_, he, fun v q => nomatch q⟩
    · rw [z]; exact ⟨o, ho, fun v q => by rw [hd] at q; cases q⟩
  keep := fun i h h' st k => let ⟨⟨old, he⟩, hi, hne⟩ := st; ⟨⟨old, k e (by simp) _ he⟩, hi.at fun o q => k it (by simp) o q, hne⟩
  item := by
    intro X hP hw hK hc i pins s σ H E J hf st hg
    subst hP hw hK
    obtain ⟨⟨old, he⟩, hit, ne1, ne2, ne3⟩ := st
    obtain ⟨xs, x, hq, hx⟩ := hg
    obtain ⟨its, rv, tp, hz⟩ := J.tuple hq
    obtain ⟨u, hu, ru⟩ := rv.get hx
    have el : e < s.heap.objs.size := Heap.lt_size he
    have il : it < s.heap.objs.size := by obtain ⟨_, q, _⟩ := hit; exact Heap.lt_size q
    have hlt : i < its.toArray.size := by
      have := (List.getElem?_eq_some_iff.mp hu).1
      simpa using this
    refine wpAny_pyNext_enum_itemD (draws_tup (A := X.A.in1) (J.ok.hd hc) it a ne2 its.toArray) he ⟨hit, tp⟩ hlt ne1 (by simp [ne1, Ne.symm ne3]) fun y hp' tk hy ho st2 hT sz k => ?_
    have ey : y = u := by
      have : its[i]? = some y := by simpa using hy
      rw [hu] at this; injection this with this; exact this.symm
    subst ey
    refine ⟨_, rfl, wpAny_letOwnedTupleGo_enum (s := { s with heap := hp', toks := tk + 1 }) ho fun hp'' he' sb => ?_⟩
    have hT2 : hp''.get? s.heap.objs.size = some { cls := .type "tuple", data := .seq #[.int i tk, y] } := (sb.2 _ (Nat.ne_of_gt el)).trans hT
    have new : ObjOk X.prog X.w (upd H s.heap.objs.size (.tup [.int (i : Nat), x])) hp'' s.heap.objs.size (.tup [.int (i : Nat), x]) :=
      ⟨by show 2 ≤ sizeLine; decide, [.int i tk, y], .cons ⟨_, rfl⟩ (.cons ru .nil), ⟨_, hT2, rfl, _, rfl⟩⟩
    have I1 : Inv X pins σ (upd H s.heap.objs.size (.tup [.int (i : Nat), x])) { s with heap := hp'', toks := tk + 1 } :=
      J.turnedNew (ch := [e, it]) (fun b ob hb q => (sb.2 b (fun z => hb (by simp [z]))).trans (k b ob (fun z => hb (by simp [z])) (fun z => hb (by simp [z])) q)) hf (Nat.le_refl _) new
    refine ⟨.ref s.heap.objs.size, _, I1, rfl, ⟨_, x, rfl, J.hok.fresh (Nat.le_refl _), rfl, fun ys hy => by rw [J.tuple_inj hy hq]; exact hx⟩, ⟨⟨y, ?_⟩, st2.1.at fun o q => (sb.2 it (Ne.symm ne1)).trans q, ne1, ne2, ne3⟩, fun b hb => ?_⟩
    · have e1 : ((i + 1 : Nat) : Int) = (i : Int) + 1 := by omega
      rw [e1]; exact he'
    · have bl : b < s.heap.objs.size := by
        rcases (show b = e ∨ b = it by simpa using hb) with z | z
        · rw [z]; exact el
        · rw [z]; exact il
      rw [upd_ne (Nat.ne_of_lt bl)]
      exact (hf b hb).1
  done := by
    intro X hP hw hK hc i pins s σ H E J hf st hg
    subst hP hw hK
    obtain ⟨⟨old, he⟩, hit, ne1, ne2, ne3⟩ := st
    obtain ⟨xs, hq, hx⟩ := hg
    obtain ⟨its, rv, tp, hz⟩ := J.tuple hq
    obtain ⟨f0, f1, f2, f3, f4, f5⟩ := hf it (by simp)
    have hl := rv.length
    have hT : s.TypeIs (.ref e) "enumerate" := ⟨_, he, rfl⟩
    unfold pyNext
    refine wpAny_bind (wpAny_attempt (wpAny_callSpecial?_slot (name := Str.ofString "__next__") hT F.slot_enumerate_next (wpAny_call_entry F.slot_enumerate_next hT F.entry_enumerate_next ?_ (F.args_enumerate_next_1 _))))
    show wpAny _ _ (field (.ref e) 2 >>= _) _ _ _
    refine wpAny_bind (wpAny_field he rfl (x := .ref it) rfl ?_)
    refine wpAny_bind (RZ.nextOf_tuple_end (A := X.A.in1) (J.ok.hd hc) hit tp (by simp; omega) fun hp' x eb hx' => ?_)
    obtain ⟨o, ho, hc'⟩ := hx'
    refine wpAny_bind (wpAny_isInstance (T := "StopIteration") (b := true) ⟨o, ho, hc'⟩ isSubtype_stop ?_)
    exact wpAny_pure ⟨rfl, J.turned (t' := s.toks) (fun b o hb q => eb b o hb q) f0 f1 f3 f4 f5⟩
  self := fun A i s Q E st h => let ⟨⟨_, he⟩, _⟩ := st; wpAny_pyIter_enum he h
def iEnumA (K : PySem.W.Frag) (ta : TA) : TI := fun σ H R => ta σ H fun vs H1 => ∃ a xs, vs = [.ref a] ∧ ((SqL K H1 a xs ∧ R (Ite K a) H1) ∨ (SqT K H1 a xs ∧ R (IteT K a) H1))
theorem pi_enumA {X : Cx} {e : Expr} {ta : TA} {p pos tpos : Pos} {elts : List Expr} {kk : Nat} (hg : Gl X "enumerate") (hm : X.mg "enumerate" = none) (ha : PA X [e] ta) (hs : starEach [e] X.env = [(false, eval e X.env)] := by rfl) :
    PI X (.Tuple elts kk tpos) (.Call (.Name "enumerate" p) [e] [] pos) (iEnumA X.K ta) := by
  refine ⟨fun pins s σ H R J h => ?_⟩
  refine Call_ (ld_blt J hg hm boot_enumerate (PyProof.Rows.callWith_type1 (thn (ha.run pos pins s σ H _ J h) fun us s1 ⟨vs, H1, I1, r1, q1⟩ => ?_) hs rfl))
  obtain ⟨a, xs, ex, q1⟩ := q1
  subst ex
  cases r1 with
  | cons r rr =>
    cases rr
    cases r
    have fr : ∀ b ∈ [s1.heap.objs.size + 1, s1.heap.objs.size], FpOk X pins H1 b := fun b hb => by
      have hle : s1.heap.objs.size ≤ b := by
        rcases (show b = s1.heap.objs.size + 1 ∨ b = s1.heap.objs.size by simpa using hb) with z | z
        · rw [z]; exact Nat.le_add_right _ _
        · rw [z]; exact Nat.le_refl _
      exact I1.fpOk hle (I1.hok.fresh hle)
    rcases q1 with ⟨hq, q⟩ | ⟨hq, q⟩
    · obtain ⟨its, rv, p', hz⟩ := I1.list hq
      refine call_enumerate_list p'.isList fun h' he hit hsz hk => wpAny_pyIter_enum he ?_
      have I2 : Inv X pins σ H1 { s1 with heap := h' } := I1.kept (t' := s1.toks) hk
      exact ⟨s1.heap.objs.size + 1, [s1.heap.objs.size + 1, s1.heap.objs.size], _, _, H1, rfl, I2, turn_enum a (s1.heap.objs.size + 1) s1.heap.objs.size, ⟨⟨.none, he⟩, hit, Nat.succ_ne_self _⟩, fr, q⟩
    · obtain ⟨its, rv, tp, hz⟩ := I1.tuple hq
      have tp' : s1.heap.IsTuple a its.toArray := tp
      have al : a < s1.heap.objs.size := by obtain ⟨_, z, _⟩ := tp'; exact Heap.lt_size z
      refine call_enumT tp' fun h' he hit hsz hk => wpAny_pyIter_enum he ?_
      have I2 : Inv X pins σ H1 { s1 with heap := h' } := I1.kept (t' := s1.toks) hk
      exact ⟨s1.heap.objs.size + 1, [s1.heap.objs.size + 1, s1.heap.objs.size], _, _, H1, rfl, I2, turn_enumT a (s1.heap.objs.size + 1) s1.heap.objs.size, ⟨⟨.none, he⟩, hit, Nat.succ_ne_self _, Nat.ne_of_lt al, Nat.ne_of_lt (Nat.lt_succ_of_lt al)⟩, fr, q⟩
theorem walk_enumT {K : PySem.W.Frag} {a : Addr} {xs : List V} : Walk (IteT K a) xs.length (fun H => SqT K H a xs) (YPair (fun i => some (.int (i : Nat))) (fun i => xs[i]?)) := by
  refine ⟨fun i _ hi q => ⟨xs, xs[i], q, by simp [hi]⟩, fun _ q => ⟨xs, q, Nat.le_refl _⟩, fun i H v H' _ q y => ?_⟩
  obtain ⟨T, x, e1, e2, e3, e4⟩ := y
  exact ⟨T, .int (i : Nat), x, e1, e2, e3, rfl, e4 xs q⟩
end Z
/-! Z: enumerate and zip. -/
namespace Z
open PySem PySem.Spec L2
open PyProof.Rows hiding St
def enumP : Nat → List D → List T
  | _, [] => []
  | k, d :: r => .d (.tup [.int (k : Nat), d]) :: enumP (k + 1) r
def zipP : List D → List D → List T
  | a :: r, b :: s => .d (.tup [a, b]) :: zipP r s
  | _, _ => []
theorem enumP_len : ∀ (k : Nat) (ds : List D), (enumP k ds).length = ds.length
  | _, [] => rfl
  | k, d :: r => by rw [enumP, List.length_cons, List.length_cons, enumP_len (k + 1) r]
theorem enumP_get : ∀ (k : Nat) (ds : List D) (i : Nat) (d : D), ds[i]? = some d → (enumP k ds)[i]? = some (.d (.tup [.int ((k + i : Nat) : Int), d]))
  | _, [], _, _, h => by simp at h
  | k, e :: r, 0, d, h => by
    simp at h; subst h; rfl
  | k, e :: r, i + 1, d, h => by
    rw [enumP, List.getElem?_cons_succ, enumP_get (k + 1) r i d (by simpa using h)]
    rw [show k + 1 + i = k + (i + 1) by omega]
theorem zipP_len : ∀ (as bs : List D), (zipP as bs).length = min as.length bs.length
  | [], bs => by simp [zipP]
  | a :: r, [] => by simp [zipP]
  | a :: r, b :: s => by rw [zipP, List.length_cons, zipP_len r s, List.length_cons, List.length_cons]; omega
theorem zipP_get : ∀ (as bs : List D) (i : Nat) (a b : D), as[i]? = some a → bs[i]? = some b → (zipP as bs)[i]? = some (.d (.tup [a, b]))
  | [], _, _, _, _, h, _ => by simp at h
  | _ :: _, [], _, _, _, _, h => by simp at h
  | a :: r, b :: s, 0, x, y, h, h2 => by
    simp at h h2; subst h; subst h2; rfl
  | a :: r, b :: s, i + 1, x, y, h, h2 => by
    rw [zipP, List.getElem?_cons_succ, zipP_get r s i x y (by simpa using h) (by simpa using h2)]
def fEnum : List T → Option (List T)
  | [x] => (dataOf x).map (enumP 0)
  | _ => none
def fZip : List T → Option (List T)
  | [x, y] => if (isLst x && isLst y) || (isTup x && isTup y) then (dataOf x).bind fun as => (dataOf y).map fun bs => zipP as bs else none
  | _ => none
def gPr (f : List T → Option (List T)) (gs : En → R (List T)) : En → R (List T) := fun en => (gs en).bind fun xs => .of (f xs)
def gEnum (g : En → R T) : En → R (List T) := gPr fEnum (aCons g aNil)
def gZip (ga gb : En → R T) : En → R (List T) := gPr fZip (aCons ga (aCons gb aNil))
/-- a new pair of data -/
theorem pair_ok {K : PySem.W.Frag} {H : Hp} {T0 : Addr} {x y : V} {a b : D} {G : List Addr} (h : H T0 = none) (r : RepD K H x a) (s : RepD K H y b) : Same H (upd H T0 (.tup [x, y])) ∧ ∃ F, Own K (upd H T0 (.tup [x, y])) (.ref T0) (.d (.tup [a, b])) F ∧ ∀ c ∈ F, c ∈ G := by
  have sm := same_new (o := .tup [x, y]) h
  exact ⟨sm, [], .d (.tup (.inl (.inl upd_same)) (.cons (r.mono (.of sm)) (.cons (s.mono (.of sm)) .nil))), fun _ m => absurd m List.not_mem_nil⟩
theorem RepDs.at {K : PySem.W.Frag} {H : Hp} {vs : List V} {ds : List D} {i : Nat} {v : V} (r : RepDs K H vs ds) (h : vs[i]? = some v) : ∃ d, ds[i]? = some d ∧ RepD K H v d := by
  have hl : i < ds.length := by
    rw [← r.length]
    exact (List.getElem?_eq_some_iff.mp h).1
  obtain ⟨v', G, h1, h2, _⟩ := r.owns.get (i := i) (x := .d ds[i]) (by rw [List.getElem?_map, List.getElem?_eq_getElem hl]; rfl)
  rw [h] at h1; cases h1
  cases h2 with
  | d r => exact ⟨_, List.getElem?_eq_getElem hl, r⟩
theorem it_enumL {K : PySem.W.Frag} {H : Hp} {a : Addr} {vs : List V} {ds : List D} {G : List Addr} (h : ∀ H', Kept G H H' → SqL K H' a vs) (r : RepDs K H vs ds) : ItOk K G H (Ite K a) (enumP 0 ds) := by
  unfold ItOk
  rw [enumP_len, ← r.length]
  refine walk_enum.mono h fun i H1 v H2 hi k y => ?_
  obtain ⟨T0, x, y, rfl, hn, rfl, e1, e2⟩ := y
  cases e1
  obtain ⟨d, hd, rd⟩ := r.at e2
  obtain ⟨sm, F, o, m⟩ := pair_ok (K := K) (G := G) hn (.int (i : Nat)) (rd.mono k.1)
  exact ⟨sm, _, F, by rw [enumP_get 0 ds i d hd, Nat.zero_add], o, m⟩
theorem it_enumT {K : PySem.W.Frag} {H : Hp} {a : Addr} {vs : List V} {ds : List D} {G : List Addr} (h : SqT K H a vs) (r : RepDs K H vs ds) : ItOk K G H (IteT K a) (enumP 0 ds) := by
  unfold ItOk
  rw [enumP_len, ← r.length]
  refine walk_enumT.mono (fun H' k => sqT_pst k.1 h) fun i H1 v H2 hi k y => ?_
  obtain ⟨T0, x, y, rfl, hn, rfl, e1, e2⟩ := y
  cases e1
  obtain ⟨d, hd, rd⟩ := r.at e2
  obtain ⟨sm, F, o, m⟩ := pair_ok (K := K) (G := G) hn (.int (i : Nat)) (rd.mono k.1)
  exact ⟨sm, _, F, by rw [enumP_get 0 ds i d hd, Nat.zero_add], o, m⟩
theorem it_zipL {K : PySem.W.Frag} {H : Hp} {a b : Addr} {vs ws : List V} {ds es : List D} {G : List Addr} (h : ∀ H', Kept G H H' → SqL K H' a vs) (h2 : ∀ H', Kept G H H' → SqL K H' b ws) (r : RepDs K H vs ds) (s : RepDs K H ws es) : ItOk K G H (Itz K a b) (zipP ds es) := by
  unfold ItOk
  rw [zipP_len, ← r.length, ← s.length]
  refine (walk_zip (xs := vs) (ys := ws) rfl).mono (fun H' k => ⟨h H' k, h2 H' k⟩) fun i H1 v H2 hi k y => ?_
  obtain ⟨T0, x, y, rfl, hn, rfl, e1, e2⟩ := y
  obtain ⟨d, hd, rd⟩ := r.at e1
  obtain ⟨e, he, re⟩ := s.at e2
  obtain ⟨sm, F, o, m⟩ := pair_ok (K := K) (G := G) hn (rd.mono k.1) (re.mono k.1)
  exact ⟨sm, _, F, zipP_get ds es i d e hd he, o, m⟩
theorem walk_zipT {K : PySem.W.Frag} {a b : Addr} {xs ys : List V} : Walk (RZ.ItzT K a b) (min xs.length ys.length) (fun H => SqT K H a xs ∧ SqT K H b ys) (YPair (fun i => xs[i]?) (fun i => ys[i]?)) := by
  refine ⟨fun i _ hi q => ?_, fun _ q => ⟨xs, ys, q.1, q.2, by omega⟩, fun i H v H' _ q y => ?_⟩
  · have l1 : i < xs.length := by omega
    have l2 : i < ys.length := by omega
    exact ⟨xs, ys, xs[i], ys[i], q.1, q.2, by simp [l1], by simp [l2]⟩
  · obtain ⟨T0, x, z, e1, e2, e3, e4, e5⟩ := y
    exact ⟨T0, x, z, e1, e2, e3, e4 xs q.1, e5 ys q.2⟩
theorem it_zipT {K : PySem.W.Frag} {H : Hp} {a b : Addr} {vs ws : List V} {ds es : List D} {G : List Addr} (h : SqT K H a vs) (h2 : SqT K H b ws) (r : RepDs K H vs ds) (s : RepDs K H ws es) : ItOk K G H (RZ.ItzT K a b) (zipP ds es) := by
  unfold ItOk
  rw [zipP_len, ← r.length, ← s.length]
  refine (walk_zipT (xs := vs) (ys := ws)).mono (fun H' k => ⟨sqT_pst k.1 h, sqT_pst k.1 h2⟩) fun i H1 v H2 hi k y => ?_
  obtain ⟨T0, x, y, rfl, hn, rfl, e1, e2⟩ := y
  obtain ⟨d, hd, rd⟩ := r.at e1
  obtain ⟨e, he, re⟩ := s.at e2
  obtain ⟨sm, F, o, m⟩ := pair_ok (K := K) (G := G) hn (rd.mono k.1) (re.mono k.1)
  exact ⟨sm, _, F, zipP_get ds es i d e hd he, o, m⟩
/-- a list or tuple of data: how it stands, and stays -/
theorem seq_own {K : PySem.W.Frag} {H : Hp} {v : V} {x : T} {G : List Addr} {ds : List D} (o : Own K H v x G) (h : dataOf x = some ds) : ∃ a vs, v = .ref a ∧ RepDs K H vs ds ∧ ((isLst x = true ∧ isTup x = false ∧ SqL K H a vs ∧ ∀ G', (∀ c ∈ G, c ∈ G') → ∀ H', Kept G' H H' → SqL K H' a vs) ∨ (isTup x = true ∧ isLst x = false ∧ SqT K H a vs)) := by
  cases o with
  | d r =>
    cases r with
    | tup s r => cases h; exact ⟨_, _, rfl, r, .inr ⟨rfl, rfl, s⟩⟩
    | rol s r => cases h; exact ⟨_, _, rfl, r, .inl ⟨rfl, rfl, s H (Pst.refl H), fun G' _ H' k => s H' k.1⟩⟩
    | _ => cases h
  | l s r =>
    have e := allD_eq (show allD _ = some ds from h)
    subst e
    exact ⟨_, _, rfl, r.data.1, .inl ⟨rfl, rfl, SqL.of s, fun G' m H' k => SqL.of (k.2 _ (m _ List.mem_cons_self) _ s)⟩⟩
theorem enum_own {K : PySem.W.Frag} {H : Hp} {v : V} {x : T} {G : List Addr} {xs : List T} {Q : It → Hp → Prop} (o : Own K H v x G) (h : fEnum [x] = some xs) (q : ∀ J, ItOk K G H J xs → Q J H) : ∃ a vs, [v] = [.ref a] ∧ ((SqL K H a vs ∧ Q (Ite K a) H) ∨ (SqT K H a vs ∧ Q (IteT K a) H)) := by
  obtain ⟨ds, hd, rfl⟩ := Option.map_eq_some_iff.mp h
  obtain ⟨a, vs, rfl, r, z | z⟩ := seq_own o hd
  · exact ⟨a, vs, rfl, .inl ⟨z.2.2.1, q _ (it_enumL (z.2.2.2 G fun _ m => m) r)⟩⟩
  · exact ⟨a, vs, rfl, .inr ⟨z.2.2, q _ (it_enumT z.2.2 r)⟩⟩
theorem zip_own {K : PySem.W.Frag} {H : Hp} {v w : V} {x y : T} {G F : List Addr} {xs : List T} {Q : It → Hp → Prop} (o : Own K H v x G) (o2 : Own K H w y F) (h : fZip [x, y] = some xs) (q : ∀ J, ItOk K (G ++ F) H J xs → Q J H) : ∃ a b vs ws, [v, w] = [.ref a, .ref b] ∧ ((SqL K H a vs ∧ SqL K H b ws ∧ Q (Itz K a b) H) ∨ (SqT K H a vs ∧ SqT K H b ws ∧ Q (RZ.ItzT K a b) H)) := by
  have hc : ((isLst x && isLst y) || (isTup x && isTup y)) = true := by
    by_cases hc : ((isLst x && isLst y) || (isTup x && isTup y)) = true
    · exact hc
    · have h : (if ((isLst x && isLst y) || (isTup x && isTup y)) = true then (dataOf x).bind fun as => (dataOf y).map fun bs => zipP as bs else none) = some xs := h
      rw [if_neg hc] at h; cases h
  have h : (if ((isLst x && isLst y) || (isTup x && isTup y)) = true then (dataOf x).bind fun as => (dataOf y).map fun bs => zipP as bs else none) = some xs := h
  rw [if_pos hc] at h
  obtain ⟨ds, hd, h⟩ := Option.bind_eq_some_iff.mp h
  obtain ⟨es, he, rfl⟩ := Option.map_eq_some_iff.mp h
  obtain ⟨a, vs, rfl, r, z⟩ := seq_own o hd
  obtain ⟨b, ws, rfl, s, z2⟩ := seq_own o2 he
  refine ⟨a, b, vs, ws, rfl, ?_⟩
  rcases z with z | z
  · rcases z2 with z2 | z2
    · exact .inl ⟨z.2.2.1, z2.2.2.1, q _ (it_zipL (z.2.2.2 _ fun _ m => List.mem_append_left _ m) (z2.2.2.2 _ fun _ m => List.mem_append_right _ m) r s)⟩
    · rw [z.2.1, z2.2.1] at hc; simp at hc
  · rcases z2 with z2 | z2
    · rw [z.2.1, z2.2.1] at hc; simp at hc
    · exact .inr ⟨z.2.2, z2.2.2, q _ (it_zipT z.2.2 z2.2.2 r s)⟩
section
variable {X : Cx} {W : WX} {a b : Expr} {ga gb : En → R T} {p pos tpos : Pos} {elts : List Expr} {kk : Nat}
theorem i_enum (hm : X.mg "enumerate" = none) (h : PV X W a ga) (hg : Gl X "enumerate" := by rfl) (hs : starEach [a] X.env = [(false, eval a X.env)] := by rfl) : PIv X W (.Tuple elts kk tpos) (.Call (.Name "enumerate" p) [a] [] pos) (gEnum ga) := by
  obtain ⟨t, pp, s⟩ := av_cons h av_nil (by rw [hs]; rfl)
  refine ⟨_, pi_enumA hg hm pp hs, fun σ H en Q ve q => s σ H en _ ve ?_⟩
  unfold gEnum gPr at q
  cases e : aCons ga aNil en with
  | ok xs =>
    rw [e] at q
    intro vs H' sm w
    simp only [R.bind_ok] at q
    cases ef : fEnum xs with
    | none => rw [ef] at q; exact q.elim
    | some ys =>
      rw [ef] at q
      cases w with
      | nil => cases ef
      | cons o t => cases t with
        | nil => exact enum_own o ef fun J j => q J H' _ sm j
        | cons _ _ => cases ef
  | ex c => rw [e] at q; exact q
  | no => rw [e] at q; exact q
theorem j_enum (hm : X.mg "enumerate" = none) (h : PN X W a ga) (hg : Gl X "enumerate" := by rfl) (hs : starEach [a] X.env = [(false, eval a X.env)] := by rfl) : PIn X W (.Tuple elts kk tpos) (.Call (.Name "enumerate" p) [a] [] pos) (gEnum ga) := by
  obtain ⟨t, pp, s⟩ := an_cons h an_nil (by rw [hs]; rfl)
  refine ⟨_, pi_enumA hg hm pp hs, fun σ H en Q ve q => s σ H en _ ve ?_⟩
  unfold gEnum gPr at q
  cases e : aCons ga aNil en with
  | ok xs =>
    rw [e] at q
    intro vs H' F sm w fr
    simp only [R.bind_ok] at q
    cases ef : fEnum xs with
    | none => rw [ef] at q; exact q.elim
    | some ys =>
      rw [ef] at q
      cases w with
      | nil => cases ef
      | cons o t => cases t with
        | nil =>
          rw [List.append_nil] at fr
          exact enum_own o ef fun J j => q J H' _ sm j fr o.there
        | cons _ _ => cases ef
  | ex c => rw [e] at q; exact q
  | no => rw [e] at q; exact q
theorem i_zip (hm : X.mg "zip" = none) (h : PV X W a ga) (h2 : PV X W b gb) (hg : Gl X "zip" := by rfl) (hs : starEach [a, b] X.env = (false, eval a X.env) :: starEach [b] X.env := by rfl) (hs2 : starEach [b] X.env = (false, eval b X.env) :: starEach [] X.env := by rfl) (hpl : (backTo pos (starEach [b] X.env)).any (·.1) = false := by rfl) : PIv X W (.Tuple elts kk tpos) (.Call (.Name "zip" p) [a, b] [] pos) (gZip ga gb) := by
  obtain ⟨t, pp, s⟩ := av_cons h (av_cons h2 av_nil hs2) hs
  refine ⟨_, RZ.pi_zipA hg hm pp hs hpl, fun σ H en Q ve q => s σ H en _ ve ?_⟩
  unfold gZip gPr at q
  cases e : aCons ga (aCons gb aNil) en with
  | ok xs =>
    rw [e] at q
    intro vs H' sm w
    simp only [R.bind_ok] at q
    cases ef : fZip xs with
    | none => rw [ef] at q; exact q.elim
    | some ys =>
      rw [ef] at q
      cases w with
      | nil => cases ef
      | cons o t => cases t with
        | nil => cases ef
        | cons o2 t => cases t with
          | nil => exact zip_own o o2 ef fun J j => q J H' _ sm j
          | cons _ _ => cases ef
  | ex c => rw [e] at q; exact q
  | no => rw [e] at q; exact q
theorem j_zip (hm : X.mg "zip" = none) (h : PN X W a ga) (h2 : PN X W b gb) (hg : Gl X "zip" := by rfl) (hs : starEach [a, b] X.env = (false, eval a X.env) :: starEach [b] X.env := by rfl) (hs2 : starEach [b] X.env = (false, eval b X.env) :: starEach [] X.env := by rfl) (hpl : (backTo pos (starEach [b] X.env)).any (·.1) = false := by rfl) : PIn X W (.Tuple elts kk tpos) (.Call (.Name "zip" p) [a, b] [] pos) (gZip ga gb) := by
  obtain ⟨t, pp, s⟩ := an_cons h (an_cons h2 an_nil hs2) hs
  refine ⟨_, RZ.pi_zipA hg hm pp hs hpl, fun σ H en Q ve q => s σ H en _ ve ?_⟩
  unfold gZip gPr at q
  cases e : aCons ga (aCons gb aNil) en with
  | ok xs =>
    rw [e] at q
    intro vs H' F sm w fr
    simp only [R.bind_ok] at q
    cases ef : fZip xs with
    | none => rw [ef] at q; exact q.elim
    | some ys =>
      rw [ef] at q
      cases w with
      | nil => cases ef
      | cons o t => cases t with
        | nil => cases ef
        | cons o2 t => cases t with
          | nil =>
            rw [List.append_nil] at fr
            exact zip_own o o2 ef fun J j => q J H' _ sm j fr fun c m => (List.mem_append.mp m).elim (o.there c) (o2.there c)
          | cons _ _ => cases ef
  | ex c => rw [e] at q; exact q
  | no => rw [e] at q; exact q
/-- what is not ours is in no list of ours -/
theorem EOk.not_own {K : PySem.W.Frag} {H : Hp} {σ : L2.St} {en : En} {Fs : Ft} {i : Nat} {x : T} {v : V} (ok : EOk K H σ en Fs) (hw : notOwn en i = true) (e : at_ en i = some x) (o : Own K H v x (Fs i)) : ∀ c ∈ Fs i, ¬ InO en Fs c := fun c m z => by
  obtain ⟨j, z1, z2⟩ := z
  by_cases hj : j = i
  · subst hj
    unfold notOwn at hw
    unfold ownAt at z1
    cases es : en[j]? with
    | none => rw [es] at hw; cases hw
    | some y =>
      rw [es] at hw z1
      cases y with
      | v y =>
        cases y with
        | d d =>
          have : x = .d d := by unfold at_ at e; rw [es] at e; cases e; rfl
          subst this
          rw [o.dnil] at m; cases m
        | l _ => cases hw
      | w y => exact absurd rfl z1
      | n => cases hw
      | b y => cases hw
  · exact ok.dis j i c hj z1 z2 m
def fForE (k : T → Option Ass) (i : Nat) (f : En → SR) : En → SR := fun en => let en' := weak en i
  if notOwn en' i = true then match (at_ en' i).bind fun x => fEnum [x] with
    | some xs => forE k f xs en'
    | none => .no
  else .no
def fForZ (k : T → Option Ass) (i j : Nat) (f : En → SR) : En → SR := fun en => let en' := weak (weak en i) j
  if notOwn en' i = true ∧ notOwn en' j = true then match (at_ en' i).bind fun x => (at_ en' j).bind fun y => fZip [x, y] with
    | some xs => forE k f xs en'
    | none => .no
  else .no
variable {f : En → SR} {body : List Stmt} {k : T → Option Ass}
theorem s_forE (i : Nat) {x : Str} {px : Pos} (cz : Cz X W) (hm : X.mg "enumerate" = none) (hg : PTg X (.Tuple elts kk tpos) k) (hb : PBl X W body f) (hN : X.N[i]? = some x := by rfl) (hv : Vis X.env.scope x := by first | exact Or.inl rfl | exact Or.inr (Or.inl rfl) | exact Or.inr (Or.inr rfl)) (he : Gl X "enumerate" := by rfl) (hst : starEach [.Name x px] X.env = [(false, eval (.Name x px) X.env)] := by rfl)
    (hs : ∀ y, foldedSetIterable (.Call (.Name "enumerate" p) [.Name x px] [] pos) X.env y = pure y := by intro _; rfl) (hd : (x == ("__debug__" : Str)) = false := by decide) (hcd : (x == ("__classdict__" : Str)) = false := by decide) {lpos : Pos} : PSt X W (.For (.Tuple elts kk tpos) (.Call (.Name "enumerate" p) [.Name x px] [] pos) body [] lpos) (fForE k i f) := by
  obtain ⟨t2, p2, s2⟩ := hb
  refine ⟨_, ps_for cz.hp cz.calm (pi_enumA he hm (pa_cons (pe_var hN hv hd hcd) pa_nil (by rw [hst]; rfl)) hst) hg p2 hs, fun σ H en Fs D ok q => ?_⟩
  unfold fForE at q
  have a : Aft X.K H Fs σ en H Fs σ (Z.weak en i) [] := (Aft.refl ok).weak i
  simp only at q
  split at q
  · rename_i hw
    cases e : at_ (Z.weak en i) i with
    | none => rw [e] at q; exact q.elim
    | some x =>
      rw [e] at q
      simp only [Option.bind_some] at q
      cases ei : fEnum [x] with
      | none => rw [ei] at q; exact q.elim
      | some xs =>
        rw [ei] at q
        obtain ⟨v, h1, h2⟩ := a.ok.has i x e
        exact ⟨v, h1, enum_own (Q := forQ X.K k t2 D σ) h2 ei fun J iok => sp_for s2 a iok h2.there (a.ok.not_own hw e h2) (fun c m => .inl ⟨i, m⟩) q⟩
  · exact q.elim
theorem s_forZ (i j : Nat) {x y : Str} {px py : Pos} (cz : Cz X W) (hm : X.mg "zip" = none) (hg : PTg X (.Tuple elts kk tpos) k) (hb : PBl X W body f) (hN : X.N[i]? = some x := by rfl) (hN2 : X.N[j]? = some y := by rfl) (hv : Vis X.env.scope x := by first | exact Or.inl rfl | exact Or.inr (Or.inl rfl) | exact Or.inr (Or.inr rfl)) (hv2 : Vis X.env.scope y := by first | exact Or.inl rfl | exact Or.inr (Or.inl rfl) | exact Or.inr (Or.inr rfl)) (he : Gl X "zip" := by rfl) (hst : starEach [.Name x px, .Name y py] X.env = (false, eval (.Name x px) X.env) :: starEach [.Name y py] X.env := by rfl) (hst2 : starEach [.Name y py] X.env = (false, eval (.Name y py) X.env) :: starEach [] X.env := by rfl) (hpl : (backTo pos (starEach [.Name y py] X.env)).any (·.1) = false := by rfl)
    (hs : ∀ z, foldedSetIterable (.Call (.Name "zip" p) [.Name x px, .Name y py] [] pos) X.env z = pure z := by intro _; rfl) (hd : (x == ("__debug__" : Str)) = false := by decide) (hcd : (x == ("__classdict__" : Str)) = false := by decide) (hd2 : (y == ("__debug__" : Str)) = false := by decide) (hcd2 : (y == ("__classdict__" : Str)) = false := by decide) {lpos : Pos} : PSt X W (.For (.Tuple elts kk tpos) (.Call (.Name "zip" p) [.Name x px, .Name y py] [] pos) body [] lpos) (fForZ k i j f) := by
  obtain ⟨t2, p2, s2⟩ := hb
  refine ⟨_, ps_for cz.hp cz.calm (RZ.pi_zipA he hm (pa_cons (pe_var hN hv hd hcd) (pa_cons (pe_var hN2 hv2 hd2 hcd2) pa_nil hst2) hst) hst hpl) hg p2 hs, fun σ H en Fs D ok q => ?_⟩
  unfold fForZ at q
  have a : Aft X.K H Fs σ en H Fs σ (Z.weak (Z.weak en i) j) [] := ((Aft.refl ok).weak i).weak j
  simp only at q
  split at q
  · rename_i hw
    cases e : at_ (Z.weak (Z.weak en i) j) i with
    | none => rw [e] at q; exact q.elim
    | some x =>
      cases e2 : at_ (Z.weak (Z.weak en i) j) j with
      | none => rw [e, e2] at q; exact q.elim
      | some y =>
        rw [e, e2] at q
        simp only [Option.bind_some] at q
        cases ei : fZip [x, y] with
        | none => rw [ei] at q; exact q.elim
        | some xs =>
          rw [ei] at q
          obtain ⟨v, h1, h2⟩ := a.ok.has i x e
          obtain ⟨u, h3, h4⟩ := a.ok.has j y e2
          refine ⟨v, h1, u, h3, zip_own (Q := forQ X.K k t2 D σ) h2 h4 ei fun J iok => sp_for s2 a iok (fun c m => (List.mem_append.mp m).elim (h2.there c) (h4.there c)) (fun c m => (List.mem_append.mp m).elim (a.ok.not_own hw.1 e h2 c) (a.ok.not_own hw.2 e2 h4 c)) (fun c m => .inl ((List.mem_append.mp m).elim (fun z => ⟨i, z⟩) fun z => ⟨j, z⟩)) q⟩
  · exact q.elim
end
end Z
/-! Z: what lies the other way about. -/
namespace Z
open PySem PySem.Spec L2
open PyProof.Rows hiding St
section
variable {prog : Program} {w : World} {A : Around} {E : Value → Shared → Prop} {s : Shared}
theorem applied_rev {sl : Addr} {n : Nat} {tk : Tok} {Q : Int × Int × Nat → Shared → Prop} (hs : s.heap.IsSliceOf sl .none .none (.int (-1) tk))
    (q : Q ((n : Int) - 1, -1, n) s) : wpAny (model prog w) A (Builtin.Slice.sliceApplied (.ref sl) (pure (n : Int))) Q E s := by
  obtain ⟨ob, e1, e2, e3⟩ := id hs
  unfold Builtin.Slice.sliceApplied Builtin.Slice.sliceFields
  refine wpAny_bind (wpAny_bind (wpAny_field e1 e3 (x := .none) rfl (wpAny_bind (wpAny_field e1 e3 (x := .none) rfl (wpAny_bind (wpAny_field e1 e3 (x := .int (-1) tk) rfl (wpAny_pure ?_)))))))
  refine wpAny_bind (slicePart_int ?_)
  show wpAny _ _ (if ((-1 : Int) == 0) = true then _ else _) _ _ s
  rw [if_neg (by decide)]
  refine wpAny_bind (slicePart_none (wpAny_bind (slicePart_none (wpAny_bind (wpAny_pure ?_)))))
  show wpAny _ _ (match Builtin.Slice.sliceAdjust none none (-1) (n : Int) with | (lo, hi) => pure (lo, (-1 : Int), Builtin.Slice.slicePlaces lo hi (-1))) _ _ s
  have ea : Builtin.Slice.sliceAdjust none none (-1) (n : Int) = ((n : Int) - 1, -1) := by
    unfold Builtin.Slice.sliceAdjust
    simp
  rw [ea]
  show wpAny _ _ (pure ((n : Int) - 1, (-1 : Int), Builtin.Slice.slicePlaces ((n : Int) - 1) (-1) (-1))) _ _ s
  have ep : Builtin.Slice.slicePlaces ((n : Int) - 1) (-1) (-1) = n := by
    unfold Builtin.Slice.slicePlaces
    rw [if_neg (by decide)]
    by_cases h : (n : Int) - 1 > -1
    · rw [if_pos h, show -(-1 : Int) = 1 from rfl, Int.ediv_one]; omega
    · rw [if_neg h]; omega
  rw [ep]
  exact wpAny_pure q
theorem fm_all {α : Type} : ∀ l : List α, ((List.range l.length).filterMap fun m => l[m]?) = l
  | [] => rfl
  | x :: l => by
    rw [List.length_cons, List.range_succ_eq_map, List.filterMap_cons]
    simp only [List.getElem?_cons_zero, List.filterMap_map]
    have : ((fun m => (x :: l)[m]?) ∘ Nat.succ) = fun m => l[m]? := by
      funext m
      simp
    rw [this, fm_all l]
theorem fm_congr {α β : Type} {f g : α → Option β} : ∀ {l : List α}, (∀ x ∈ l, f x = g x) → l.filterMap f = l.filterMap g
  | [], _ => rfl
  | x :: l, h => by
    rw [List.filterMap_cons, List.filterMap_cons, h x (List.mem_cons_self ..), fm_congr (l := l) fun y m => h y (List.mem_cons_of_mem _ m)]
theorem pick_rev (xs : Array Value) : ((List.range xs.size).filterMap fun (m : Nat) => xs[((xs.size : Int) - 1 + (m : Int) * (-1)).toNat]?).toArray = xs.toList.reverse.toArray := by
  congr 1
  have e := fm_all xs.toList.reverse
  rw [List.length_reverse, Array.length_toList] at e
  rw [← e]
  have e2 := fm_all xs.toList.reverse
  rw [List.length_reverse, Array.length_toList] at e2
  rw [e2]
  refine (fm_congr fun m hm => ?_).trans e
  have hm := List.mem_range.mp hm
  rw [List.getElem?_reverse (by simpa using hm), show ((xs.size : Int) - 1 + (m : Int) * (-1)).toNat = xs.size - 1 - m by omega]
  simp
theorem item_tup_rev {tp sl : Addr} {its : Array Value} {tk : Tok} {Q : Value → Shared → Prop} (ht : IsTup s.heap tp its) (hs : s.heap.IsSliceOf sl .none .none (.int (-1) tk))
    (q : Q (.ref s.heap.objs.size) { s with heap := s.heap.push { cls := .type "tuple", data := .seq its.toList.reverse.toArray } })
    (hsz : its.size ≤ sizeLine) : wpAny (model prog w) A (getItem (.ref tp) (.ref sl)) Q E s := by
  have sok : sizeOk (.seq its.toList.reverse.toArray) := by
    show its.toList.reverse.toArray.size ≤ sizeLine
    rw [List.size_toArray, List.length_reverse, Array.length_toList]
    exact hsz
  obtain ⟨ob, e1, e2, e3⟩ := id hs
  have tys : s.TypeIs (.ref sl) "slice" := ⟨ob, e1, e2⟩
  unfold getItem
  try with_reducible refine wpAny_holding ?_
  first | refine wpAny_bind (wpAny_pure ?_) | skip
  refine wpAny_bind (wpAny_sequenceKey ht.typeIs (by decide) ?_)
  refine wpAny_bind (wpAny_callSpecial?_slot (name := Str.ofString "__getitem__") ht.typeIs PyProof.Rows.slot_tuple_getitem (wpAny_call_entry PyProof.Rows.slot_tuple_getitem ht.typeIs entry_tuple_getitem ?_ (args_tuple_getitem _ _)))
  show wpAny _ _ (Builtin.Tuple.tupleItemsOf (.ref tp) >>= _) _ _ s
  refine wpAny_bind (tupleItemsOf_ ht ?_)
  refine wpAny_bind (wpAny_typeOf tys ?_)
  rw [if_pos (by decide)]
  refine wpAny_bind (applied_rev hs ?_)
  have hno : ¬ (((((its.size : Nat) : Int) - 1) == 0 && (-1 : Int) == 1 && its.size == its.size) = true) := by simp
  show wpAny _ _ (if ((((its.size : Nat) : Int) - 1) == 0 && (-1 : Int) == 1 && its.size == its.size) = true then _ else _) _ _ s
  rw [if_neg hno, pick_rev]
  first
    | exact wpAny_bind (m := Builtin.Tuple.tupleExact _) (wpAny_newObj_type (wpAny_pure ⟨_, rfl, wpAny_pure q⟩) sok)
    | exact wpAny_bind (m := Builtin.Tuple.tupleExact _) (wpAny_newObj_type (wpAny_bind (wpAny_pure (wpAny_pure ⟨_, rfl, wpAny_pure q⟩))) sok)
    | exact wpAny_bind (wpAny_bind (m := Builtin.Tuple.tupleExact _) (wpAny_newObj_type (wpAny_pure (wpAny_pure ⟨_, rfl, wpAny_pure q⟩)) sok))
    | exact wpAny_bind (wpAny_bind (m := Builtin.Tuple.tupleExact _) (wpAny_newObj_type (wpAny_pure ⟨_, rfl, wpAny_pure q⟩) sok))
end
def tRevA (K : PySem.W.Frag) (te : TE) : TE := fun σ H Q => te σ H fun x H1 => (∃ a xs, x = .ref a ∧ SqL K H1 a xs ∧ ∀ p, H1 p = none → Q (.ref p) (upd H1 p (.lst xs.reverse))) ∨ (∃ a xs, x = .ref a ∧ SqT K H1 a xs ∧ ∀ p, H1 p = none → Q (.ref p) (upd H1 p (.tup xs.reverse)))
theorem pe_revA {X : Cx} {e : Expr} {te : TE} {k : Nat} {p1 p2 p3 pos : Pos} (he : PE X e te) : PE X (.Subscript e (.Slice none none (some (.UnaryOp .USub (.Constant (.int 1) k p1) p2)) p3) pos) (tRevA X.K te) := by
  refine ⟨fun pins s σ H Q J h => ?_⟩
  refine Subscript_ (thn (he.run pins s σ H _ J h) fun v s1 ⟨x, H1, J1, r1, q1⟩ => ?_)
  have hst : PO X (some (.UnaryOp .USub (.Constant (.int 1) k p1) p2)) (tPart (tUn (rU fun i => .int (-i)) (tC (.int 1)))) := po_some (pe_un un_neg pe_int)
  refine wpAny_Slice (thn (po_none.run pins s1 σ H1 (fun o H2 => o = none ∧ H2 = H1) J1 ⟨rfl, rfl⟩) fun vl s2 ⟨l, H2, J2, pl, el, e2⟩ => ?_)
  subst el e2
  refine thn (po_none.run pins s2 σ H2 (fun o H3 => o = none ∧ H3 = H2) J2 ⟨rfl, rfl⟩) fun vu s3 ⟨u, H3, J3, pu, eu, e3⟩ => ?_
  subst eu e3
  refine thn (hst.run pins s3 σ H3 (fun o H4 => o = some (-1) ∧ H4 = H3) J3 ⟨1, rfl, -1, rfl, rfl, rfl⟩) fun vs s4 ⟨o, H4, J4, ps, eo, e4⟩ => ?_
  subst eo e4
  have J5 : Inv X pins σ H4 { s4 with heap := s4.heap.push { cls := .type "slice", data := .fields #[vl, vu, vs] } } := J4.kept (t' := s4.toks) fun b ob q => Heap.get?_push_of_some _ q
  rcases q1 with ⟨a, xs, ex, hx, q⟩ | ⟨a, xs, ex, hx, q⟩
  · subst ex
    cases r1
    obtain ⟨its, r, ht, hz⟩ := J5.list hx
    have hlen := r.length
    show wpAny (model X.prog X.w) X.A (subscriptTail e (.Slice none none (some (.UnaryOp .USub (.Constant (.int 1) k p1) p2)) p3) (.ref a) (.ref s4.heap.objs.size)) (EP X pins σ Q) X.xe { s4 with heap := s4.heap.push { cls := .type "slice", data := .fields #[vl, vu, vs] } }
    refine tail_any (ops := [.ref a, .ref s4.heap.objs.size]) ht.isList.typeIs (PySem.slot_list_getitem.lookup) ?_ (by with_unfolding_all rfl)
    refine wpAny_getItem_list_slice ht.isList (Heap.IsSliceOf.new _ vl vu vs) pl pu ps (by decide) ?_ (by rw [List.size_toArray]; omega)
    rw [PySem.W.krv_pick]
    refine ⟨.ref _, _, J5.laid (t' := s4.toks) (o := .lst xs.reverse) (fun b ob q => Heap.get?_push_of_some _ q) (Nat.le_refl _) ?_, rfl, q _ (J5.hok.fresh (Nat.le_refl _))⟩
    exact ⟨by rw [List.length_reverse]; exact hz, _, 0, r.reverse, Heap.get?_push_size _ rfl⟩
  · subst ex
    cases r1
    obtain ⟨its, r, ht, hz⟩ := J5.tuple hx
    have hlen := r.length
    cases pl
    cases pu
    cases ps with
    | int _ tk =>
    show wpAny (model X.prog X.w) X.A (subscriptTail e (.Slice none none (some (.UnaryOp .USub (.Constant (.int 1) k p1) p2)) p3) (.ref a) (.ref s4.heap.objs.size)) (EP X pins σ Q) X.xe { s4 with heap := s4.heap.push { cls := .type "slice", data := .fields #[.none, .none, .int (-1) tk] } }
    refine tail_any (ops := [.ref a, .ref s4.heap.objs.size]) ht.typeIs PyProof.Rows.slot_tuple_getitem.lookup ?_ (by with_unfolding_all rfl)
    refine item_tup_rev ht (Heap.IsSliceOf.new _ _ _ _) ?_ (by rw [List.size_toArray]; omega)
    refine ⟨.ref _, _, J5.laid (t' := s4.toks) (o := .tup xs.reverse) (fun b ob q => Heap.get?_push_of_some _ q) (Nat.le_refl _) ?_, rfl, q _ (J5.hok.fresh (Nat.le_refl _))⟩
    exact ⟨by rw [List.length_reverse]; exact hz, _, r.reverse, IsTup.new _ _⟩
theorem RepDs.snoc {K : PySem.W.Frag} {H : Hp} {v : V} {d : D} : ∀ {vs : List V} {ds : List D}, RepDs K H vs ds → RepD K H v d → RepDs K H (vs ++ [v]) (ds ++ [d])
  | _, _, .nil, r => .cons r .nil
  | _, _, .cons a t, r => .cons a (RepDs.snoc t r)
theorem RepDs.rev {K : PySem.W.Frag} {H : Hp} : ∀ {vs : List V} {ds : List D}, RepDs K H vs ds → RepDs K H vs.reverse ds.reverse
  | _, _, .nil => .nil
  | _, _, .cons a t => by rw [List.reverse_cons, List.reverse_cons]; exact RepDs.snoc (RepDs.rev t) a
def fRev : T → Option T
  | .d (.tup ds) => some (.d (.tup ds.reverse))
  | .d (.rol ds) => some (.l (ds.reverse.map T.d))
  | .l xs => (allD xs).map fun ds => .l (ds.reverse.map T.d)
  | _ => none
theorem n_rev {X : Cx} {W : WX} {a : Expr} {g : En → R T} {k : Nat} {p1 p2 p3 pos : Pos} (ha : PV X W a g) : PN X W (.Subscript a (.Slice none none (some (.UnaryOp .USub (.Constant (.int 1) k p1) p2)) p3) pos) (g1 fRev g) := by
  obtain ⟨t, p, s⟩ := ha
  refine ⟨_, pe_revA p, fun σ H en Q ve q => s σ H en _ ve ?_⟩
  unfold g1 at q
  cases e : g en with
  | ok x =>
    rw [e] at q
    intro v H' G sm o
    simp only [R.bind_ok] at q
    have lst : ∀ {b : Addr} {vs : List V} {ds : List D} {H' : Hp}, Same H H' → SqL X.K H' b vs → RepDs X.K H' vs ds → NQ X W σ H Q (.ok (.l (ds.reverse.map T.d))) → ∀ p, H' p = none → Q (.ref p) (upd H' p (.lst vs.reverse)) := fun {b vs ds H'} sm hs r q p hp =>
      have s2 := same_new (o := .lst vs.reverse) hp
      q _ _ [p] (sm.trans s2) (.l upd_same (r.rev.mono (.of s2)).owns) ⟨by simp, fun c m => by
        have : c = p := by simpa using m
        rw [this]; exact sm.free hp⟩
    cases o with
    | d r =>
      cases r with
      | tup hs r => exact .inr ⟨_, _, rfl, hs, fun p hp =>
          have s2 := same_new (o := .tup _) hp
          q _ _ [] (sm.trans s2) (.d (.tup (.inl (.inl upd_same)) (r.rev.mono (.of s2)))) Fresh.nil⟩
      | rol hs r => exact .inl ⟨_, _, rfl, hs _ (Pst.refl _), lst sm (hs _ (Pst.refl _)) r q⟩
      | _ => exact q.elim
    | l hs r =>
      rename_i xs F
      cases ea : allD xs with
      | none => simp only [fRev, ea] at q; exact q.elim
      | some ds =>
        have e2 := allD_eq ea
        subst e2
        simp only [fRev, allD_map] at q
        exact .inl ⟨_, _, rfl, SqL.of hs, lst sm (SqL.of hs) r.data.1 q⟩
  | ex c => rw [e] at q; exact q
  | no => rw [e] at q; exact q
/-! a module's constant -/
theorem n_glI {X : Cx} {W : WX} {x : Str} {i : Int} {tk : Tok} {pos : Pos} (hm : X.mg x = some (.int i tk)) (hg : Gl X x := by rfl) (hd : (x == ("__debug__" : Str)) = false := by decide) : PN X W (.Name x pos) (kI i) := n_glob (v := .int i) (d := .int i) hg hm ⟨tk, rfl⟩ (fun _ => .int _) hd
theorem n_glS {X : Cx} {W : WX} {x : Str} {z : Str} {tk : Tok} {pos : Pos} (hm : X.mg x = some (.str z tk)) (hg : Gl X x := by rfl) (hd : (x == ("__debug__" : Str)) = false := by decide) : PN X W (.Name x pos) (kS z) := n_glob (v := .str z) (d := .str z) hg hm ⟨tk, rfl⟩ (fun _ => .str _) hd
end Z
/-! Z: sorted ints, pop at a place, a tuple many times. -/
namespace Z
open PySem PySem.Spec L2
open PyProof.Rows hiding St
open AutoSeq1 (wpAny_loadPart')
/-! ### sorted -/
def insI (a : Int) : List Int → List Int
  | [] => [a]
  | b :: r => if a ≤ b then a :: b :: r else b :: insI a r
def srtI : List Int → List Int
  | [] => []
  | a :: r => insI a (srtI r)
theorem insI_perm (a : Int) : ∀ r, (insI a r).Perm (a :: r)
  | [] => .refl _
  | b :: r => by
    unfold insI
    by_cases h : a ≤ b
    · rw [if_pos h]
    · rw [if_neg h]; exact ((insI_perm a r).cons b).trans (.swap a b r)
theorem srtI_perm : ∀ r, (srtI r).Perm r
  | [] => .refl _
  | a :: r => (insI_perm a (srtI r)).trans ((srtI_perm r).cons a)
theorem insI_srt (a : Int) : ∀ r : List Int, r.Pairwise (· ≤ ·) → (insI a r).Pairwise (· ≤ ·)
  | [], _ => by simp [insI]
  | b :: r, h => by
    unfold insI
    obtain ⟨h1, h2⟩ := List.pairwise_cons.mp h
    by_cases hab : a ≤ b
    · rw [if_pos hab]
      exact List.pairwise_cons.mpr ⟨fun c m => by
        rcases List.mem_cons.mp m with rfl | m
        · exact hab
        · exact Int.le_trans hab (h1 c m), h⟩
    · rw [if_neg hab]
      exact List.pairwise_cons.mpr ⟨fun c m => by
        rcases List.mem_cons.mp ((insI_perm a r).mem_iff.mp m) with rfl | m
        · omega
        · exact h1 c m, insI_srt a r h2⟩
theorem srtI_srt : ∀ r : List Int, (srtI r).Pairwise (· ≤ ·)
  | [] => .nil
  | a :: r => insI_srt a _ (srtI_srt r)
theorem srt_uniq : ∀ {xs ys : List Int}, xs.Perm ys → xs.Pairwise (· ≤ ·) → ys.Pairwise (· ≤ ·) → xs = ys
  | [], ys, p, _, _ => (List.nil_perm.mp p).symm
  | x :: xs, [], p, _, _ => absurd p.length_eq (by simp)
  | x :: xs, y :: ys, p, hx, hy => by
    obtain ⟨hx1, hx2⟩ := List.pairwise_cons.mp hx
    obtain ⟨hy1, hy2⟩ := List.pairwise_cons.mp hy
    have e : x = y := by
      have m1 : x ∈ y :: ys := p.mem_iff.mp (List.mem_cons_self ..)
      have m2 : y ∈ x :: xs := p.mem_iff.mpr (List.mem_cons_self ..)
      rcases List.mem_cons.mp m1 with e | m1
      · exact e
      · rcases List.mem_cons.mp m2 with e | m2
        · exact e.symm
        · have := hy1 x m1; have := hx1 y m2; omega
    subst e
    rw [srt_uniq p.cons_inv hx2 hy2]
def fSortI : List T → Option T
  | [x] => (lstOf x).bind fun ds => (asInts ds).map fun ns => .l (((srtI ns).map D.int).map T.d)
  | _ => none
theorem ints_rep {K : PySem.W.Frag} {H : Hp} : ∀ ns : List Int, RepDs K H (ns.map V.int) (ns.map D.int)
  | [] => .nil
  | n :: r => .cons (.int n) (ints_rep r)
theorem f_sorted {X : Cx} : Bf X (.builtin "sorted") fSortI := ⟨_, cr_sortedI, fun H xs vs z Q w e q => by
  unfold fSortI at e
  split at e
  · obtain ⟨ds, e1, e⟩ := Option.bind_eq_some_iff.mp e
    obtain ⟨ns, e2, rfl⟩ := Option.map_eq_some_iff.mp e
    have e3 := asInts_eq e2
    subst e3
    cases w with
    | cons o t =>
      cases t
      obtain ⟨a, us, rfl, s, r⟩ := lstOf_ok o e1
      have e4 := r.ints
      subst e4
      refine ⟨a, ns, rfl, s, fun ns' p hp hs np => ?_⟩
      have e5 : ns' = srtI ns := srt_uniq (hp.trans (srtI_perm ns).symm) hs (srtI_srt ns)
      subst e5
      have sm := same_new (o := .lst ((srtI ns).map V.int)) np
      refine q _ _ [p] sm (.l upd_same (ints_rep _).owns) ⟨by simp, fun c m => ?_⟩
      have e : c = p := by simpa using m
      rw [e]; exact np
  · cases e⟩
/-! ### pop at a place, of data -/
def mPopAt (i : Nat) (gi : En → R T) : En → RM T := fun en => match ownAt en i with
  | some (.l xs) => match allD xs, gi en with
    | some ds, .ok (.d (.int k)) => if -9223372036854775808 ≤ k ∧ k < 9223372036854775808 then match ixN ds.length k with
      | some j => match ds[j]? with
        | some d => .ok (.d d) (setO en i (.l ((ds.eraseIdx j).map T.d)))
        | none => .no
      | none => .no
      else .no
    | _, _ => .no
  | _ => .no
theorem RepDs.erase {K : PySem.W.Frag} {H : Hp} : ∀ {vs : List V} {ds : List D} (j : Nat), RepDs K H vs ds → RepDs K H (vs.eraseIdx j) (ds.eraseIdx j)
  | _, _, _, .nil => by simp; exact .nil
  | _, _, 0, .cons a t => t
  | _, _, j + 1, .cons a t => .cons a (RepDs.erase j t)
theorem m_popAt (i : Nat) {X : Cx} {W : WX} {x : Str} {e : Expr} {p apos pos : Pos} {gi : En → R T} (hi : PV X W e gi) (hN : X.N[i]? = some x := by rfl) (hv : Vis X.env.scope x := by first | exact Or.inl rfl | exact Or.inr (Or.inl rfl) | exact Or.inr (Or.inr rfl)) (hd : (x == ("__debug__" : Str)) = false := by decide) (hcd : (x == ("__classdict__" : Str)) = false := by decide)
    (hbase : attributeBase (.Name x p) "pop" X.env (eval (.Name x p) X.env) = eval (.Name x p) X.env := by rfl)
    (hfew : ((backTo pos (starEach [e] X.env)).all (fun x => !x.1) && (backToKw pos (keywordEach [] X.env)).all (fun x => x.1.isSome) && decide ([e].length + ([] : List Keyword).length + (if ([] : List Keyword).isEmpty then 0 else 1) < 30)) = true := by rfl)
    (hline : (apos.endLine == pos.line) = true := by rfl) (hs : starEach [e] X.env = (false, eval e X.env) :: starEach [] X.env := by rfl) (hplain : (backTo pos (starEach [] X.env)).any (·.1) = false := by rfl) :
    PM X W (.Call (.Attribute (.Name x p) "pop" apos) [e] [] pos) (mPopAt i gi) := by
  obtain ⟨t, pp, s⟩ := hi
  refine ⟨_, pe_bm PySem.F.plainAttrs_list PySem.F.slot_list_pop PySem.F.type_list_pop mt_popAt (pe_var hN hv hd hcd) (pa_cons pp pa_nil hs) hbase hfew hline hs hplain, fun σ H en Fs Q ok q => ?_⟩
  unfold mPopAt at q
  cases e0 : ownAt en i with
  | none => rw [e0] at q; exact q.elim
  | some x0 =>
    rw [e0] at q
    cases x0 with
    | d d => exact q.elim
    | l xs =>
      simp only at q
      cases ea : allD xs with
      | none => rw [ea] at q; exact q.elim
      | some ds =>
        rw [ea] at q
        have exs := allD_eq ea
        subst exs
        obtain ⟨v0, h0, o0⟩ := ok.has i _ (own_at e0)
        obtain ⟨a0, vs0, F0, rfl, hH0, ow0, hF0⟩ := o0.lst
        refine ⟨_, h0, ty_list hH0, s σ H en _ ok.ven ?_⟩
        cases eg : gi en with
        | ok y =>
          rw [eg] at q
          cases y with
          | l _ => exact q.elim
          | d y =>
            cases y with
            | int k =>
              simp only at q
              split at q
              · rename_i hk
                cases ej : ixN ds.length k with
                | none => rw [ej] at q; exact q.elim
                | some j =>
                  rw [ej] at q
                  simp only at q
                  cases ed : ds[j]? with
                  | none => rw [ed] at q; exact q.elim
                  | some d =>
                    rw [ed] at q
                    intro v H' G sm o
                    have r := o.rep
                    cases r
                    have A : Aft X.K H Fs σ en H' Fs σ en [] := Aft.quiet ok sm Fresh.nil
                    obtain ⟨v1, h1, o1⟩ := A.ok.has i _ (own_at e0)
                    rw [h0] at h1; cases h1
                    obtain ⟨a1, vs, F, e3, hH, ow, hF⟩ := o1.lst
                    cases e3
                    obtain ⟨rp, hFn⟩ := ow.data
                    obtain ⟨w, hw, rw'⟩ := rp.get ed
                    obtain ⟨z1, z2, z3, z4⟩ := ixN_seq ej
                    refine ⟨a0, vs, k, j, w, rfl, rfl, hH, by omega, by omega, by rw [rp.length]; exact z1, hw, ?_⟩
                    have A2 := A.mut (G' := []) e0 h0 hH hF (xs' := (ds.eraseIdx j).map T.d) (vs' := vs.eraseIdx j) (F' := []) (rp.erase j).owns (by simp) (fun c m => by simp at m)
                    exact q w _ _ [] A2 (.d (rw'.mono (pst_upd hH)))
              · exact q.elim
            | _ => exact q.elim
        | ex c => rw [eg] at q; exact q.elim
        | no => rw [eg] at q; exact q.elim
/-! ### a tuple many times -/
section
variable {X : Cx}
theorem mulT_one (l : Addr) (its : Array Value) (n : Nat) (dd : Option Addr) (sl : Array (Option Value)) (u : Tok) :
    Meets (Builtin.«tuple.__mul__» ⟨[.ref l, .int 1 u], []⟩) (fun _ R s => s.heap.get? l = some { cls := .type "tuple", dict := dd, data := .seq its n, slots := sl } ∧ R (.ok (.ret (Value.ref l))) s) :=
  .of_wp fun prog w A R s hq => by
    obtain ⟨hp, gg, dg, tk, og⟩ := s
    obtain ⟨hl, hq⟩ := hq
    have f1 := AutoSeq1.idx_int
    have cc : (its.isEmpty || (1 : Int) == 1) = true := by simp
    wp_walk using wpAny_loadPart' hl
    repeat (first
      | (refine wpAny_ite_true (decide_eq_true cc) ?_; wp_walk using wpAny_loadPart' hl))
    exact ⟨_, rfl, hq⟩
theorem mulT_none (l : Addr) (its : Array Value) (n : Nat) (dd : Option Addr) (sl : Array (Option Value)) (x : Int) (u : Tok) (b0 : (decide (x < -(2 ^ 63)) || decide (x ≥ 2 ^ 63)) = false) (b1 : (its.isEmpty || x == 1) = false) (b2 : (decide (x ≤ 0) || its.isEmpty) = true) :
    Meets (Builtin.«tuple.__mul__» ⟨[.ref l, .int x u], []⟩) (fun _ R s => s.heap.get? l = some { cls := .type "tuple", dict := dd, data := .seq its n, slots := sl } ∧
      R (.ok (.ret (Value.ref s.heap.objs.size))) { s with heap := s.heap.push { cls := Value.type "tuple", data := Data.seq #[] }, toks := s.toks }) :=
  .of_wp fun prog w A R s hq => by
    obtain ⟨hp, gg, dg, tk, og⟩ := s
    obtain ⟨hl, hq⟩ := hq
    have f1 := AutoSeq1.idx_int
    wp_walk using wpAny_loadPart' hl
    repeat (first
      | (refine wpAny_ite_false (decide_eq_false (by rw [b0]; exact Bool.false_ne_true)) ?_; wp_walk using wpAny_loadPart' hl)
      | (refine wpAny_ite_false (decide_eq_false (by rw [b1]; exact Bool.false_ne_true)) ?_; wp_walk using wpAny_loadPart' hl)
      | (refine wpAny_ite_true (decide_eq_true b2) ?_; wp_walk using wpAny_loadPart' hl))
    exact ⟨_, rfl, hq⟩
def rRepS (K : PySem.W.Frag) : R2 := fun x y H Q => ∃ l k xs, x = .ref l ∧ y = .int k ∧ SqT K H l xs ∧ xs ≠ [] ∧ ((k = 1 ∧ Q (.ref l) H) ∨ (-1000000 ≤ k ∧ k ≤ 0 ∧ ∀ p, H p = none → Q (.ref p) (upd H p (.tup []))))
theorem op_repS : OpR X (binaryOp .Mult) (rRepS X.K) := by
  intro pins s σ H x y v u Q J rx ry h
  obtain ⟨l, k, xs, rfl, rfl, hT, hne, q⟩ := h
  cases rx
  obtain ⟨t, rfl⟩ := ry
  obtain ⟨its, r, ⟨⟨cls, dd, data, sl⟩, ho, hc, n, hd⟩, hs⟩ := J.tuple hT
  cases (show cls = .type "tuple" from hc)
  cases (show data = .seq its.toArray n from hd)
  have ni : its ≠ [] := fun e => hne (by
    have := r.length
    rw [e] at this
    exact List.eq_nil_of_length_eq_zero this)
  have hi : its.toArray.isEmpty = false := by
    cases its with
    | nil => exact absurd rfl ni
    | cons a b => rfl
  rcases q with ⟨rfl, q⟩ | ⟨h1, h2, q⟩
  · refine wpAny_binaryOp_repeat_ref (T := "tuple") (U := "int") (by decide) ⟨_, ho, rfl⟩ (fun s' => typeIs_int s' 1 t) noFill_tuple_mul F.fills_int_mul F.slot_int_rmul repeat_tuple F.slot_int_index.lookup
      (call_meets F.slot_int_rmul (typeIs_int s 1 t) F.entry_int_rmul (F.args_int_rmul_2 _ _) (int_rmul_tuple 1 t l its.toArray n dd sl)
        ⟨ho, rfl, ⟨_, ho, rfl⟩, call_meets F.slot_tuple_mul ⟨_, ho, rfl⟩ F.entry_tuple_mul (F.args_tuple_mul_2 _ _) (mulT_one l its.toArray n dd sl t) ⟨ho, ?_⟩⟩)
    exact ⟨.ref l, H, J, rfl, q⟩
  · have b0 : (decide (k < -(2 ^ 63)) || decide (k ≥ 2 ^ 63)) = false := by
      rw [decide_eq_false (by omega), decide_eq_false (by omega)] <;> rfl
    have b1 : (its.toArray.isEmpty || k == 1) = false := by
      rw [hi, Bool.false_or]
      exact beq_eq_false_iff_ne.mpr (by omega)
    have b2 : (decide (k ≤ 0) || its.toArray.isEmpty) = true := by
      rw [decide_eq_true h2]; rfl
    refine wpAny_binaryOp_repeat_ref (T := "tuple") (U := "int") (by decide) ⟨_, ho, rfl⟩ (fun s' => typeIs_int s' k t) noFill_tuple_mul F.fills_int_mul F.slot_int_rmul repeat_tuple F.slot_int_index.lookup
      (call_meets F.slot_int_rmul (typeIs_int s k t) F.entry_int_rmul (F.args_int_rmul_2 _ _) (int_rmul_tuple k t l its.toArray n dd sl)
        ⟨ho, rfl, ⟨_, ho, rfl⟩, call_meets F.slot_tuple_mul ⟨_, ho, rfl⟩ F.entry_tuple_mul (F.args_tuple_mul_2 _ _) (mulT_none l its.toArray n dd sl k t b0 b1 b2) ⟨ho, ?_⟩⟩)
    refine ⟨.ref s.heap.objs.size, _, J.laid (t' := s.toks) (o := .tup []) (fun b ob q => Heap.get?_push_of_some _ q) (Nat.le_refl _) ?_, rfl, q _ (J.hok.fresh (Nat.le_refl _))⟩
    exact ⟨Nat.zero_le _, [], .nil, IsTup.new _ _⟩
/-- a tuple that is not empty, k times -/
def fMulT : T → T → Option T
  | .d (.tup ds), .d (.int k) => if ds.isEmpty = false ∧ ds.length ≤ 1000 ∧ -1000000 ≤ k ∧ k ≤ 1000 then some (.d (.tup (List.replicate k.toNat ds).flatten)) else none
  | _, _ => none
theorem RepDs.reps {K : PySem.W.Frag} {H : Hp} {vs : List V} {ds : List D} (r : RepDs K H vs ds) : ∀ m, RepDs K H (List.replicate m vs).flatten (List.replicate m ds).flatten
  | 0 => .nil
  | m + 1 => by
    rw [List.replicate_succ, List.replicate_succ, List.flatten_cons, List.flatten_cons]
    exact r.append (RepDs.reps r m)
theorem b_mulT : Bn X .Mult fMulT := ⟨_, op_repT.or op_repS, fun H x y z vx vy Gx Gy Q ox oy e q => by
  unfold fMulT at e
  split at e
  · rename_i ds k
    split at e <;> cases e
    rename_i h
    obtain ⟨h1, h2, h3, h4⟩ := h
    cases ox with
    | d r1 =>
      cases oy with
      | d r2 =>
        cases r2
        cases r1 with
        | tup sq r =>
          rename_i a vs
          have hne : vs ≠ [] := fun e => by
            have := r.length
            rw [e] at this
            have : ds = [] := List.eq_nil_of_length_eq_zero this.symm
            rw [this] at h1; cases h1
          by_cases hk : 2 ≤ k
          · exact .inl ⟨_, _, vs, rfl, rfl, sq, hne, hk, h4, by rw [r.length]; exact h2, fun p np => q _ _ [] (same_new np) (.d (.tup (.inl (.inl upd_same)) ((r.reps k.toNat).mono (.of (same_new np))))) Fresh.nil⟩
          · by_cases hk1 : k = 1
            · subst hk1
              refine .inr ⟨_, _, vs, rfl, rfl, sq, hne, .inl ⟨rfl, ?_⟩⟩
              refine q _ H [] (Same.refl H) ?_ Fresh.nil
              have : (List.replicate (1 : Int).toNat ds).flatten = ds := by simp
              rw [this]
              exact .d (.tup sq r)
            · refine .inr ⟨_, _, vs, rfl, rfl, sq, hne, .inr ⟨h3, by omega, fun p np => ?_⟩⟩
              have : (List.replicate k.toNat ds).flatten = [] := by rw [show k.toNat = 0 by omega]; rfl
              rw [this] at q
              exact q _ _ [] (same_new np) (.d (.tup (.inl (.inl upd_same)) .nil)) Fresh.nil
  · cases e⟩
end
end Z
/-! Z: list(zip(t, u)) of two tuples. -/
namespace Z
open PySem PySem.Spec L2
open PyProof.Rows hiding St
section
variable {prog : Program} {w : World} {A : Around} {E : Value → Shared → Prop} {s : Shared}
variable {z TI TO Th i1 i2 t1 t2 : Addr} {f : Bool} {oT : Obj} {k1 k2 : Nat} {xs ys : Array Value}
theorem zt_item {x y : Value} {Q : Value → Shared → Prop} (D : ZipApart z TI TO i1 i2 t1 t2)
    (hz : IsZipHeld s.heap z TI TO Th f) (hT : s.heap.get? Th = some oT) (hI : IsPair s.heap TI (.ref i1) (.ref i2))
    (a1 : s.heap.IsTupleIter i1 t1 k1) (a2 : s.heap.IsTupleIter i2 t2 k2) (b1 : s.heap.IsTuple t1 xs) (b2 : s.heap.IsTuple t2 ys) (hx : xs[k1]? = some x) (hy : ys[k2]? = some y)
    (q : ∀ hp', IsZipHeld hp' z TI TO Th true → hp'.IsTupleIter i1 t1 (k1 + 1) → hp'.IsTupleIter i2 t2 (k2 + 1) → IsPair hp' s.heap.objs.size x y → hp'.objs.size = s.heap.objs.size + 1 →
      (∀ c o, c ≠ z → c ≠ i1 → c ≠ i2 → s.heap.get? c = some o → hp'.get? c = some o) → Q (.ref s.heap.objs.size) { s with heap := hp' }) :
    wpAny (model prog w) A (Builtin.«zip.__next__» ⟨[.ref z], []⟩) (fun fin s' => ∃ v, fin = .done (.ret v) ∧ Q v s') E s := by
  show wpAny _ _ (field (.ref z) 2 >>= _) _ _ _
  refine wpAny_bind (wpAny_field hz rfl (x := .bool false) rfl ?_)
  show wpAny _ _ (field (.ref z) 3 >>= _) _ _ _
  refine wpAny_bind (wpAny_field hz rfl (x := .ref TI) rfl ?_)
  refine wpAny_bind (wpAny_seqItems hI rfl ?_)
  show wpAny _ _ (Builtin.SmallTypes.ownedTupleIsFree (.ref z) >>= _) _ _ _
  refine wpAny_bind (wpAny_tupleHeld_zip hz hT fun g1 z1 s1 => ?_)
  simp only [Bool.false_eq_true, if_false]
  refine wpAny_bind ?_
  rw [← Array.forIn_toList]
  simp only [List.forIn_cons, List.forIn_nil]
  refine wpAny_bind (wpAny_bind (wpAny_holding ?_))
  show wpAny _ _ (Builtin.SmallTypes.nextOf (.ref i1) >>= _) _ _ _
  refine wpAny_bind (RZ.nextOf_tuple_item (s := { s with heap := g1 }) (a1.extBut s1.extBut D.i1z) (b1.extBut s1.extBut D.l1z) hx fun g2 c2 s2 => wpAny_pure ?_)
  refine wpAny_pure ?_
  refine wpAny_bind (wpAny_bind (wpAny_holding ?_))
  show wpAny _ _ (Builtin.SmallTypes.nextOf (.ref i2) >>= _) _ _ _
  refine wpAny_bind (RZ.nextOf_tuple_item (s := { s with heap := g2 }) ((a2.extBut s1.extBut D.i2z).extBut s2.extBut D.i12.symm) ((b2.extBut s1.extBut D.l2z).extBut s2.extBut D.l2i1) hy fun g3 c3 s3 => wpAny_pure ?_)
  refine wpAny_pure (wpAny_pure ?_)
  show wpAny _ _ (newTuple [x, y] >>= _) _ _ _
  refine wpAny_bind (wpAny_newTuple ?_)
  have sz : g3.objs.size = s.heap.objs.size := by rw [s3.1, s2.1, s1.1]
  have z3 : IsZipHeld g3 z TI TO Th true := s3.extBut _ _ D.i2z.symm (s2.extBut _ _ D.i1z.symm z1)
  have kp : ∀ c o, c ≠ z → c ≠ i1 → c ≠ i2 → s.heap.get? c = some o → g3.get? c = some o := fun c o n1 n2 n3 e => s3.extBut _ _ n3 (s2.extBut _ _ n2 (s1.extBut _ _ n1 e))
  have d1 : g3.IsTupleIter i1 t1 (k1 + 1) := c2.extBut s3.extBut D.i12
  refine wpAny_pure ⟨_, rfl, ?_⟩
  show Q (.ref g3.objs.size) _
  have pr : IsPair (g3.push { cls := .type "tuple", data := .seq #[x, y] }) g3.objs.size x y := Heap.get?_push_size _ rfl
  have sz4 : (g3.push { cls := .type "tuple", data := .seq #[x, y] }).objs.size = g3.objs.size + 1 := Heap.size_push ..
  rw [sz] at pr sz4 ⊢
  exact q _ (Heap.get?_push_of_some _ z3) (d1.at fun o e => Heap.get?_push_of_some _ e) (c3.at fun o e => Heap.get?_push_of_some _ e) pr sz4 fun c o n1 n2 n3 e => Heap.get?_push_of_some _ (kp c o n1 n2 n3 e)
theorem zt_end {Q : Fin → Shared → Prop} (hh : A.handled = none) (D : ZipApart z TI TO i1 i2 t1 t2)
    (hz : IsZipHeld s.heap z TI TO Th f) (hT : s.heap.get? Th = some oT) (hI : IsPair s.heap TI (.ref i1) (.ref i2))
    (a1 : s.heap.IsTupleIter i1 t1 k1) (a2 : s.heap.IsTupleIter i2 t2 k2) (b1 : s.heap.IsTuple t1 xs) (b2 : s.heap.IsTuple t2 ys) (he : xs[k1]? = none ∨ ys[k2]? = none)
    (q : ∀ hp' e, (∀ c o, c ≠ z → c ≠ i1 → c ≠ i2 → s.heap.get? c = some o → hp'.get? c = some o) → (∃ o, hp'.get? e = some o ∧ o.cls = .type "StopIteration") → E (.ref e) { s with heap := hp' }) :
    wpAny (model prog w) A (Builtin.«zip.__next__» ⟨[.ref z], []⟩) Q E s := by
  show wpAny _ _ (field (.ref z) 2 >>= _) _ _ _
  refine wpAny_bind (wpAny_field hz rfl (x := .bool false) rfl ?_)
  show wpAny _ _ (field (.ref z) 3 >>= _) _ _ _
  refine wpAny_bind (wpAny_field hz rfl (x := .ref TI) rfl ?_)
  refine wpAny_bind (wpAny_seqItems hI rfl ?_)
  show wpAny _ _ (Builtin.SmallTypes.ownedTupleIsFree (.ref z) >>= _) _ _ _
  refine wpAny_bind (wpAny_tupleHeld_zip hz hT fun g1 z1 s1 => ?_)
  simp only [Bool.false_eq_true, if_false]
  refine wpAny_bind ?_
  rw [← Array.forIn_toList]
  simp only [List.forIn_cons, List.forIn_nil]
  refine wpAny_bind (wpAny_bind (wpAny_holding ?_))
  show wpAny _ _ (Builtin.SmallTypes.nextOf (.ref i1) >>= _) _ _ _
  cases hx : xs[k1]? with
  | none =>
    refine wpAny_bind (RZ.nextOf_tuple_end (s := { s with heap := g1 }) hh (a1.extBut s1.extBut D.i1z) (b1.extBut s1.extBut D.l1z) hx fun g2 e s2 he => ?_)
    exact q g2 e (fun c o n1 n2 _ x => s2 _ _ n2 (s1.extBut _ _ n1 x)) he
  | some x =>
    have hy : ys[k2]? = none := by rcases he with h | h; rw [hx] at h; cases h; exact h
    refine wpAny_bind (RZ.nextOf_tuple_item (s := { s with heap := g1 }) (a1.extBut s1.extBut D.i1z) (b1.extBut s1.extBut D.l1z) hx fun g2 c2 s2 => wpAny_pure ?_)
    refine wpAny_pure ?_
    refine wpAny_bind (wpAny_bind (wpAny_holding ?_))
    show wpAny _ _ (Builtin.SmallTypes.nextOf (.ref i2) >>= _) _ _ _
    refine wpAny_bind (RZ.nextOf_tuple_end (s := { s with heap := g2 }) hh ((a2.extBut s1.extBut D.i2z).extBut s2.extBut D.i12.symm) ((b2.extBut s1.extBut D.l2z).extBut s2.extBut D.l2i1) hy fun g3 e s3 he => ?_)
    exact q g3 e (fun c o n1 n2 n3 x => s3 _ _ n3 (s2.extBut _ _ n2 (s1.extBut _ _ n1 x))) he
/-- how far a zip of two tuples has gone; its pairs are kept by others -/
def ZtSt (S : Addr) (hp : Heap) (z TI TO i1 i2 t1 t2 : Addr) (i : Nat) : Prop :=
  ((i = 0 ∧ IsZip hp z TI TO .none ∧ ∃ a b, IsPair hp TO a b) ∨ ∃ Th f oT, IsZipHeld hp z TI TO Th f ∧ hp.get? Th = some oT ∧ Th ≠ z ∧ Th ≠ i1 ∧ Th ≠ i2 ∧ Th ≠ S) ∧ IsPair hp TI (.ref i1) (.ref i2) ∧ hp.IsTupleIter i1 t1 i ∧ hp.IsTupleIter i2 t2 i
theorem zt_next {S : Addr} {i : Nat} {x y : Value} {Q : Option Value → Shared → Prop} (D : ZipApart z TI TO i1 i2 t1 t2) (lS : S < s.heap.objs.size) (st : ZtSt S s.heap z TI TO i1 i2 t1 t2 i) (b1 : s.heap.IsTuple t1 xs) (b2 : s.heap.IsTuple t2 ys) (hx : xs[i]? = some x) (hy : ys[i]? = some y)
    (q : ∀ hp', ZtSt S hp' z TI TO i1 i2 t1 t2 (i + 1) → IsPair hp' s.heap.objs.size x y → hp'.objs.size = s.heap.objs.size + 1 → (∀ c o, c ≠ z → c ≠ TO → c ≠ i1 → c ≠ i2 → s.heap.get? c = some o → hp'.get? c = some o) → Q (some (.ref s.heap.objs.size)) { s with heap := hp' }) :
    wpAny (model prog w) A (pyNext (.ref z)) Q E s := by
  obtain ⟨st, hI, a1, a2⟩ := st
  have l1 : i1 < s.heap.objs.size := by obtain ⟨_, e, _⟩ := a1; exact Heap.lt_size e
  have l2 : i2 < s.heap.objs.size := by obtain ⟨_, e, _⟩ := a2; exact Heap.lt_size e
  rcases st with ⟨rfl, hz, a, b, hO⟩ | ⟨Th, f, oT, hz, hT, n1, n2, n3, n4⟩
  · refine RZ.pyNext_zipT_item D hz hI hO a1 a2 b1 b2 hx hy fun hp' c1 c2 c3 c4 c5 c6 c7 => ?_
    have lz : z < s.heap.objs.size := Heap.lt_size hz
    exact q hp' ⟨.inr ⟨s.heap.objs.size, false, _, c1, c5, Nat.ne_of_gt lz, Nat.ne_of_gt l1, Nat.ne_of_gt l2, Nat.ne_of_gt lS⟩, c7 _ _ D.TIz D.TITO D.TIi1 D.TIi2 hI, c3, c4⟩ c5 c6 c7
  · have tz : s.TypeIs (.ref z) "zip" := ⟨_, hz, rfl⟩
    unfold pyNext
    exact wpAny_bind (wpAny_attempt (wpAny_callSpecial?_slot (name := Str.ofString "__next__") tz F.slot_zip_next (wpAny_call_entry F.slot_zip_next tz F.entry_zip_next
      (zt_item D hz hT hI a1 a2 b1 b2 hx hy fun hp' c1 c3 c4 c5 c6 c7 => wpAny_pure (q hp' ⟨.inr ⟨Th, true, oT, c1, c7 Th _ n1 n2 n3 hT, n1, n2, n3, n4⟩, c7 _ _ D.TIz D.TIi1 D.TIi2 hI, c3, c4⟩ c5 c6 fun c o m1 _ m3 m4 e => c7 c o m1 m3 m4 e)) (F.args_zip_next_1 _))))
theorem zt_stop {S : Addr} {i : Nat} {Q : Option Value → Shared → Prop} (hh : A.handled = none) (D : ZipApart z TI TO i1 i2 t1 t2) (st : ZtSt S s.heap z TI TO i1 i2 t1 t2 i) (b1 : s.heap.IsTuple t1 xs) (b2 : s.heap.IsTuple t2 ys) (he : xs[i]? = none ∨ ys[i]? = none)
    (q : ∀ hp', (∀ c o, c ≠ z → c ≠ TO → c ≠ i1 → c ≠ i2 → s.heap.get? c = some o → hp'.get? c = some o) → Q none { s with heap := hp' }) : wpAny (model prog w) A (pyNext (.ref z)) Q E s := by
  obtain ⟨st, hI, a1, a2⟩ := st
  rcases st with ⟨rfl, hz, a, b, hO⟩ | ⟨Th, f, oT, hz, hT, n1, n2, n3, n4⟩
  · exact RZ.pyNext_zipT_end hh D hz hI hO a1 a2 b1 b2 he q
  · have tz : s.TypeIs (.ref z) "zip" := ⟨_, hz, rfl⟩
    unfold pyNext
    refine wpAny_bind (wpAny_attempt (wpAny_callSpecial?_slot (name := Str.ofString "__next__") tz F.slot_zip_next (wpAny_call_entry F.slot_zip_next tz F.entry_zip_next (zt_end hh D hz hT hI a1 a2 b1 b2 he fun hp' e k x => ?_) (F.args_zip_next_1 _))))
    obtain ⟨o, ho, hc⟩ := x
    refine wpAny_bind (wpAny_isInstance (T := "StopIteration") (b := true) ⟨o, ho, hc⟩ isSubtype_stop ?_)
    exact wpAny_pure (q _ fun c o m1 _ m3 m4 e => k c o m1 m3 m4 e)
end
end Z
/-! Z: list(zip(t, u)): the loop. -/
namespace Z
open PySem PySem.Spec L2
open PyProof.Rows hiding St
theorem ZtSt.keep {S : Addr} {h h' : Heap} {z TI TO i1 i2 t1 t2 : Addr} {i : Nat} (st : ZtSt S h z TI TO i1 i2 t1 t2 i) (k : ∀ b o, b ≠ S → h.get? b = some o → h'.get? b = some o) (n1 : z ≠ S) (n2 : TI ≠ S) (n3 : TO ≠ S) (n4 : i1 ≠ S) (n5 : i2 ≠ S) : ZtSt S h' z TI TO i1 i2 t1 t2 i := by
  obtain ⟨st, hI, a1, a2⟩ := st
  refine ⟨?_, k _ _ n2 hI, a1.at fun o e => k _ o n4 e, a2.at fun o e => k _ o n5 e⟩
  rcases st with ⟨e, hz, a, b, hO⟩ | ⟨Th, f, oT, hz, hT, m1, m2, m3, m4⟩
  · exact .inl ⟨e, k _ _ n1 hz, a, b, k _ _ n3 hO⟩
  · exact .inr ⟨Th, f, oT, k _ _ n1 hz, k _ _ m4 hT, m1, m2, m3, m4⟩
/-- the new pairs at their places -/
structure ZG (ps : List (Value × Value)) (lo : Addr) (h : Heap) (as : List Addr) : Prop where
  rise : as.Pairwise (· < ·)
  above : ∀ a ∈ as, lo < a
  pairs : ∀ (j : Nat) (a : Addr), as[j]? = some a → ∃ x y, ps[j]? = some (x, y) ∧ IsPair h a x y
theorem ZG.there {ps : List (Value × Value)} {lo : Addr} {h : Heap} {as : List Addr} (g : ZG ps lo h as) {a : Addr} (m : a ∈ as) : a < h.objs.size := by
  obtain ⟨j, hj⟩ := List.mem_iff_getElem?.mp m
  obtain ⟨_, _, _, e⟩ := g.pairs j a hj
  exact Heap.lt_size e
/-- a list's object -/
abbrev LstAt (h : Heap) (S : Addr) (acc : Array Value) (c : Nat) : Prop := h.get? S = some { cls := .type "list", dict := none, data := .seq acc c, slots := #[] }
structure Below (S z TI TO i1 i2 t1 t2 : Addr) : Prop where
  z : z < S
  I : TI < S
  O : TO < S
  a : i1 < S
  b : i2 < S
  t : t1 < S
  u : t2 < S
section
variable {prog : Program} {w : World} {A : Around} {s : Shared} {R : Result → Shared → Prop} {S z TI TO i1 i2 t1 t2 : Addr} {xs ys : Array Value} {ps : List (Value × Value)}
theorem zl_loop (hh : A.handled = none) (D : ZipApart z TI TO i1 i2 t1 t2) (B : Below S z TI TO i1 i2 t1 t2) (hn : ps.length ≤ sizeLine) (hp : ∀ (i : Nat) (x y : Value), ps[i]? = some (x, y) → xs[i]? = some x ∧ ys[i]? = some y) (he : xs[ps.length]? = none ∨ ys[ps.length]? = none) (res : Value) {h0 : Heap}
    (hR : ∀ h' tk acc c as, (∀ b o, b ≠ S → b ≠ z → b ≠ TO → b ≠ i1 → b ≠ i2 → h0.get? b = some o → h'.get? b = some o) → LstAt h' S acc c → as.length = ps.length → ZG ps S h' as → acc.toList = as.map Value.ref → R (.ok (.ret res)) { s with heap := h', toks := tk }) :
    ∀ (k i : Nat) (h : Heap) (tk c : Nat) (acc : Array Value) (as : List Addr), ps.length - i = k → i ≤ ps.length → ZtSt S h z TI TO i1 i2 t1 t2 i → h.IsTuple t1 xs → h.IsTuple t2 ys → (∀ b o, b ≠ S → b ≠ z → b ≠ TO → b ≠ i1 → b ≠ i2 → h0.get? b = some o → h.get? b = some o) →
      LstAt h S acc c → acc.toList = as.map Value.ref → as.length = i → ZG ps S h as →
      codeAny (model prog w) A (.builtin "list.extend.loop" ⟨[.ref S, .ref z, res], []⟩) R { s with heap := h, toks := tk } := by
  have nz := Nat.ne_of_lt B.z
  have nI := Nat.ne_of_lt B.I
  have nO := Nat.ne_of_lt B.O
  have na := Nat.ne_of_lt B.a
  have nb := Nat.ne_of_lt B.b
  have nt := Nat.ne_of_lt B.t
  have nu := Nat.ne_of_lt B.u
  intro k
  induction k with
  | zero =>
    intro i h tk c acc as hk hi st b1 b2 kp hS hacc hal hG
    have ei : i = ps.length := by omega
    refine codeAny_builtin PySem.F.entry_extend_loop ?_
    rw [Around.under_plainId PySem.F.plain_extend_loop _]
    show wpAny _ A.in1 (pyNext (.ref z) >>= _) _ _ _
    refine wpAny_bind (zt_stop (s := { s with heap := h, toks := tk }) (A := A.in1) hh D st b1 b2 (by rw [ei]; exact he) fun h' ke => ?_)
    refine wpAny_pure (hR h' tk acc c as (fun b o m1 m2 m3 m4 m5 e => ke b o m2 m3 m4 m5 (kp b o m1 m2 m3 m4 m5 e)) (ke S _ nz.symm nO.symm na.symm nb.symm hS) (by omega) ⟨hG.rise, hG.above, fun j a hj => ?_⟩ hacc)
    obtain ⟨x, y, e1, e2⟩ := hG.pairs j a hj
    have lo := hG.above a (List.mem_of_getElem? hj)
    exact ⟨x, y, e1, ke a _ (Nat.ne_of_gt (Nat.lt_trans B.z lo)) (Nat.ne_of_gt (Nat.lt_trans B.O lo)) (Nat.ne_of_gt (Nat.lt_trans B.a lo)) (Nat.ne_of_gt (Nat.lt_trans B.b lo)) e2⟩
  | succ k ih =>
    intro i h tk c acc as hk hi st b1 b2 kp hS hacc hal hG
    have hlt : i < ps.length := by omega
    obtain ⟨⟨x, y⟩, hx⟩ : ∃ p, ps[i]? = some p := ⟨ps[i], List.getElem?_eq_getElem hlt⟩
    obtain ⟨ex, ey⟩ := hp i x y hx
    have sz : acc.size = i := by rw [← Array.length_toList, hacc, List.length_map, hal]
    have lS : S < h.objs.size := Heap.lt_size hS
    refine codeAny_builtin PySem.F.entry_extend_loop ?_
    rw [Around.under_plainId PySem.F.plain_extend_loop _]
    show wpAny _ A.in1 (pyNext (.ref z) >>= _) _ _ _
    refine wpAny_bind (zt_next (s := { s with heap := h, toks := tk }) (S := S) D lS st b1 b2 ex ey fun h' st' pr zs ke => ?_)
    dsimp only at pr zs ke ⊢
    have hS' := ke S _ nz.symm nO.symm na.symm nb.symm hS
    have up : ∀ b o, b ≠ S → h'.get? b = some o → (h'.update S (Obj.mapSeq (·.push (Value.ref h.objs.size)))).get? b = some o := fun b o m e => (Heap.get?_update_other _ _ (Ne.symm m)).trans e
    have b1' : h'.IsTuple t1 xs := b1.at fun o e => ke t1 o D.l1z D.l1TO D.l1i1 D.l1i2 e
    have b2' : h'.IsTuple t2 ys := b2.at fun o e => ke t2 o D.l2z D.l2TO D.l2i1 D.l2i2 e
    show wpAny _ A.in1 (updateSeq S (·.push (Value.ref h.objs.size)) >>= _) _ _ _
    refine wpAny_bind ?_
    refine wpAny_updateSeq hS' rfl (wpAny_pure ⟨plainId_quiet PySem.F.plain_extend_loop _, ih (i + 1) _ tk _ (acc.push (Value.ref h.objs.size)) (as ++ [h.objs.size]) (by omega) hlt (st'.keep up nz nI nO na nb) (b1'.at fun o e => up t1 o nt e) (b2'.at fun o e => up t2 o nu e)
      (fun b o m1 m2 m3 m4 m5 e => up b o m1 (ke b o m2 m3 m4 m5 (kp b o m1 m2 m3 m4 m5 e))) (Heap.get?_update_self _ hS' rfl) (by rw [Array.toList_push, hacc, List.map_append]; rfl) (by rw [List.length_append, hal]; rfl) ⟨?_, ?_, ?_⟩⟩) (by rw [sz]; omega) (by show (acc.push (Value.ref h.objs.size)).size ≤ sizeLine + 1; rw [Array.size_push, sz]; omega)
    · refine List.pairwise_append.mpr ⟨hG.rise, List.pairwise_singleton _ _, fun a m b m2 => ?_⟩
      rw [List.mem_singleton.mp m2]
      exact hG.there m
    · intro a m
      rcases List.mem_append.mp m with m | m
      · exact hG.above a m
      · rw [List.mem_singleton.mp m]; exact lS
    · intro j b hj
      rcases Nat.lt_trichotomy j as.length with c1 | c1 | c1
      · rw [List.getElem?_append_left c1] at hj
        obtain ⟨x', y', e1, e2⟩ := hG.pairs j b hj
        have lo := hG.above b (List.mem_of_getElem? hj)
        exact ⟨x', y', e1, up b _ (Nat.ne_of_gt lo) (ke b _ (Nat.ne_of_gt (Nat.lt_trans B.z lo)) (Nat.ne_of_gt (Nat.lt_trans B.O lo)) (Nat.ne_of_gt (Nat.lt_trans B.a lo)) (Nat.ne_of_gt (Nat.lt_trans B.b lo)) e2)⟩
      · subst c1
        have hb : h.objs.size = b := by simpa using hj
        subst hb
        exact ⟨x, y, by rw [hal]; exact hx, up _ _ (Nat.ne_of_gt lS) pr⟩
      · have no : (as ++ [h.objs.size])[j]? = none := List.getElem?_eq_none (by rw [List.length_append, List.length_singleton]; omega)
        rw [no] at hj; cases hj
end
end Z
/-! Z: list(zip(t, u)): the call. -/
namespace Z
open PySem PySem.Spec L2
open PyProof.Rows hiding St
theorem zip_no_len : typeLookup (.type "zip") "__len__" = pure none := am_miss_of_fast (by decide +kernel)
theorem zip_no_hint : typeLookup (.type "zip") "__length_hint__" = pure none := am_miss_of_fast (by decide +kernel)
section
variable {prog : Program} {w : World} {A : Around} {E : Value → Shared → Prop} {s : Shared} {R : Result → Shared → Prop} {S z TI TO i1 i2 t1 t2 : Addr} {xs ys : Array Value} {ps : List (Value × Value)}
theorem zip_hint (hT : s.TypeIs (.ref z) "zip") {Q : Bool → Shared → Prop} (q : Q true s) : wpAny (model prog w) A (Builtin.List.listLengthHint (.ref z)) Q E s := by
  unfold Builtin.List.listLengthHint
  refine wpAny_bind (wpAny_specialOf hT zip_no_len ?_)
  refine wpAny_bind (wpAny_specialOf hT zip_no_hint ?_)
  exact wpAny_pure q
theorem zl_extend (hh : A.handled = none) (D : ZipApart z TI TO i1 i2 t1 t2) (B : Below S z TI TO i1 i2 t1 t2) (hn : ps.length ≤ sizeLine) (hp : ∀ (i : Nat) (x y : Value), ps[i]? = some (x, y) → xs[i]? = some x ∧ ys[i]? = some y) (he : xs[ps.length]? = none ∨ ys[ps.length]? = none)
    (hz : IsZip s.heap z TI TO .none) (hO : ∃ a b, IsPair s.heap TO a b) (hI : IsPair s.heap TI (.ref i1) (.ref i2)) (a1 : s.heap.IsTupleIter i1 t1 0) (a2 : s.heap.IsTupleIter i2 t2 0) (b1 : s.heap.IsTuple t1 xs) (b2 : s.heap.IsTuple t2 ys) (res : Value) (c0 : Nat) (hS : s.heap.get? S = some { cls := .type "list", data := .seq #[] c0 })
    (hR : ∀ h' tk acc c as, (∀ b o, b ≠ S → b ≠ z → b ≠ TO → b ≠ i1 → b ≠ i2 → s.heap.get? b = some o → h'.get? b = some o) → LstAt h' S acc c → as.length = ps.length → ZG ps S h' as → acc.toList = as.map Value.ref → R (.ok (.ret res)) { s with heap := h', toks := tk }) :
    wpAny (model prog w) A.in1 (Builtin.List.listExtendWith (.ref S) (.ref z) res)
      (fun fin s' => match fin with | .done f => R (.ok f) s' | .again c' => c'.quiet = true ∧ codeAny (model prog w) A c' R s') (fun e s' => R (.error e) s') s := by
  have key : ∀ (h : Heap) (c1 tk : Nat), (∀ b o, b ≠ S → s.heap.get? b = some o → h.get? b = some o) → h.get? S = some { cls := .type "list", data := .seq #[] c1 } →
      codeAny (model prog w) A (.builtin "list.extend.loop" ⟨[.ref S, .ref z, res], []⟩) R { s with heap := h, toks := tk } := by
    intro h c1 tk k hS1
    have st : ZtSt S h z TI TO i1 i2 t1 t2 0 := by
      have st0 : ZtSt S s.heap z TI TO i1 i2 t1 t2 0 := ⟨.inl ⟨rfl, hz, hO⟩, hI, a1, a2⟩
      exact st0.keep k (Nat.ne_of_lt B.z) (Nat.ne_of_lt B.I) (Nat.ne_of_lt B.O) (Nat.ne_of_lt B.a) (Nat.ne_of_lt B.b)
    refine zl_loop (h0 := s.heap) hh D B hn hp he res hR ps.length 0 h tk c1 #[] [] (Nat.sub_zero _) (Nat.zero_le _) st (b1.at fun o e => k t1 o (Nat.ne_of_lt B.t) e) (b2.at fun o e => k t2 o (Nat.ne_of_lt B.u) e) (fun b o m1 _ _ _ _ e => k b o m1 e) hS1 rfl rfl
      ⟨List.Pairwise.nil, (fun _ m => nomatch m), (fun j a hj => by simp at hj)⟩
  have tz : s.TypeIs (.ref z) "zip" := ⟨_, hz, rfl⟩
  unfold Builtin.List.listExtendWith
  refine wpAny_bind (wpAny_typeOf (T := "zip") tz ?_)
  have q1 : Builtin.List.listSameRef (.ref S) (.ref z) = false := by simp [Builtin.List.listSameRef, Nat.ne_of_gt B.z]
  have q2 : (Value.type "zip" == Value.type "list") = false := by decide
  have q3 : (Value.type "zip" == Value.type "tuple") = false := by decide
  simp only [q1, q2, q3, Bool.or_false, Bool.false_eq_true, if_false]
  refine wpAny_bind (wpAny_pyIter_zip hz ?_)
  refine wpAny_bind (wpAny_holding (zip_hint tz ?_))
  refine wpAny_ite_split (fun _ => ?_) (fun hab => absurd (by decide) hab)
  refine wpAny_bind (wpAny_rule ?_)
  refine wpAny_bind ?_
  show wpAny _ _ (updateSeq S (·.push .none) >>= fun _ => updateSeq S (·.pop)) _ _ _
  refine wpAny_bind (wpAny_updateSeq hS rfl ?_)
  have s2 := Heap.get?_update_self (Obj.mapSeq (·.push Value.none)) hS rfl
  refine wpAny_updateSeq (hz := by seq_fits) s2 rfl ?_
  have s3 := Heap.get?_update_self (Obj.mapSeq (·.pop)) s2 rfl
  refine wpAny_pure ⟨plainId_quiet PySem.F.plain_extend_loop _, key _ _ _ (fun b o m e => ?_) s3⟩
  exact (Heap.get?_update_other _ _ (Ne.symm m)).trans ((Heap.get?_update_other _ _ (Ne.symm m)).trans e)
theorem zl_call {Q : Value → Shared → Prop} (hh : A.handled = none) (D : ZipApart z TI TO i1 i2 t1 t2) (B : Below s.heap.objs.size z TI TO i1 i2 t1 t2) (hn : ps.length ≤ sizeLine) (hp : ∀ (i : Nat) (x y : Value), ps[i]? = some (x, y) → xs[i]? = some x ∧ ys[i]? = some y) (he : xs[ps.length]? = none ∨ ys[ps.length]? = none)
    (hz : IsZip s.heap z TI TO .none) (hO : ∃ a b, IsPair s.heap TO a b) (hI : IsPair s.heap TI (.ref i1) (.ref i2)) (a1 : s.heap.IsTupleIter i1 t1 0) (a2 : s.heap.IsTupleIter i2 t2 0) (b1 : s.heap.IsTuple t1 xs) (b2 : s.heap.IsTuple t2 ys)
    (q : ∀ h' tk acc c as, (∀ b o, b ≠ z → b ≠ TO → b ≠ i1 → b ≠ i2 → s.heap.get? b = some o → h'.get? b = some o) → LstAt h' s.heap.objs.size acc c → as.length = ps.length → ZG ps s.heap.objs.size h' as → acc.toList = as.map Value.ref → Q (.ref s.heap.objs.size) { s with heap := h', toks := tk }) :
    wpAny (model prog w) A (call (.type "list") [.ref z]) Q E s := by
  refine callType_codes (Q₁ := fun obj s₁ => obj = .ref s.heap.objs.size ∧ s₁ = { s with heap := s.heap.push { cls := .type "list", data := .seq #[] } }) PySem.F.called_list (PySem.F.typeCall_list_1 _) PySem.F.entry_list_init (code_list_new _ ⟨rfl, rfl⟩) fun obj s1 e1 => ?_
  obtain ⟨rfl, rfl⟩ := e1
  have hS : (s.heap.push { cls := .type "list", data := .seq #[] }).get? s.heap.objs.size = some { cls := .type "list", data := .seq #[] } := Heap.get?_push_size _ rfl
  refine ⟨⟨_, hS, rfl⟩, PySem.F.args_list_init_2 _ _, ?_⟩
  generalize hS0 : s.heap.objs.size = S at *
  have oth : ∀ b o, b ≠ S → s.heap.get? b = some o → ((s.heap.push { cls := .type "list", data := .seq #[] }).update S (Obj.mapSeq (fun _ => (#[] : Array Value)))).get? b = some o := fun b o m e => (Heap.get?_update_other _ _ (Ne.symm m)).trans (Heap.get?_push_of_some _ e)
  show wpAny _ _ (do let old ← Builtin.List.listItems (.ref S); Builtin.List.listUpdate (.ref S) (fun _ => #[]); letGo old.toList.reverse; Builtin.List.listExtendWith (.ref S) (.ref z) .none) _ _ _
  refine wpAny_bind ?_
  unfold Builtin.List.listItems
  refine wpAny_bind (wpAny_seqItems hS rfl (wpAny_pure ?_))
  show wpAny _ _ (updateSeq S (fun _ => #[]) >>= fun _ => letGo (#[] : Array Value).toList.reverse >>= fun _ => Builtin.List.listExtendWith (.ref S) (.ref z) .none) _ _ _
  refine wpAny_bind (wpAny_updateSeq hS rfl ?_)
  have s2 := Heap.get?_update_self (Obj.mapSeq (fun _ => (#[] : Array Value))) hS rfl
  refine wpAny_bind (wpAny_letGo ?_)
  obtain ⟨ta, tb, hO⟩ := hO
  refine zl_extend (A := A.in1) hh D B hn hp he (oth _ _ (Nat.ne_of_lt B.z) hz) ⟨ta, tb, oth _ _ (Nat.ne_of_lt B.O) hO⟩ (oth _ _ (Nat.ne_of_lt B.I) hI) (a1.at fun o e => oth _ o (Nat.ne_of_lt B.a) e) (a2.at fun o e => oth _ o (Nat.ne_of_lt B.b) e) (b1.at fun o e => oth _ o (Nat.ne_of_lt B.t) e) (b2.at fun o e => oth _ o (Nat.ne_of_lt B.u) e) .none _ s2 (fun h' tk acc c as k hS' hl hG hacc => ?_)
  exact ⟨rfl, q h' tk acc c as (fun b o m1 m2 m3 m4 e => k b o (fun x => by
    rw [x, ← hS0] at e
    exact absurd (Heap.lt_size e) (Nat.lt_irrefl _)) m1 m2 m3 m4 (oth b o (fun x => by
    rw [x, ← hS0] at e
    exact absurd (Heap.lt_size e) (Nat.lt_irrefl _)) e)) hS' hl hG hacc⟩
end
end Z
/-! Z: list(zip(t, u)) as an expression. -/
namespace Z
open PySem PySem.Spec L2
open PyProof.Rows hiding St
/-- the pairs at their places -/
def putP : Hp → List Addr → List (V × V) → Hp
  | H, a :: as, p :: r => putP (upd H a (.tup [p.1, p.2])) as r
  | H, _, _ => H
theorem putP_off {b : Addr} : ∀ (as : List Addr) (r : List (V × V)) (H : Hp), b ∉ as → putP H as r b = H b
  | [], _, _, _ => rfl
  | _ :: _, [], _, _ => rfl
  | a :: as, p :: r, H, h => by
    show putP (upd H a (.tup [p.1, p.2])) as r b = H b
    rw [putP_off as r _ (fun m => h (List.mem_cons_of_mem _ m)), upd_ne (fun e => h (by rw [e]; exact List.mem_cons_self))]
theorem putP_at : ∀ (as : List Addr) (r : List (V × V)) (H : Hp), as.length = r.length → as.Nodup → ∀ (j : Nat) (a : Addr), as[j]? = some a → ∃ p, r[j]? = some p ∧ putP H as r a = some (.tup [p.1, p.2])
  | [], [], _, _, _, j, a, h => by simp at h
  | [], _ :: _, _, h, _, _, _, _ => by cases h
  | _ :: _, [], _, h, _, _, _, _ => by cases h
  | b :: as, p :: r, H, hl, nd, j, a, h => by
    obtain ⟨n1, n2⟩ := List.nodup_cons.mp nd
    cases j with
    | zero =>
      simp at h
      subst h
      refine ⟨p, rfl, ?_⟩
      show putP (upd H b (.tup [p.1, p.2])) as r b = _
      rw [putP_off as r _ n1, upd_same]
    | succ j => exact putP_at as r (upd H b (.tup [p.1, p.2])) (Nat.succ.inj hl) n2 j a (by simpa using h)
section
variable {X : Cx}
theorem zip_laid {pins : List (Addr × Obj)} {σ : L2.St} {H : Hp} {s : Shared} {h' : Heap} {tk : Nat} {pv : List (V × V)} {ps : List (Value × Value)} {acc : Array Value} {c : Nat} {as : List Addr} {S : Addr} (J : Inv X pins σ H s) (lS : s.heap.objs.size ≤ S) (hz : ps.length ≤ sizeLine) (hl : pv.length = ps.length) (hv : ∀ (j : Nat) (p : V × V) (u : Value × Value), pv[j]? = some p → ps[j]? = some u → RelV p.1 u.1 ∧ RelV p.2 u.2)
    (hk : ∀ b o, s.heap.get? b = some o → h'.get? b = some o) (hS : LstAt h' S acc c) (la : as.length = ps.length) (hG : ZG ps S h' as) (hacc : acc.toList = as.map Value.ref) :
    ∃ H' : Hp, (∀ b o, H b = some o → H' b = some o) ∧ H S = none ∧ H' S = some (.lst (as.map V.ref)) ∧ (∀ (j : Nat) (a : Addr), as[j]? = some a → ∃ p, pv[j]? = some p ∧ H' a = some (.tup [p.1, p.2])) ∧ Inv X pins σ H' { s with heap := h', toks := tk } := by
  have nS : S ∉ as := fun m => Nat.lt_irrefl _ (hG.above _ m)
  have nd : as.Nodup := List.Pairwise.imp (fun {a b} (h : a < b) => Nat.ne_of_lt h) hG.rise
  have new : ∀ t ∈ as, H t = none := fun t m => J.hok.fresh (Nat.le_trans lS (Nat.le_of_lt (hG.above t m)))
  have newS : H S = none := J.hok.fresh lS
  have atP := putP_at as pv (upd H S (.lst (as.map V.ref))) (by omega) nd
  have off : ∀ b, b ∉ as → b ≠ S → putP (upd H S (.lst (as.map V.ref))) as pv b = H b := fun b n1 n2 => by rw [putP_off as pv _ n1, upd_ne n2]
  have low : ∀ b o, s.heap.get? b = some o → b ∉ as ∧ b ≠ S := fun b o e => ⟨fun m => absurd (Heap.lt_size e) (Nat.not_lt.mpr (Nat.le_trans lS (Nat.le_of_lt (hG.above b m)))), Nat.ne_of_lt (Nat.lt_of_lt_of_le (Heap.lt_size e) lS)⟩
  have kp : ∀ b u, H b = some u → (putP (upd H S (.lst (as.map V.ref))) as pv) b = some u := fun b u e => by
    rw [off b (fun m => by rw [new b m] at e; cases e) (fun m => by rw [m, newS] at e; cases e)]
    exact e
  have eS : putP (upd H S (.lst (as.map V.ref))) as pv S = some (.lst (as.map V.ref)) := by rw [putP_off as pv _ nS, upd_same]
  refine ⟨putP (upd H S (.lst (as.map V.ref))) as pv, kp, newS, eS, atP, ?_⟩
  refine J.call' (ch := []) rfl ⟨fun b o q _ _ _ => hk b o q, fun b o q _ _ _ => ⟨o.slots, hk b o q⟩, fun b o q n _ => ?_, fun b o q _ => ⟨o, hk b o q⟩, fun b xs q => kp b _ q, fun b o u q => kp b _ q, fun b ps q => ⟨#[], by rw [kp b _ q]; simp⟩⟩ (fun b u q => ?_) J.bare fun b m => by simp at m
  · obtain ⟨m1, m2⟩ := low b o q
    rw [off b m1 m2]
    exact n
  · by_cases hb : b ∈ as
    · obtain ⟨j, hj⟩ := List.mem_iff_getElem?.mp hb
      obtain ⟨p, e1, e2⟩ := atP j b hj
      rw [e2] at q
      cases q
      obtain ⟨x, y, f1, f2⟩ := hG.pairs j b hj
      obtain ⟨r1, r2⟩ := hv j p (x, y) e1 f1
      exact ⟨by show 2 ≤ sizeLine; decide, [x, y], .cons r1 (.cons r2 .nil), ⟨_, f2, rfl, _, rfl⟩⟩
    · by_cases hb2 : b = S
      · rw [hb2] at q ⊢
        rw [eS] at q
        cases q
        refine ⟨by rw [List.length_map]; omega, acc.toList, c, by rw [hacc]; exact LiI.vals_refs as, ?_⟩
        rw [Array.toArray_toList]
        exact hS
      · rw [off b hb hb2] at q
        exact (J.hok b u q).stay (fun d v _ y => hk d v y) (fun d y => kp d _ y) fun d xs y => kp d _ y
def tListZip (K : PySem.W.Frag) (ta : TA) : TE := fun σ H Q => ta σ H fun vs H1 => ∃ a b xs ys, vs = [.ref a, .ref b] ∧ SqT K H1 a xs ∧ SqT K H1 b ys ∧
  ∀ (H' : Hp) (S : Addr) (as : List Addr), (∀ b o, H1 b = some o → H' b = some o) → H1 S = none → as.length = min xs.length ys.length → H' S = some (.lst (as.map V.ref)) → (∀ (j : Nat) (a : Addr), as[j]? = some a → ∃ x y, xs[j]? = some x ∧ ys[j]? = some y ∧ H' a = some (.tup [x, y])) → Q (.ref S) H'
theorem zip_get {α β : Type} : ∀ {xs : List α} {ys : List β} {i : Nat} {x : α} {y : β}, (xs.zip ys)[i]? = some (x, y) → xs[i]? = some x ∧ ys[i]? = some y
  | [], _, _, _, _, h => by simp at h
  | _ :: _, [], _, _, _, h => by simp at h
  | a :: xs, b :: ys, 0, x, y, h => by simp at h; obtain ⟨rfl, rfl⟩ := h; exact ⟨rfl, rfl⟩
  | a :: xs, b :: ys, i + 1, x, y, h => by
    obtain ⟨h1, h2⟩ := zip_get (xs := xs) (ys := ys) (i := i) (x := x) (y := y) (by simpa using h)
    exact ⟨by simpa using h1, by simpa using h2⟩
theorem pe_listZip {e e2 : Expr} {ta : TA} {p p2 pos pos2 : Pos} (hc : X.calm = true) (hg : Gl X "list") (hm : X.mg "list" = none) (hg2 : Gl X "zip") (hm2 : X.mg "zip" = none) (ha : PA X [e, e2] ta)
    (hs : starEach [.Call (.Name "zip" p2) [e, e2] [] pos2] X.env = (false, eval (.Call (.Name "zip" p2) [e, e2] [] pos2) X.env) :: starEach [] X.env := by rfl)
    (hs2 : starEach [e, e2] X.env = (false, eval e X.env) :: starEach [e2] X.env := by rfl) (hpl : (backTo pos2 (starEach [e2] X.env)).any (·.1) = false := by rfl) :
    PE X (.Call (.Name "list" p) [.Call (.Name "zip" p2) [e, e2] [] pos2] [] pos) (tListZip X.K ta) := by
  refine ⟨fun pins s σ H Q J h => ?_⟩
  refine wpAny_Call_Name_kw (ld_blt J hg hm (by decide +kernel : bootBuiltins "list" = some (.type "list")) ?_)
  refine PyProof.Rows.callWith_type1 ?_ hs rfl
  rw [hs]
  show wpAny _ _ (spliced ((false, eval (.Call (.Name "zip" p2) [e, e2] [] pos2) X.env) :: backTo pos (starEach [] X.env))) _ _ s
  refine Calls.spliced_cons ?_
  refine Call_ (ld_blt J hg2 hm2 PyProof.Rows.boot_zip (PyProof.Rows.callWith_type1 (thn (ha.run pos2 pins s σ H _ J h) fun us s1 ⟨vs, H1, J1, r1, q1⟩ => ?_) hs2 hpl))
  obtain ⟨a, b, xs, ys, ex, hqx, hqy, q⟩ := q1
  subst ex
  cases r1 with
  | cons r rr =>
    cases rr with
    | cons r' rr =>
      cases rr
      cases r
      cases r'
      obtain ⟨its, rv, tp1, z1⟩ := J1.tuple hqx
      obtain ⟨its2, rv2, tp2, z2⟩ := J1.tuple hqy
      obtain ⟨o1, ho1, _⟩ := id tp1
      obtain ⟨o2, ho2, _⟩ := id tp2
      have la := Heap.lt_size ho1
      have lb := Heap.lt_size ho2
      have t1 : s1.heap.IsTuple a its.toArray := tp1
      have t2 : s1.heap.IsTuple b its2.toArray := tp2
      refine RZ.call_zipT t1 t2 fun h' hz hTI hTO h1 h2 hsz hk => ?_
      refine Calls.spliced_nil ?_
      have lv := rv.length
      have lv2 := rv2.length
      have lz : (its.zip its2).length ≤ sizeLine := by rw [List.length_zip]; omega
      refine zl_call (s := { s1 with heap := h' }) (ps := its.zip its2) (J1.ok.hd hc) (PySem.W.ktu_apart s1.heap.objs.size a b la lb) ⟨by show _ < h'.objs.size; omega, by show _ < h'.objs.size; omega, by show _ < h'.objs.size; omega, by show _ < h'.objs.size; omega, by show _ < h'.objs.size; omega, Nat.lt_of_lt_of_le la (by rw [hsz]; exact Nat.le_add_right _ _), Nat.lt_of_lt_of_le lb (by rw [hsz]; exact Nat.le_add_right _ _)⟩ lz (fun i x y e => by
        obtain ⟨e1, e2⟩ := zip_get e
        exact ⟨by simpa using e1, by simpa using e2⟩) (by
        rw [List.length_zip]
        by_cases hle : its.length ≤ its2.length
        · exact .inl (by simp; omega)
        · exact .inr (by simp; omega)) hz ⟨_, _, hTO⟩ hTI h1 h2 (t1.at fun o e => hk _ o e) (t2.at fun o e => hk _ o e) fun h'' tk acc c as k hS hl hG hacc => ?_
      obtain ⟨H', k1, k2, k3, k4, J2⟩ := zip_laid (tk := tk) (pv := xs.zip ys) J1 (S := h'.objs.size) (by omega) lz (by rw [List.length_zip, List.length_zip]; omega) (fun j p u e1 e2 => by
        obtain ⟨x, y⟩ := p
        obtain ⟨u, v⟩ := u
        obtain ⟨f1, f2⟩ := zip_get e1
        obtain ⟨f3, f4⟩ := zip_get e2
        obtain ⟨w1, g1, g2⟩ := rv.get f1
        obtain ⟨w2, g3, g4⟩ := rv2.get f2
        rw [f3] at g1; rw [f4] at g3
        cases g1; cases g3
        exact ⟨g2, g4⟩) (fun b o e => k b o (Nat.ne_of_lt (Nat.lt_of_lt_of_le (Heap.lt_size e) (Nat.le_add_right _ _))) (Nat.ne_of_lt (Nat.lt_of_lt_of_le (Heap.lt_size e) (Nat.le_add_right _ _))) (Nat.ne_of_lt (Heap.lt_size e)) (Nat.ne_of_lt (Nat.lt_of_lt_of_le (Heap.lt_size e) (Nat.le_add_right _ _))) (hk b o e)) hS hl hG hacc
      refine ⟨.ref _, H', J2, rfl, q H' _ as k1 k2 (by rw [hl, List.length_zip]; omega) k3 fun j a hj => ?_⟩
      obtain ⟨p, e1, e2⟩ := k4 j a hj
      obtain ⟨x, y⟩ := p
      obtain ⟨f1, f2⟩ := zip_get e1
      exact ⟨x, y, f1, f2, e2⟩
def fLZ : List T → Option T
  | [x, y] => if (isTup x && isTup y) = true then (dataOf x).bind fun as => (dataOf y).map fun bs => .l (zipP as bs) else none
  | _ => none
theorem owns_pairs {K : PySem.W.Frag} {H : Hp} : ∀ (as : List Addr) (ds es : List D) (vs ws : List V), RepDs K H vs ds → RepDs K H ws es → as.length = min vs.length ws.length → (∀ (j : Nat) (a : Addr), as[j]? = some a → ∃ x y, vs[j]? = some x ∧ ws[j]? = some y ∧ H a = some (.tup [x, y])) → Owns K H (as.map V.ref) (zipP ds es) []
  | [], ds, es, vs, ws, r, s, hl, _ => by
    have e := zipP_len ds es
    rw [← r.length, ← s.length, ← hl] at e
    have : zipP ds es = [] := List.eq_nil_of_length_eq_zero e
    rw [this]; exact .nil
  | a :: as, _, _, _, _, .nil, s, hl, _ => by simp at hl
  | a :: as, _, _, _, _, .cons _ _, .nil, hl, _ => by simp at hl
  | a :: as, _, _, _, _, .cons (vs := vs) (ds := ds) r t, .cons (vs := ws) (ds := es) r2 t2, hl, h => by
    obtain ⟨x, y, e1, e2, e3⟩ := h 0 a rfl
    cases e1
    cases e2
    have ih := owns_pairs as ds es vs ws t t2 (by simp at hl; omega) fun j b hj => by
      obtain ⟨x, y, f1, f2, f3⟩ := h (j + 1) b (by simpa using hj)
      exact ⟨x, y, by simpa using f1, by simpa using f2, f3⟩
    exact .cons (F := []) (G := []) (.d (.tup (.inl (.inl e3)) (.cons r (.cons r2 .nil)))) ih
theorem n_listZip {W : WX} {a b : Expr} {ga gb : En → R T} {p p2 pos pos2 : Pos} (hc : X.calm = true) (hm : X.mg "list" = none) (hm2 : X.mg "zip" = none) (ha : PV X W a ga) (hb : PV X W b gb) (hg : Gl X "list" := by rfl) (hg2 : Gl X "zip" := by rfl)
    (hs : starEach [.Call (.Name "zip" p2) [a, b] [] pos2] X.env = (false, eval (.Call (.Name "zip" p2) [a, b] [] pos2) X.env) :: starEach [] X.env := by rfl)
    (hs2 : starEach [a, b] X.env = (false, eval a X.env) :: starEach [b] X.env := by rfl) (hs3 : starEach [b] X.env = (false, eval b X.env) :: starEach [] X.env := by rfl) (hpl : (backTo pos2 (starEach [b] X.env)).any (·.1) = false := by rfl) :
    PN X W (.Call (.Name "list" p) [.Call (.Name "zip" p2) [a, b] [] pos2] [] pos) (gCall fLZ (aCons ga (aCons gb aNil))) := by
  obtain ⟨t, pp, s⟩ := av_cons ha (av_cons hb av_nil hs3) hs2
  refine ⟨_, pe_listZip hc hg hm hg2 hm2 pp hs hs2 hpl, fun σ H en Q ve q => s σ H en _ ve ?_⟩
  unfold gCall at q
  cases e : aCons ga (aCons gb aNil) en with
  | ok xs =>
    rw [e] at q
    intro vs H' sm w
    simp only [R.bind_ok] at q
    cases ef : fLZ xs with
    | none => rw [ef] at q; exact q.elim
    | some y =>
      rw [ef] at q
      cases w with
      | nil => cases ef
      | cons o t => cases t with
        | nil => cases ef
        | cons o2 t => cases t with
          | cons _ _ => cases ef
          | nil =>
            rename_i x1 _ _ x2 _
            have ef : (if (isTup x1 && isTup x2) = true then (dataOf x1).bind fun as => (dataOf x2).map fun bs => T.l (zipP as bs) else none) = some y := ef
            by_cases hc : (isTup x1 && isTup x2) = true
            · rw [if_pos hc] at ef
              obtain ⟨ds, hd, ef⟩ := Option.bind_eq_some_iff.mp ef
              obtain ⟨es, he, rfl⟩ := Option.map_eq_some_iff.mp ef
              obtain ⟨a0, vs, rfl, r, z⟩ := seq_own o hd
              obtain ⟨b0, ws, rfl, r2, z2⟩ := seq_own o2 he
              rw [Bool.and_eq_true] at hc
              rcases z with z | z
              · rw [z.2.1] at hc; cases hc.1
              rcases z2 with z2 | z2
              · rw [z2.2.1] at hc; cases hc.2
              refine ⟨a0, b0, vs, ws, rfl, z.2.2, z2.2.2, fun H2 S as k1 k2 k3 k4 k5 => ?_⟩
              have sm2 : Same H' H2 := fun c o e => k1 c o e
              refine q _ H2 [S] (sm.trans sm2) (.l k4 (owns_pairs as ds es vs ws (r.mono (.of sm2)) (r2.mono (.of sm2)) k3 k5)) ⟨by simp, fun c m => ?_⟩
              have : c = S := by simpa using m
              rw [this]; exact sm.free k2
            · rw [if_neg hc] at ef; cases ef
  | ex c => rw [e] at q; exact q
  | no => rw [e] at q; exact q
end
end Z
/-! Z: and, or with effects in a test; more to reckon with. -/
namespace Z
open PySem PySem.Spec L2
open PyProof.Rows hiding St
section
variable {X : Cx} {W : WX} {a b : Expr} {rest : List Expr} {pos : Pos} {ma mb : En → RM Bool}
def PMW (X : Cx) (W : WX) (e : Expr) (m : En → RM Bool) : Prop := ∃ t, PW X e t ∧ SpMT X W m t
def mAnd (ma mb : En → RM Bool) : En → RM Bool := fun en => (ma en).bind fun x en1 => if x = true then mb en1 else .ok false en1
def mOr (ma mb : En → RM Bool) : En → RM Bool := fun en => (ma en).bind fun x en1 => if x = true then .ok true en1 else mb en1
theorem MT.after {H H1 : Hp} {Fs Fs1 : Ft} {σ : L2.St} {en en1 : En} {Q : Bool → Hp → Prop} {r : RM Bool} (x : Aft X.K H Fs σ en H1 Fs1 σ en1 []) (q : MT X W H Fs σ en Q r) : MT X W H1 Fs1 σ en1 Q r := by
  cases r with
  | ok y en2 => exact fun H2 Fs2 x2 => q H2 Fs2 (x.trans x2)
  | ex c en2 => exact XM.after (W := W) x q
  | no => exact q
theorem mw_and1 (ha : PMT X W a ma) : PMW X W (.BoolOp .And [a] pos) ma := let ⟨t, p, s⟩ := ha; ⟨t, pw_and1 p, s⟩
theorem mw_or1 (ha : PMT X W a ma) : PMW X W (.BoolOp .Or [a] pos) ma := let ⟨t, p, s⟩ := ha; ⟨t, pw_or1 p, s⟩
theorem mw_and (ha : PMT X W a ma) (hb : PMW X W (.BoolOp .And (b :: rest) pos) mb) : PMW X W (.BoolOp .And (a :: b :: rest) pos) (mAnd ma mb) := by
  obtain ⟨t, p, s⟩ := ha
  obtain ⟨t2, p2, s2⟩ := hb
  refine ⟨_, pw_and p p2, fun σ H en Fs Q ok q => s σ H en Fs _ ok ?_⟩
  unfold mAnd at q
  cases e : ma en with
  | ok x en1 =>
    rw [e] at q
    intro H' Fs' x1
    cases x with
    | true => exact iteT (s2 σ H' en1 Fs' Q x1.ok (MT.after (W := W) x1 q))
    | false => exact iteF (q H' Fs' x1)
  | ex c en1 => rw [e] at q; exact q
  | no => rw [e] at q; exact q
theorem mw_or (ha : PMT X W a ma) (hb : PMW X W (.BoolOp .Or (b :: rest) pos) mb) : PMW X W (.BoolOp .Or (a :: b :: rest) pos) (mOr ma mb) := by
  obtain ⟨t, p, s⟩ := ha
  obtain ⟨t2, p2, s2⟩ := hb
  refine ⟨_, pw_or p p2, fun σ H en Fs Q ok q => s σ H en Fs _ ok ?_⟩
  unfold mOr at q
  cases e : ma en with
  | ok x en1 =>
    rw [e] at q
    intro H' Fs' x1
    cases x with
    | false => exact iteF (s2 σ H' en1 Fs' Q x1.ok (MT.after (W := W) x1 q))
    | true => exact iteT (q H' Fs' x1)
  | ex c en1 => rw [e] at q; exact q
  | no => rw [e] at q; exact q
theorem mc_w (h : PMW X W a ma) : PMT X W a ma := let ⟨t, p, s⟩ := h; ⟨t, p.pt, s⟩
end
end Z
/-! Z: plain data, told in full; comprehensions and loops over told lists. -/
namespace Z
open PySem PySem.Spec L2
open PyProof.Rows hiding St
/-! plain data: integers, texts, tuples of them -/
mutual
def pln : Nat → D → Bool
  | _, .int _ => true
  | _, .str s => PyData.strOk s
  | n, .tup ds => match n with
    | 0 => false
    | m + 1 => plns m ds
  | _, _ => false
def plns : Nat → List D → Bool
  | _, [] => true
  | n, d :: r => pln n d && plns n r
end
theorem plns_mem {n : Nat} : ∀ {ds : List D}, plns n ds = true → ∀ d ∈ ds, pln n d = true
  | [], _, d, m => absurd m List.not_mem_nil
  | e :: r, h, d, m => by
    rw [plns, Bool.and_eq_true] at h
    rcases List.mem_cons.mp m with rfl | m
    · exact h.1
    · exact plns_mem h.2 d m
theorem plns_of {n : Nat} : ∀ {ds : List D}, (∀ d ∈ ds, pln n d = true) → plns n ds = true
  | [], _ => by rw [plns]
  | e :: r, h => by rw [plns, h e (List.mem_cons_self ..), plns_of fun d m => h d (List.mem_cons_of_mem _ m)]; rfl
@[simp] theorem pln_int (n : Nat) (i : Int) : pln n (.int i) = true := by unfold pln; rfl
theorem pln_str {n : Nat} {s : Str} (h : PyData.strOk s = true) : pln n (.str s) = true := by unfold pln; exact h
theorem pln_tup {n : Nat} {ds : List D} (h : ∀ d ∈ ds, pln n d = true) : pln (n + 1) (.tup ds) = true := by unfold pln; exact plns_of h
theorem pln_tupI {n : Nat} {ds : List D} (h : pln (n + 1) (.tup ds) = true) : plns n ds = true := by unfold pln at h; exact h
mutual
theorem pln_lay : ∀ {n : Nat} {d : D}, pln n d = true → PyData.canLay0 d.py = true ∧ PyData.depth d.py ≤ n
  | n, .int i, _ => ⟨by rw [D.py, PyData.canLay0], by rw [D.py, PyData.depth]; exact Nat.zero_le _⟩
  | n, .str s, h => by
    unfold pln at h
    exact ⟨by rw [D.py, PyData.canLay0]; exact h, by rw [D.py, PyData.depth]; exact Nat.zero_le _⟩
  | 0, .tup ds, h => by unfold pln at h; cases h
  | n + 1, .tup ds, h => by
    have := plns_lay (pln_tupI h)
    exact ⟨by rw [D.py, PyData.canLay0]; exact this.1, by rw [D.py, PyData.depth]; omega⟩
  | n, .non, h => by unfold pln at h; cases h
  | n, .bl _, h => by unfold pln at h; cases h
  | n, .rol _, h => by unfold pln at h; cases h
theorem plns_lay : ∀ {n : Nat} {ds : List D}, plns n ds = true → PyData.canLayAll0 (D.pys ds) = true ∧ PyData.depthAll (D.pys ds) ≤ n
  | n, [], _ => ⟨by rw [D.pys, PyData.canLayAll0], by rw [D.pys, PyData.depthAll]; exact Nat.zero_le _⟩
  | n, d :: r, h => by
    rw [plns, Bool.and_eq_true] at h
    have a := pln_lay h.1
    have b := plns_lay h.2
    exact ⟨by rw [D.pys, PyData.canLayAll0, a.1, b.1]; rfl, by rw [D.pys, PyData.depthAll]; omega⟩
end
theorem shp_pln {n : Nat} {d : D} (h : pln n d = true) (hn : n ≤ 64) : shp (T.py (.d d)) = true := by
  have := pln_lay h
  show (PyData.canLay0 d.py && decide (PyData.depth d.py ≤ 64)) = true
  rw [this.1, decide_eq_true (by omega)]; rfl
def deq (a b : D) : Bool := PyData.eqv a.py b.py
def deqs (a b : List D) : Bool := PyData.eqvAll (D.pys a) (D.pys b)
mutual
theorem deq_iff : ∀ {n m : Nat} {a b : D}, pln n a = true → pln m b = true → (deq a b = true ↔ a = b)
  | n, m, .int i, b, _, h2 => by
    cases b with
    | int j => unfold deq; rw [D.py, D.py, eqv_ii, decide_eq_true_iff]; exact ⟨fun e => by rw [e], fun e => by injection e⟩
    | str s => unfold deq; rw [D.py, D.py, PyData.eqv]; exact ⟨nofun, nofun⟩
    | tup s => unfold deq; rw [D.py, D.py, PyData.eqv]; exact ⟨nofun, nofun⟩
    | _ => unfold pln at h2; cases h2
  | n, m, .str i, b, _, h2 => by
    cases b with
    | int j => unfold deq; rw [D.py, D.py, PyData.eqv]; exact ⟨nofun, nofun⟩
    | str s =>
      unfold deq; rw [D.py, D.py, PyData.eqv, beq_iff_eq]; exact ⟨fun e => by rw [e], fun e => by injection e⟩
    | tup s => unfold deq; rw [D.py, D.py, PyData.eqv]; exact ⟨nofun, nofun⟩
    | _ => unfold pln at h2; cases h2
  | 0, m, .tup ds, b, h, _ => by unfold pln at h; cases h
  | n + 1, m, .tup ds, b, h, h2 => by
    cases b with
    | int j => unfold deq; rw [D.py, D.py, PyData.eqv]; exact ⟨nofun, nofun⟩
    | str s => unfold deq; rw [D.py, D.py, PyData.eqv]; exact ⟨nofun, nofun⟩
    | tup es =>
      cases m with
      | zero => unfold pln at h2; cases h2
      | succ m =>
        have := deqs_iff (pln_tupI h) (pln_tupI h2)
        unfold deqs at this
        unfold deq; rw [D.py, D.py, PyData.eqv, this]; exact ⟨fun e => by rw [e], fun e => by injection e⟩
    | _ => unfold pln at h2; cases h2
  | n, m, .non, b, h, _ => by unfold pln at h; cases h
  | n, m, .bl _, b, h, _ => by unfold pln at h; cases h
  | n, m, .rol _, b, h, _ => by unfold pln at h; cases h
theorem deqs_iff : ∀ {n m : Nat} {a b : List D}, plns n a = true → plns m b = true → (deqs a b = true ↔ a = b)
  | n, m, [], [], _, _ => by unfold deqs; rw [D.pys, PyData.eqvAll]; exact ⟨fun _ => rfl, fun _ => rfl⟩
  | n, m, [], _ :: _, _, _ => by unfold deqs; rw [D.pys, D.pys, PyData.eqvAll]; exact ⟨nofun, nofun⟩
  | n, m, _ :: _, [], _, _ => by unfold deqs; rw [D.pys, D.pys, PyData.eqvAll]; exact ⟨nofun, nofun⟩
  | n, m, a :: r, b :: s, h, h2 => by
    rw [plns, Bool.and_eq_true] at h h2
    have e1 := deq_iff h.1 h2.1
    have e2 := deqs_iff h.2 h2.2
    unfold deq at e1; unfold deqs at e2
    unfold deqs; rw [D.pys, D.pys, PyData.eqvAll, Bool.and_eq_true, e1, e2]
    exact ⟨fun e => by rw [e.1, e.2], fun e => by injection e with e1 e2; exact ⟨e1, e2⟩⟩
end
theorem fEq_pln {n m : Nat} {a b : D} (h : pln n a = true) (h2 : pln m b = true) (hn : n ≤ 64) (hm : m ≤ 64) : fEq (.d a) (.d b) = some (.d (.bl (deq a b))) := by
  unfold fEq
  rw [shp_pln h hn, shp_pln h2 hm]; rfl
theorem fNe_pln {n m : Nat} {a b : D} (h : pln n a = true) (h2 : pln m b = true) (hn : n ≤ 64) (hm : m ≤ 64) : fNe (.d a) (.d b) = some (.d (.bl (!deq a b))) := by
  unfold fNe
  rw [shp_pln h hn, shp_pln h2 hm]; rfl
theorem deq_self {n : Nat} {a : D} (h : pln n a = true) : deq a a = true := (deq_iff h h).mpr rfl
theorem deq_ne {n m : Nat} {a b : D} (h : pln n a = true) (h2 : pln m b = true) (e : a ≠ b) : deq a b = false := by
  cases z : deq a b with
  | false => rfl
  | true => exact absurd ((deq_iff h h2).mp z) e
theorem deq_dec {n m : Nat} {a b : D} {P : Prop} [Decidable P] (h : pln n a = true) (h2 : pln m b = true) (e : a = b ↔ P) : deq a b = decide P := by
  by_cases z : P
  · rw [decide_eq_true z]; exact (deq_iff h h2).mpr (e.mpr z)
  · rw [decide_eq_false z]; exact deq_ne h h2 fun w => z (e.mp w)
@[simp] theorem deq_ii (i j : Int) : deq (.int i) (.int j) = decide (i = j) := by unfold deq; rw [D.py, D.py, eqv_ii]
theorem map_inj {α β : Type} {f : α → β} (h : ∀ a b, f a = f b → a = b) : ∀ {xs ys : List α}, xs.map f = ys.map f → xs = ys
  | [], [], _ => rfl
  | [], _ :: _, e => by cases e
  | _ :: _, [], e => by cases e
  | a :: r, b :: s, e => by
    rw [List.map_cons, List.map_cons] at e
    injection e with e1 e2
    rw [h _ _ e1, map_inj h e2]
/-! rows of numbers -/
abbrev rowD (zs : List Int) : D := .tup (zs.map D.int)
abbrev tp (zs : List Int) : T := .d (.tup (zs.map D.int))
abbrev ls (zs : List Int) : T := .l ((zs.map D.int).map T.d)
/-- a tuple of rows; a list of rows -/
abbrev tps (rs : List (List Int)) : T := .d (.tup (rs.map rowD))
abbrev lss (rs : List (List Int)) : T := .l ((rs.map rowD).map T.d)
theorem int_inj : ∀ a b : Int, D.int a = D.int b → a = b := fun _ _ e => by injection e
theorem rowD_inj : ∀ a b : List Int, rowD a = rowD b → a = b := fun _ _ e => map_inj int_inj (by injection e)
theorem rowD_pln (n : Nat) (zs : List Int) : pln (n + 1) (rowD zs) = true := pln_tup fun d m => by
  obtain ⟨z, _, rfl⟩ := List.mem_map.mp m; exact pln_int n z
theorem rowsD_pln (n : Nat) (rs : List (List Int)) : pln (n + 2) (.tup (rs.map rowD)) = true := pln_tup fun d m => by
  obtain ⟨z, _, rfl⟩ := List.mem_map.mp m; exact rowD_pln n z
theorem deq_row (xs ys : List Int) : deq (rowD xs) (rowD ys) = decide (xs = ys) := deq_dec (rowD_pln 0 xs) (rowD_pln 0 ys) ⟨rowD_inj _ _, fun e => by rw [e]⟩
theorem fEq_tp (xs ys : List Int) : fEq (tp xs) (tp ys) = some (.d (.bl (decide (xs = ys)))) := by
  rw [show tp xs = .d (rowD xs) from rfl, show tp ys = .d (rowD ys) from rfl, fEq_pln (rowD_pln 0 xs) (rowD_pln 0 ys) (by decide) (by decide), deq_row]
theorem fNe_tp (xs ys : List Int) : fNe (tp xs) (tp ys) = some (.d (.bl (!decide (xs = ys)))) := by
  rw [show tp xs = .d (rowD xs) from rfl, show tp ys = .d (rowD ys) from rfl, fNe_pln (rowD_pln 0 xs) (rowD_pln 0 ys) (by decide) (by decide), deq_row]
theorem gd {α : Type} {l : List α} {i : Nat} {d : α} (h : i < l.length) : l.getD i d = l[i] := by simp [List.getD, h]
theorem gd_ge {α : Type} {l : List α} {i : Nat} {d : α} (h : l.length ≤ i) : l.getD i d = d := by simp [List.getD, h]
theorem fIx_tup {ds : List D} {z : Int} (i : Nat) (hz : z = (i : Int)) (h : i < ds.length) : fIx (.d (.tup ds)) (.d (.int z)) = some (.d ds[i]) := by
  rw [hz]
  show (atI ds (i : Int)).map T.d = _
  rw [atI_nat (by omega) (by omega), Int.toNat_natCast, List.getElem?_eq_getElem h]; rfl
theorem fIx_lst {xs : List T} {z : Int} (i : Nat) (hz : z = (i : Int)) (h : i < xs.length) : fIx (.l xs) (.d (.int z)) = some xs[i] := by
  rw [hz, fIx_l_num i h, List.getElem?_eq_getElem h]
theorem fIx_tp {zs : List Int} {z : Int} (i : Nat) (hz : z = (i : Int)) (h : i < zs.length) : fIx (tp zs) (.d (.int z)) = some (I (zs.getD i 0)) := by
  rw [fIx_tup i hz (by simpa using h), List.getElem_map, gd h]
theorem fIx_ls {zs : List Int} {z : Int} (i : Nat) (hz : z = (i : Int)) (h : i < zs.length) : fIx (ls zs) (.d (.int z)) = some (I (zs.getD i 0)) := by
  rw [fIx_lst i hz (by simpa using h), List.getElem_map, List.getElem_map, gd h]
theorem fIx_tps {rs : List (List Int)} {z : Int} (i : Nat) (hz : z = (i : Int)) (h : i < rs.length) : fIx (tps rs) (.d (.int z)) = some (tp (rs.getD i [])) := by
  rw [fIx_tup i hz (by simpa using h), List.getElem_map, gd h]
theorem fIx_lss {rs : List (List Int)} {z : Int} (i : Nat) (hz : z = (i : Int)) (h : i < rs.length) : fIx (lss rs) (.d (.int z)) = some (tp (rs.getD i [])) := by
  rw [fIx_lst i hz (by simpa using h), List.getElem_map, List.getElem_map, gd h]
@[simp] theorem fLen_tp (zs : List Int) : fLen [tp zs] = some (I zs.length) := by rw [fLen_t, List.length_map]
@[simp] theorem fLen_ls (zs : List Int) : fLen [ls zs] = some (I zs.length) := by rw [fLen_l, List.length_map, List.length_map]
@[simp] theorem fLen_tps (zs : List (List Int)) : fLen [tps zs] = some (I zs.length) := by rw [fLen_t, List.length_map]
@[simp] theorem fLen_lss (zs : List (List Int)) : fLen [lss zs] = some (I zs.length) := by rw [fLen_l, List.length_map, List.length_map]
/-! comprehensions over told lists -/
theorem lcL_gen {β : Type} {k : T → Option Ass} {tt : En → R Bool} {te : En → R T} {en : En} {h G : β → T} {c : β → Bool} : ∀ (L : List β), (∀ x ∈ L, ∃ as, k (h x) = some as ∧ tt (setE en as) = .ok (c x) ∧ (c x = true → te (setE en as) = .ok (G x))) → lcL k tt te en (L.map h) = .ok ((L.filter c).map G)
  | [], _ => rfl
  | i :: L, H => by
    obtain ⟨as, h1, h2, h3⟩ := H i (List.mem_cons_self ..)
    have ih := lcL_gen (k := k) (tt := tt) (te := te) (en := en) (h := h) (G := G) (c := c) L fun j m => H j (List.mem_cons_of_mem _ m)
    rw [List.map_cons]
    unfold lcL
    rw [h1, R.of_some, R.bind_ok, h2, R.bind_ok, ih]
    by_cases e : c i = true
    · rw [if_pos e, h3 e, R.bind_ok, R.bind_ok, List.filter_cons_of_pos e]; rfl
    · rw [if_neg e, List.filter_cons_of_neg e]
theorem gLc_if {β : Type} {vs : List Nat} {gs : En → R (List T)} {k : T → Option Ass} {tt : En → R Bool} {te : En → R T} {en : En} (L : List β) (h : β → T) (g : β → D) (c : β → Bool) (hg : gs en = .ok (L.map h)) (hn : L.length < 16777216) (H : ∀ x ∈ L, ∃ as, k (h x) = some as ∧ tt (setE (wipeE en vs) as) = .ok (c x) ∧ (c x = true → te (setE (wipeE en vs) as) = .ok (.d (g x)))) : gLc vs gs k tt te en = .ok (.l (((L.filter c).map g).map T.d)) := by
  rw [gLc_ev, hg, R.bind_ok, if_pos (show (L.map h).length < most by rw [List.length_map]; exact hn), lcL_gen (G := fun x => .d (g x)) (c := c) L H, calm_ok, R.bind_ok, List.map_map]; rfl
theorem gLc_all {β : Type} {vs : List Nat} {gs : En → R (List T)} {k : T → Option Ass} {te : En → R T} {en : En} (L : List β) (h : β → T) (g : β → D) (hg : gs en = .ok (L.map h)) (hn : L.length < 16777216) (H : ∀ x ∈ L, ∃ as, k (h x) = some as ∧ te (setE (wipeE en vs) as) = .ok (.d (g x))) : gLc vs gs k gYes te en = .ok (.l ((L.map g).map T.d)) := by
  have := gLc_if (vs := vs) (gs := gs) (k := k) (tt := gYes) (te := te) (en := en) L h g (fun _ => true) hg hn fun x m => let ⟨as, a, b⟩ := H x m; ⟨as, a, rfl, fun _ => b⟩
  rwa [List.filter_eq_self.mpr fun _ _ => rfl] at this
/-- what is walked -/
theorem gIt_of {β : Type} {g : En → R T} {en : En} {x : T} {xs : List β} {e : β → D} (hx : g en = .ok x) (hd : items x = some ((xs.map e).map T.d)) : gIt g en = .ok (xs.map fun a => T.d (e a)) := by
  rw [gIt_ev, hx, R.bind_ok, hd, R.of_some, List.map_map]; rfl
theorem gR1_of {g : En → R T} {en : En} {n : Nat} (hx : g en = .ok (I n)) (hn : n ≤ 1000000000) : gR1 g en = .ok ((List.range n).map fun (i : Nat) => T.d (.int (i : Int))) := by
  rw [gR1_n hx (by omega) (by omega), Int.toNat_natCast, rng_d, List.map_map]
  congr 1
  apply List.map_congr_left
  intro i _
  show T.d (.int (0 + (i : Int) * 1)) = _
  rw [Int.mul_one, Int.zero_add]
theorem enumP_map {β : Type} (e : β → D) : ∀ (xs : List β) (k : Nat), enumP k (xs.map e) = (xs.zipIdx k).map fun q => T.d (.tup [.int (q.2 : Nat), e q.1])
  | [], _ => rfl
  | a :: r, k => by rw [List.map_cons, enumP, enumP_map e r (k + 1), List.zipIdx_cons, List.map_cons]
theorem gEnum_of {β : Type} {g : En → R T} {en : En} {x : T} {xs : List β} {e : β → D} (hx : g en = .ok x) (hd : dataOf x = some (xs.map e)) : gEnum g en = .ok (xs.zipIdx.map fun q => T.d (.tup [.int (q.2 : Nat), e q.1])) := by
  unfold gEnum gPr
  rw [aCons_ev, hx, R.bind_ok, aNil_ev, R.bind_ok, R.bind_ok]
  unfold fEnum
  simp only [hd, Option.map_some, enumP_map]
  rfl
theorem zipP_map {β γ : Type} (e : β → D) (f : γ → D) : ∀ (xs : List β) (ys : List γ), zipP (xs.map e) (ys.map f) = (xs.zip ys).map fun q => T.d (.tup [e q.1, f q.2])
  | [], _ => by simp [zipP]
  | _ :: _, [] => by simp [zipP]
  | a :: r, b :: s => by rw [List.map_cons, List.map_cons, zipP, zipP_map e f r s]; rfl
theorem gZip_of {β γ : Type} {ga gb : En → R T} {en : En} {x y : T} {xs : List β} {ys : List γ} {e : β → D} {f : γ → D} (hx : ga en = .ok x) (hy : gb en = .ok y) (hd : dataOf x = some (xs.map e)) (he : dataOf y = some (ys.map f)) (hk : ((isLst x && isLst y) || (isTup x && isTup y)) = true := by rfl) : gZip ga gb en = .ok ((xs.zip ys).map fun q => T.d (.tup [e q.1, f q.2])) := by
  unfold gZip gPr
  rw [aCons_ev, hx, R.bind_ok, aCons_ev, hy, R.bind_ok, aNil_ev, R.bind_ok, R.bind_ok, R.bind_ok]
  unfold fZip
  simp only [hk, if_true, hd, he, Option.bind_some, Option.map_some, zipP_map]
  rfl
theorem stows2 {en en1 en2 : En} {i j : Nat} {x y : D} (h1 : stow en i (.v (.d x)) = some en1) (h2 : stow en1 j (.v (.d y)) = some en2) : stows en [(i, .d x), (j, .d y)] = some en2 := by
  rw [stows_cons, mkS_d, h1, Option.bind_some, stows_cons, mkS_d, h2, Option.bind_some, stows_nil]
/-! loops over told lists -/
theorem forE_pre {β : Type} {k : T → Option Ass} {f : En → SR} {h : β → T} (Q : List β → En → Prop) : ∀ (L pre : List β), (∀ p x s en, pre ++ L = p ++ x :: s → Q p en → ∃ as en1 en2, k (h x) = some as ∧ stows en as = some en1 ∧ (f en1 = .nx en2 ∨ f en1 = .ct en2) ∧ Q (p ++ [x]) en2) → ∀ en, Q pre en → ∃ en', forE k f (L.map h) en = .nx en' ∧ Q (pre ++ L) en'
  | [], pre, _, en, q => ⟨en, rfl, by rwa [List.append_nil]⟩
  | x :: L, pre, H, en, q => by
    obtain ⟨as, en1, en2, h1, h2, h3, h4⟩ := H pre x L en rfl q
    obtain ⟨en', h5, h6⟩ := forE_pre Q L (pre ++ [x]) (fun p y s en e q => H p y s en (by rw [← e, List.append_assoc]; rfl) q) en2 h4
    refine ⟨en', ?_, by rw [List.append_assoc] at h6; exact h6⟩
    rw [List.map_cons]
    show (match (k (h x)).bind fun as => stows en as with
    | none => SR.no
    | some en1 => match f en1 with
      | .nx en2 => forE k f (L.map h) en2
      | .ct en2 => forE k f (L.map h) en2
      | .brk en2 => .nx en2
      | r => r) = _
    rw [h1, Option.bind_some, h2]
    rcases h3 with h3 | h3 <;> simp only [h3] <;> exact h5
/-- a loop told by places, over what is walked -/
theorem for_pre {β : Type} {k : T → Option Ass} {mi : En → RM (List T)} {f : En → SR} {h : β → T} (Q : List β → En → Prop) (L : List β) (en : En) {en0 : En} (hm : mi en = .ok (L.map h) en0) (h0 : Q [] en0) (H : ∀ p x s en, L = p ++ x :: s → Q p en → ∃ as en1 en2, k (h x) = some as ∧ stows en as = some en1 ∧ (f en1 = .nx en2 ∨ f en1 = .ct en2) ∧ Q (p ++ [x]) en2) : ∃ en', fFor k mi f en = .nx en' ∧ Q L en' := by
  obtain ⟨en', h1, h2⟩ := forE_pre (k := k) (f := f) (h := h) Q L [] (fun p x s en e q => H p x s en e q) en0 h0
  refine ⟨en', ?_, h2⟩
  show (mi en).s _ = _
  rw [hm]; exact h1
theorem forN_pre {β : Type} {k : T → Option Ass} {i : Nat} {f : En → SR} {h : β → T} (Q : List β → En → Prop) (L : List β) (en : En) (hn : notOwn (weak en i) i = true) (hm : (at_ (weak en i) i).bind items = some (L.map h)) (h0 : Q [] (weak en i)) (H : ∀ p x s en, L = p ++ x :: s → Q p en → ∃ as en1 en2, k (h x) = some as ∧ stows en as = some en1 ∧ (f en1 = .nx en2 ∨ f en1 = .ct en2) ∧ Q (p ++ [x]) en2) : ∃ en', fForN k i f en = .nx en' ∧ Q L en' := by
  obtain ⟨en', h1, h2⟩ := forE_pre (k := k) (f := f) (h := h) Q L [] (fun p x s en e q => H p x s en e q) _ h0
  refine ⟨en', ?_, h2⟩
  show (if _ then _ else _) = _
  rw [if_pos hn]
  simp only [hm]; exact h1
theorem items_tp (zs : List Int) : items (tp zs) = some (zs.map fun z => T.d (.int z)) := by rw [items_t, List.map_map]; rfl
theorem items_tps (zs : List (List Int)) : items (tps zs) = some (zs.map fun z => T.d (rowD z)) := by rw [items_t, List.map_map]; rfl
theorem items_lss (zs : List (List Int)) : items (lss zs) = some (zs.map fun z => T.d (rowD z)) := by rw [items_l, List.map_map]; rfl
/-! alike, by the laws' own look -/
def d_isint : En → SR :=
  (fRet (lft (gPur (gAndV (gIsi isInt (vN 0)) (gNotV (gIsi isBl (vN 0)))))))
def F_isint := runP 1 1 d_isint
def d_same (Fr : List T → R T) : En → SR :=
  (fSeq (fIf (lft (gTru (gIsi isTup (vN 1)))) (fSeq (fIf (lft (gOr (gNot (gTru (gIsi isTup (vN 0)))) (gT (g2 fNe (gCall fLen (aCons (vN 0) aNil)) (gCall fLen (aCons (vN 1) aNil)))))) (fRet (lft (kB false))) fNil)
  (fRet (lft (gCall fAll (aCons (gLc [2] (gR1 (gCall fLen (aCons (vN 1) aNil))) (kName 2) gYes (gFn Fr (aCons (g2 fIx (vN 0) (vN 2)) (aCons (g2 fIx (vN 1) (vN 2)) aNil)))) aNil))))) fNil)
  (fSeq (fIf (lft (gTru (gIsi isStr (vN 1)))) (fRet (lft (gPur (gAndV (gIsi isStr (vN 0)) (g2 fEq (vN 0) (vN 1)))))) fNil)
  (fRet (lft (gPur (gAndV (gFn F_isint (aCons (vN 0) aNil)) (g2 fEq (vN 0) (vN 1))))))))
def F_same : Nat → List T → R T
  | 0 => fun _ => .no
  | n + 1 => runP 3 2 (d_same (F_same n))
theorem all_map {β : Type} (L : List β) (g : β → Bool) : (L.map g).all id = L.all g := by rw [List.all_map]; rfl
theorem fAll_of {β : Type} (L : List β) (g : β → Bool) : fAll [.l ((L.map fun x => D.bl (g x)).map T.d)] = some (.d (.bl (L.all g))) := by
  rw [fAll_ev, lstOf_l, allD_map, Option.bind_some, show (L.map fun x => D.bl (g x)) = (L.map g).map D.bl by rw [List.map_map]; rfl, asBls_map, Option.map_some, all_map]
theorem deqs_all : ∀ {xs ys : List D}, xs.length = ys.length → deqs xs ys = (List.range ys.length).all fun k => deq (xs.getD k .non) (ys.getD k .non)
  | [], [], _ => by unfold deqs; rw [D.pys, PyData.eqvAll]; rfl
  | a :: r, b :: s, h => by
    have ih := deqs_all (xs := r) (ys := s) (by simpa using h)
    unfold deqs at ih ⊢
    rw [D.pys, D.pys, PyData.eqvAll, ih, List.length_cons, List.range_succ_eq_map, List.all_cons, List.all_map]
    rfl
  | [], _ :: _, h => by cases h
  | _ :: _, [], h => by cases h
mutual
def sz : D → Bool
  | .tup ds => decide (ds.length < 1000000) && szs ds
  | _ => true
def szs : List D → Bool
  | [] => true
  | d :: r => sz d && szs r
end
theorem szs_of : ∀ {ds : List D}, (∀ d ∈ ds, sz d = true) → szs ds = true
  | [], _ => by rw [szs]
  | e :: r, h => by rw [szs, h e (List.mem_cons_self ..), szs_of fun d m => h d (List.mem_cons_of_mem _ m)]; rfl
theorem szs_mem : ∀ {ds : List D}, szs ds = true → ∀ d ∈ ds, sz d = true
  | [], _, d, m => absurd m List.not_mem_nil
  | e :: r, h, d, m => by
    rw [szs, Bool.and_eq_true] at h
    rcases List.mem_cons.mp m with rfl | m
    · exact h.1
    · exact szs_mem h.2 d m
theorem sz_tup {ds : List D} (hl : ds.length < 1000000) (h : ∀ d ∈ ds, sz d = true) : sz (.tup ds) = true := by rw [sz, szs_of h, decide_eq_true hl]; rfl
@[simp] theorem sz_int (i : Int) : sz (.int i) = true := by rw [sz]; intro _ h; cases h
@[simp] theorem sz_str (i : Str) : sz (.str i) = true := by rw [sz]; intro _ h; cases h
theorem same_ok : ∀ (n m : Nat) {x y : D}, pln n y = true → pln m x = true → n ≤ 64 → m ≤ 64 → sz y = true → F_same (n + 1) [.d x, .d y] = .ok (.d (.bl (deq x y)))
  | n, m, x, .int j, hy, hx, hn, hm, hz => by
    refine runP_ret rfl ?_
    show ∃ e, d_same (F_same n) [.v (.d x), .v (.d (.int j)), .n] = _
    unfold d_same
    refine ret_if_f rfl ?_
    refine ret_if_f rfl ?_
    refine ret_lft ?_
    cases x with
    | int i =>
      have e : F_isint [.d (.int i)] = .ok (.d (.bl true)) := rfl
      simp only [gPur_ev, gAndV_ev, gFn_ev, aCons_ev, aNil_ev, vN_ev, at_succ, at_zero, get_v, R.of_some, R.bind_ok, e, tru_b, if_true, g2_ev, fEq_i, R.pur_d, deq_ii]
    | str i =>
      have e : F_isint [.d (.str i)] = .ok (.d (.bl false)) := rfl
      simp only [gPur_ev, gAndV_ev, gFn_ev, aCons_ev, aNil_ev, vN_ev, at_succ, at_zero, get_v, R.of_some, R.bind_ok, e, tru_b, Bool.false_eq_true, if_false, R.pur_d, deq_ne hx hy (fun e => by cases e)]
    | tup i =>
      have e : F_isint [.d (.tup i)] = .ok (.d (.bl false)) := rfl
      simp only [gPur_ev, gAndV_ev, gFn_ev, aCons_ev, aNil_ev, vN_ev, at_succ, at_zero, get_v, R.of_some, R.bind_ok, e, tru_b, Bool.false_eq_true, if_false, R.pur_d, deq_ne hx hy (fun e => by cases e)]
    | _ => unfold pln at hx; cases hx
  | n, m, x, .str j, hy, hx, hn, hm, hz => by
    refine runP_ret rfl ?_
    show ∃ e, d_same (F_same n) [.v (.d x), .v (.d (.str j)), .n] = _
    unfold d_same
    refine ret_if_f rfl ?_
    rw [fSeq_ev, fIf_t rfl]
    cases x with
    | str i =>
      refine ⟨[.v (.d (.str i)), .v (.d (.str j)), .n], ?_⟩
      rw [fRet_ev, lft_n (x := .d (.bl (deq (.str i) (.str j)))) (by
        simp only [gPur_ev, gAndV_ev, gIsi_ev, g2_ev, vN_ev, at_succ, at_zero, get_v, R.of_some, R.bind_ok, isStr, tru_b, if_true, fEq_pln hx hy hm hn, R.pur_d])]; rfl
    | int i => exact ⟨_, by rw [deq_ne hx hy (fun e => by cases e)]; rfl⟩
    | tup i => exact ⟨_, by rw [deq_ne hx hy (fun e => by cases e)]; rfl⟩
    | _ => unfold pln at hx; cases hx
  | 0, m, x, .tup ds, hy, hx, hn, hm, hz => by unfold pln at hy; cases hy
  | n + 1, m, x, .tup ds, hy, hx, hn, hm, hz => by
    refine runP_ret rfl ?_
    show ∃ e, d_same (F_same (n + 1)) [.v (.d x), .v (.d (.tup ds)), .n] = _
    unfold d_same
    rw [fSeq_ev, fIf_t rfl, fSeq_ev]
    cases x with
    | str i => exact ⟨_, by rw [fIf_t rfl, deq_ne hx hy (fun e => by cases e)]; rfl⟩
    | int i => exact ⟨_, by rw [fIf_t rfl, deq_ne hx hy (fun e => by cases e)]; rfl⟩
    | tup es =>
      have hl : ds.length < 1000000 := by
        rw [sz, Bool.and_eq_true] at hz; exact of_decide_eq_true hz.1
      have hz' := hz
      rw [sz, Bool.and_eq_true] at hz'
      by_cases he : es.length = ds.length
      · rw [fIf_f (by simp only [gOr_ev, gNot_ev, gTru_ev, gIsi_ev, gT_ev, g2_ev, gCall_ev, aCons_ev, aNil_ev, vN_ev, at_succ, at_zero, get_v, R.of_some, R.bind_ok, isTup, tru_b, Bool.not_true, Bool.false_eq_true, if_false, fLen_t, fNe_i, tst_b, he, decide_true]), fNil_ev, sq_nx]
        cases m with
        | zero => unfold pln at hx; cases hx
        | succ m =>
          have er := gR1_of (g := gCall fLen (aCons (vN 1) aNil)) (en := [.v (.d (.tup es)), .v (.d (.tup ds)), .n]) (n := ds.length) (by simp only [gCall_ev, aCons_ev, aNil_ev, vN_ev, at_succ, at_zero, get_v, R.of_some, R.bind_ok, fLen_t]) (by omega)
          have el := gLc_all (vs := [2]) (gs := gR1 (gCall fLen (aCons (vN 1) aNil))) (k := kName 2) (te := gFn (F_same (n + 1)) (aCons (g2 fIx (vN 0) (vN 2)) (aCons (g2 fIx (vN 1) (vN 2)) aNil))) (List.range ds.length) _ (fun k => D.bl (deq (es.getD k .non) (ds.getD k .non))) er (by rw [List.length_range]; omega) (fun k hk => by
            have hk := List.mem_range.mp hk
            have hk2 : k < es.length := by omega
            have ih := same_ok n m (x := es[k]) (y := ds[k]) (plns_mem (pln_tupI hy) _ (List.getElem_mem hk)) (plns_mem (pln_tupI hx) _ (List.getElem_mem hk2)) (by omega) (by omega) (szs_mem hz'.2 _ (List.getElem_mem hk))
            refine ⟨_, rfl, ?_⟩
            simp only [wipeE_cons, wipeE_nil, List.set_cons_succ, List.set_cons_zero, setE_cons, setE_nil, mkS_d, gFn_ev, aCons_ev, aNil_ev, g2_ev, vN_ev, at_succ, at_zero, get_v, R.of_some, R.bind_ok, fIx_tup k rfl hk, fIx_tup k rfl hk2, ih, gd hk, gd hk2])
          have ef : gCall fAll (aCons (gLc [2] (gR1 (gCall fLen (aCons (vN 1) aNil))) (kName 2) gYes (gFn (F_same (n + 1)) (aCons (g2 fIx (vN 0) (vN 2)) (aCons (g2 fIx (vN 1) (vN 2)) aNil)))) aNil) [.v (.d (.tup es)), .v (.d (.tup ds)), .n] = .ok (.d (.bl (deq (.tup es) (.tup ds)))) := by
            rw [gCall_ev, aCons_ev, el, R.bind_ok, aNil_ev, R.bind_ok, R.bind_ok, fAll_of, ← deqs_all he, R.of_some]
            congr 3
          exact ⟨_, by rw [fRet_ev, lft_n ef]; rfl⟩
      · refine ⟨[.v (.d (.tup es)), .v (.d (.tup ds)), .n], ?_⟩
        rw [fIf_t (by simp only [gOr_ev, gNot_ev, gTru_ev, gIsi_ev, gT_ev, g2_ev, gCall_ev, aCons_ev, aNil_ev, vN_ev, at_succ, at_zero, get_v, R.of_some, R.bind_ok, isTup, tru_b, Bool.not_true, Bool.false_eq_true, if_false, fLen_t, fNe_i, tst_b, Int.ofNat_inj, he, decide_false, Bool.not_false]), deq_ne hx hy (fun e => he (by injection e with e; rw [e]))]
        rfl
    | _ => unfold pln at hx; cases hx
end Z
/-! Z: numbers by a prime, as a ring. -/
namespace Z
def Rs (p : Int) : Setoid Int := ⟨fun a b => ∃ k, a = b + p * k, ⟨fun a => ⟨0, by simp⟩, fun ⟨k, h⟩ => ⟨-k, by grind⟩, fun ⟨k, h⟩ ⟨l, h2⟩ => ⟨k + l, by grind⟩⟩⟩
def M (p : Int) := Quotient (Rs p)
def q (p a : Int) : M p := Quotient.mk (Rs p) a
theorem q_of {p a b : Int} (h : ∃ k, a = b + p * k) : q p a = q p b := Quotient.sound h
theorem q_ex {p a b : Int} (h : q p a = q p b) : ∃ k, a = b + p * k := Quotient.exact h
instance (p : Int) : Add (M p) := ⟨Quotient.lift₂ (fun a b => q p (a + b)) fun a b c d ⟨k, h⟩ ⟨l, h2⟩ => q_of ⟨k + l, by grind⟩⟩
instance (p : Int) : Mul (M p) := ⟨Quotient.lift₂ (fun a b => q p (a * b)) fun a b c d ⟨k, h⟩ ⟨l, h2⟩ => q_of ⟨k * d + c * l + p * k * l, by grind⟩⟩
instance (p : Int) : Neg (M p) := ⟨Quotient.lift (fun a => q p (-a)) fun a b ⟨k, h⟩ => q_of ⟨-k, by grind⟩⟩
instance (p : Int) : Sub (M p) := ⟨Quotient.lift₂ (fun a b => q p (a - b)) fun a b c d ⟨k, h⟩ ⟨l, h2⟩ => q_of ⟨k - l, by grind⟩⟩
instance (p : Int) : NatCast (M p) := ⟨fun n => q p n⟩
instance (p : Int) : IntCast (M p) := ⟨fun n => q p n⟩
instance (p : Int) (n : Nat) : OfNat (M p) n := ⟨q p n⟩
instance (p : Int) : SMul Nat (M p) := ⟨fun n a => (n : M p) * a⟩
instance (p : Int) : SMul Int (M p) := ⟨fun n a => (n : M p) * a⟩
def M.pw {p : Int} (a : M p) : Nat → M p
  | 0 => 1
  | n + 1 => M.pw a n * a
instance (p : Int) : HPow (M p) Nat (M p) := ⟨M.pw⟩
theorem q_add (p a b : Int) : q p (a + b) = q p a + q p b := rfl
theorem q_mul (p a b : Int) : q p (a * b) = q p a * q p b := rfl
theorem q_neg (p a : Int) : q p (-a) = -q p a := rfl
theorem q_sub (p a b : Int) : q p (a - b) = q p a - q p b := rfl
theorem q_zero (p : Int) : q p 0 = 0 := rfl
theorem q_one (p : Int) : q p 1 = 1 := rfl
theorem q_ind {p : Int} {P : M p → Prop} (h : ∀ a, P (q p a)) (x : M p) : P x := Quotient.ind h x
theorem q1 {p : Int} {P : M p → Prop} (x : M p) (h : ∀ a, P (q p a)) : P x := Quotient.ind h x
theorem q2 {p : Int} {P : M p → M p → Prop} (x y : M p) (h : ∀ a b, P (q p a) (q p b)) : P x y := q1 (P := fun x => P x y) x fun a => q1 (P := fun y => P (q p a) y) y fun b => h a b
theorem q3 {p : Int} {P : M p → M p → M p → Prop} (x y z : M p) (h : ∀ a b c, P (q p a) (q p b) (q p c)) : P x y z := q2 (P := fun x y => P x y z) x y fun a b => q1 (P := fun z => P (q p a) (q p b) z) z fun c => h a b c
instance (p : Int) : Lean.Grind.CommRing (M p) where
  add_zero a := q1 (P := fun a => a + 0 = a) a fun a => congrArg (q p) (Int.add_zero a)
  add_comm a b := q2 (P := fun a b => a + b = b + a) a b fun a b => congrArg (q p) (Int.add_comm a b)
  add_assoc a b c := q3 (P := fun a b c => a + b + c = a + (b + c)) a b c fun a b c => congrArg (q p) (Int.add_assoc a b c)
  mul_assoc a b c := q3 (P := fun a b c => a * b * c = a * (b * c)) a b c fun a b c => congrArg (q p) (Int.mul_assoc a b c)
  mul_one a := q1 (P := fun a => a * 1 = a) a fun a => congrArg (q p) (Int.mul_one a)
  one_mul a := q1 (P := fun a => 1 * a = a) a fun a => congrArg (q p) (Int.one_mul a)
  left_distrib a b c := q3 (P := fun a b c => a * (b + c) = a * b + a * c) a b c fun a b c => congrArg (q p) (Int.mul_add a b c)
  right_distrib a b c := q3 (P := fun a b c => (a + b) * c = a * c + b * c) a b c fun a b c => congrArg (q p) (Int.add_mul a b c)
  zero_mul a := q1 (P := fun a => 0 * a = 0) a fun a => congrArg (q p) (Int.zero_mul a)
  mul_zero a := q1 (P := fun a => a * 0 = 0) a fun a => congrArg (q p) (Int.mul_zero a)
  pow_zero a := rfl
  pow_succ a n := rfl
  ofNat_succ n := rfl
  ofNat_eq_natCast n := rfl
  nsmul_eq_natCast_mul n a := rfl
  neg_add_cancel a := q1 (P := fun a => -a + a = 0) a fun a => congrArg (q p) (Int.add_left_neg a)
  sub_eq_add_neg a b := q2 (P := fun a b => a - b = a + -b) a b fun a b => congrArg (q p) (Int.sub_eq_add_neg (a := a) (b := b))
  neg_zsmul i a := q1 (P := fun a => -i • a = -(i • a)) a fun a => congrArg (q p) (Int.neg_mul i a)
  zsmul_natCast_eq_nsmul n a := rfl
  intCast_ofNat n := rfl
  intCast_neg i := rfl
  mul_comm a b := q2 (P := fun a b => a * b = b * a) a b fun a b => congrArg (q p) (Int.mul_comm a b)
theorem q_mod {p : Int} (a : Int) : q p (a % p) = q p a := let ⟨k, h⟩ := dvd_mod a p; q_of ⟨k, h⟩
theorem q_emod {p a b : Int} (h : q p a = q p b) : a % p = b % p := by
  obtain ⟨k, rfl⟩ := q_ex h
  exact Int.add_mul_emod_self_left ..
theorem q_iff {p a b : Int} : q p a = q p b ↔ a % p = b % p := ⟨q_emod, fun h => by rw [← q_mod a, h, q_mod]⟩
/-- numbers in their range are told by their residue -/
theorem q_inj {p a b : Int} (ha : 0 ≤ a ∧ a < p) (hb : 0 ≤ b ∧ b < p) (h : q p a = q p b) : a = b := by
  have := q_emod h
  rwa [Int.emod_eq_of_lt ha.1 ha.2, Int.emod_eq_of_lt hb.1 hb.2] at this
theorem q_dvd {p a : Int} : q p a = 0 ↔ a % p = 0 := by
  rw [← q_zero, q_iff]; simp
/-! sums -/
section
variable {p : Int}
def sm : Nat → (Nat → M p) → M p
  | 0, _ => 0
  | n + 1, f => sm n f + f n
theorem sm_congr {f g : Nat → M p} : ∀ {n : Nat}, (∀ k, k < n → f k = g k) → sm n f = sm n g
  | 0, _ => rfl
  | n + 1, h => by rw [sm, sm, sm_congr fun k hk => h k (Nat.lt_succ_of_lt hk), h n (Nat.lt_succ_self n)]
theorem sm_zero {f : Nat → M p} : ∀ {n : Nat}, (∀ k, k < n → f k = 0) → sm n f = 0
  | 0, _ => rfl
  | n + 1, h => by rw [sm, sm_zero fun k hk => h k (Nat.lt_succ_of_lt hk), h n (Nat.lt_succ_self n)]; grind
theorem sm_add (f g : Nat → M p) : ∀ n, sm n (fun k => f k + g k) = sm n f + sm n g
  | 0 => by show (0 : M p) = 0 + 0; grind
  | n + 1 => by rw [sm, sm, sm, sm_add f g n]; grind
theorem sm_sub (f g : Nat → M p) : ∀ n, sm n (fun k => f k - g k) = sm n f - sm n g
  | 0 => by show (0 : M p) = 0 - 0; grind
  | n + 1 => by rw [sm, sm, sm, sm_sub f g n]; grind
theorem sm_mul (c : M p) (f : Nat → M p) : ∀ n, sm n (fun k => c * f k) = c * sm n f
  | 0 => by show (0 : M p) = c * 0; grind
  | n + 1 => by rw [sm, sm, sm_mul c f n]; grind
theorem sm_one {f : Nat → M p} {j : Nat} : ∀ {n : Nat}, j < n → (∀ k, k < n → k ≠ j → f k = 0) → sm n f = f j
  | 0, h, _ => absurd h (Nat.not_lt_zero _)
  | n + 1, h, z => by
    rw [sm]
    by_cases e : j = n
    · subst e
      rw [sm_zero fun k hk => z k (by omega) (by omega)]; grind
    · rw [sm_one (j := j) (n := n) (by omega) fun k hk hne => z k (by omega) hne, z n (by omega) (fun e2 => e e2.symm)]; grind
theorem sm_none {f : Nat → M p} {n : Nat} (z : ∀ k, k < n → f k = 0) : sm n f = 0 := sm_zero z
theorem sm_swap (f : Nat → Nat → M p) : ∀ n m, sm n (fun i => sm m fun j => f i j) = sm m fun j => sm n fun i => f i j
  | 0, m => by rw [sm_zero (n := m) (f := fun j => sm 0 fun i => f i j) fun k _ => rfl]; rfl
  | n + 1, m => by
    rw [sm, sm_swap f n m, ← sm_add]
    rfl
/-- a sum with one more at its head -/
theorem sm_head (f : Nat → M p) : ∀ n, sm (n + 1) f = f 0 + sm n fun k => f (k + 1)
  | 0 => by show 0 + f 0 = f 0 + 0; grind
  | n + 1 => by rw [sm, sm_head f n, sm]; grind
theorem sm_app (f : Nat → M p) (n : Nat) : ∀ m, sm (n + m) f = sm n f + sm m fun k => f (n + k)
  | 0 => by show sm n f = sm n f + 0; grind
  | m + 1 => by rw [← Nat.add_assoc, sm, sm, sm_app f n m]; grind
theorem q_sum : ∀ (f : Nat → Int) (n : Nat), q p ((List.range n).map f).sum = sm n fun k => q p (f k)
  | _, 0 => rfl
  | f, n + 1 => by
    rw [List.range_succ, List.map_append, List.sum_append, q_add, q_sum f n, sm]
    show _ + q p (f n + 0) = _
    rw [Int.add_zero]
end
/-- numbers in their range -/
def Rg (p z : Int) : Prop := 0 ≤ z ∧ z < p
theorem Rg.mod {p : Int} (h : 0 < p) (z : Int) : Rg p (z % p) := mod_range z h
/-- a row of so many numbers by p -/
structure Rw (p : Int) (w : Nat) (r : List Int) : Prop where
  len : r.length = w
  rg : ∀ a ∈ r, Rg p a
theorem Rw.at {p : Int} {w : Nat} {r : List Int} (h : Rw p w r) {k : Nat} (hk : k < w) : Rg p (r.getD k 0) := by
  have : k < r.length := by rw [h.len]; exact hk
  rw [gd this]; exact h.rg _ (List.getElem_mem this)
theorem Rw.at' {p : Int} {w : Nat} {r : List Int} (h : Rw p w r) (hp : 0 < p) (k : Nat) : Rg p (r.getD k 0) := by
  by_cases hk : k < w
  · exact h.at hk
  · rw [gd_ge (by rw [h.len]; omega)]; exact ⟨Int.le_refl _, hp⟩
/-- a number of a row, by its place -/
def cq (p : Int) (r : List Int) (k : Nat) : M p := q p (r.getD k 0)
theorem Rw.ext {p : Int} {w : Nat} {r s : List Int} (hr : Rw p w r) (hs : Rw p w s) (h : ∀ k, k < w → cq p r k = cq p s k) : r = s := by
  apply List.ext_getElem (by rw [hr.len, hs.len])
  intro i h1 h2
  have hi : i < w := by rw [← hr.len]; exact h1
  have := q_inj (hr.at hi) (hs.at hi) (h i hi)
  rwa [gd h1, gd h2] at this
def tab (n : Nat) (v : Nat → Int) : List Int := (List.range n).map v
theorem tab_len (n : Nat) (v : Nat → Int) : (tab n v).length = n := by simp [tab]
theorem tab_gd {n k : Nat} {v : Nat → Int} (h : k < n) : (tab n v).getD k 0 = v k := by
  rw [gd (by rw [tab_len]; exact h)]; simp [tab]
theorem tab_Rw {p : Int} {n : Nat} {v : Nat → Int} (h : ∀ k, k < n → Rg p (v k)) : Rw p n (tab n v) := ⟨tab_len n v, fun a m => by
  obtain ⟨k, hk, rfl⟩ := List.mem_map.mp m
  exact h k (List.mem_range.mp hk)⟩
theorem tab_self (r : List Int) : tab r.length (fun k => r.getD k 0) = r := by
  apply List.ext_getElem (by rw [tab_len])
  intro i h1 h2
  rw [← gd (d := 0) h1, tab_gd (by rwa [tab_len] at h1), gd h2]
theorem tab_congr {n : Nat} {v w : Nat → Int} (h : ∀ k, k < n → v k = w k) : tab n v = tab n w := List.map_congr_left fun k m => h k (List.mem_range.mp m)
theorem zip_tab {α β γ : Type} (f : α × β → γ) (a : List α) (b : List β) (da : α) (db : β) (h : a.length = b.length) : (a.zip b).map f = (List.range a.length).map fun k => f (a.getD k da, b.getD k db) := by
  apply List.ext_getElem (by simp [h])
  intro i h1 h2
  simp only [List.length_map, List.length_zip] at h1
  simp [List.getD, List.getElem?_eq_getElem (show i < a.length by omega), List.getElem?_eq_getElem (show i < b.length by omega)]
theorem map_tab {α β : Type} (f : α → β) (a : List α) (d : α) : a.map f = (List.range a.length).map fun k => f (a.getD k d) := by
  apply List.ext_getElem (by simp)
  intro i h1 h2
  simp only [List.length_map] at h1
  simp [List.getD, List.getElem?_eq_getElem h1]
end Z
/-! Z: rows cut, made, stored to. -/
namespace Z
open PySem PySem.Spec L2
open PyProof.Rows hiding St
theorem cut_take {α : Type} (xs : List α) {m : Nat} (h : m ≤ xs.length) : cutG xs none (some (m : Int)) = xs.take m := by
  have e1 : HT.sIx xs.length 0 none = 0 := rfl
  unfold cutG
  rw [e1, HT.sIx_nat, List.drop_zero, Nat.sub_zero, Nat.min_eq_left h]
theorem cut_drop {α : Type} (xs : List α) {m : Nat} (h : m ≤ xs.length) : cutG xs (some (m : Int)) none = xs.drop m := by
  have e1 : HT.sIx xs.length xs.length none = xs.length := rfl
  unfold cutG
  rw [e1, HT.sIx_nat, Nat.min_eq_left h]
  exact List.take_of_length_le (by rw [List.length_drop]; omega)
theorem fSl_take {zs : List Int} {m : Nat} {z : Int} (hz : z = (m : Int)) (h : m ≤ zs.length) : fSl (tp zs) none (some z) = some (tp (zs.take m)) := by
  show some (T.d (.tup (cutG (zs.map D.int) none (some z)))) = _
  rw [hz, cut_take _ (by simpa using h)]; show _ = some (T.d (.tup ((zs.take m).map D.int))); rw [List.map_take]
theorem fSl_drop {zs : List Int} {m : Nat} {z : Int} (hz : z = (m : Int)) (h : m ≤ zs.length) : fSl (tp zs) (some z) none = some (tp (zs.drop m)) := by
  show some (T.d (.tup (cutG (zs.map D.int) (some z) none))) = _
  rw [hz, cut_drop _ (by simpa using h)]; show _ = some (T.d (.tup ((zs.drop m).map D.int))); rw [List.map_drop]
theorem gd_take {zs : List Int} {m k : Nat} (h : k < m) : (zs.take m).getD k 0 = zs.getD k 0 := by simp [List.getD, List.getElem?_take, h]
theorem gd_drop {zs : List Int} {m k : Nat} : (zs.drop m).getD k 0 = zs.getD (m + k) 0 := by simp [List.getD, List.getElem?_drop]
theorem gd_app_l {a b : List Int} {k : Nat} (h : k < a.length) : (a ++ b).getD k 0 = a.getD k 0 := by simp [List.getD, List.getElem?_append_left h]
theorem gd_app_r {a b : List Int} {k : Nat} : (a ++ b).getD (a.length + k) 0 = b.getD k 0 := by simp [List.getD, List.getElem?_append_right]
/-- noughts -/
def zer (k : Nat) : List Int := tab k fun _ => 0
theorem zer_len (k : Nat) : (zer k).length = k := tab_len ..
theorem zer_gd (k i : Nat) : (zer k).getD i 0 = 0 := by
  by_cases h : i < k
  · exact tab_gd h
  · exact gd_ge (by rw [zer_len]; omega)
theorem flat0 : ∀ k : Nat, (List.replicate k [D.int 0]).flatten = (zer k).map D.int
  | 0 => rfl
  | k + 1 => by
    rw [List.replicate_succ, List.flatten_cons, flat0 k]
    unfold zer tab
    rw [List.range_succ_eq_map, List.map_cons, List.map_cons, List.map_map, List.map_map, List.map_map]
    rfl
theorem fMul_n {as : List D} {k : Nat} (h : as.length * k ≤ 16777216) (hk : k < 1000000) : fMul (.l (as.map T.d)) (.d (.int (k : Int))) = some (.l ((List.replicate k as).flatten.map T.d)) := by
  unfold fMul
  simp only [allD_map]
  rw [if_pos ⟨Int.le_trans (by decide) (Int.natCast_nonneg k), Int.lt_of_lt_of_le (Int.ofNat_lt.mpr hk) (by decide), by rw [Int.toNat_natCast]; exact h⟩, Int.toNat_natCast]
theorem zeros_ok {k : Nat} (hk : k < 1000000) : fMul (.l [.d (.int 0)]) (.d (.int (k : Int))) = some (ls (zer k)) := by
  have e := fMul_n (as := [.int 0]) (k := k) (by show 1 * k ≤ _; omega) hk
  rw [flat0] at e
  exact e
theorem zerosT_ok {k : Nat} {z : Int} (hz : z = (k : Int)) (hk : k ≤ 1000) : fMulT (.d (.tup [.int 0])) (.d (.int z)) = some (tp (zer k)) := by
  rw [hz]
  show (if _ then _ else _) = _
  rw [if_pos ⟨rfl, by decide, by omega, by omega⟩, Int.toNat_natCast, flat0]
theorem fAdd_tp {a b : List Int} (h : a.length + b.length ≤ 16777216) : fAdd (tp a) (tp b) = some (tp (a ++ b)) := by
  show (if _ then _ else _) = _
  rw [if_pos (show (a.map D.int).length + (b.map D.int).length ≤ most by rw [List.length_map, List.length_map]; exact h), ← List.map_append]
theorem zer_Rw {p : Int} (hp : 0 < p) (k : Nat) : Rw p k (zer k) := tab_Rw fun _ _ => ⟨Int.le_refl _, hp⟩
theorem Rw.app {p : Int} {m n : Nat} {a b : List Int} (ha : Rw p m a) (hb : Rw p n b) : Rw p (m + n) (a ++ b) := ⟨by rw [List.length_append, ha.len, hb.len], fun z mz => (List.mem_append.mp mz).elim (ha.rg z) (hb.rg z)⟩
theorem tab_set {n j : Nat} {v : Nat → Int} {z : Int} : (((tab n v).map D.int).map T.d).set j (I z) = ((tab n fun k => if k = j then z else v k).map D.int).map T.d := by
  apply List.ext_getElem?
  intro i
  rw [List.getElem?_set]
  simp only [List.length_map, tab_len, List.getElem?_map]
  unfold tab
  simp only [List.getElem?_map]
  by_cases hi : i < n
  · rw [List.getElem?_range hi]
    by_cases hj : j = i
    · subst hj; simp [hi]
    · have : i ≠ j := fun e => hj e.symm
      simp [hj, this]
  · rw [List.getElem?_eq_none (by simpa using hi)]
    by_cases hj : j = i
    · subst hj; simp [hi]
    · simp [hj]
theorem tab_snoc (n : Nat) (v : Nat → Int) : tab (n + 1) v = tab n v ++ [v n] := by simp [tab, List.range_succ]
theorem store_tab {en : En} {i n j : Nat} {v : Nat → Int} {z k : Int} {gi : En → R T} {m : En → RM T} (hm : m en = .ok (I z) en) (hg : gi en = .ok (I k)) (ho : ownAt en i = some (ls (tab n v))) (hk : k = (j : Int)) (hj : j < n) : fStore i gi m en = .nx (setO en i (ls (tab n fun k => if k = j then z else v k))) := by
  unfold fStore
  rw [hm]
  simp only [RM.s_ok]
  rw [hg]
  simp only [ho]
  have e : ixN (((tab n v).map D.int).map T.d).length k = some j := by
    rw [List.length_map, List.length_map, tab_len, hk]
    unfold L2.ixN
    rw [if_pos (by omega), if_pos (by omega), Int.toNat_natCast]
  rw [e]
  simp only [tab_set]
/-- sums of told numbers -/
theorem fSum_of {β : Type} (L : List β) (g : β → Int) : fSum [.l ((L.map fun x => D.int (g x)).map T.d)] = some (I (L.map g).sum) := by
  rw [fSum_ev, lstOf_l, allD_map, Option.bind_some, show (L.map fun x => D.int (g x)) = (L.map g).map D.int by rw [List.map_map]; rfl, asInts_map, Option.map_some]
theorem fAny_of {β : Type} (L : List β) (g : β → Bool) : fAny [.l ((L.map fun x => D.bl (g x)).map T.d)] = some (.d (.bl (L.any g))) := by
  have : ∀ L : List β, trs (L.map fun x => D.bl (g x)) = some (L.map g) := fun L => by
    induction L with
    | nil => rfl
    | cons a r ih => rw [List.map_cons, trs, ih]; rfl
  rw [fAny_ev, lstOf_l, allD_map, Option.bind_some, this, Option.map_some]
  congr 3
  rw [List.any_map]; rfl
/-- the place within what is walked -/
theorem range_at {n j : Nat} {p s : List Nat} (e : List.range n = p ++ j :: s) : j = p.length ∧ p.length < n := by
  have e1 : (List.range n)[p.length]? = some j := by rw [e]; simp
  obtain ⟨a, b⟩ := List.getElem?_eq_some_iff.mp e1
  rw [List.getElem_range] at b
  rw [List.length_range] at a
  exact ⟨b.symm, a⟩
end Z
/-! Z: calls that look at names' lists beside effects; comprehensions with effects over a name's list. -/
namespace Z
open PySem PySem.Spec L2
open PyProof.Rows hiding St
/-- what the arguments are -/
def hdsA (en : En) : List Hd → Option (List T)
  | [] => some []
  | .o x :: r => (hdsA en r).map (x :: ·)
  | .n j :: r => (at_ en j).bind fun x => (hdsA en r).map (x :: ·)
theorem HdsOk.vwsA {K : PySem.W.Frag} {H : Hp} {σ : L2.St} {en : En} {Fs : Ft} (ok : EOk K H σ en Fs) : ∀ {hs : List Hd} {vs : List V} {G : List Addr} {xs : List T}, HdsOk K H σ hs vs G → hdsA en hs = some xs → Vws K H vs xs
  | _, _, _, _, .nil, h => by cases h; exact .nil
  | _, _, _, _, .o r t, h => by
    obtain ⟨ys, h1, rfl⟩ := Option.map_eq_some_iff.mp h
    exact .cons r (HdsOk.vwsA ok t h1)
  | _, _, _, _, .n (i := j) e t, h => by
    obtain ⟨x, h0, h⟩ := Option.bind_eq_some_iff.mp h
    obtain ⟨ys, h1, rfl⟩ := Option.map_eq_some_iff.mp h
    obtain ⟨v, h2, h3⟩ := ok.has j x h0
    rw [e] at h2; cases h2
    exact .cons h3 (HdsOk.vwsA ok t h1)
def mCallH (F : List T → R T) (ms : En → RM (List Hd)) : En → RM T := fun en => (ms en).bind fun hs en1 => match hdsA en1 hs with
  | some xs => RM.of (F xs) en1
  | none => .no
section
variable {X : Cx} {W : WX} {a : Expr} {es : List Expr} {pos : Pos} {ms : En → RM (List Hd)}
theorem Aft.letGo {K : PySem.W.Frag} {H H' : Hp} {Fs Fs' : Ft} {σ σ' : L2.St} {en en' : En} {G : List Addr} (a : Aft K H Fs σ en H' Fs' σ' en' G) : Aft K H Fs σ en H' Fs' σ' en' [] := a.drop
theorem m_callH {x : Str} {k : Nat} {F : List T → R T} {p : Pos} (f : FnP X.prog X.w X.K X.mg X.base x k F) (tk : Takes X W) (hr : Room k X.A) (ha : PMH X W (a :: es) ms) (hg : Gl X x := by rfl)
    (hdb : (x == ("__debug__" : Str)) = false := by decide) (he : starEach (a :: es) X.env = (false, eval a X.env) :: starEach es X.env := by rfl) (hpl : (backTo pos (starEach es X.env)).any (·.1) = false := by rfl) : PM X W (.Call (.Name x p) (a :: es) [] pos) (mCallH F ms) := by
  obtain ⟨f, fd, ps, ok, hm, hk, hb⟩ := f.ex
  obtain ⟨t, pa, s⟩ := ha
  refine ⟨_, pe_callS (E := WE W) ok hr hg hm hk hb (fun σ => passAt tk σ) pa hdb he hpl, fun σ H en Fs Q ok q => s σ H en Fs _ ok ?_⟩
  unfold mCallH at q
  cases e : ms en with
  | ok hs en1 =>
    rw [e] at q
    simp only [RM.bind_ok] at q
    intro vs H' Fs' G a w
    cases e2 : hdsA en1 hs with
    | none => rw [e2] at q; exact q.elim
    | some xs =>
      rw [e2] at q
      simp only at q
      refine ⟨xs, w.vwsA a.ok e2, ?_⟩
      cases ef : F xs with
      | ok r => rw [ef] at q; exact fun v H2 G2 s2 o fr => q v H2 Fs' G2 (a.fin s2 fr) o
      | ex c => rw [ef] at q; exact fun cls dx H2 s2 i => q cls dx H2 Fs' σ (a.fin s2 Fresh.nil) i
      | no => rw [ef] at q; exact q
  | ex c en1 => rw [e] at q; exact q
  | no => rw [e] at q; exact q
end
/-- a comprehension over what a name's list holds at each turn -/
def lcN (vs : List Nat) (i0 : Nat) (k : T → Option Ass) (tt : En → R Bool) (te : En → RM T) : Nat → Nat → En → RM (List T)
  | 0, j, en => match at_ en i0 with
    | some (.l xs) => if xs.length = j then .ok [] en else .no
    | _ => .no
  | f + 1, j, en => match at_ en i0 with
    | some (.l xs) => match xs[j]? with
      | some x => if xs.length = j + (f + 1) then match (kD k x).bind fun as => stowD (wipeE en vs) as with
        | none => .no
        | some en2 => match tt en2 with
          | .ok true => match te en2 with
            | .ok y en4 => (lcN vs i0 k tt te f (j + 1) (wipeE en4 vs)).bind fun ys en' => .ok (y :: ys) en'
            | _ => .no
          | .ok false => lcN vs i0 k tt te f (j + 1) (wipeE en2 vs)
          | _ => .no
        else .no
      | none => .no
    | _ => .no
def mLcN (vs : List Nat) (i0 : Nat) (k : T → Option Ass) (tt : En → R Bool) (te : En → RM T) : En → RM T := fun en => match at_ en i0 with
  | some (.l xs) => (lcN vs i0 k tt te xs.length 0 en).calm.bind fun ys en2 => if ys.length < most then .ok (.l ys) en2 else .no
  | _ => .no
theorem lcN_len {vs : List Nat} {i0 : Nat} {k : T → Option Ass} {tt : En → R Bool} {te : En → RM T} {n i : Nat} {en enf : En} {rest : List T} (hi : i ≤ n) (h : lcN vs i0 k tt te (n - i) i en = .ok rest enf) : ∃ zs, at_ en i0 = some (.l zs) ∧ zs.length = n := by
  cases e : n - i with
  | zero =>
    rw [e] at h; unfold lcN at h
    split at h
    · split at h
      · rename_i h1 h2; exact ⟨_, h1, by omega⟩
      · cases h
    · cases h
  | succ f =>
    rw [e] at h; unfold lcN at h
    split at h
    · rename_i xs h1
      split at h
      · split at h
        · rename_i h2; exact ⟨_, h1, by omega⟩
        · cases h
      · cases h
    · cases h
theorem walk_own {K : PySem.W.Frag} {a : Addr} {n : Nat} : Walk (Itl K a) n (fun H => ∃ vs, H a = some (.lst vs) ∧ vs.length = n) (fun i H v H' => H' = H ∧ ∃ vs, H a = some (.lst vs) ∧ vs.length = n ∧ vs[i]? = some v) := by
  refine ⟨fun i H hi q => ?_, fun H q => ?_, fun i H x H' hi q y => ?_⟩
  · obtain ⟨vs, h, hl⟩ := q
    exact ⟨vs, vs[i]'(by omega), SqL.of h, by simp [show i < vs.length by omega]⟩
  · obtain ⟨vs, h, hl⟩ := q
    exact ⟨vs, SqL.of h, by omega⟩
  · obtain ⟨vs, h, hl⟩ := q
    exact ⟨y.1, vs, h, hl, y.2 vs (SqL.of h)⟩
theorem Own.isL {K : PySem.W.Frag} {H : Hp} {v : V} {xs : List T} {F : List Addr} (o : Own K H v (.l xs) F) : ∃ a vs G, v = .ref a ∧ H a = some (.lst vs) ∧ Owns K H vs xs G := by
  cases o with | l h r => exact ⟨_, _, _, rfl, h, r⟩
/-- a name's list, walked -/
def tiL (K : PySem.W.Frag) (i : Nat) : TI := fun σ H Q => ∃ a, σ[i]? = some (some (.ref a)) ∧ (∃ xs, SqL K H a xs) ∧ Q (Itl K a) H
section
variable {X : Cx} {W : WX} {elt tg it : Expr} {ifs : List Expr} {scope : Scope} {pos : Pos} {k : T → Option Ass} {tt : En → R Bool} {te : En → RM T}
theorem pi_name {i : Nat} {x : Str} {px : Pos} (hN : X.N[i]? = some x) (hv : Vis X.env.scope x) (hd : (x == ("__debug__" : Str)) = false := by decide) (hcd : (x == ("__classdict__" : Str)) = false := by decide) : PI X tg (.Name x px) (tiL X.K i) := by
  have p := pi_sq (X := X) (tg := tg) (pe_var (pos := px) hN hv hd hcd)
  exact ⟨fun pins st σ H Q I ⟨a, h1, h2, h3⟩ => p.run pins st σ H Q I ⟨.ref a, h1, .inl ⟨a, rfl, h2, h3⟩⟩⟩
theorem sp_lcN {own : List (Str × Nat)} {i0 : Nat} (hi0 : i0 ∉ own.map (·.2)) (hk : ∀ x as, k x = some as → ∀ p ∈ as, p.1 ∈ own.map (·.2)) : ∀ σ H en Fs Q, EOk X.K H σ en Fs → MQ X W H Fs σ en Q (mLcN (own.map (·.2)) i0 k tt te en) → tLc (tiL X.K i0) (tgt X.K k) (cT X W0 tt) (cM X W0 te) (own.map (·.2)) σ H Q := by
  intro σ H en Fs Q ok q
  unfold mLcN at q
  cases e0 : at_ en i0 with
  | none => rw [e0] at q; exact q.elim
  | some x0 =>
    rw [e0] at q
    cases x0 with
    | d _ => exact q.elim
    | l xs0 =>
    simp only at q
    obtain ⟨v0, hσ, o0⟩ := ok.has i0 _ e0
    obtain ⟨a, vs0, rfl, hA⟩ : ∃ a vs, v0 = .ref a ∧ H a = some (.lst vs) := by
      obtain ⟨a, vs, _, e, h, _⟩ := o0.isL; exact ⟨a, vs, e, h⟩
    refine ⟨a, hσ, ⟨_, SqL.of hA⟩, ?_⟩
    have look : ∀ {H2 : Hp} {Fs2 : Ft} {en2 : En} {ys : List T}, EOk X.K H2 σ en2 Fs2 → at_ en2 i0 = some (.l ys) → ∃ vs F, H2 a = some (.lst vs) ∧ Owns X.K H2 vs ys F := fun {H2 Fs2 en2 ys} A e => by
      obtain ⟨v, h1, h2⟩ := A.has i0 _ e
      rw [hσ] at h1; cases h1
      obtain ⟨b, vs, G, e, h, r⟩ := h2.isL
      cases e
      exact ⟨vs, G, h, r⟩
    intro D nD
    cases el : lcN (own.map (·.2)) i0 k tt te xs0.length 0 en with
    | ex c en2 => rw [el] at q; exact q.elim
    | no => rw [el] at q; exact q.elim
    | ok ys enf =>
      rw [el] at q
      simp only [RM.calm, RM.bind_ok] at q
      split at q
      · rename_i yz
        have base : Aft X.K H Fs σ en (upd H D (.lst [])) Fs σ en [D] := .quiet ok (same_new nD) (fresh1 nD)
        generalize hn : xs0.length = n at *
        refine lc_it (walk_own (K := X.K) (a := a) (n := n)) (fun i H2 => ∃ en2 Fs2 vs ts F rest, Aft X.K H Fs σ en H2 Fs2 σ en2 (D :: F) ∧ H2 D = some (.lst vs) ∧ Owns X.K H2 vs ts F ∧ lcN (own.map (·.2)) i0 k tt te (n - i) i en2 = .ok rest enf ∧ ts ++ rest = ys)
          ⟨en, Fs, [], [], [], ys, base, upd_same, .nil, by rw [Nat.sub_zero]; exact el, rfl⟩ (fun i H2 hi h => ?_) (fun i v H2 H3 hi h y => ?_) (fun H2 h => ?_)
        · obtain ⟨en2, Fs2, vs, ts, F, rest, A, hD, ow, er, eq⟩ := h
          obtain ⟨zs, h1, h2⟩ := lcN_len hi er
          obtain ⟨ws, G, h3, h4⟩ := look A.ok h1
          exact ⟨ws, h3, by rw [h4.length, h2]⟩
        · obtain ⟨en2, Fs2, vs, ts, F, rest, A, hD, ow, er, eq⟩ := h
          obtain ⟨e23, ws', hw, hwl, hv⟩ := y
          obtain ⟨zs, h1, h2⟩ := lcN_len (Nat.le_of_lt hi) er
          obtain ⟨ws, G, h3, h4⟩ := look A.ok h1
          rw [hw] at h3; cases h3
          subst e23
          have hiz : i < zs.length := by omega
          obtain ⟨v', G', hv', ox, _⟩ := h4.get (i := i) (x := zs[i]) (List.getElem?_eq_getElem hiz)
          rw [hv] at hv'; cases hv'
          have s3 : Same H3 H3 := Same.refl H3
          rw [show n - i = (n - (i + 1)) + 1 by omega] at er
          unfold lcN at er
          rw [h1] at er
          simp only [List.getElem?_eq_getElem hiz, if_pos (show zs.length = i + ((n - (i + 1)) + 1) by omega)] at er
          generalize zs[i] = x at *
          cases ek : kD k x with
          | none => rw [ek] at er; cases er
          | some as =>
            rw [ek] at er
            simp only [Option.bind_some] at er
            obtain ⟨d, rfl, ek⟩ : ∃ d, x = .d d ∧ k x = some as := by
              cases x with
              | d d => exact ⟨d, rfl, ek⟩
              | l _ => cases ek
            have ox : Own X.K H3 v (.d d) [] := .d ox.rep
            cases es : stowD (wipeE en2 (own.map (·.2))) as with
            | none => rw [es] at er; cases er
            | some en3 =>
              rw [es] at er
              simp only at er
              refine ⟨_, [], as, ox, ek, fun ws aok => ⟨by rw [wipe_sets aok (hk _ as ek), wipe_wipe], ?_⟩⟩
              have A3 : Aft X.K H Fs σ en H3 Fs2 σ en2 (D :: F) := by
                have b : Aft X.K H3 Fs2 σ en2 H3 Fs2 σ en2 [] := .quiet A.ok s3 Fresh.nil
                have := A.held (fun c m => by
                  rcases List.mem_cons.mp m with rfl | m
                  · rw [hD]; exact fun z => by cases z
                  · exact ow.there c m) b
                rwa [List.append_nil] at this
              have A4 := A3.wipeTo (σ' := wipe σ (own.map (·.2))) (vs := own.map (·.2)) (fun j hj => wipe_ne hj) (by rw [wipe_length]; exact A3.ok.len)
              obtain ⟨Fs3, B⟩ := (Aft.refl A4.ok).putD aok es
              have ow3 := ow.mono s3
              have hD3 := s3 _ _ hD
              have tDF : ∀ c ∈ D :: F, H3 c ≠ none := fun c m => by
                rcases List.mem_cons.mp m with rfl | m
                · rw [hD3]; exact fun z => by cases z
                · exact ow3.there c m
              have AB := A4.held tDF B
              rw [List.append_nil] at AB
              have len2 : (setS (wipe σ (own.map (·.2))) ws).length = σ.length := by rw [setS_len, wipe_length]
              have same2 : ∀ j, j ∉ own.map (·.2) → σ[j]? = (setS (wipe σ (own.map (·.2))) ws)[j]? := fun j hj => by
                have := wipe_sets (σ := wipe σ (own.map (·.2))) aok (hk _ as ek)
                have t := congrArg (fun l : L2.St => l[j]?) this
                simp only [wipe_ne hj] at t
                exact t.symm
              refine ⟨en3, B.ok.ven, ?_⟩
              cases et : tt en3 with
              | ex c => rw [et] at er; cases er
              | no => rw [et] at er; cases er
              | ok b =>
                rw [et] at er
                intro H4 s4
                have hD4 := s4 _ _ hD3
                have ow4 := ow3.mono s4
                have AB4 : Aft X.K H Fs σ en H4 Fs3 (setS (wipe σ (own.map (·.2))) ws) en3 (D :: F) := by
                  have := AB.held tDF (.quiet AB.ok s4 Fresh.nil)
                  rwa [List.append_nil] at this
                cases b with
                | false =>
                  simp only [Bool.false_eq_true, if_false] at er ⊢
                  exact ⟨_, _, vs, ts, F, rest, AB4.wipeTo same2 (by rw [← len2]; exact AB4.ok.len), hD4, ow4, er, eq⟩
                | true =>
                  simp only [if_true] at er ⊢
                  refine ⟨en3, Fs3, AB4.ok, ?_⟩
                  cases ee : te en3 with
                  | ex c en5 => rw [ee] at er; cases er
                  | no => rw [ee] at er; cases er
                  | ok y en5 =>
                    rw [ee] at er
                    simp only at er
                    cases e2 : lcN (own.map (·.2)) i0 k tt te (n - (i + 1)) (i + 1) (wipeE en5 (own.map (·.2))) with
                    | ex c en6 => rw [e2] at er; cases er
                    | no => rw [e2] at er; cases er
                    | ok rs en6 =>
                      rw [e2] at er
                      simp only [RM.bind_ok] at er
                      cases er
                      intro v5 H5 Fs5 G5 C o5
                      have nDF : ∀ c ∈ D :: F, ¬ InF Fs3 c := fun c m => AB4.dis c m
                      have hD5 : H5 D = some (.lst vs) := C.stp.keep D _ hD4 fun z => nDF D List.mem_cons_self z.a
                      have ow5 := (C.stp.frames (fun _ z => z.a) ow4 fun c m => nDF c (List.mem_cons_of_mem _ m)).1
                      have tz : ts.length < most := by rw [← eq, List.length_append] at yz; omega
                      have tDF4 : ∀ c ∈ D :: F, H4 c ≠ none := fun c m z => tDF c m (s4.free z)
                      have A6 := (AB4.held tDF4 C).wipeTo same2 (by rw [← len2]; exact C.ok.len)
                      obtain ⟨A7, ow7⟩ := A6.grow hD5 ow5 o5
                      exact ⟨vs, hD5, by rw [most_eq, ow5.length]; exact tz, _, _, vs ++ [v5], ts ++ [y], F ++ G5, rs, A7, upd_same, ow7, e2, by rw [← eq, List.append_assoc]; rfl⟩
        · obtain ⟨en2, Fs2, vs, ts, F, rest, A, hD, ow, er, eq⟩ := h
          rw [Nat.sub_self] at er
          have er' := er
          unfold lcN at er
          cases e1 : at_ en2 i0 with
          | none => rw [e1] at er; cases er
          | some x1 =>
            rw [e1] at er
            cases x1 with
            | d _ => cases er
            | l zs =>
              simp only at er
              split at er
              · cases er
                rw [List.append_nil] at eq
                subst eq
                exact q _ H2 Fs2 (D :: F) A (.l hD ow)
              · cases er
      · exact q.elim
variable (own : List (Str × Nat))
theorem m_lcN (i0 : Nat) {x : Str} {px : Pos} (cz : Cz X W) (hi0 : (own.map (·.2)).contains i0 = false) (ok : blkC X.N X.env.scope scope own = true) (hk : ∀ x as, k x = some as → ∀ p ∈ as, p.1 ∈ own.map (·.2))
    (hg : ∀ (s : Shared) (H : Hp) (C : Addr) (cl : List (Str × Addr)) (fp : List Addr), PTg (X.blk s H scope (compEnvC scope cl C X.env) fp) tg k) (ht : ∀ (s : Shared) (H : Hp) (C : Addr) (cl : List (Str × Addr)) (fp : List Addr), PCs (X.blk s H scope (compEnvC scope cl C X.env) fp) W0 ifs tt)
    (he : ∀ (s : Shared) (H : Hp) (C : Addr) (cl : List (Str × Addr)) (fp : List Addr), PM (X.blk s H scope (compEnvC scope cl C X.env) fp) W0 elt te) (hN : X.N[i0]? = some x := by rfl) (hv : Vis X.env.scope x := by first | exact Or.inl rfl | exact Or.inr (Or.inl rfl) | exact Or.inr (Or.inr rfl)) (hd : (x == ("__debug__" : Str)) = false := by decide) (hcd : (x == ("__classdict__" : Str)) = false := by decide) (hs : ∀ y, foldedSetIterable (.Name x px) X.env y = pure y := by intro _; rfl) :
    PM X W (.ListComp elt [⟨tg, .Name x px, ifs, 0⟩] scope pos) (mLcN (own.map (·.2)) i0 k tt te) :=
  ⟨_, pe_lc (own := own) (g := tgt X.K k) (tt := cT X W0 tt) (te := cM X W0 te) cz.calm cz.nd (pi_name hN hv hd hcd) (blkOk_by ok) hg ht (fun s H C cl fp => (he s H C cl fp).can) hs, sp_lcN (by simpa using hi0) hk⟩
theorem s_setLcN (i0 i : Nat) {x y : Str} {px py spos : Pos} (cz : Cz X W) (hi0 : (own.map (·.2)).contains i0 = false) (ok : blkC X.N X.env.scope scope own = true) (hk : ∀ x as, k x = some as → ∀ p ∈ as, p.1 ∈ own.map (·.2))
    (hg : ∀ (s : Shared) (H : Hp) (C : Addr) (cl : List (Str × Addr)) (fp : List Addr), PTg (X.blk s H scope (compEnvC scope cl C X.env) fp) tg k) (ht : ∀ (s : Shared) (H : Hp) (C : Addr) (cl : List (Str × Addr)) (fp : List Addr), PCs (X.blk s H scope (compEnvC scope cl C X.env) fp) W0 ifs tt)
    (he : ∀ (s : Shared) (H : Hp) (C : Addr) (cl : List (Str × Addr)) (fp : List Addr), PM (X.blk s H scope (compEnvC scope cl C X.env) fp) W0 elt te) (hN : X.N[i0]? = some x := by rfl) (hv : Vis X.env.scope x := by first | exact Or.inl rfl | exact Or.inr (Or.inl rfl) | exact Or.inr (Or.inr rfl)) (hd : (x == ("__debug__" : Str)) = false := by decide) (hcd : (x == ("__classdict__" : Str)) = false := by decide) (hy : X.N[i]? = some y := by rfl) (hyl : X.env.scope.names.lookup y = some .local := by rfl)
    (hsw : swapsWith (.ListComp elt [⟨tg, .Name x px, ifs, 0⟩] scope pos) (some (.Name y py)) spos.line X.env = pure true := by exact sw_true rfl rfl rfl (by decide +kernel)) (hs : ∀ y, foldedSetIterable (.Name x px) X.env y = pure y := by intro _; rfl) :
    PSt X W (.Assign [.Name y py] (.ListComp elt [⟨tg, .Name x px, ifs, 0⟩] scope pos) spos) (fSet i (mLcN (own.map (·.2)) i0 k tt te)) :=
  ⟨_, ps_setLc (own := own) (g := tgt X.K k) (tt := cT X W0 tt) (te := cM X W0 te) cz.calm cz.nd hy hyl hsw (pi_name hN hv hd hcd) (blkOk_by ok) hg ht (fun s H C cl fp => (he s H C cl fp).can) hs, sp_set (sp_lcN (by simpa using hi0) hk)⟩
end
end Z
/-! Z: draws within a def; comprehensions of draws. -/
namespace Z
open PySem PySem.Spec L2
open PyProof.Rows hiding St
section
variable {ns : List Int} (hl : ns.length ≤ 63)
include hl
/-- a draw by a number that is reckoned -/
theorem draw_o {en : En} {i : Nat} {s : T} {m : Int} {g : En → RM T} (h0 : ownAt en i = some s) (hs : Stt ns s) (hg : g en = .ok (I m) en) (h1 : 0 < m) (h2 : m < 1000000000) : ∃ v s', Rg m v ∧ mCallM i F_draw (hO g hNil) en = .ok (I v) (setO en i s') ∧ Stt ns s' := by
  obtain ⟨v, s', v0, v1, e, hs'⟩ := draw_ok hl hs h1 h2
  refine ⟨v, s', ⟨v0, v1⟩, ?_, hs'⟩
  exact callM (hs := [.o (I m)]) (x0 := s) (en1 := en) (x1 := s) (xs := [I m]) h0 (by rw [hO_ev, hg, RM.bind_ok, hNil_ev]; rfl) h0 rfl e
/-- a draw by a number that a name holds -/
theorem draw_n {en : En} {i j : Nat} {s : T} {m : Int} (h0 : ownAt en i = some s) (hs : Stt ns s) (hj : at_ en j = some (I m)) (hij : j ≠ i) (h1 : 0 < m) (h2 : m < 1000000000) : ∃ v s', Rg m v ∧ mCallM i F_draw (hN j hNil) en = .ok (I v) (setO en i s') ∧ Stt ns s' := by
  obtain ⟨v, s', v0, v1, e, hs'⟩ := draw_ok hl hs h1 h2
  refine ⟨v, s', ⟨v0, v1⟩, ?_, hs'⟩
  exact callM (hs := [.n j]) (x0 := s) (en1 := en) (x1 := s) (xs := [I m]) h0 (by rw [hN_ev, hj, hNil_ev]; rfl) h0 (by rw [hds_n, if_neg hij, hj]; rfl) e
end
/-- a comprehension of effects: the state alone changes -/
theorem lcM_st {S P : T → Prop} {k : Nat} {te : En → RM T} (E : T → En) (E2 : T → D → En) (h1 : ∀ s d, stow (wipeE (E s) [k]) k (.v (.d d)) = some (E2 s d)) (h2 : ∀ s d, S s → ∃ y s', P y ∧ te (E2 s d) = .ok y (E2 s' d) ∧ S s') (h3 : ∀ s d, wipeE (E2 s d) [k] = E s) : ∀ (ds : List D) s, S s → ∃ ys s', lcM [k] (kName k) gYes te (ds.map T.d) (E s) = .ok ys (E s') ∧ ys.length = ds.length ∧ (∀ y ∈ ys, P y) ∧ S s'
  | [], s, hs => ⟨[], s, rfl, rfl, fun _ m => absurd m List.not_mem_nil, hs⟩
  | d :: ds, s, hs => by
    obtain ⟨y, s1, hy, e1, hs1⟩ := h2 s d hs
    obtain ⟨ys, s2, e2, hl, hP, hs2⟩ := lcM_st E E2 h1 h2 h3 ds s1 hs1
    refine ⟨y :: ys, s2, ?_, by rw [List.length_cons, hl, List.length_cons], fun z m => ?_, hs2⟩
    · rw [List.map_cons]
      unfold lcM
      simp only [kD_d, kName_ev, Option.bind_some, stowD_cons, stowD_nil, h1, gYes_ev, e1, h3, e2, RM.bind_ok]
    · rcases List.mem_cons.mp m with rfl | m
      · exact hy
      · exact hP z m
/-- .. over a name's list -/
theorem lcN_st {S P : T → Prop} {k i0 : Nat} {te : En → RM T} (L : List D) (E : T → En) (E2 : T → D → En) (h0 : ∀ s, at_ (E s) i0 = some (.l (L.map T.d))) (h1 : ∀ s d, stow (wipeE (E s) [k]) k (.v (.d d)) = some (E2 s d)) (h2 : ∀ s d, S s → ∃ y s', P y ∧ te (E2 s d) = .ok y (E2 s' d) ∧ S s') (h3 : ∀ s d, wipeE (E2 s d) [k] = E s) : ∀ (f j : Nat) s, j + f = L.length → S s → ∃ ys s', lcN [k] i0 (kName k) gYes te f j (E s) = .ok ys (E s') ∧ ys.length = f ∧ (∀ y ∈ ys, P y) ∧ S s'
  | 0, j, s, hj, hs => ⟨[], s, by unfold lcN; rw [h0]; simp only [List.length_map]; rw [if_pos (by omega)], rfl, fun _ m => absurd m List.not_mem_nil, hs⟩
  | f + 1, j, s, hj, hs => by
    have hjl : j < L.length := by omega
    obtain ⟨y, s1, hy, e1, hs1⟩ := h2 s L[j] hs
    obtain ⟨ys, s2, e2, hl, hP, hs2⟩ := lcN_st L E E2 h0 h1 h2 h3 f (j + 1) s1 (by omega) hs1
    refine ⟨y :: ys, s2, ?_, by rw [List.length_cons, hl], fun z m => ?_, hs2⟩
    · unfold lcN
      rw [h0]
      simp only [List.getElem?_map, List.getElem?_eq_getElem hjl, Option.map_some, List.length_map]
      rw [if_pos hj.symm]
      simp only [kD_d, kName_ev, Option.bind_some, stowD_cons, stowD_nil, h1, gYes_ev, e1, h3, e2, RM.bind_ok]
    · rcases List.mem_cons.mp m with rfl | m
      · exact hy
      · exact hP z m
theorem mLc_st {S P : T → Prop} {k : Nat} {te : En → RM T} {mi : En → RM (List T)} (E : T → En) (E2 : T → D → En) (L : List D) {s : T} (hm : mi (E s) = .ok (L.map T.d) (E s)) (hn : L.length < 16777216) (hs : S s) (h1 : ∀ s d, stow (wipeE (E s) [k]) k (.v (.d d)) = some (E2 s d)) (h2 : ∀ s d, S s → ∃ y s', P y ∧ te (E2 s d) = .ok y (E2 s' d) ∧ S s') (h3 : ∀ s d, wipeE (E2 s d) [k] = E s) : ∃ ys s', mLc [k] mi (kName k) gYes te (E s) = .ok (.l ys) (E s') ∧ ys.length = L.length ∧ (∀ y ∈ ys, P y) ∧ S s' := by
  obtain ⟨ys, s', e, h4, h5, h6⟩ := lcM_st E E2 h1 h2 h3 L s hs
  refine ⟨ys, s', ?_, h4, h5, h6⟩
  unfold mLc
  rw [hm, RM.bind_ok, e, mcalm_ok, RM.bind_ok, if_pos (show ys.length < most by rw [h4]; exact hn)]
theorem mLcN_st {S P : T → Prop} {k i0 : Nat} {te : En → RM T} (E : T → En) (E2 : T → D → En) (L : List D) {s : T} (hn : L.length < 16777216) (hs : S s) (h0 : ∀ s, at_ (E s) i0 = some (.l (L.map T.d))) (h1 : ∀ s d, stow (wipeE (E s) [k]) k (.v (.d d)) = some (E2 s d)) (h2 : ∀ s d, S s → ∃ y s', P y ∧ te (E2 s d) = .ok y (E2 s' d) ∧ S s') (h3 : ∀ s d, wipeE (E2 s d) [k] = E s) : ∃ ys s', mLcN [k] i0 (kName k) gYes te (E s) = .ok (.l ys) (E s') ∧ ys.length = L.length ∧ (∀ y ∈ ys, P y) ∧ S s' := by
  obtain ⟨ys, s', e, h4, h5, h6⟩ := lcN_st L E E2 h0 h1 h2 h3 L.length 0 s (by omega) hs
  refine ⟨ys, s', ?_, h4, h5, h6⟩
  unfold mLcN
  rw [h0]
  simp only [List.length_map]
  rw [e, mcalm_ok, RM.bind_ok, if_pos (show ys.length < most by rw [h4]; exact hn)]
/-- numbers in range, drawn -/
theorem row_of {p : Int} {ys : List T} (h : ∀ y ∈ ys, ∃ z, y = I z ∧ Rg p z) : ∃ zs : List Int, T.l ys = ls zs ∧ Rw p ys.length zs := by
  obtain ⟨zs, rfl, hz⟩ := ints_of h
  exact ⟨zs, rfl, by rw [List.length_map, List.length_map], hz⟩
end Z
/-! Z: errors of the program's own classes: raised, caught. -/
namespace Z
open PySem PySem.Spec L2
open PyProof.Rows hiding St
abbrev veTail : List Value := [.type "ValueError", .type "Exception", .type "BaseException", .type "object"]
/-- an own class of errors without an __init__ of its own -/
structure ExA (K : PySem.W.Frag) (mg : Str → Option Value) (x : Str) (C : Addr) : Prop where
  mg : mg x = some (.ref C)
  ei : PySem.W.excIn K C veTail "ValueError.__new__" = true
  kp : PySem.W.keepIn K (.ref C) = true
  sb : PySem.W.subIn K (.ref C) (.type "BaseException") = some true
  ty : PySem.W.typeIn K (.ref C) = some (.type "type")
def fRaise (x : Str) : En → SR := fun en => .ex ⟨x, none⟩ en
section
variable {X : Cx} {W : WX}
theorem s_raiseA {x m : Str} {C : Addr} {j : Nat} {p p2 pos pos2 : Pos} (cz : Cz X W) (e : ExA X.K X.mg x C) (hg : Gl X x := by rfl) (hdb : (x == ("__debug__" : Str)) = false := by decide) : PSt X W (.Raise (some (.Call (.Name x p) [.Constant (.str m) j p2] [] pos)) none pos2) (fRaise x) := by
  refine ⟨_, ps_raise cz.calm cz.tk (pmk_own PySem.F.excBase_ValueError e.ei e.mg e.kp (raises_own e.sb e.ty) hg hdb), fun σ H en Fs D ok q => ?_⟩
  exact q _ _ H Fs σ (.refl ok) ⟨e.mg, rfl⟩
/-- a block by what it computes -/
def cS (X : Cx) (W : WX) (f : En → SR) : TS := fun D σ H => ∃ en Fs, EOk X.K H σ en Fs ∧ SQ X W H Fs σ en D (f en)
theorem PBl.can {sts : List Stmt} {f : En → SR} (h : PBl X W sts f) : PSs X sts (cS X W f) := by
  obtain ⟨t, p, s⟩ := h
  exact ⟨fun pins st σ H D I ⟨en, Fs, ok, q⟩ => p.run pins st σ H D I (s σ H en Fs D ok q)⟩
/-- what a suite that returns must be told -/
def tsu (X : Cx) (i : Nat) (su : Exc → R T) (a : Addr) (cls : Value) (d : Option Addr) : TS := fun D σ H => ∃ c x, ExIs X.K X.mg H c cls d ∧ σ[i]? = some (some (.ref a)) ∧ su c = .ok (.d x) ∧ ∀ v H', Same H H' → RepD X.K H' v x → D.rt v H'
def fTry (i : Nat) (cat : Exc → Option Bool) (su : Exc → R T) (f : En → SR) : En → SR := fun en => match f en with
  | .ex c en' => match cat c with
    | some true => if i < en'.length then match su c with
      | .ok (.d x) => .ret (.d x) en'
      | _ => .no
      else .no
    | some false => .ex c en'
    | none => .no
  | r => r
/-- by the names of classes that it may meet -/
def catB (ts : List (Str × Bool)) (c : Exc) : Option Bool := ts.lookup c.tag
theorem s_try (i : Nat) {x n : Str} {c0 : Addr} {np pos pos' : Pos} {body suite : List Stmt} {b₀ : Stmt} {f : En → SR} {ts : List (Str × Bool)} {su : Exc → R T} (cz : Cz X W) (hm : X.mg x = some (.ref c0)) (hcat : ∀ t b, ts.lookup t = some b → ∃ cls, X.mg t = some cls ∧ PySem.W.exmOne X.K cls (.ref c0) = some b)
    (hb : ∀ (W' : WX) (pn : List (Addr × Obj)) (xe : Value → Shared → Prop), Cz (X.tr pn xe) W' → PBl (X.tr pn xe) W' body f)
    (hsu : ∀ (a : Addr) (oe : Obj) (cls : Value) (d : Option Addr) (pn : List (Addr × Obj)), Zc cls d oe → (∃ vs, oe.data = .fields vs) → PSs (X.suite a ((a, oe) :: pn)) (b₀ :: suite) (tsu X i su a cls d))
    (hs : X.stack = X.env :: X.outer := by rfl) (hf : X.env.frame = some X.env.locals := by rfl) (hi : X.N[i]? = some n := by rfl) (hln : X.env.kindOf n = some .local := by rfl) (hg : Gl X x := by rfl) (hdb : (x == ("__debug__" : Str)) = false := by decide) :
    PSt X W (.Try body [.ExceptHandler (some (.Name x np)) (some n) (b₀ :: suite) pos'] [] [] pos) (fTry i (catB ts) su f) := by
  refine ⟨_, ps_try_as hs hf cz.nd hi hln ⟨hg, hdb, .inl hm⟩ cz.tk (tb := fun W' => cS X W' f) (fun W' pn xe tk hp => (hb W' pn xe ⟨tk, hp, cz.calm, cz.nd⟩).can) hsu, fun σ H en Fs D ok q => ?_⟩
  refine ⟨en, Fs, ok, ?_⟩
  unfold fTry at q
  cases e : f en with
  | nx en' => rw [e] at q; exact q
  | ret x en' => rw [e] at q; exact q
  | brk en' => rw [e] at q; exact q
  | ct en' => rw [e] at q; exact q
  | no => rw [e] at q; exact q
  | ex c en' =>
    rw [e] at q
    intro cls dx H' Fs' σ' A ie
    cases ec : catB ts c with
    | none => simp only [ec] at q; exact q.elim
    | some b =>
      obtain ⟨cls', h1, h2⟩ := hcat _ _ ec
      rw [ie.1] at h1; cases h1
      cases b with
      | true =>
        simp only [ec] at q
        split at q
        · rename_i hlt
          refine ⟨true, h2, fun _ a na => ?_, nofun⟩
          cases es : su c with
          | ex c => rw [es] at q; exact q.elim
          | no => rw [es] at q; exact q.elim
          | ok x =>
            rw [es] at q
            cases x with
            | l _ => exact q.elim
            | d x =>
              refine ⟨c, x, ie, ?_, es, fun v H'' sm r => q v H'' Fs' σ' [] (A.fin sm Fresh.nil) (.d r)⟩
              rw [List.getElem?_set_self (Nat.lt_of_lt_of_le hlt A.ok.len)]
        · exact q.elim
      | false =>
        simp only [ec] at q
        exact ⟨false, h2, nofun, fun _ => q cls dx H' Fs' σ' A ie⟩
/-- .. without a name for the error -/
theorem s_tryO (i : Nat) {x : Str} {c0 : Addr} {np pos pos' : Pos} {body suite : List Stmt} {b₀ : Stmt} {f : En → SR} {ts : List (Str × Bool)} {su : Exc → R T} (cz : Cz X W) (hm : X.mg x = some (.ref c0)) (hcat : ∀ t b, ts.lookup t = some b → ∃ cls, X.mg t = some cls ∧ PySem.W.exmOne X.K cls (.ref c0) = some b)
    (hb : ∀ (W' : WX) (pn : List (Addr × Obj)) (xe : Value → Shared → Prop), Cz (X.tr pn xe) W' → PBl (X.tr pn xe) W' body f)
    (hsu : ∀ (a : Addr) (oe : Obj) (cls : Value) (d : Option Addr) (pn : List (Addr × Obj)), Zc cls d oe → (∃ vs, oe.data = .fields vs) → PSs (X.suite a ((a, oe) :: pn)) (b₀ :: suite) (fun D σ H => ∃ c x, ExIs X.K X.mg H c cls d ∧ su c = .ok (.d x) ∧ ∀ v H', Same H H' → RepD X.K H' v x → D.rt v H'))
    (hs : X.stack = X.env :: X.outer := by rfl) (hf : X.env.frame = some X.env.locals := by rfl) (hg : Gl X x := by rfl) (hdb : (x == ("__debug__" : Str)) = false := by decide) :
    PSt X W (.Try body [.ExceptHandler (some (.Name x np)) none (b₀ :: suite) pos'] [] [] pos) (fTry 0 (catB ts) su f) := by
  refine ⟨_, ps_try_only hs hf ⟨hg, hdb, .inl hm⟩ cz.tk (tb := fun W' => cS X W' f) (fun W' pn xe tk hp => (hb W' pn xe ⟨tk, hp, cz.calm, cz.nd⟩).can) hsu, fun σ H en Fs D ok q => ?_⟩
  refine ⟨en, Fs, ok, ?_⟩
  unfold fTry at q
  cases e : f en with
  | nx en' => rw [e] at q; exact q
  | ret x en' => rw [e] at q; exact q
  | brk en' => rw [e] at q; exact q
  | ct en' => rw [e] at q; exact q
  | no => rw [e] at q; exact q
  | ex c en' =>
    rw [e] at q
    intro cls dx H' Fs' σ' A ie
    cases ec : catB ts c with
    | none => simp only [ec] at q; exact q.elim
    | some b =>
      obtain ⟨cls', h1, h2⟩ := hcat _ _ ec
      rw [ie.1] at h1; cases h1
      cases b with
      | true =>
        simp only [ec] at q
        split at q
        · refine ⟨true, h2, fun _ a na => ?_, nofun⟩
          cases es : su c with
          | ex c => rw [es] at q; exact q.elim
          | no => rw [es] at q; exact q.elim
          | ok x =>
            rw [es] at q
            cases x with
            | l _ => exact q.elim
            | d x => exact ⟨c, x, ie, es, fun v H'' sm r => q v H'' Fs' σ' [] (A.fin sm Fresh.nil) (.d r)⟩
        · exact q.elim
      | false =>
        simp only [ec] at q
        exact ⟨false, h2, nofun, fun _ => q cls dx H' Fs' σ' A ie⟩
/-! suites that return -/
/-- isinstance(e, C) of an error of one class -/
def suIsi (t : Str) (b : Bool) (c : Exc) : R T := if c.tag = t ∧ c.fl.isNone = true then .ok (.d (.bl b)) else .no
theorem su_isi (i : Nat) {t n y : Str} {D C : Addr} {b : Bool} {p1 p2 p3 p4 p5 : Pos} (hD : X.mg t = some (.ref D)) (eD : ExcC X.K D) (hy : X.mg y = some (.ref C)) (hk : PySem.W.kitOne X.K (.ref D) (.ref C) = some b) (hm : X.mg "isinstance" = none) (hi : X.N[i]? = some n := by rfl) (hv : Vis X.env.scope n := by first | exact Or.inl rfl | exact Or.inr (Or.inl rfl) | exact Or.inr (Or.inr rfl)) (hg : Gl X "isinstance" := by rfl) (hg2 : Gl X y := by rfl) (hd : (n == ("__debug__" : Str)) = false := by decide) (hd2 : (y == ("__debug__" : Str)) = false := by decide) (hcd : (n == ("__classdict__" : Str)) = false := by decide)
    (he : starEach [.Name n p2, .Name y p3] X.env = (false, eval (.Name n p2) X.env) :: starEach [.Name y p3] X.env := by rfl) (he2 : starEach [.Name y p3] X.env = (false, eval (.Name y p3) X.env) :: starEach [] X.env := by rfl) (hpl : (backTo p4 (starEach [.Name y p3] X.env)).any (·.1) = false := by rfl) :
    ∀ (a : Addr) (oe : Obj) (cls : Value) (d : Option Addr) (pn : List (Addr × Obj)), Zc cls d oe → (∃ vs, oe.data = .fields vs) → PSs (X.suite a ((a, oe) :: pn)) [.Return (some (.Call (.Name "isinstance" p1) [.Name n p2, .Name y p3] [] p4)) p5] (tsu X i (suIsi t b) a cls d) := by
  intro a oe cls d pn hz hf
  by_cases hc : cls = .ref D ∧ d = none
  · obtain ⟨rfl, rfl⟩ := hc
    have p := pss_one (ps_ret (pos := p5) (pe_callB (X := X.suite a ((a, oe) :: pn)) (p := p1) (pos := p4) (call_isE eD hz hf) hg hm boot_isinstance (pa_cons (pe_var (pos := p2) hi hv hd hcd) (pa_cons (pe_glob (pos := p3) hg2 hy (show RelV (.ref C) (.ref C) from rfl) hd2) pa_nil he2) he) (by decide) (by decide) he hpl))
    refine ⟨fun pins st σ H D' I ⟨c, x, ie, hσ, es, q⟩ => p.run pins st σ H D' I ?_⟩
    have ex : x = .bl b := by
      unfold suIsi at es
      split at es
      · injection es with es; injection es with es; exact es.symm
      · cases es
    subst ex
    exact ⟨.ref a, hσ, .ref C, .ref C, b, rfl, fun u r => r, hk, q _ H (Same.refl H) (.bl b)⟩
  · refine ⟨fun pins st σ H D' I ⟨c, x, ie, hσ, es, q⟩ => ?_⟩
    exfalso
    apply hc
    unfold suIsi at es
    split at es
    · rename_i h
      obtain ⟨h1, h2⟩ := ie
      rw [h.1, hD] at h1
      refine ⟨(Option.some.inj h1).symm, ?_⟩
      revert h2
      cases hfl : c.fl with
      | none => exact id
      | some fs => rw [hfl] at h; simp at h
    · cases es
/-- a field of the error -/
def suFld (t f : Str) (c : Exc) : R T := if c.tag = t then match c.fl with
  | some fs => match fs.lookup f with
    | some d => .ok (.d d)
    | none => .no
  | none => .no
  else .no
/-- .. compared with a text -/
def suFldEq (t f s : Str) (c : Exc) : R T := match suFld t f c with
  | .ok x => .of (fEq x (.d (.str s)))
  | _ => .no
theorem lookup_zip {K : PySem.W.Frag} {H : Hp} {f : Str} : ∀ {fs : List (Str × D)} {vs : List V} {d : D}, RepDs K H vs (fs.map (·.2)) → fs.lookup f = some d → ∃ v, ((fs.map (·.1)).zip vs).lookup f = some v ∧ RepD K H v d
  | [], _, _, _, h => by cases h
  | (g, e) :: r, _, d, .cons (v := v) hv ht, h => by
    rw [List.map_cons, List.zip_cons_cons, List.lookup_cons]
    rw [List.lookup_cons] at h
    cases e2 : f == g with
    | true => rw [e2] at h; injection h with h; subst h; exact ⟨v, rfl, hv⟩
    | false => rw [e2] at h; exact lookup_zip ht h
theorem pe_fld (i : Nat) {n f : Str} {C0 a : Addr} {oe : Obj} {cls : Value} {d : Option Addr} {pn : List (Addr × Obj)} {p2 p3 : Pos} (eD : XfC X.K C0) (hno : PySem.W.findIn X.K (.ref C0) f = some none) (hz : Zc cls d oe) (hf : ∃ vs, oe.data = .fields vs) (hi : X.N[i]? = some n) (hv : Vis X.env.scope n) (hd : (n == ("__debug__" : Str)) = false) (hcd : (n == ("__classdict__" : Str)) = false) (hb : attributeBase (.Name n p2) f X.env (eval (.Name n p2) X.env) = eval (.Name n p2) X.env) :
    PE (X.suite a ((a, oe) :: pn)) (.Attribute (.Name n p2) f p3) (tXf a cls d C0 f (tVar i)) := pe_xf eD hno hz hf (pe_var (X := X.suite a ((a, oe) :: pn)) hi hv hd hcd) hb
theorem fld_ok {i : Nat} {t f : Str} {C0 a : Addr} {cls : Value} {d : Option Addr} {σ : L2.St} {H : Hp} {c : Exc} {x : D} {Q : VK} (hD : X.mg t = some (.ref C0)) (ie : ExIs X.K X.mg H c cls d) (hσ : σ[i]? = some (some (.ref a))) (es : suFld t f c = .ok (.d x)) (q : ∀ v, RepD X.K H v x → Q v H) : tXf a cls d C0 f (tVar i) σ H Q := by
  unfold suFld at es
  split at es
  · rename_i ht
    obtain ⟨h1, h2⟩ := ie
    rw [ht, hD] at h1
    cases hfl : c.fl with
    | none => rw [hfl] at es; cases es
    | some fs =>
      rw [hfl] at es h2
      simp only at es
      obtain ⟨dd, vs, rfl, h3, h4⟩ := h2
      cases el : fs.lookup f with
      | none => rw [el] at es; cases es
      | some y =>
        rw [el] at es
        injection es with es; injection es with es; subst es
        obtain ⟨v, e5, r⟩ := lookup_zip h4 el
        exact ⟨.ref a, hσ, rfl, (Option.some.inj h1).symm, dd, _, v, rfl, h3, e5, q v r⟩
  · cases es
theorem su_fld (i : Nat) {t n f : Str} {C0 : Addr} {p2 p3 p5 : Pos} (hD : X.mg t = some (.ref C0)) (eD : XfC X.K C0) (hno : PySem.W.findIn X.K (.ref C0) f = some none) (hi : X.N[i]? = some n := by rfl) (hv : Vis X.env.scope n := by first | exact Or.inl rfl | exact Or.inr (Or.inl rfl) | exact Or.inr (Or.inr rfl)) (hd : (n == ("__debug__" : Str)) = false := by decide) (hcd : (n == ("__classdict__" : Str)) = false := by decide) (hb : attributeBase (.Name n p2) f X.env (eval (.Name n p2) X.env) = eval (.Name n p2) X.env := by rfl) :
    ∀ (a : Addr) (oe : Obj) (cls : Value) (d : Option Addr) (pn : List (Addr × Obj)), Zc cls d oe → (∃ vs, oe.data = .fields vs) → PSs (X.suite a ((a, oe) :: pn)) [.Return (some (.Attribute (.Name n p2) f p3)) p5] (tsu X i (suFld t f) a cls d) := by
  intro a oe cls d pn hz hf
  have p := pss_one (ps_ret (pos := p5) (pe_fld (X := X) (a := a) (pn := pn) (p3 := p3) i eD hno hz hf hi hv hd hcd hb))
  exact ⟨fun pins st σ H D' I ⟨c, x, ie, hσ, es, q⟩ => p.run pins st σ H D' I (fld_ok hD ie hσ es fun v r => q v H (Same.refl H) r)⟩
theorem su_fldEq (i : Nat) {t n f s : Str} {C0 : Addr} {j : Nat} {p2 p3 p4 p5 p6 : Pos} (hu : X.A.units + 64 < cLine) (hD : X.mg t = some (.ref C0)) (eD : XfC X.K C0) (hno : PySem.W.findIn X.K (.ref C0) f = some none) (hi : X.N[i]? = some n := by rfl) (hv : Vis X.env.scope n := by first | exact Or.inl rfl | exact Or.inr (Or.inl rfl) | exact Or.inr (Or.inr rfl)) (hd : (n == ("__debug__" : Str)) = false := by decide) (hcd : (n == ("__classdict__" : Str)) = false := by decide) (hb : attributeBase (.Name n p2) f X.env (eval (.Name n p2) X.env) = eval (.Name n p2) X.env := by rfl) :
    ∀ (a : Addr) (oe : Obj) (cls : Value) (d : Option Addr) (pn : List (Addr × Obj)), Zc cls d oe → (∃ vs, oe.data = .fields vs) → PSs (X.suite a ((a, oe) :: pn)) [.Return (some (.Compare (.Attribute (.Name n p2) f p3) [.Eq] [.Constant (.str s) j p4] p5)) p6] (tsu X i (suFldEq t f s) a cls d) := by
  intro a oe cls d pn hz hf
  obtain ⟨r, ho, q2⟩ := (m_eq (X := X.suite a ((a, oe) :: pn)) hu).p
  have p := pss_one (ps_ret (pos := p6) (pe_cmpR (pos := p5) ho (pe_fld (X := X) (a := a) (pn := pn) (p3 := p3) i eD hno hz hf hi hv hd hcd hb) (pe_str (pos := p4) (j := j) (x := s)) (nomark _)))
  refine ⟨fun pins st σ H D' I ⟨c, x, ie, hσ, es, q⟩ => p.run pins st σ H D' I ?_⟩
  unfold suFldEq at es
  cases e1 : suFld t f c with
  | ex c => rw [e1] at es; cases es
  | no => rw [e1] at es; cases es
  | ok y =>
    rw [e1] at es
    simp only at es
    cases y with
    | l _ =>
      unfold suFld at e1
      split at e1
      · split at e1
        · split at e1 <;> cases e1
        · cases e1
      · cases e1
    | d y =>
      cases e2 : fEq (.d y) (.d (.str s)) with
      | none => rw [e2] at es; cases es
      | some z =>
        rw [e2] at es
        injection es with es
        subst es
        show tXf a cls d C0 f (tVar i) σ H (fun x H1 => r x (.str s) H1 D'.rt)
        refine fld_ok hD ie hσ e1 fun v rv => ?_
        exact q2 H (.d y) (.d (.str s)) (.d x) v (.str s) [] [] _ (.d rv) (.d (.str s)) e2 fun v2 H2 G sm o _ => q v2 H2 sm o.rep
end
end Z
/-! Z: own errors whose __init__ says super().__init__(text + str(name)) and keeps the name. -/
namespace PySem
namespace SuX
open PySem.W PySem.Calls PyProof.Rows PySem.HandSPX
section
variable {prog : Program} {w : World} {A : Around} {E : Value → Shared → Prop} {h : Heap} {g : Array GenState} {d : Drawn} {t : Nat} {os : OsState}
variable {nm q : Str} {C N : Addr} {bs bm : List Value} {hdct : Bool} {sn : List Str} {sub : List Value} {ab : Bool} {col : Option Bool} {dd : Option Addr} {k0 k1 k2 k3 k5 : Option Value}
/-- ValueError's own __init__, bound to the error, called -/
theorem call_bwV {u e t0 : Addr} {rest : List Value} {Q : Value → Shared → Prop}
    (hC : h.get? C = some (excClassObj nm q C N bs bm hdct sn sub ab col dd k0 k1 k2 k3 k5 "ValueError.__new__")) (he : h.get? e = some (excO C t0)) (hu : h.get? u = some (kxs_mw "ValueError.__init__" e)) (hrest : rest.length ≤ sizeLine)
    (hq : ∀ h' t1, (∀ b o, b ≠ e → h.get? b = some o → h'.get? b = some o) → h'.get? e = some (excO C t1) → Q .none ⟨h', g, d, t, os⟩) :
    wpAny (model prog w) A (call (.ref u) rest) Q E ⟨h, g, d, t, os⟩ := by
  refine wpAny_call (codeAny_of_tree ?_)
  show wpAny _ A.in1 (callAny (.ref u) ⟨rest, []⟩) _ _ _
  simp only [callAny]
  refine wpAny_bind (wpAny_load hu ?_)
  simp only [kxs_mw, show (Value.type "method-wrapper" == Value.type "method" || Value.type "method-wrapper" == Value.type "builtin_function_or_method" || Value.type "method-wrapper" == Value.type "method-wrapper") = true by decide, if_true]
  refine W.KFB.if_so (by decide) ?_
  refine wpAny_bind (ESX.check_bound F.excBase_ValueError hC he rfl ?_)
  refine wpAny_bind (wpAny_pure (wpAny_pure ?_))
  refine ⟨plainId_quiet F.excBase_ValueError.init.plain _, codeAny_builtin F.excBase_ValueError.initEntry ?_⟩
  rw [Around.under_plainId F.excBase_ValueError.init.plain _]
  wp_walk
  refine hq _ h.objs.size (fun b o hb ho => ?_) ?_
  · rw [Heap.get?_update_other _ _ (Ne.symm hb)]
    exact Heap.get?_push_of_some _ ho
  · rw [Heap.get?_update_self _ (Heap.get?_push_of_some _ he) rfl]
    rfl
end
/-! ### the text of __init__ -/
def iA (f : Str) (p1 p2 : Pos) : Arguments := { posonlyargs := [], args := [{ arg := "self", annotation := none, pos := p1 }, { arg := f, annotation := none, pos := p2 }], vararg := none, kwonlyargs := [], kw_defaults := [], kwarg := none, defaults := [] }
def iB (f : Str) (e : Expr) (q1 q2 q3 q4 q5 q6 q7 q8 q9 : Pos) : List Stmt := [.Expr (.Call (.Attribute (.Call (.Name "super" q1) [] [] q2) "__init__" q3) [e] [] q4) q5, .Assign [.Attribute (.Name "self" q6) f q7] (.Name f q8) q9]
/-- names of the frame: self, the name, __class__, super, str -/
def iS (f : Str) : Scope := { kind := .function, names := [(Str.ofString "self", .local), (f, .local), (Str.ofString "__class__", .free), (Str.ofString "super", .globalImplicit), (Str.ofString "str", .globalImplicit)], isGenerator := false, isCoroutine := false, more := [] }
/-- a value that str() takes: a text, a number, not too great -/
def SV (v : Value) : Prop := (∃ x t, v = .str x t ∧ x.length ≤ 1000000) ∨ ∃ i t, v = .int i t ∧ i.natAbs ≤ 1000000
/-- what the text that is handed on asks -/
def ArgOk (prog : Program) (w : World) (f : Str) (e : Expr) : Prop := ∀ (A : Around) (E : Value → Shared → Prop) (s : Shared) (env : Env) (m mg mb : Str → Option Value) (v : Value) (Q : Value → Shared → Prop),
  env.scope = iS f → s.heap.Ns env.locals m → m f = some v → SV v → env.globals = mainGlobals → s.heap.Ns mainGlobals mg → mg "str" = none → env.builtins = builtinsNs → s.heap.Ns builtinsNs mb → mb "str" = some (.type "str") →
  (∀ x t tk, Q (.str x t) { s with toks := tk }) → wpAny (model prog w) A (eval e env) Q E s
section
variable {prog : Program} {w : World}
theorem fits_small {n : Nat} (h : n ≤ 2000000) : n ≤ sizeLine := by rw [sizeLine_eq]; omega
theorem str_small {i : Int} (h : i.natAbs ≤ 1000000) : (Str.ofString (toString i)).length ≤ 1000002 := by
  have := PyProof.Rows.len_str_of_int i
  omega
/-- str(name) -/
theorem str_name {f : Str} {p p2 p3 : Pos} {A : Around} {E : Value → Shared → Prop} {s : Shared} {env : Env} {m mg mb : Str → Option Value} {v : Value} {Q : Value → Shared → Prop} (hsc : env.scope = iS f) (hf : (f == ("self" : Str)) = false) (hf2 : (("str" : Str) == f) = false) (hdf : (f == ("__debug__" : Str)) = false)
    (hn : s.heap.Ns env.locals m) (hv : m f = some v) (sv : SV v) (hg : env.globals = mainGlobals) (hmg : s.heap.Ns mainGlobals mg) (hstr : mg "str" = none) (hb : env.builtins = builtinsNs) (hmb : s.heap.Ns builtinsNs mb) (hbs : mb "str" = some (.type "str"))
    (hq : ∀ x t tk, x.length ≤ 1000002 → Q (.str x t) { s with toks := tk }) : wpAny (model prog w) A (eval (.Call (.Name "str" p) [.Name f p2] [] p3) env) Q E s := by
  have k1 : env.scope.kind = .function := by rw [hsc]; rfl
  have k2 : env.kindOf "str" = some .globalImplicit := by
    show env.scope.names.lookup (Str.ofString "str") = _
    rw [hsc]
    show List.lookup (Str.ofString "str") [(Str.ofString "self", NameKind.local), (f, .local), (Str.ofString "__class__", .free), (Str.ofString "super", .globalImplicit), (Str.ofString "str", .globalImplicit)] = _
    rw [List.lookup_cons, show (Str.ofString "str" == Str.ofString "self") = false by decide +kernel, List.lookup_cons, show (Str.ofString "str" == f) = false from hf2, List.lookup_cons, show (Str.ofString "str" == Str.ofString "__class__") = false by decide +kernel, List.lookup_cons, show (Str.ofString "str" == Str.ofString "super") = false by decide +kernel, List.lookup_cons, show (Str.ofString "str" == Str.ofString "str") = true by decide +kernel]
  have k3 : env.kindOf f = some .local := by
    show env.scope.names.lookup f = _
    rw [hsc]
    show List.lookup f [(Str.ofString "self", NameKind.local), (f, .local), (Str.ofString "__class__", .free), (Str.ofString "super", .globalImplicit), (Str.ofString "str", .globalImplicit)] = _
    rw [List.lookup_cons, show (f == Str.ofString "self") = false from hf, List.lookup_cons, show (f == f) = true by simp]
  refine wpAny_Call_Name_kw (Calls.Name_function_global k1 k2 (Calls.loadGlobal_builtin (by rw [hg]; exact hmg) hstr (by rw [hb]; exact hmb) hbs ?_) (by decide +kernel))
  refine PyProof.Rows.callWith_type1 ?_ (by rfl) (by rfl)
  refine Calls.spliced_cons (x := eval (.Name f p2) env) (rest := []) ?_
  refine wpAny_Name (wpAny_loadName_local k1 k3 hn hv ?_) hdf
  refine Calls.spliced_nil ?_
  rcases sv with ⟨x, t, rfl, hl⟩ | ⟨i, t, rfl, hl⟩
  · exact PySem.P.str_of_str (hq x t s.toks (by omega))
  · refine PySem.P.str_of_int ?_ (hq _ _ _ (str_small hl))
    have : i.natAbs.log2 < 21 := by
      by_cases z : i.natAbs = 0
      · rw [z]; decide
      · rw [Nat.log2_lt z]; omega
    omega
/-- 'text' + str(name) -/
theorem arg_cs {f c : Str} {j : Nat} {p0 p1 p2 p3 p4 : Pos} (hf : (f == ("self" : Str)) = false) (hf2 : (("str" : Str) == f) = false) (hdf : (f == ("__debug__" : Str)) = false) (hc : c.length ≤ 1000) :
    ArgOk prog w f (.BinOp (.Constant (.str c) j p0) .Add (.Call (.Name "str" p1) [.Name f p2] [] p3) p4) := fun A E s env m mg mb v Q hsc hn hv sv hg hmg hstr hb hmb hbs hq => by
  refine wpAny_BinOp (Calls.Constant_str ?_)
  refine str_name (s := { s with toks := s.toks + 1 }) hsc hf hf2 hdf hn hv sv hg hmg hstr hb hmb hbs fun x t tk hx => ?_
  exact PyProof.Rows.add_str (fun t' tk => hq _ _ _) (fits_small (by omega))
/-- how the call is read -/
def CallEq (e : Expr) (q1 q2 q3 q4 : Pos) : Prop := ∀ env : Env, ∃ pl : Sem Bool, eval (.Call (.Attribute (.Call (.Name "super" q1) [] [] q2) "__init__" q3) [e] [] q4) env = (do
  let ov ← attributeBase (.Call (.Name "super" q1) [] [] q2) "__init__" env (eval (.Call (.Name "super" q1) [] [] q2) env)
  standAt q3.atName
  let (f, first) ← holding [ov] (getMethod ov "__init__" pl)
  callWith q4 f first (backTo q4 (starEach [e] env)) [])
/-- what the top has left of the class -/
structure SupT (P : Program) (w : World) (K : Frag) (mg : Str → Option Value) (x f : Str) (C fI cc cda : Addr) : Prop where
  gC : mg x = some (.ref C)
  oex : L2.OexC K C
  iC : findIn K (.ref C) "__init__" = some (some (.ref fI))
  tI : typeIn K (.ref fI) = some (.type "function")
  fn : ∃ (oc : Value) (od : Option Addr) (doc pm ct : Value) (an : Option Addr) (osl : Array (Option Value)) (qual : Str) (el er : Expr) (ep p1 p2 q1 q2 q3 q4 q5 q6 q7 q8 q9 : Pos),
    K.lookup fI = some ⟨oc, od, .func (ksFn "__init__" qual (iA f p1 p2) (iB f (.BinOp el .Add er ep) q1 q2 q3 q4 q5 q6 q7 q8 q9) (iS f) .none .none doc pm an (.ref cda) ct cc), osl⟩ ∧ codeIn K (.ref cda) qual = true ∧ ArgOk P w f (.BinOp el .Add er ep) ∧ CallEq (.BinOp el .Add er ep) q1 q2 q3 q4 ∧ (∀ env, swapsWith (.Call (.Attribute (.Call (.Name "super" q1) [] [] q2) "__init__" q3) [.BinOp el .Add er ep] [] q4) none q5.line env = pure false) ∧ (∀ env, swapsWith (.Name f q8) (some (.Attribute (.Name "self" q6) f q7)) q9.line env = pure false) ∧
    (∀ s v u, BindsTo s (ksFn "__init__" qual (iA f p1 p2) (iB f (.BinOp el .Add er ep) q1 q2 q3 q4 q5 q6 q7 q8 q9) (iS f) .none .none doc pm an (.ref cda) ct cc) ⟨[v, u], []⟩ [("self", v), (f, u)])
  code : ∃ (ccl : Value) (cdd : Option Addr) (vs : Array Value) (ccs : Array (Option Value)) (file : Str) (tf : Tok), K.lookup cda = some ⟨ccl, cdd, .fields vs, ccs⟩ ∧ vs[2]? = some (.str file tf) ∧ (P.main.file == file) = true
  cell : ∃ (cl : Value) (cld : Option Addr) (csl : Array (Option Value)), K.lookup cc = some ⟨cl, cld, .cell (some (.ref C)), csl⟩
  top : (P.main.scope.names.lookup (Str.ofString "super")).isSome = false
  sup : mg "super" = none
  str : mg "str" = none
  noN : findIn K (.ref C) f = some none
  subV : subIn K (.ref C) (.type "ValueError") = some true
  along : ks_superIn K C C "__init__" = some (some (.builtin "ValueError.__init__"))
  any : nsIn K cStatics "thirdparty.any" = some none
  self : mroIn K C (.ref C) = some true
  hdI : hasDictIn K C = true
  fs : (f == ("self" : Str)) = false
  fd : (f == ("__debug__" : Str)) = false
  fsu : (Str.ofString "super" == f) = false
  fcl : (Str.ofString "__class__" == f) = false
/-- what __init__ leaves of a fresh error at x -/
structure InitEnd (h h' : Heap) (x C dx t1 : Addr) (f : Str) (v : Value) : Prop where
  keep : ∀ b o, b ≠ x → h.get? b = some o → h'.get? b = some o
  obj : h'.get? x = some { cls := .ref C, dict := some dx, data := .fields #[.ref t1, .none, .none, .none, .bool false, .none] }
  dbig : h.objs.size ≤ dx
  dne : dx ≠ x
  ns : h'.Ns1 dx (fun y => if y = f then some v else none)
end
section
variable {prog : Program} {w : World} {A : Around} {E : Value → Shared → Prop} {R : Result → Shared → Prop} {K : Frag} {mg : Str → Option Value} {x f : Str} {C fI cc cda : Addr}
theorem init_ok (T : SupT prog w K mg x f C fI cc cda) {s : Shared} {xa t0 : Addr} {v : Value} (X : K.In s.heap) (hlim : s.heap.NoLimit) (hg : s.heap.Ns mainGlobals mg) (hb : ∃ mb, s.heap.Ns builtinsNs mb ∧ ∀ y : Str, y ≠ "__name__" → mb y = bootBuiltins y)
    (hx : s.heap.get? xa = some (excO C t0)) (hxn : K.lookup xa = none) (sv : SV v) (hroom : A.depth < recursionLimit) (hq : ∀ h' tk dx t1, InitEnd s.heap h' xa C dx t1 f v → R (.ok (.ret .none)) { s with heap := h', toks := tk }) :
    codeAny (model prog w) A (.call (.ref fI) ⟨[.ref xa, v], []⟩) R s := by
  obtain ⟨oc, od, doc, pm, ct, an, osl, qual, el, er, ep, p1, p2, q1, q2, q3, q4, q5, q6, q7, q8, q9, lk, hcd, harg, hce, hsw, hsw2, hbind⟩ := T.fn
  obtain ⟨nm, q, N, bs, bm, sn, sub, ab, col, dd, k0, k1, k2, k3, k5, hC, hbm⟩ := T.oex.cls
  obtain ⟨ccl, cdd, vs, ccs, file, tf, lkc, hvs, hfile⟩ := T.code
  obtain ⟨cl, cld, csl, lkcell⟩ := T.cell
  obtain ⟨mb, hb1, hb2⟩ := hb
  have fs' : (("self" : Str) == f) = false := by
    have := T.fs
    rw [beq_eq_false_iff_ne] at this ⊢
    exact fun z => this z.symm
  have scf : (iS f).names.lookup f = some .local := by
    show List.lookup f [(Str.ofString "self", NameKind.local), (f, .local), (Str.ofString "__class__", .free), (Str.ofString "super", .globalImplicit), (Str.ofString "str", .globalImplicit)] = _
    rw [List.lookup_cons, show (f == Str.ofString "self") = false from T.fs, List.lookup_cons, show (f == f) = true by simp]
  have hcl : clsIn K C = some { name := nm, bases := bs, mro := .ref C :: bm, ns := N, qualname := q, hasDict := true, slotNames := sn, subclasses := sub, abstract := ab, collection := col, hasDel := false } := by unfold clsIn; rw [hC] <;> rfl
  have scs : (iS f).names.lookup (Str.ofString "super") = some .globalImplicit := by
    show List.lookup (Str.ofString "super") [(Str.ofString "self", NameKind.local), (f, .local), (Str.ofString "__class__", .free), (Str.ofString "super", .globalImplicit), (Str.ofString "str", .globalImplicit)] = _
    rw [List.lookup_cons, show (Str.ofString "super" == Str.ofString "self") = false by decide +kernel, List.lookup_cons, T.fsu, List.lookup_cons, show (Str.ofString "super" == Str.ofString "__class__") = false by decide +kernel, List.lookup_cons, show (Str.ofString "super" == Str.ofString "super") = true by decide +kernel]
  have scc : (iS f).names.lookup (Str.ofString "__class__") = some .free := by
    show List.lookup (Str.ofString "__class__") [(Str.ofString "self", NameKind.local), (f, .local), (Str.ofString "__class__", .free), (Str.ofString "super", .globalImplicit), (Str.ofString "str", .globalImplicit)] = _
    rw [List.lookup_cons, show (Str.ofString "__class__" == Str.ofString "self") = false by decide +kernel, List.lookup_cons, T.fcl, List.lookup_cons, show (Str.ofString "__class__" == Str.ofString "__class__") = true by decide +kernel]
  have scl : (iS f).names.lookup (Str.ofString "self") = some .local := by
    show List.lookup (Str.ofString "self") [(Str.ofString "self", NameKind.local), (f, .local), (Str.ofString "__class__", .free), (Str.ofString "super", .globalImplicit), (Str.ofString "str", .globalImplicit)] = _
    rw [List.lookup_cons, show (Str.ofString "self" == Str.ofString "self") = true by decide +kernel]
  refine ks_codeAny_call_defAt (fd := ksFn "__init__" qual (iA f p1 p2) (iB f (.BinOp el .Add er ep) q1 q2 q3 q4 q5 q6 q7 q8 q9) (iS f) .none .none doc pm an (.ref cda) ct cc) (body := iB f (.BinOp el .Add er ep) q1 q2 q3 q4 q5 q6 q7 q8 q9) (binds := [("self", .ref xa), (f, v)]) hroom (X _ _ lk) rfl hlim (codeRec_of X hcd) rfl (hbind s (.ref xa) v) ?_ ?_ (fun h₁ hns k₁ => ?_) rfl rfl rfl
  · intro y hy z
    simp only [iS, List.mem_cons, List.not_mem_nil, or_false] at hy
    rcases hy with rfl | rfl | rfl | rfl | rfl <;> cases z
  · intro y hy
    simp only [List.mem_cons, List.not_mem_nil, or_false] at hy
    rcases hy with rfl | rfl
    · exact scl
    · exact scf
  generalize hL : s.heap.objs.size = L at hns ⊢
  have hxL : xa ≠ L := by rw [← hL]; exact Nat.ne_of_lt (Heap.lt_size hx)
  have hmS : ([(("self" : Str), Value.ref xa), (f, v)] : List (Str × Value)).reverse.lookup (Str.ofString "self") = some (Value.ref xa) := by
    show List.lookup (Str.ofString "self") [(f, v), (Str.ofString "self", Value.ref xa)] = _
    rw [List.lookup_cons, show (Str.ofString "self" == f) = false from fs', List.lookup_cons, show (Str.ofString "self" == Str.ofString "self") = true by decide +kernel]
  have hmF : ([(("self" : Str), Value.ref xa), (f, v)] : List (Str × Value)).reverse.lookup f = some v := by
    show List.lookup f [(f, v), (("self" : Str), Value.ref xa)] = _
    rw [List.lookup_cons, show (f == f) = true by simp]
  have X₁ : K.In h₁ := X.keeps k₁
  have hx₁ := k₁ _ _ hx
  have hg₁ := hg.keeps k₁
  have hb₁ := hb1.keeps k₁
  obtain ⟨hp, g, dr, tk, os⟩ := s
  obtain ⟨pl, hce⟩ := hce (callEnv (ksFn "__init__" qual (iA f p1 p2) (iB f (.BinOp el .Add er ep) q1 q2 q3 q4 q5 q6 q7 q8 q9) (iS f) .none .none doc pm an (.ref cda) ct cc) L fI)
  refine ks_wpAt_execs_cons (ks_wpAt_Expr_any (ks_wpAt_MethodCall ?_ hce) (by rfl) (hsw _))
  refine ks_wpAt_super_base (env := callEnv (ksFn "__init__" qual (iA f p1 p2) (iB f (.BinOp el .Add er ep) q1 q2 q3 q4 q5 q6 q7 q8 q9) (iS f) .none .none doc pm an (.ref cda) ct cc) L fI) scs scc rfl rfl (X₁ _ _ lk) rfl rfl rfl (X₁ _ _ lkc) rfl hvs hfile T.top ?_
  refine ks_loadName_global rfl scs (Calls.loadGlobal_builtin hg₁ T.sup hb₁ ((hb2 _ (by decide +kernel)).trans (show bootBuiltins "super" = some (.type "super") by rfl)) ⟨rfl, ?_⟩)
  refine wpAny_loadName_free rfl scc rfl ⟨_, X₁ _ _ lkcell, rfl⟩ ?_
  refine wpAny_loadName_local rfl scl hns hmS ?_
  refine ks_wpAny_isType_cls (X₁ _ _ hC) rfl ⟨rfl, ?_⟩
  refine ks_wpAny_call_super (X₁ _ _ hC) rfl hx₁ rfl (fun c z => by cases z) (looks_mroIn X₁ T.self) (fun h₂ e₂ k₂ => ?_)
  have X₂ : K.In h₂ := X₁.keeps k₂
  have hx₂ := k₂ _ _ hx₁
  have I₂ : InstAt h₂ xa (excO C t0) C none := ⟨hx₂, rfl, rfl, trivial⟩
  have hxC : xa ≠ C := fun z => by rw [z] at hxn; rw [hC] at hxn; cases hxn
  refine kxs_getMethod kxs_ValueError e₂ (looks_opaque X₂ T.any) (l₀ := .ref C :: bm) (fun A Q E s k q => wpAny_bind ((looks_clsIn X₂ hcl) A _ E s k (wpAny_pure q))) rfl X₂ ?_ (I₂.type.andThen (looks_subIn X₂ T.subV)) hxC (by decide +kernel) ?_
  · have := T.along
    unfold ks_superIn at this
    rw [hcl] at this
    exact this
  have k₃ : ∀ b o, h₂.get? b = some o → (h₂.push (kxs_mw "ValueError.__init__" xa)).get? b = some o := fun b o z => Heap.get?_push_of_some _ z
  have hu₃ : (h₂.push (kxs_mw "ValueError.__init__" xa)).get? h₂.objs.size = some (kxs_mw "ValueError.__init__" xa) := Heap.get?_push_at rfl rfl
  refine kxs_callWith (i := "ValueError.__init__") (x := xa) rfl (Calls.evalArgs_plain (Calls.spliced_cons ?_))
  refine harg _ _ ⟨h₂.push (kxs_mw "ValueError.__init__" xa), g, dr, _, os⟩ _ (fun y => ([(("self" : Str), Value.ref xa), (f, v)] : List (Str × Value)).reverse.lookup y) mg mb v _ rfl ((hns.keeps k₂).keeps k₃) hmF sv rfl ((hg₁.keeps k₂).keeps k₃) T.str rfl ((hb₁.keeps k₂).keeps k₃) ((hb2 _ (by decide +kernel)).trans (show bootBuiltins "str" = some (.type "str") by rfl)) (fun z tz tk₃ => Calls.spliced_nil ⟨hu₃, ?_⟩)
  refine call_bwV (k₃ _ _ (X₂ _ _ hC)) (k₃ _ _ hx₂) hu₃ (by rw [sizeLine_eq]; exact (by decide : 1 ≤ 16777216)) (fun h₄ t₁ k₄ hx₄ => ?_)
  have kk : ∀ b o, b ≠ xa → h₁.get? b = some o → h₄.get? b = some o := fun b o hb z => k₄ b o hb (k₃ _ _ (k₂ _ _ z))
  have kK : ∀ b o, K.lookup b = some o → h₄.get? b = some o := fun b o z => kk b o (fun y => by rw [y, hxn] at z; cases z) (X₁ _ _ z)
  have X₄ : K.In h₄ := kK
  have hns₄ := hns.at (h' := h₄) fun o z => kk _ o hxL.symm z
  refine wpAt_of_wpAny (wpAny_execs_cons (plainObj_wpAny_Assign_Attribute ?_ (hsw2 _)))
  refine wpAny_Name (wpAny_loadName_local rfl scf hns₄ hmF ?_) T.fd
  refine wpAny_Name (wpAny_loadName_local rfl scl hns₄ hmS ?_) (by decide +kernel)
  refine set_plain X₄ (ox := excO C t₁) (od := none) ⟨hx₄, rfl, rfl, trivial⟩ T.oex.sa ?_
  refine exc_osa X₄ hx₄ hcl (show refsVE (.ref C :: bm) = true from hbm) rfl T.noN (fun h₅ tk₅ dx k₅ dn dne hx₅ hn₅ => ?_)
  refine wpAny_execs_nil (hq h₅ tk₅ dx t₁ ⟨fun b o hb z => k₅ b o hb (kk b o hb (k₁ b o z)), hx₅, ?_, dne, hn₅⟩)
  have z : L < h₄.objs.size := hns₄.lt
  have z2 : h₄.objs.size ≤ dx := dn
  have hL' : hp.objs.size = L := hL
  show hp.objs.size ≤ dx
  omega
/-- what a call of the class leaves -/
structure Made (h h' : Heap) (e C dx : Addr) (f : Str) (v : Value) : Prop where
  keep : ∀ b o, h.get? b = some o → h'.get? b = some o
  new : h.objs.size ≤ e
  obj : ∃ oe vs, h'.get? e = some oe ∧ oe.cls = .ref C ∧ oe.dict = some dx ∧ oe.data = .fields vs ∧ vs[1]? = some .none
  dbig : h.objs.size ≤ dx
  dne : dx ≠ e
  ns : h'.Ns1 dx (fun y => if y = f then some v else none)
theorem made_ok (T : SupT prog w K mg x f C fI cc cda) {s : Shared} {v : Value} (X : K.In s.heap) (hlim : s.heap.NoLimit) (hg : s.heap.Ns mainGlobals mg) (hb : ∃ mb, s.heap.Ns builtinsNs mb ∧ ∀ y : Str, y ≠ "__name__" → mb y = bootBuiltins y) (sv : SV v) (hroom : A.depth + 1 < recursionLimit)
    (hq : ∀ h' tk e dx, Made s.heap h' e C dx f v → R (.ok (.ret (.ref e))) { s with heap := h', toks := tk }) : codeAny (model prog w) A (.call (.ref C) ⟨[v], []⟩) R s := by
  obtain ⟨nm, q, N, bs, bm, sn, sub, ab, col, dd, k0, k1, k2, k3, k5, hC, hbm⟩ := T.oex.cls
  obtain ⟨hp, g, dr, tk, os⟩ := s
  obtain ⟨mb, hb1, hb2⟩ := hb
  have k : ∀ b o, hp.get? b = some o → ((hp.push (kdv_tup [v])).push (excO C hp.objs.size)).get? b = some o := fun b o e => Heap.get?_push_of_some _ (Heap.get?_push_of_some _ e)
  have hget : ((hp.push (kdv_tup [v])).push (excO C hp.objs.size)).get? (hp.objs.size + 1) = some (excO C hp.objs.size) := by heap_get
  have hnx : K.lookup (hp.objs.size + 1) = none := by
    cases e : K.lookup (hp.objs.size + 1) with
    | none => rfl
    | some o =>
      have z : hp.get? (hp.objs.size + 1) = some o := X _ _ e
      exact absurd (Nat.lt_of_succ_lt (Heap.lt_size z)) (Nat.lt_irrefl _)
  refine call_own F.excBase_ValueError (fun X => refsVE_contains X bm hbm) (X _ _ hC) (looks_findIn X T.iC) (fun self => bind_fn X self T.tI) (by rw [sizeLine_eq]; exact (by decide : 1 ≤ 16777216)) ?_
  refine init_ok (s := ⟨(hp.push (kdv_tup [v])).push (excO C hp.objs.size), g, dr, tk, os⟩) T (X.keeps k) (hlim.keeps k) (hg.keeps k) ⟨mb, hb1.keeps k, hb2⟩ hget hnx sv ?_ fun h' tk' dx t1 ⟨k', hx, dn, dne, hns⟩ => ?_
  · show A.depth + 1 < recursionLimit
    exact hroom
  · have old : ∀ b o, hp.get? b = some o → h'.get? b = some o := fun b o e => k' b o (Nat.ne_of_lt (Nat.lt_succ_of_lt (Heap.lt_size e))) (k b o e)
    have z : hp.objs.size + 1 + 1 ≤ dx := by
      first
        | (simpa only [Heap.size_push] using dn)
        | exact dn
        | (have q := dn; rw [Heap.size_push, Heap.size_push] at q; exact q)
    exact ⟨rfl, hq h' tk' (hp.objs.size + 1) dx ⟨old, Nat.le_succ _, ⟨_, _, hx, rfl, rfl, rfl, rfl⟩, Nat.le_trans (Nat.le_trans (Nat.le_succ _) (Nat.le_succ _)) z, dne, hns⟩⟩
end
end SuX
end PySem
namespace Z
open PySem PySem.Spec L2
open PyProof.Rows hiding St
theorem relO_one {f : Str} {v : V} {v' : Value} (r : RelV v v') (g : Str) : RelO (List.lookup g [(f, v)]) (if g = f then some v' else none) := by
  by_cases hw : g = f
  · subst hw
    rw [if_pos rfl]
    have q : List.lookup g [(g, v)] = some v := by simp [List.lookup]
    rw [q]
    exact r
  · rw [if_neg hw]
    have qw : (g == f) = false := by simpa using hw
    have q2 : List.lookup g [(f, v)] = none := by simp [List.lookup, qw]
    rw [q2]
    trivial
/-- a datum that such an error may bear -/
def SD : V → Prop
  | .str x => x.length ≤ 1000000
  | .int i => i.natAbs ≤ 1000000
  | _ => False
theorem SD.sv {v : V} {u : Value} (r : RelV v u) (h : SD v) : PySem.SuX.SV u := by
  cases v with
  | str x => obtain ⟨t, rfl⟩ := r; exact .inl ⟨_, _, rfl, h⟩
  | int i => obtain ⟨t, rfl⟩ := r; exact .inr ⟨_, _, rfl, h⟩
  | _ => exact h.elim
/-- the class called with one value -/
def tMkS (C : Addr) (f : Str) (ta : TA) : L2.St → Hp → XK → Prop := fun σ H Q => ta σ H fun vs H1 => ∃ v, vs = [v] ∧ SD v ∧ ∀ d, H1 d = none → Q (.ref C) (some d) (upd H1 d (.xd [(f, v)]))
section
variable {X : Cx} {x f : Str} {C fI cc cda : Addr}
theorem pmk_sup {a : Expr} {ta : TA} {p pos : Pos} {k : Nat} (T : PySem.SuX.SupT X.prog X.w X.K X.mg x f C fI cc cda) (hr : Room (k + 1) X.A) (ha : PA X [a] ta) (hg : Gl X x := by rfl) (hdb : (x == ("__debug__" : Str)) = false := by decide)
    (he : starEach (a :: []) X.env = (false, eval a X.env) :: starEach [] X.env := by rfl) (hpl : (backTo pos (starEach [] X.env)).any (·.1) = false := by rfl) :
    PMk X (.Call (.Name x p) [a] [] pos) (tMkS C f ta) := by
  intro pins s σ H Q I h
  refine wpAny_Call_Name_kw (ld_glob I hg T.gC ?_ hdb)
  refine PySem.W.callWith_K (h₀ := X.base) I.ok.mod.kin T.oex.kC (thn (ha.run pos pins s σ H _ I h) fun us s1 hh => ?_) he hpl
  obtain ⟨vs, H1, I1, r1, v, ev, sd, q1⟩ := hh
  subst ev
  refine ⟨I1.kIn, ?_⟩
  cases r1 with
  | cons rv rn =>
    rename_i v' us'
    cases rn
    show wpAny _ _ (call (.ref C) [v']) _ _ _
    have hlim := I1.nolimit
    obtain ⟨mb, hb1, hb2⟩ := I1.mod.blt
    obtain ⟨hp, g, dr, tk, os⟩ := s1
    refine wpAny_call (PySem.SuX.made_ok T I1.kIn hlim (I1.mod.glob.keeps I1.bk) ⟨mb, hb1.keeps I1.bk, hb2⟩ (sd.sv rv) (by have := hr.dp; omega) fun h' tk' e d M => ?_)
    show MkP X pins σ Q (.ref e) ⟨h', g, dr, tk', os⟩
    obtain ⟨oe, fv, hoe, hc, hd, hdat, h1⟩ := M.obj
    have hns := M.ns
    obtain ⟨G', g1, g2⟩ := restrict h' fun b => decide (b ≠ e)
    have gk : ∀ b, b ≠ e → G'.get? b = h'.get? b := fun b hb => g1 b (decide_eq_true hb)
    have ge : G'.get? e = none := g2 e (by simp)
    have old : ∀ b o, hp.get? b = some o → G'.get? b = some o := fun b o q => (gk b (Nat.ne_of_lt (Nat.lt_of_lt_of_le (Heap.lt_size q) M.new))).trans (M.keep b o q)
    have ob : ObjOk X.prog X.w (upd H1 d (.xd [(f, v)])) G' d (.xd [(f, v)]) :=
      ⟨_, hns.at (fun o q => (gk d M.dne).trans q), fun f => relO_one rv f⟩
    have J : Inv X pins σ (upd H1 d (.xd [(f, v)])) ⟨G', g, dr, tk', os⟩ := I1.laid (t' := tk') old M.dbig ob
    refine ⟨e, oe, fv, ⟨G', g, dr, tk', os⟩, _, .ref C, some d, rfl, J, fun b o q => ?_, ge, hoe, ⟨hc, hd⟩, hdat, h1, ?_, rfl, I1.bare, raises_own T.oex.exC T.oex.tyC, q1 d (I1.hok.fresh M.dbig)⟩
    · by_cases hb : b = e
      · have q' : G'.get? b = some o := q
        rw [hb, ge] at q'; cases q'
      · exact (gk b hb).symm.trans q
    · rw [upd_ne (Ne.symm M.dne)]
      exact I1.hok.fresh M.new
end
end Z
/-! Z: texts: methods, str, int, ord, divmod, more operations; a list's list that grows; errors with a field. -/
namespace Z
open PySem PySem.Spec L2
open PyProof.Rows hiding St
/-! ### methods of texts -/
structure Sm (X : Cx) (name : Str) (f : Str → List T → Option T) : Prop where
  p : ∃ id r, Slot "str" name id ∧ typeOf (.builtin id) = pure (.type "method_descriptor") ∧ MtR X id r ∧ ∀ (H : Hp) (x : Str) (xs : List T) (vs : List V) (z : T) (Q : VK), Vws X.K H vs xs → f x xs = some z → (∀ v H' G, Same H H' → Own X.K H' v z G → Fresh H G → Q v H') → r (.str x) vs H Q
def strOf : T → Option Str
  | .d (.str z) => some z
  | _ => none
def gSm (f : Str → List T → Option T) (g : En → R T) (gs : En → R (List T)) : En → R T := fun en => (g en).bind fun x => match strOf x with
  | some z => (gs en).bind fun xs => .of (f z xs)
  | none => .no
section
variable {X : Cx} {W : WX} {a e : Expr} {es : List Expr} {g : En → R T} {gs : En → R (List T)} {name : Str} {f : Str → List T → Option T} {apos pos : Pos}
theorem n_sm (o : Sm X name f) (ha : PV X W a g) (hs : PAv X W (e :: es) gs) (hbase : attributeBase a name X.env (eval a X.env) = eval a X.env := by rfl)
    (hfew : ((backTo pos (starEach (e :: es) X.env)).all (fun x => !x.1) && (backToKw pos (keywordEach [] X.env)).all (fun x => x.1.isSome) && decide ((e :: es).length + ([] : List Keyword).length + (if ([] : List Keyword).isEmpty then 0 else 1) < 30)) = true := by rfl)
    (hline : (apos.endLine == pos.line) = true := by rfl) (hst : starEach (e :: es) X.env = (false, eval e X.env) :: starEach es X.env := by rfl) (hplain : (backTo pos (starEach es X.env)).any (·.1) = false := by rfl) :
    PN X W (.Call (.Attribute a name apos) (e :: es) [] pos) (gSm f g gs) := by
  obtain ⟨id, r, sl, ty, mt, q⟩ := o.p
  obtain ⟨t, pa, s⟩ := ha
  obtain ⟨t2, pa2, s2⟩ := hs
  refine ⟨_, pe_bm PySem.F.plainAttrs_str sl ty mt pa pa2 hbase hfew hline hst hplain, fun σ H en Q ve h => s σ H en _ ve ?_⟩
  unfold gSm at h
  cases e1 : g en with
  | ok x =>
    rw [e1] at h
    intro v H' G sm ow
    simp only [R.bind_ok] at h
    cases es : strOf x with
    | none => rw [es] at h; exact h.elim
    | some z =>
      rw [es] at h
      unfold strOf at es
      split at es <;> cases es
      cases ow with
      | d rr =>
        cases rr
        refine ⟨rfl, s2 σ H' en _ (ve.mono sm) ?_⟩
        cases e2 : gs en with
        | ok xs =>
          rw [e2] at h
          intro vs H2 sm2 w
          simp only [R.bind_ok] at h
          cases ef : f z xs with
          | none => rw [ef] at h; exact h.elim
          | some y =>
            rw [ef] at h
            exact q H2 z xs vs y Q w ef fun v H3 G s3 o fr => h v H3 G ((sm.trans sm2).trans s3) o (fr.back (sm.trans sm2))
        | ex c => rw [e2] at h; exact XQ.mono (W := W) sm h
        | no => rw [e2] at h; exact h
  | ex c => rw [e1] at h; exact h
  | no => rw [e1] at h; exact h
theorem n_sm0 (o : Sm X name f) (ha : PV X W a g) (hbase : attributeBase a name X.env (eval a X.env) = eval a X.env := by rfl) (hline : (apos.endLine == pos.line) = true := by rfl) :
    PN X W (.Call (.Attribute a name apos) [] [] pos) (gSm f g aNil) := by
  obtain ⟨id, r, sl, ty, mt, q⟩ := o.p
  obtain ⟨t, pa, s⟩ := ha
  refine ⟨_, pe_bm0 PySem.F.plainAttrs_str sl ty mt pa hbase hline, fun σ H en Q ve h => s σ H en _ ve ?_⟩
  unfold gSm at h
  cases e1 : g en with
  | ok x =>
    rw [e1] at h
    intro v H' G sm ow
    simp only [R.bind_ok] at h
    cases es : strOf x with
    | none => rw [es] at h; exact h.elim
    | some z =>
      rw [es] at h
      unfold strOf at es
      split at es <;> cases es
      cases ow with
      | d rr =>
        cases rr
        refine ⟨rfl, ?_⟩
        simp only [aNil, R.bind_ok] at h
        cases ef : f z [] with
        | none => rw [ef] at h; exact h.elim
        | some y =>
          rw [ef] at h
          exact q H' z [] [] y Q .nil ef fun v H3 G s3 o fr => h v H3 G (sm.trans s3) o (fr.back sm)
  | ex c => rw [e1] at h; exact h
  | no => rw [e1] at h; exact h
def fZfill (z : Str) : List T → Option T
  | [.d (.int i)] => if PadOk i = true then some (.d (.str (Txt.zfill z i))) else none
  | _ => none
theorem sm_zfill : Sm X "zfill" fZfill := ⟨_, _, PySem.F.slot_str_zfill, PySem.F.type_str_zfill, mt_zfill, fun H x xs vs z Q w e q => by
  unfold fZfill at e
  split at e
  · split at e <;> cases e
    rename_i hp
    cases w with | cons o t => cases t; cases o with | d r => cases r; exact ⟨_, _, rfl, rfl, hp, fin_d (.str _) q⟩
  · cases e⟩
def fFind (z : Str) : List T → Option T
  | [.d (.str y)] => some (.d (.int (Txt.find z y)))
  | [.d (.str y), .d (.int i)] => some (.d (.int (Txt.find3 z y i)))
  | _ => none
theorem sm_find : Sm X "find" fFind := ⟨_, _, PySem.F.slot_str_find, PySem.F.type_str_find, MtR.or mt_find mt_find3, fun H x xs vs z Q w e q => by
  unfold fFind at e
  split at e
  · cases e
    cases w with | cons o t => cases t; cases o with | d r => cases r; exact .inl ⟨_, _, rfl, rfl, fin_d (.int _) q⟩
  · cases e
    cases w with | cons o t => cases t with | cons o2 t => cases t; cases o with | d r => cases o2 with | d r2 => cases r; cases r2; exact .inr ⟨_, _, _, rfl, rfl, fin_d (.int _) q⟩
  · cases e⟩
def asStrs : List D → Option (List Str)
  | [] => some []
  | .str i :: r => (asStrs r).map (i :: ·)
  | _ :: _ => none
@[simp] theorem asStrs_map : ∀ ns : List Str, asStrs (ns.map D.str) = some ns
  | [] => rfl
  | n :: r => by rw [List.map_cons, asStrs, asStrs_map r]; rfl
theorem asStrs_eq : ∀ {ds : List D} {ns : List Str}, asStrs ds = some ns → ds = ns.map D.str
  | [], ns, h => by cases h; rfl
  | .str i :: r, ns, h => by
    unfold asStrs at h
    cases e : asStrs r with
    | none => rw [e] at h; cases h
    | some es => rw [e] at h; cases h; rw [asStrs_eq e]; rfl
  | .non :: _, _, h => by cases h
  | .bl _ :: _, _, h => by cases h
  | .int _ :: _, _, h => by cases h
  | .tup _ :: _, _, h => by cases h
  | .rol _ :: _, _, h => by cases h
theorem RepDs.strs {K : PySem.W.Frag} {H : Hp} : ∀ {vs : List V} {ns : List Str}, RepDs K H vs (ns.map D.str) → vs = ns.map V.str
  | _, [], .nil => rfl
  | _, n :: r, .cons (.str _) t => by rw [RepDs.strs t]; rfl
def fJoin (z : Str) : List T → Option T
  | [x] => (dataOf x).bind fun ds => (asStrs ds).bind fun ns => if (ns.map (·.length)).sum + ns.length * z.length ≤ most then some (.d (.str (Txt.join z ns))) else none
  | _ => none
theorem sm_join : Sm X "join" fJoin := ⟨_, _, PySem.F.slot_str_join, PySem.F.type_str_join, mt_join, fun H x xs vs z Q w e q => by
  unfold fJoin at e
  split at e
  · rename_i y
    obtain ⟨ds, e1, ea⟩ := Option.bind_eq_some_iff.mp e
    obtain ⟨ns, e2, eb⟩ := Option.bind_eq_some_iff.mp ea
    clear e ea
    have e3 := asStrs_eq e2
    subst e3
    by_cases hz : (ns.map (·.length)).sum + ns.length * _root_.PySem.Str.length x ≤ most
    case neg => rw [if_neg hz] at eb; cases eb
    rw [if_pos hz] at eb
    cases eb
    cases w with
    | cons o t =>
      cases t
      obtain ⟨a, us, rfl, s, r⟩ := dataOf_ok o e1
      have e4 := r.strs
      subst e4
      exact ⟨_, a, ns, rfl, rfl, s, hz, fin_d (.str _) q⟩
  · cases e⟩
def fStarts (z : Str) : List T → Option T
  | [.d (.str y)] => some (.d (.bl (Txt.startswith z y)))
  | _ => none
theorem sm_starts : Sm X "startswith" fStarts := ⟨_, _, PySem.F.slot_str_startswith, PySem.F.type_str_startswith, mt_startswith, fun H x xs vs z Q w e q => by
  unfold fStarts at e
  split at e
  · cases e
    cases w with | cons o t => cases t; cases o with | d r => cases r; exact ⟨_, _, rfl, rfl, fin_d (.bl _) q⟩
  · cases e⟩
/-! ### str, int, ord, divmod -/
def fStr : List T → Option T
  | [.d (.int i)] => if i.natAbs.log2 < 1920 then some (.d (.str (toString i))) else none
  | [.d (.str z)] => some (.d (.str z))
  | _ => none
theorem f_str : Bf X (.type "str") fStr := ⟨_, call_str_int.or SkE.call_str_str, fun H xs vs z Q w e q => by
  unfold fStr at e
  split at e
  · split at e <;> cases e
    rename_i h
    cases w with | cons o t => cases t; cases o with | d r => cases r; exact .inl ⟨_, rfl, h, fin_d (.str _) q⟩
  · cases e
    cases w with | cons o t => cases t; cases o with | d r => cases r; exact .inr ⟨_, rfl, fin_d (.str _) q⟩
  · cases e⟩
def fIntS : List T → Option T
  | [.d (.int i)] => some (.d (.int i))
  | [.d (.bl k)] => some (.d (.int (if k then 1 else 0)))
  | [.d (.str z)] => if z.length ≤ 640 then (PySem.intText? z).map fun n => .d (.int n) else none
  | _ => none
theorem f_intS : Bf X (.type "int") fIntS := ⟨_, call_int1.or call_int_str, fun H xs vs z Q w e q => by
  unfold fIntS at e
  split at e
  · cases e
    cases w with | cons o t => cases t; cases o with | d r => cases r; exact .inl (.inl ⟨_, rfl, fin_d (.int _) q⟩)
  · cases e
    cases w with | cons o t => cases t; cases o with | d r => cases r; exact .inl (.inr ⟨_, rfl, fin_d (.int _) q⟩)
  · split at e
    · rename_i h
      obtain ⟨n, e1, rfl⟩ := Option.map_eq_some_iff.mp e
      cases w with | cons o t => cases t; cases o with | d r => cases r; exact .inr ⟨_, _, rfl, e1, h, fin_d (.int _) q⟩
    · cases e
  · cases e⟩
def fOrd : List T → Option T
  | [.d (.str z)] => if z.length = 1 then some (.d (.int (z.cps.getD 0 0 : Nat))) else none
  | _ => none
theorem f_ord : Bf X (.builtin "ord") fOrd := ⟨_, call_ord, fun H xs vs z Q w e q => by
  unfold fOrd at e
  split at e
  · split at e <;> cases e
    rename_i h
    cases w with | cons o t => cases t; cases o with | d r => cases r; exact ⟨_, rfl, h, fin_d (.int _) q⟩
  · cases e⟩
def fDivmod : List T → Option T
  | [.d (.int i), .d (.int j)] => if 0 < j ∧ Builtin.divisionGoesByPylong i j = false then some (.d (.tup [.int (i / j), .int (i % j)])) else none
  | _ => none
theorem f_divmod : Bf X (.builtin "divmod") fDivmod := ⟨_, call_divmodW, fun H xs vs z Q w e q => by
  unfold fDivmod at e
  split at e
  · split at e <;> cases e
    rename_i h
    cases w with | cons o t => cases t with | cons o2 t => cases t; cases o with | d r => cases o2 with | d r2 =>
      cases r; cases r2
      exact ⟨_, _, rfl, h, fun p np => q _ _ [] (same_new np) (.d (.tup (SqT.of upd_same) (.cons (.int _) (.cons (.int _) .nil)))) Fresh.nil⟩
  · cases e⟩
/-! ### operations -/
def fGtS : T → T → Option T
  | .d (.str i), .d (.str j) => some (.d (.bl (decide (j.cps.toList < i.cps.toList))))
  | _, _ => none
theorem m_gtS : Cm X .Gt fGtS := ⟨_, op_gt_str, fun H x y z vx vy Gx Gy Q ox oy e q => by
  unfold fGtS at e
  split at e <;> cases e
  cases ox with | d r1 => cases oy with | d r2 => cases r1; cases r2; exact ⟨_, _, rfl, rfl, fin_d (.bl _) q⟩⟩
theorem op_mul_str : OpR X (binaryOp .Mult) (fun x y H Q => ∃ z n, x = .str z ∧ y = .int n ∧ PySem.MulOk z n ∧ Q (.str (Txt.mul z n)) H) := by
  intro pins s σ H x y v u Q I rx ry h
  obtain ⟨z, n, rfl, rfl, hok, q⟩ := h
  obtain ⟨t, rfl⟩ := rx
  obtain ⟨t', rfl⟩ := ry
  exact PySem.SB.mul hok fun t' k => ⟨.str _, H, I.tok _, ⟨_, rfl⟩, q⟩
end
/-! ### a list within a list -/
theorem Owns.child {K : PySem.W.Frag} {H : Hp} {ys : List T} : ∀ {vs : List V} {xs : List T} {F : List Addr} {j : Nat}, Owns K H vs xs F → xs[j]? = some (.l ys) → F.Nodup →
    ∃ (a1 : Addr) (us : List V) (F1 Fo : List Addr), vs[j]? = some (.ref a1) ∧ H a1 = some (.lst us) ∧ Owns K H us ys F1 ∧ (a1 :: F1).Nodup ∧ (∀ c, c ∈ F ↔ c ∈ a1 :: F1 ∨ c ∈ Fo) ∧ (∀ c ∈ a1 :: F1, c ∉ Fo) ∧
      ∀ (H' : Hp) (us' : List V) (ys' : List T) (F1' : List Addr), Pst H H' → (∀ c ∈ Fo, ∀ o, H c = some o → H' c = some o) → H' a1 = some (.lst us') → Owns K H' us' ys' F1' → (a1 :: F1').Nodup → (∀ c ∈ F1', c ∉ Fo) →
        ∃ F', Owns K H' vs (xs.set j (.l ys')) F' ∧ F'.Nodup ∧ ∀ c, c ∈ F' ↔ c ∈ a1 :: F1' ∨ c ∈ Fo
  | _, _, _, j, .nil, h, _ => by simp at h
  | _, _, _, 0, .cons (F := F) (G := F2) o t, h, nd => by
    simp at h; subst h
    obtain ⟨n1, n2, n3⟩ := List.nodup_append.mp nd
    cases o with
    | @l a1 us _ F1 hH r =>
      refine ⟨a1, us, F1, F2, rfl, hH, r, n1, fun c => List.mem_append, fun c m z => n3 c m c z rfl, fun H' us' ys' F1' p k h' r' nd' d => ?_⟩
      refine ⟨(a1 :: F1') ++ F2, .cons (.l h' r') (Owns.frame p t k), List.nodup_append.mpr ⟨nd', n2, fun c hc d' hd z => ?_⟩, fun c => List.mem_append⟩
      subst z
      rcases List.mem_cons.mp hc with rfl | hc
      · exact n3 c List.mem_cons_self c hd rfl
      · exact d c hc hd
  | _, _, _, j + 1, .cons (F := F) (G := F2) o t, h, nd => by
    obtain ⟨n1, n2, n3⟩ := List.nodup_append.mp nd
    obtain ⟨a1, us, F1, Fo, h1, h2, h3, h4, h5, h6, h7⟩ := Owns.child (j := j) t (by simpa using h) n2
    refine ⟨a1, us, F1, F ++ Fo, by simpa using h1, h2, h3, h4, fun c => ?_, fun c m z => ?_, fun H' us' ys' F1' p k h' r' nd' d => ?_⟩
    · rw [List.mem_append, h5 c, List.mem_append]
      constructor
      · rintro (a | b | b)
        · exact .inr (.inl a)
        · exact .inl b
        · exact .inr (.inr b)
      · rintro (a | b | b)
        · exact .inr (.inl a)
        · exact .inl b
        · exact .inr (.inr b)
    · rcases List.mem_append.mp z with z | z
      · exact n3 c z c ((h5 c).mpr (.inl m)) rfl
      · exact h6 c m z
    · obtain ⟨F', g1, g2, g3⟩ := h7 H' us' ys' F1' p (fun c m => k c (List.mem_append_right _ m)) h' r' nd' (fun c m z => d c m (List.mem_append_right _ z))
      refine ⟨F ++ F', .cons (o.frame p fun c m => k c (List.mem_append_left _ m)) g1, List.nodup_append.mpr ⟨n1, g2, fun c hc d' hd z => ?_⟩, fun c => ?_⟩
      · subst z
        rcases (g3 c).mp hd with m | m
        · rcases List.mem_cons.mp m with rfl | m
          · exact n3 c hc c ((h5 c).mpr (.inl List.mem_cons_self)) rfl
          · exact d c m (List.mem_append_left _ hc)
        · exact n3 c hc c ((h5 c).mpr (.inr m)) rfl
      · rw [List.mem_append, g3 c, List.mem_append]
        constructor
        · rintro (a | b | b)
          · exact .inr (.inl a)
          · exact .inl b
          · exact .inr (.inr b)
        · rintro (a | b | b)
          · exact .inr (.inl a)
          · exact .inl b
          · exact .inr (.inr b)
section
variable {X : Cx} {W : WX} {e ix : Expr} {pos apos : Pos} {g gi : En → R T}
/-- the list at a place of the list that a name holds -/
def kidOf (xs : List T) (k : Int) : Option (Nat × List T) := (ixN xs.length k).bind fun j => match xs[j]? with
  | some (.l ys) => some (j, ys)
  | _ => none
def mAppIx (i : Nat) (gi g : En → R T) : En → RM T := fun en => match ownAt en i with
  | some (.l xs) => match gi en with
    | .ok (.d (.int k)) => match kidOf xs k with
      | some (j, ys) => match g en with
        | .ok x => if ys.length < most then .ok (.d .non) (setO en i (.l (xs.set j (.l (ys ++ [x]))))) else .no
        | .ex c => .ex c en
        | .no => .no
      | none => .no
    | _ => .no
  | _ => .no
theorem m_appIx (i : Nat) {x : Str} {p p2 : Pos} (hi : PV X W ix gi) (ha : PN X W e g) (hN : X.N[i]? = some x := by rfl) (hv : Vis X.env.scope x := by first | exact Or.inl rfl | exact Or.inr (Or.inl rfl) | exact Or.inr (Or.inr rfl)) (hd : (x == ("__debug__" : Str)) = false := by decide) (hcd : (x == ("__classdict__" : Str)) = false := by decide) (hs0 : PlainIx ix := by exact fun _ _ => rfl)
    (hbase : attributeBase (.Subscript (.Name x p) ix p2) "append" X.env (eval (.Subscript (.Name x p) ix p2) X.env) = eval (.Subscript (.Name x p) ix p2) X.env := by rfl)
    (hfew : ((backTo pos (starEach [e] X.env)).all (fun x => !x.1) && (backToKw pos (keywordEach [] X.env)).all (fun x => x.1.isSome) && decide ([e].length + ([] : List Keyword).length + (if ([] : List Keyword).isEmpty then 0 else 1) < 30)) = true := by rfl)
    (hline : (apos.endLine == pos.line) = true := by rfl) (hs : starEach [e] X.env = (false, eval e X.env) :: starEach [] X.env := by rfl) (hplain : (backTo pos (starEach [] X.env)).any (·.1) = false := by rfl) :
    PM X W (.Call (.Attribute (.Subscript (.Name x p) ix p2) "append" apos) [e] [] pos) (mAppIx i gi g) := by
  obtain ⟨t1, pp1, s1⟩ := hi
  obtain ⟨t, pp, s⟩ := ha
  refine ⟨_, pe_bm PySem.F.plainAttrs_list PySem.F.slot_list_append PySem.F.type_list_append mt_append (pe_ix ix_seq (pe_var hN hv hd hcd) pp1 hs0) (pa_cons pp pa_nil hs) hbase hfew hline hs hplain, fun σ H en Fs Q ok q => ?_⟩
  unfold mAppIx at q
  cases e0 : ownAt en i with
  | none => rw [e0] at q; exact q.elim
  | some x0 =>
    rw [e0] at q
    cases x0 with
    | d d => exact q.elim
    | l xs =>
      obtain ⟨v0, h0, o0⟩ := ok.has i _ (own_at e0)
      simp only at q
      cases eg : gi en with
      | ex c => rw [eg] at q; exact q.elim
      | no => rw [eg] at q; exact q.elim
      | ok y =>
        rw [eg] at q
        cases y with
        | l _ => exact q.elim
        | d y =>
          cases y with
          | int k =>
            simp only at q
            cases ek : kidOf xs k with
            | none => rw [ek] at q; exact q.elim
            | some jy =>
              obtain ⟨j, ys⟩ := jy
              rw [ek] at q
              simp only at q
              unfold kidOf at ek
              obtain ⟨j', e1, e2⟩ := Option.bind_eq_some_iff.mp ek
              split at e2
              · rename_i ys' e3
                cases e2
                refine ⟨v0, h0, s1 σ H en _ ok.ven ?_⟩
                rw [eg]
                intro w H1 G1 sm1 ow1
                cases ow1 with
                | d r1 =>
                  cases r1
                  obtain ⟨a0, vs, F, rfl, hH, ow, hF⟩ := (o0.mono sm1).lst
                  have oi : ownAt en i ≠ none := by rw [e0]; exact fun z => by cases z
                  have nF := ok.nod i oi
                  rw [hF] at nF
                  obtain ⟨a1, us, F1, Fo, c1, c2, c3, c4, c5, c6, c7⟩ := ow.child e3 (List.nodup_cons.mp nF).2
                  have hat : atI vs k = some (.ref a1) := by unfold atI; rw [ow.length, e1]; exact c1
                  refine .inl ⟨_, _, _, _, rfl, rfl, SqL.of hH, hat, ty_list c2, s σ H1 en _ (ok.ven.mono sm1) ?_⟩
                  cases e4 : g en with
                  | no => rw [e4] at q; exact q.elim
                  | ex c => rw [e4] at q; exact fun cls dx H' sm ie => q cls dx H' Fs σ ((Aft.refl ok).fin (sm1.trans sm) Fresh.nil) ie
                  | ok z =>
                    rw [e4] at q
                    simp only at q
                    split at q
                    · rename_i hz
                      intro v H2 G2 sm2 ow2 fr
                      have sm := sm1.trans sm2
                      refine ⟨a1, us, v, rfl, rfl, sm2 _ _ c2, by rw [most_eq, c3.length]; exact hz, ?_⟩
                      have gH : ∀ c ∈ G2, H1 c = none := fr.2
                      have nG : ∀ c ∈ G2, ∀ d ∈ a0 :: F, c ≠ d := fun c m d hd z => by
                        subst z
                        obtain ⟨us, hu⟩ := (Own.l hH ow).dom c hd
                        rw [gH c m] at hu; cases hu
                      have a1F : a1 ∈ F := (c5 a1).mpr (.inl List.mem_cons_self)
                      have p : Pst H2 (upd H2 a1 (.lst (us ++ [v]))) := pst_upd (sm2 _ _ c2)
                      have nF1 := List.nodup_cons.mp c4
                      obtain ⟨F', g1, g2, g3⟩ := c7 (upd H2 a1 (.lst (us ++ [v]))) (us ++ [v]) (ys ++ [z]) (F1 ++ G2) ((Pst.of sm2).trans p) (fun c m o ho => by
                          have hc : c ≠ a1 := fun z => c6 a1 List.mem_cons_self (by rw [← z]; exact m)
                          rw [upd_ne hc]; exact sm2 _ _ ho) upd_same
                        (((c3.mono sm2).snoc ow2).frame p fun c m o ho => by
                          have hc : c ≠ a1 := fun z => (List.mem_append.mp m).elim (fun m => nF1.1 (by rw [← z]; exact m)) fun m => nG c m c (List.mem_cons_of_mem _ (by rw [z]; exact a1F)) rfl
                          rw [upd_ne hc]; exact ho)
                        (List.nodup_cons.mpr ⟨fun m => (List.mem_append.mp m).elim nF1.1 fun m => nG a1 m a1 (List.mem_cons_of_mem _ a1F) rfl, List.nodup_append.mpr ⟨nF1.2, fr.1, fun c hc d hd z => nG d hd c (List.mem_cons_of_mem _ ((c5 c).mpr (.inl (List.mem_cons_of_mem _ hc)))) z.symm⟩⟩)
                        (fun c m z => (List.mem_append.mp m).elim (fun m => c6 c (List.mem_cons_of_mem _ m) z) fun m => nG c m c (List.mem_cons_of_mem _ ((c5 c).mpr (.inr z))) rfl)
                      have a01 : a0 ≠ a1 := fun z => (List.nodup_cons.mp nF).1 (z ▸ a1F)
                      have sub : ∀ c ∈ F', c ∈ F ∨ c ∈ G2 := fun c m => by
                        rcases (g3 c).mp m with m | m
                        · rcases List.mem_cons.mp m with rfl | m
                          · exact .inl a1F
                          · rcases List.mem_append.mp m with m | m
                            · exact .inl ((c5 c).mpr (.inl (List.mem_cons_of_mem _ m)))
                            · exact .inr m
                        · exact .inl ((c5 c).mpr (.inr m))
                      have nA : (a0 :: F').Nodup := List.nodup_cons.mpr ⟨fun m => (sub a0 m).elim (List.nodup_cons.mp nF).1 fun m => nG a0 m a0 List.mem_cons_self rfl, g2⟩
                      have back : ∀ c ∈ (a0 :: F') ++ [], c ∈ Fs i ∨ H c = none := fun c m => by
                        rw [List.append_nil] at m
                        rw [hF]
                        rcases List.mem_cons.mp m with rfl | m
                        · exact .inl List.mem_cons_self
                        · exact (sub c m).imp (List.mem_cons_of_mem _) fun m => sm1.free (gH c m)
                      have st : Stp H (· ∈ Fs i) (· ∈ Fs i) (upd H2 a1 (.lst (us ++ [v]))) (· ∈ (a0 :: F') ++ []) (· ∈ (a0 :: F') ++ []) :=
                        ⟨(Pst.of sm).trans p, fun c ob ho n => by
                            have hc : c ≠ a1 := fun z => n (by rw [hF, z]; exact List.mem_cons_of_mem _ a1F)
                            rw [upd_ne hc]; exact sm _ _ ho, fun c ho => by
                            by_cases hc : c = a1
                            · rw [hc, upd_same] at ho; cases ho
                            · rw [upd_ne hc] at ho; exact sm.free ho, back, back⟩
                      have A2 := (Aft.refl ok).slot (G' := []) e0 h0 st (.l (by rw [upd_ne a01]; exact sm2 _ _ hH) g1) (by rw [List.append_nil]; exact nA)
                      exact q _ _ _ [] A2 (.d .non)
                    · exact q.elim
              · cases e2
          | _ => exact q.elim
end
/-! ### a text many times -/
def fMulS : T → T → Option T
  | .d (.str z), .d (.int n) => if 1 ≤ n ∧ n ≤ 1000000 ∧ z.length ≤ 16 then some (.d (.str (Txt.mul z n))) else none
  | _, _ => none
theorem b_mulS {X : Cx} : Bn X .Mult fMulS := ⟨_, op_mul_str, fun H x y z vx vy Gx Gy Q ox oy e q => by
  unfold fMulS at e
  split at e
  · split at e <;> cases e
    rename_i z n h
    cases ox with | d r1 => cases oy with | d r2 =>
      cases r1; cases r2
      refine ⟨_, _, rfl, rfl, ?_, fin_d (.str _) q⟩
      refine ⟨?_, fun _ _ => ?_, fun _ _ => ?_⟩
      · simp only [Bool.or_eq_false_iff, decide_eq_false_iff_not]; omega
      · have h2 : (16 : Int) ≤ (2 ^ 63 - 1) / n := (Int.le_ediv_iff_mul_le (by omega)).mpr (by omega)
        omega
      · unfold Builtin.Str.tooLong
        have h1 : sizeLine = 16777216 := sizeLine_eq
        have : z.length * n.toNat ≤ 16 * 1000000 := Nat.mul_le_mul h.2.2 (by omega)
        simp only [decide_eq_false_iff_not]
        omega
  · cases e⟩
/-! ### what the classes of errors say -/
section
variable {K : PySem.W.Frag} {mg : Str → Option Value}
theorem hcat_nil {c0 : Addr} : ∀ t b, ([] : List (Str × Bool)).lookup t = some b → ∃ cls, mg t = some cls ∧ PySem.W.exmOne K cls (.ref c0) = some b := fun _ _ h => by cases h
theorem hcat_cons {c0 : Addr} {x : Str} {b0 : Bool} {cls : Value} {r : List (Str × Bool)} (h1 : mg x = some cls) (h2 : PySem.W.exmOne K cls (.ref c0) = some b0) (h : ∀ t b, r.lookup t = some b → ∃ cls, mg t = some cls ∧ PySem.W.exmOne K cls (.ref c0) = some b) :
    ∀ t b, ((x, b0) :: r).lookup t = some b → ∃ cls, mg t = some cls ∧ PySem.W.exmOne K cls (.ref c0) = some b := fun t b e => by
  rw [List.lookup_cons] at e
  by_cases z : t = x
  · subst z
    rw [beq_self_eq_true] at e
    cases e
    exact ⟨cls, h1, h2⟩
  · rw [show (t == x) = false from by simpa using z] at e
    exact h t b e
theorem kit_ref {C D : Addr} (i : PySem.W.isClsIn K C = true) (t : PySem.W.typeIn K (.ref C) = some (.type "type")) (s : PySem.W.subIn K (.ref D) (.ref C) = some true) : PySem.W.kitOne K (.ref D) (.ref C) = some true := by
  unfold PySem.W.kitOne
  split
  · rfl
  · have hc : (PySem.W.clsIn K C).isSome = true := i
    have e2 : ((PySem.W.clsIn K C).isSome && PySem.W.typeIn K (.ref C) == some (.type "type")) = true := by rw [hc, t] <;> rfl
    show (if ((PySem.W.clsIn K C).isSome && PySem.W.typeIn K (.ref C) == some (.type "type")) = true then PySem.W.subIn K (.ref D) (.ref C) else none) = some true
    rw [if_pos e2]; exact s
end
end Z
namespace Z
open PySem PySem.Spec L2 Z
open PyProof.Rows hiding St
/-! Z: texts as lists of signs; a number's figures. -/
open PySem.NumText
abbrev tx (z : List Nat) : Str := ⟨z.toArray⟩
abbrev S (z : List Nat) : T := .d (.str (tx z))
theorem tx_len (z : List Nat) : (tx z).length = z.length := rfl
theorem S_eq {a b : List Nat} (h : a = b) : some (S a) = some (S b) := by rw [h]
theorem tx_inj {a b : List Nat} (h : tx a = tx b) : a = b := by injection h with h; injection h
theorem fLen_S {z : List Nat} (h : z.length ≤ most) : fLen [S z] = some (I z.length) := by
  show (if _ then _ else _) = _
  exact if_pos h
theorem fAdd_S {a b : List Nat} (h : a.length + b.length ≤ most) : fAdd (S a) (S b) = some (S (a ++ b)) := by
  show (if _ then _ else _) = _
  rw [if_pos (show (tx a).length + (tx b).length ≤ most from h)]
  show some (T.d (.str ⟨a.toArray ++ b.toArray⟩)) = _
  rw [List.append_toArray]
theorem fIx_S {z : List Nat} {k : Int} (i : Nat) (hk : k = (i : Int)) (h : i < z.length) (hm : z.length ≤ most) : fIx (S z) (.d (.int k)) = some (S [z[i]]) := by
  rw [hk]
  show (if _ then _ else _) = _
  rw [if_pos (show (tx z).length ≤ most from hm)]
  show (atI z (i : Int)).map _ = _
  rw [atI_nat (by omega) (by omega), Int.toNat_natCast, List.getElem?_eq_getElem h]; rfl
/-- slices, of places within or beyond -/
theorem fSl_S {z : List Nat} (a b : Nat) {l h : Option Int} (hm : z.length ≤ most) (hl : HT.sIx z.length 0 l = a) (hh : HT.sIx z.length z.length h = b) : fSl (S z) l h = some (S ((z.drop a).take (b - a))) := by
  show (if _ then _ else _) = _
  rw [if_pos (show (tx z).length ≤ most from hm)]
  unfold cutS
  rw [show (tx z).length = z.length from rfl, hl, hh]
theorem sIx_n (n d : Nat) (k : Int) (i : Nat) (h : k = (i : Int)) : HT.sIx n d (some k) = min i n := by rw [h, HT.sIx_nat]
theorem fSl_from {z : List Nat} {k : Int} (i : Nat) (hk : k = (i : Int)) (hm : z.length ≤ most) : fSl (S z) (some k) none = some (S (z.drop i)) := by
  rw [fSl_S (min i z.length) z.length hm (sIx_n _ _ _ i hk) rfl]
  refine S_eq ?_
  by_cases h : i ≤ z.length
  · rw [Nat.min_eq_left h, List.take_of_length_le (by rw [List.length_drop]; exact Nat.le_refl _)]
  · rw [Nat.min_eq_right (by omega), List.drop_of_length_le (Nat.le_refl _), List.drop_of_length_le (by omega), List.take_nil]
theorem fSl_to {z : List Nat} {k : Int} (i : Nat) (hk : k = (i : Int)) (hm : z.length ≤ most) : fSl (S z) none (some k) = some (S (z.take i)) := by
  rw [fSl_S 0 (min i z.length) hm rfl (sIx_n _ _ _ i hk)]
  refine S_eq ?_
  rw [List.drop_zero, Nat.sub_zero]
  by_cases h : i ≤ z.length
  · rw [Nat.min_eq_left h]
  · rw [Nat.min_eq_right (by omega), List.take_of_length_le (Nat.le_refl _), List.take_of_length_le (by omega)]
theorem fSl_part {z : List Nat} {k m : Int} (i j : Nat) (hk : k = (i : Int)) (hj : m = (j : Int)) (hm : z.length ≤ most) : fSl (S z) (some k) (some m) = some (S ((z.drop i).take (j - i))) := by
  rw [fSl_S (min i z.length) (min j z.length) hm (sIx_n _ _ _ i hk) (sIx_n _ _ _ j hj)]
  refine S_eq ?_
  by_cases h : i ≤ z.length
  · rw [Nat.min_eq_left h]
    by_cases h2 : j ≤ z.length
    · rw [Nat.min_eq_left h2]
    · rw [Nat.min_eq_right (by omega), List.take_of_length_le (by rw [List.length_drop]; exact Nat.le_refl _), List.take_of_length_le (by rw [List.length_drop]; omega)]
  · rw [show min i z.length = z.length from Nat.min_eq_right (by omega), List.drop_of_length_le (Nat.le_refl z.length), List.drop_of_length_le (show z.length ≤ i by omega), List.take_nil, List.take_nil]
/-- signs that may stand -/
def okc (z : List Nat) : Bool := z.all (· < 1114112)
theorem ok_tx {z : List Nat} (h : okc z = true) : PyData.strOk (tx z) = true := by
  show z.toArray.all _ = true
  rw [List.all_toArray]; exact h
theorem fEq_S {a b : List Nat} (ha : okc a = true) (hb : okc b = true) : fEq (S a) (S b) = some (.d (.bl (decide (a = b)))) := by
  rw [fEq_pln (n := 0) (m := 0) (pln_str (ok_tx ha)) (pln_str (ok_tx hb)) (by decide) (by decide), deq_dec (n := 0) (m := 0) (pln_str (ok_tx ha)) (pln_str (ok_tx hb)) (P := a = b) ⟨fun e => tx_inj (by injection e), fun e => by rw [e]⟩]
theorem fNe_S {a b : List Nat} (ha : okc a = true) (hb : okc b = true) : fNe (S a) (S b) = some (.d (.bl (!decide (a = b)))) := by
  rw [fNe_pln (n := 0) (m := 0) (pln_str (ok_tx ha)) (pln_str (ok_tx hb)) (by decide) (by decide), deq_dec (n := 0) (m := 0) (pln_str (ok_tx ha)) (pln_str (ok_tx hb)) (P := a = b) ⟨fun e => tx_inj (by injection e), fun e => by rw [e]⟩]
theorem fIn_S (c : Nat) (z : List Nat) : fIn (S [c]) (S z) = some (.d (.bl (decide (c ∈ z)))) := by
  show some (T.d (.bl (strIn (tx [c]) (tx z)))) = _
  unfold strIn
  rw [show tx [c] = ⟨#[c]⟩ from rfl, PySem.StrLaws.found_one]
theorem fNotIn_S (c : Nat) (z : List Nat) : fNotIn (S [c]) (S z) = some (.d (.bl (!decide (c ∈ z)))) := by
  show some (T.d (.bl (!strIn (tx [c]) (tx z)))) = _
  unfold strIn
  rw [show tx [c] = ⟨#[c]⟩ from rfl, PySem.StrLaws.found_one]
theorem fLt_S (a b : Nat) : fLt (S [a]) (S [b]) = some (.d (.bl (decide (a < b)))) := by
  show some (T.d (.bl (decide ([a] < [b])))) = _
  rw [PySem.StrLaws.lt_cons_cons, PySem.StrLaws.lt_nil_nil, Bool.and_false, Bool.or_false]
theorem fGtS_S (a b : Nat) : fGtS (S [a]) (S [b]) = some (.d (.bl (decide (b < a)))) := by
  show some (T.d (.bl (decide ([b] < [a])))) = _
  rw [PySem.StrLaws.lt_cons_cons, PySem.StrLaws.lt_nil_nil, Bool.and_false, Bool.or_false]
theorem fOrd_S (a : Nat) : fOrd [S [a]] = some (I a) := by
  show (if (tx [a]).length = 1 then some (T.d (.int ((tx [a]).cps.getD 0 0 : Nat))) else none) = _
  rw [if_pos (show (tx [a]).length = 1 from rfl)]; rfl
theorem items_S (z : List Nat) : items (S z) = some (z.map fun c => S [c]) := rfl
/-- the first place of a sign, from a place -/
theorem fFind_S {z : List Nat} {c : Nat} {k : Int} (i j : Nat) (hk : k = (i : Int)) (hi : i ≤ j) (hj : z[j]? = some c) (hn : ∀ v, i ≤ v → v < j → z[v]? ≠ some c) : fFind (tx z) [S [c], .d (.int k)] = some (I j) := by
  rw [hk]
  show some (T.d (.int (Txt.find3 (tx z) ⟨#[c]⟩ (i : Int)))) = _
  have hjl : j < z.length := (List.getElem?_eq_some_iff.mp hj).1
  have gz : ∀ v : Nat, v < z.length → ((tx z).cps.getD v 0 = c ↔ z[v]? = some c) := fun v hv => by
    show (z.toArray.getD v 0 = c) ↔ _
    rw [Array.getD_eq_getD_getElem?, List.getElem?_toArray, List.getElem?_eq_getElem hv]; simp
  have fi : PySem.fromIndex (tx z).length (i : Int) = i := by
    show (max 0 (if (i : Int) < 0 then (i : Int) + _ else (i : Int))).toNat = i
    rw [if_neg (by omega)]; omega
  rcases PySem.StrLaws.find3_spec (tx z) c (i : Int) with ⟨h1, h2⟩ | ⟨v, h1, h2, h3, h4, h5⟩
  · exact absurd ((gz j hjl).mpr hj) (h2 j (by rw [fi]; exact hi) hjl)
  · rw [fi] at h2 h5
    have e : v = j := by
      rcases Nat.lt_trichotomy v j with h | h | h
      · exact absurd ((gz v h3).mp h4) (hn v h2 h)
      · exact h
      · exact absurd ((gz j hjl).mpr hj) (h5 j hi h)
    rw [h1, e]
theorem fFind_no {z : List Nat} {c : Nat} {k : Int} (i : Nat) (hk : k = (i : Int)) (hn : ∀ v, i ≤ v → z[v]? ≠ some c) : fFind (tx z) [S [c], .d (.int k)] = some (I (-1)) := by
  rw [hk]
  show some (T.d (.int (Txt.find3 (tx z) ⟨#[c]⟩ (i : Int)))) = _
  have gz : ∀ v : Nat, v < z.length → ((tx z).cps.getD v 0 = c ↔ z[v]? = some c) := fun v hv => by
    show (z.toArray.getD v 0 = c) ↔ _
    rw [Array.getD_eq_getD_getElem?, List.getElem?_toArray, List.getElem?_eq_getElem hv]; simp
  have fi : PySem.fromIndex (tx z).length (i : Int) = i := by
    show (max 0 (if (i : Int) < 0 then (i : Int) + _ else (i : Int))).toNat = i
    rw [if_neg (by omega)]; omega
  rcases PySem.StrLaws.find3_spec (tx z) c (i : Int) with ⟨h1, h2⟩ | ⟨v, h1, h2, h3, h4, h5⟩
  · rw [h1]
  · rw [fi] at h2
    exact absurd ((gz v h3).mp h4) (hn v h2)
/-! joined -/
def jn (sep : List Nat) : List (List Nat) → List Nat
  | [] => []
  | [a] => a
  | a :: r => a ++ sep ++ jn sep r
theorem join_tx (sep : List Nat) : ∀ xs : List (List Nat), Str.join (tx sep) (xs.map tx) = tx (jn sep xs)
  | [] => rfl
  | [a] => rfl
  | a :: b :: r => by
    have ih := join_tx sep (b :: r)
    show tx a ++ tx sep ++ Str.join (tx sep) ((b :: r).map tx) = tx (a ++ sep ++ jn sep (b :: r))
    rw [ih]
    show (⟨a.toArray ++ sep.toArray ++ (jn sep (b :: r)).toArray⟩ : Str) = ⟨(a ++ sep ++ jn sep (b :: r)).toArray⟩
    rw [List.append_toArray, List.append_toArray]
theorem fJoin_of {sep : List Nat} {x : T} (xs : List (List Nat)) (hx : dataOf x = some (xs.map fun z => D.str (tx z))) (hl : (xs.map List.length).sum + xs.length * sep.length ≤ most) : fJoin (tx sep) [x] = some (S (jn sep xs)) := by
  show ((dataOf x).bind fun ds => (asStrs ds).bind fun ns => if (ns.map (fun s => PySem.Str.length s)).sum + ns.length * (tx sep).length ≤ most then some (T.d (.str (Txt.join (tx sep) ns))) else none) = _
  rw [hx, Option.bind_some, show (xs.map fun z => D.str (tx z)) = (xs.map tx).map D.str from by rw [List.map_map]; rfl, asStrs_map, Option.bind_some, if_pos]
  · show some (T.d (.str (Txt.join (tx sep) (xs.map tx)))) = _
    rw [show Txt.join (tx sep) (xs.map tx) = Str.join (tx sep) (xs.map tx) from PySem.StrLaws.glued_eq_join _ _, join_tx]
  · rw [List.map_map, List.length_map]; exact hl
/-! figures -/
def dec (n : Nat) : List Nat := (Nat.toDigits 10 n).map Char.toNat
theorem dec_all (n : Nat) : AllDigits (dec n) := by
  intro c hc
  obtain ⟨ch, hch, e⟩ := List.mem_map.mp hc
  have r := PyProof.Rows.digit_range (Nat.isDigit_of_mem_toDigits (by decide) (by decide) hch)
  rw [← e]
  exact r
theorem dec_val (n : Nat) : digitsVal (dec n) = n := PySem.W.KIN.val_back n
theorem dec_ne (n : Nat) : dec n ≠ [] := by
  unfold dec
  intro e
  exact Nat.toDigits_ne_nil (List.map_eq_nil_iff.mp e)
theorem chars_back {cs : List Nat} (h : AllDigits cs) : (cs.map Char.ofNat).map Char.toNat = cs := by
  rw [List.map_map]
  refine (List.map_congr_left fun c hc => ?_).trans (List.map_id cs)
  have := h c hc
  show (Char.ofNat c).toNat = c
  have hv : c.isValidChar := .inl (by omega)
  unfold Char.ofNat
  rw [dif_pos hv]
  rfl
theorem dec_uniq {cs : List Nat} (h : AllDigits cs) (h1 : cs.length = 1 ∨ ∃ c r, cs = c :: r ∧ 49 ≤ c) : cs = dec (digitsVal cs) := by
  unfold dec
  have hl : cs.length = (cs.length - 1) + 1 := by
    rcases h1 with h1 | ⟨c, r, rfl, _⟩
    · omega
    · simp
  rw [toDigits_digitsVal _ cs hl h (h1.imp (fun e => by omega) id), chars_back h]
theorem digitChar_nat : ∀ d : Nat, d < 10 → (Nat.digitChar d).toNat = 48 + d := by decide
theorem dec_small {n : Nat} (h : n < 10) : dec n = [48 + n] := by
  unfold dec
  rw [Nat.toDigits_of_lt_base h, List.map_cons, digitChar_nat n h]; rfl
theorem dec_snoc {n d : Nat} (hn : 0 < n) (hd : d < 10) : dec (10 * n + d) = dec n ++ [48 + d] := by
  unfold dec
  rw [← Nat.toDigits_append_toDigits (by decide) hn hd, List.map_append, Nat.toDigits_of_lt_base hd, List.map_cons, digitChar_nat d hd]; rfl
theorem dec_head : ∀ n : Nat, 0 < n → ∃ c r, dec n = c :: r ∧ 49 ≤ c := by
  intro n
  induction n using Nat.strongRecOn with
  | ind n ih =>
    intro h
    by_cases hs : n < 10
    · exact ⟨48 + n, [], dec_small hs, by omega⟩
    · obtain ⟨c, r, e, hc⟩ := ih (n / 10) (by omega) (by omega)
      refine ⟨c, r ++ [48 + n % 10], ?_, hc⟩
      have := dec_snoc (n := n / 10) (d := n % 10) (by omega) (by omega)
      rw [show 10 * (n / 10) + n % 10 = n by omega] at this
      rw [this, e]; rfl
theorem fold_val : ∀ (b : List Nat) (a : Nat), b.foldl (fun acc c => acc * 10 + (c - 48)) a = a * 10 ^ b.length + digitsVal b
  | [], a => by simp [digitsVal]
  | c :: b, a => by
    unfold digitsVal
    rw [List.foldl_cons, List.foldl_cons, fold_val b (a * 10 + (c - 48)), fold_val b (0 * 10 + (c - 48)), List.length_cons, Nat.pow_succ, Nat.zero_mul, Nat.zero_add, Nat.add_mul, Nat.mul_assoc, Nat.mul_comm 10, Nat.add_assoc]
theorem val_app (a b : List Nat) : digitsVal (a ++ b) = digitsVal a * 10 ^ b.length + digitsVal b := by
  unfold digitsVal
  rw [List.foldl_append, fold_val]; rfl
theorem val_lt : ∀ {cs : List Nat}, AllDigits cs → digitsVal cs < 10 ^ cs.length
  | [], _ => by simp [digitsVal]
  | c :: cs, h => by
    have h1 := val_lt h.tail
    have h2 := h.head
    rw [show c :: cs = [c] ++ cs from rfl, val_app, List.length_append, List.length_singleton, Nat.add_comm 1, Nat.pow_succ]
    have e : digitsVal [c] = c - 48 := by show 0 * 10 + (c - 48) = _; omega
    rw [e]
    have : (c - 48) * 10 ^ cs.length ≤ 9 * 10 ^ cs.length := Nat.mul_le_mul_right _ (by omega)
    omega
theorem dec_len {n k : Nat} (hk : 1 ≤ k) (h : n < 10 ^ k) : (dec n).length ≤ k := by
  unfold dec
  rw [List.length_map]
  exact (Nat.length_toDigits_le_iff (by decide) hk).mpr h
theorem val_zeros (k : Nat) (cs : List Nat) : digitsVal (List.replicate k 48 ++ cs) = digitsVal cs := by
  induction k with
  | zero => rfl
  | succ k ih => rw [List.replicate_succ, List.cons_append, digitsVal_zero, ih]
/-- k figures -/
def pad (k n : Nat) : List Nat := List.replicate (k - (dec n).length) 48 ++ dec n
theorem pad_all (k n : Nat) : AllDigits (pad k n) := fun c hc => by
  rcases List.mem_append.mp hc with h | h
  · rw [(List.mem_replicate.mp h).2]; omega
  · exact dec_all n c h
theorem pad_len {k n : Nat} (hk : 1 ≤ k) (h : n < 10 ^ k) : (pad k n).length = k := by
  have := dec_len hk h
  unfold pad
  rw [List.length_append, List.length_replicate]; omega
theorem pad_val (k n : Nat) : digitsVal (pad k n) = n := by unfold pad; rw [val_zeros, dec_val]
theorem AllDigits.app {a b : List Nat} (ha : AllDigits a) (hb : AllDigits b) : AllDigits (a ++ b) := fun c hc => (List.mem_append.mp hc).elim (ha c) (hb c)
theorem dec_pad {n k l : Nat} (hn : 0 < n) (hk : 1 ≤ k) (h : l < 10 ^ k) : dec (n * 10 ^ k + l) = dec n ++ pad k l := by
  obtain ⟨c, r, e, hc⟩ := dec_head n hn
  have u := dec_uniq (cs := dec n ++ pad k l) (AllDigits.app (dec_all n) (pad_all k l)) (.inr ⟨c, r ++ pad k l, by rw [e]; rfl, hc⟩)
  rw [val_app, dec_val, pad_val, pad_len hk h] at u
  exact u.symm
theorem dec_div {n k : Nat} (hk : 1 ≤ k) (h : 10 ^ k ≤ n) : dec n = dec (n / 10 ^ k) ++ pad k (n % 10 ^ k) := by
  have h0 : 0 < 10 ^ k := Nat.pow_pos (by decide)
  have := dec_pad (n := n / 10 ^ k) (k := k) (l := n % 10 ^ k) (Nat.div_pos h h0) hk (Nat.mod_lt _ h0)
  rw [Nat.mul_comm, Nat.div_add_mod] at this
  exact this
theorem okc_digits {cs : List Nat} (h : AllDigits cs) : okc cs = true := List.all_eq_true.mpr fun c hc => decide_eq_true (by have := h c hc; omega)
/-- a number as a text -/
def sI (z : Int) : List Nat := if z < 0 then 45 :: dec z.natAbs else dec z.natAbs
theorem ofString_dec (n : Nat) : Str.ofString (toString (n : Int)) = tx (dec n) := by
  have := PySem.W.KIN.signs_num n
  cases e : Str.ofString (toString (n : Int)) with
  | mk c =>
    rw [e] at this
    show _ = (⟨(dec n).toArray⟩ : Str)
    congr 1
    apply Array.ext'
    rw [List.toList_toArray]; exact this
theorem fStr_n {z : Int} (n : Nat) (hz : z = (n : Int)) (h : n < 10 ^ 500) : fStr [.d (.int z)] = some (S (dec n)) := by
  rw [hz]
  show (if _ then _ else _) = _
  rw [if_pos, ofString_dec]
  rw [Int.natAbs_natCast]
  by_cases h0 : n = 0
  · rw [h0]; decide
  · rw [Nat.log2_lt h0]
    exact Nat.lt_trans h (by decide +kernel)
theorem fIntS_digits {cs : List Nat} (h : AllDigits cs) (h0 : cs ≠ []) (hl : cs.length ≤ 640) : fIntS [S cs] = some (I (digitsVal cs : Nat)) := by
  show (if _ then _ else _) = _
  rw [if_pos (show (tx cs).length ≤ 640 from hl), PySem.intText_digits (x := tx cs) h h0 (by show cs.length ≤ 4300; omega)]
  rfl
theorem fZfill_dec {n k : Nat} (hk : 1 ≤ k) (hk2 : k ≤ 1000) (h : n < 10 ^ k) : fZfill (tx (dec n)) [.d (.int (k : Int))] = some (S (pad k n)) := by
  have hl := dec_len hk h
  show (if _ then _ else _) = _
  rw [if_pos]
  · congr 3
    unfold Txt.zfill
    by_cases e : (k : Int) ≤ ((tx (dec n)).length : Int)
    · rw [if_pos e]
      have e' : k ≤ (dec n).length := by have : ((tx (dec n)).length : Int) = ((dec n).length : Int) := rfl; omega
      unfold pad
      rw [show k - (dec n).length = 0 by omega]; rfl
    · rw [if_neg e]
      unfold PySem.zfilled
      have hc := dec_all n
      have hne := dec_ne n
      show (match (dec n).toArray[0]? with
        | some 43 | some 45 => _
        | _ => _) = _
      cases ed : dec n with
      | nil => exact absurd ed hne
      | cons c r =>
        have := hc c (by rw [ed]; exact List.mem_cons_self ..)
        rw [List.getElem?_toArray, List.getElem?_cons_zero]
        split
        · rename_i e2; injection e2 with e2; omega
        · rename_i e2; injection e2 with e2; omega
        · unfold Builtin.Str.padded pad
          rw [ed]
          show (⟨_⟩ : Str) = ⟨_⟩
          congr 1
          apply Array.ext'
          simp [tx_len]
  · unfold PadOk Builtin.Str.tooLong
    have h1 : sizeLine = 16777216 := sizeLine_eq
    simp only [Bool.and_eq_true, Bool.not_eq_true', decide_eq_false_iff_not]
    refine ⟨?_, by omega⟩
    unfold fitsSsize
    simp
    omega
/-! loops, step by step -/
section
variable {k : T → Option Ass} {f : En → SR} {x : T} {xs : List T} {en en1 en2 : En} {as : Ass} {c : En → RM Bool} {n : Nat} {e : Exc} {r : T}
theorem forE_eq (h1 : k x = some as) (h2 : stows en as = some en1) : forE k f (x :: xs) en = match f en1 with
    | .nx en2 => forE k f xs en2
    | .ct en2 => forE k f xs en2
    | .brk en2 => .nx en2
    | r => r := by
  show (match (k x).bind fun as => stows en as with
    | none => SR.no
    | some en1 => match f en1 with
      | .nx en2 => forE k f xs en2
      | .ct en2 => forE k f xs en2
      | .brk en2 => .nx en2
      | r => r) = _
  rw [h1, Option.bind_some, h2]
theorem forE_nx (h1 : k x = some as) (h2 : stows en as = some en1) (h3 : f en1 = .nx en2) : forE k f (x :: xs) en = forE k f xs en2 := by rw [forE_eq h1 h2, h3]
theorem forE_ct (h1 : k x = some as) (h2 : stows en as = some en1) (h3 : f en1 = .ct en2) : forE k f (x :: xs) en = forE k f xs en2 := by rw [forE_eq h1 h2, h3]
theorem forE_brk (h1 : k x = some as) (h2 : stows en as = some en1) (h3 : f en1 = .brk en2) : forE k f (x :: xs) en = .nx en2 := by rw [forE_eq h1 h2, h3]
theorem forE_ret (h1 : k x = some as) (h2 : stows en as = some en1) (h3 : f en1 = .ret r en2) : forE k f (x :: xs) en = .ret r en2 := by rw [forE_eq h1 h2, h3]
theorem forE_ex (h1 : k x = some as) (h2 : stows en as = some en1) (h3 : f en1 = .ex e en2) : forE k f (x :: xs) en = .ex e en2 := by rw [forE_eq h1 h2, h3]
theorem forE_nil : forE k f [] en = .nx en := rfl
theorem whE_f (h : c en = .ok false en1) : whE c f (n + 1) en = .nx en1 := by
  unfold whE; rw [h]; rfl
theorem whE_t (h : c en = .ok true en1) : whE c f (n + 1) en = match f en1 with
      | .nx en2 => whE c f n en2
      | .ct en2 => whE c f n en2
      | .brk en2 => .nx en2
      | r => r := by
  conv => lhs; unfold whE
  rw [h, RM.s_ok, if_pos rfl]
  all_goals (cases f en1 <;> rfl)
theorem whE_nx (h : c en = .ok true en1) (h2 : f en1 = .nx en2) : whE c f (n + 1) en = whE c f n en2 := by rw [whE_t h, h2]
theorem whE_ex (h : c en = .ok true en1) (h2 : f en1 = .ex e en2) : whE c f (n + 1) en = .ex e en2 := by rw [whE_t h, h2]
theorem fWh_ev {μ : En → Nat} : fWh μ c f en = whE c f (μ en) en := rfl
end
/-! errors out of a def; ranges by steps -/
theorem runP_ex {n k : Nat} {b : En → SR} {xs : List T} {e : Exc} (hk : xs.length = k) (h : ∃ en, b (startE n xs) = .ex e en) : runP n k b xs = .ex e := by
  obtain ⟨en, h⟩ := h
  unfold runP
  rw [if_pos hk, h]
theorem ex_seq {b d : En → SR} {e : Exc} {en en1 : En} (h1 : b en = .nx en1) (h2 : ∃ e', d en1 = .ex e e') : ∃ e', fSeq b d en = .ex e e' := by
  rw [fSeq_ev, h1]; exact h2
theorem ex_here {b d : En → SR} {e : Exc} {en en1 : En} (h1 : b en = .ex e en1) : ∃ e', fSeq b d en = .ex e e' := ⟨en1, by rw [fSeq_ev, h1]; rfl⟩
theorem ex_if_f {e : Exc} {en : En} {b z : En → SR} {g : En → R Bool} (h1 : g en = .ok false) (h2 : ∃ e', z en = .ex e e') : ∃ e', fSeq (fIf (lft g) b fNil) z en = .ex e e' := by
  refine ex_seq (en1 := en) ?_ h2
  rw [fIf_f h1]; rfl
theorem small_pos {a b c : Int} (ha : 0 ≤ a) (ha' : a < 1000000000) (hb : 0 ≤ b) (hb' : b < 1000000000) (hc : 0 < c) (hc' : c < 1000000000) : Builtin.Range.small a b c = true := by
  unfold Builtin.Range.small Builtin.Range.rangeFitsLong
  have h1 : Builtin.Range.rangeSize a b c ≤ 1000000000 ∧ 0 ≤ Builtin.Range.rangeSize a b c := by
    unfold Builtin.Range.rangeSize
    rw [if_pos hc]
    split
    · have h2 : (b - a - 1) / c ≤ b - a - 1 := Int.ediv_le_self _ (by omega)
      have h3 : 0 ≤ (b - a - 1) / c := Int.ediv_nonneg (by omega) (by omega)
      omega
    · omega
  obtain ⟨h1, h2⟩ := h1
  generalize Builtin.Range.rangeSize a b c = g at h1 h2
  simp only [Bool.and_eq_true, Bool.or_eq_true, decide_eq_true_eq, beq_iff_eq, show c > 0 from hc, if_true]
  omega
theorem gR3_of {ga gb gc : En → R T} {en : En} {a c n : Nat} {b : Int} (ha : ga en = .ok (I a)) (hb : gb en = .ok (I b)) (hc : gc en = .ok (I c)) (e : b = (a : Int) + c * n) (hc0 : 0 < c) (h1 : a < 1000000) (h2 : b < 1000000) (h3 : c < 1000000) : gR3 ga gb gc en = .ok ((List.range n).map fun (i : Nat) => T.d (.int ((a : Int) + (i : Int) * (c : Int)))) := by
  have hcn : (0 : Int) ≤ (c : Int) * n := Int.mul_nonneg (by omega) (by omega)
  have hs : Builtin.Range.rangeSize (a : Int) b (c : Int) = (n : Int) := by
    unfold Builtin.Range.rangeSize
    rw [if_pos (by omega)]
    by_cases hn : n = 0
    · subst hn
      rw [e, if_neg (by simp)]; rfl
    · have hp : (c : Int) * 1 ≤ (c : Int) * n := Int.mul_le_mul_of_nonneg_left (by omega) (by omega)
      rw [if_pos (by omega)]
      have : (b - a - 1) / (c : Int) = (n : Int) - 1 := by
        rw [show b - (a : Int) - 1 = ((c : Int) - 1) + ((n : Int) - 1) * (c : Int) by rw [e, Int.sub_mul, Int.mul_comm (n : Int)]; omega, Int.add_mul_ediv_right _ _ (by omega), Int.ediv_eq_zero_of_lt (by omega) (by omega)]; omega
      rw [this]; omega
  rw [gR3_ev, ha, R.bind_ok, hb, R.bind_ok, hc, R.bind_ok]
  show (if _ then _ else _) = _
  rw [if_pos ⟨by omega, by omega, small_pos (by omega) (by omega) (by omega) (by omega) (by omega) (by omega), by rw [hs]; omega⟩, hs, Int.toNat_natCast]
  rfl
end Z
namespace K00
open PySem PySem.Spec L2 Z
open PyProof.Rows hiding St
/-! what the defs compute -/
def mu_read_plain_0 : En → Nat := (fun _ => 100000)
def mu_read_data_0 : En → Nat := (fun _ => 100000)
def mu_write_integer_0 : En → Nat := (fun _ => 100000)
def d__law_start : En → SR :=
  (fRet (lft (gLst (aCons (gCall fList (aCons (vN 0) aNil)) (aCons (kI 0) (aCons (kI 0) (aCons (kI 0) aNil)))))))
def F__law_start := runP 1 1 d__law_start
def d__law_figures_of : En → SR :=
  (fSeq (fSet 1 (lft (gCall fAbs (aCons (vN 0) aNil))))
  (fSeq (fSet 2 (lft (kS (Str.ofString ""))))
  (fSeq (fFor (kName 3) (lft (gR1 (kI 9999))) (fSeq (fIf (lft (gT (g2 fLt (vN 1) (g2 fPow (kI 10) (kI 18))))) (fun en => .brk en) fNil)
  (fSeq (fSet 4 (lft (g2 fSub (vN 1) (g2 fMul (g2 fDiv (vN 1) (g2 fPow (kI 10) (kI 18))) (g2 fPow (kI 10) (kI 18))))))
  (fSeq (fSet 2 (lft (g2 fAdd (gSl (gCall fStr (aCons (g2 fAdd (g2 fPow (kI 10) (kI 18)) (vN 4)) aNil)) (oS (kI 1)) oN) (vN 2))))
  (fSet 1 (lft (g2 fDiv (vN 1) (g2 fPow (kI 10) (kI 18)))))))))
  (fSeq (fSet 2 (lft (g2 fAdd (gCall fStr (aCons (vN 1) aNil)) (vN 2))))
  (fSeq (fIf (lft (gT (g2 fLt (vN 0) (kI 0)))) (fRet (lft (g2 fAdd (kS (Str.ofString "-")) (vN 2)))) fNil)
  (fRet (mName 2)))))))
def F__law_figures_of := runP 5 1 d__law_figures_of
def d__law_nested : En → SR :=
  (fSeq (fFor (kName 2) (lft (gR1 (vN 1))) (fSet 0 (lft (gTup (aCons (vN 0) aNil)))))
  (fRet (mName 0)))
def F__law_nested := runP 3 2 d__law_nested
def d_read_integer : En → SR :=
  (fSeq (fSet 1 (mName 0))
  (fSeq (fIf (lft (gT (g2 fEq (gSl (vN 0) oN (oS (kI 1))) (kS (Str.ofString "-"))))) (fSet 1 (lft (gSl (vN 0) (oS (kI 1)) oN))) fNil)
  (fSeq (fIf (lft (gOr (gT (g2 fEq (vN 1) (kS (Str.ofString "")))) (gAnd (gT (g2 fEq (g2 fIx (vN 1) (kI 0)) (kS (Str.ofString "0")))) (gT (g2 fNe (vN 0) (kS (Str.ofString "0"))))))) (fRaise (Str.ofString "BadText")) fNil)
  (fSeq (fForN (kName 2) 1 (fIf (lft (gT (g2 fNotIn (vN 2) (kS (Str.ofString "0123456789"))))) (fRaise (Str.ofString "BadText")) fNil))
  (fSeq (fSet 3 (lft (g2 fMod (gCall fLen (aCons (vN 1) aNil)) (kI 64))))
  (fSeq (fSet 4 (lft (kI 0)))
  (fSeq (fIf (lft (gT (g2 fGt (vN 3) (kI 0)))) (fSet 4 (lft (gCall fIntS (aCons (gSl (vN 1) oN (oS (vN 3))) aNil)))) fNil)
  (fSeq (fFor (kName 5) (lft (gR3 (vN 3) (gCall fLen (aCons (vN 1) aNil)) (kI 64))) (fSet 4 (lft (g2 fAdd (g2 fMul (vN 4) (kI 10000000000000000000000000000000000000000000000000000000000000000)) (gCall fIntS (aCons (gSl (vN 1) (oS (vN 5)) (oS (g2 fAdd (vN 5) (kI 64)))) aNil))))))
  (fSeq (fIf (lft (gT (g2 fEq (g2 fIx (vN 0) (kI 0)) (kS (Str.ofString "-"))))) (fRet (lft (g1 fNeg (vN 4)))) fNil)
  (fRet (mName 4)))))))))))
def F_read_integer := runP 6 1 d_read_integer
def d_plain_text : En → SR :=
  (fSeq (fForN (kName 1) 0 (fIf (lft (gOr (gT (g2 fLt (vN 1) (kS (Str.ofString " ")))) (gOr (gT (g2 fGtS (vN 1) (kS (Str.ofString "~")))) (gOr (gT (g2 fEq (vN 1) (kS (Str.ofString "'")))) (gT (g2 fEq (gCall fOrd (aCons (vN 1) aNil)) (kI 37))))))) (fRet (lft (kB false))) fNil))
  (fRet (lft (kB true))))
def F_plain_text := runP 2 1 d_plain_text
def d_read_plain : En → SR :=
  (fSeq (fIf (lft (gT (g2 fEq (g2 fIx (vN 0) (vN 1)) (kS (Str.ofString "'"))))) (fSeq (fSet 2 (lft (gSm fFind (vN 0) (aCons (kS (Str.ofString "'")) (aCons (g2 fAdd (vN 1) (kI 1)) aNil)))))
  (fSeq (fIf (lft (gOr (gT (g2 fLt (vN 2) (kI 0))) (gNot (gTru (gFn F_plain_text (aCons (gSl (vN 0) (oS (g2 fAdd (vN 1) (kI 1))) (oS (vN 2))) aNil)))))) (fRaise (Str.ofString "BadText")) fNil)
  (fRet (lft (gTup (aCons (gSl (vN 0) (oS (g2 fAdd (vN 1) (kI 1))) (oS (vN 2))) (aCons (g2 fAdd (vN 2) (kI 1)) aNil))))))) fNil)
  (fSeq (fSet 2 (mName 1))
  (fSeq (fWh mu_read_plain_0 (lft (gAnd (gT (g2 fLt (vN 2) (gCall fLen (aCons (vN 0) aNil)))) (gT (g2 fIn (g2 fIx (vN 0) (vN 2)) (kS (Str.ofString "-0123456789")))))) (fAug 2 fAddA (lft (kI 1))))
  (fRet (lft (gTup (aCons (gFn F_read_integer (aCons (gSl (vN 0) (oS (vN 1)) (oS (vN 2))) aNil)) (aCons (vN 2) aNil))))))))
def F_read_plain := runP 3 2 d_read_plain
def d_read_data : En → SR :=
  (fSeq (fSet 1 (lft (gLst (aCons (gLst aNil) aNil))))
  (fSeq (fSet 2 (lft (kI 0)))
  (fSeq (fSet 3 (lft (kB true)))
  (fSeq (fWh mu_read_data_0 (lft (gT (g2 fLt (vN 2) (gCall fLen (aCons (vN 0) aNil))))) (fIf (lft (gAnd (gTru (vN 3)) (gAnd (gT (g2 fEq (g2 fIx (vN 0) (vN 2)) (kS (Str.ofString "(")))) (gT (g2 fLe (gCall fLen (aCons (vN 1) aNil)) (kI 40)))))) (fSeq (fExpr (mApp 1 (lft (gLst aNil))))
  (fAug 2 fAddA (lft (kI 1)))) (fIf (lft (gAnd (gT (g2 fEq (g2 fIx (vN 0) (vN 2)) (kS (Str.ofString ")")))) (gAnd (gT (g2 fGt (gCall fLen (aCons (vN 1) aNil)) (kI 1))) (gOr (gNot (gTru (vN 3))) (gT (g2 fEq (g2 fIx (vN 0) (g2 fSub (vN 2) (kI 1))) (kS (Str.ofString "(")))))))) (fSeq (fSet 4 (mOf (rOf fTuple) (mCons (mPop 1) mNil)))
  (fSeq (fExpr (mAppIx 1 (g1 fNeg (kI 1)) (gPur (vN 4))))
  (fSeq (fAug 2 fAddA (lft (kI 1)))
  (fSet 3 (lft (kB false)))))) (fIf (lft (gAnd (gNot (gTru (vN 3))) (gAnd (gT (g2 fGt (gCall fLen (aCons (vN 1) aNil)) (kI 1))) (gT (g2 fEq (gSl (vN 0) (oS (vN 2)) (oS (g2 fAdd (vN 2) (kI 2)))) (kS (Str.ofString ", "))))))) (fSeq (fAug 2 fAddA (lft (kI 2)))
  (fSet 3 (lft (kB true)))) (fIf (lft (gAnd (gTru (vN 3)) (gT (g2 fNe (g2 fIx (vN 0) (vN 2)) (kS (Str.ofString "(")))))) (fSeq (fAsg (kTup 2 (kCons (kName 5) (kCons (kName 2) kNil))) (lft (gFn F_read_plain (aCons (vN 0) (aCons (vN 2) aNil)))))
  (fSeq (fExpr (mAppIx 1 (g1 fNeg (kI 1)) (gPur (vN 5))))
  (fSet 3 (lft (kB false))))) (fRaise (Str.ofString "BadText")))))))
  (fSeq (fIf (lft (gOr (gT (g2 fNe (gCall fLen (aCons (vN 1) aNil)) (kI 1))) (gT (g2 fNe (gCall fLen (aCons (g2 fIx (vN 1) (kI 0)) aNil)) (kI 1))))) (fRaise (Str.ofString "BadText")) fNil)
  (fRet (lft (gPur (g2 fIx (g2 fIx (vN 1) (kI 0)) (kI 0))))))))))
def F_read_data := runP 6 1 d_read_data
def d__law_refuses_text : En → SR :=
  (fSeq (fTry 2 (catB [((Str.ofString "BadText"), true)]) (suIsi (Str.ofString "BadText") true) (fIf (lft (gT (g2 fEq (vN 0) (kS (Str.ofString "integer"))))) (fExpr (lft (gFn F_read_integer (aCons (vN 1) aNil)))) (fExpr (lft (gFn F_read_data (aCons (vN 1) aNil))))))
  (fRet (lft (kB false))))
def F__law_refuses_text := runP 3 2 d__law_refuses_text
def d__law_draw : En → SR :=
  (fSeq (fStore 0 (kI 3) (lft (g2 fAdd (g2 fIx (vN 0) (kI 3)) (kI 1))))
  (fSeq (fIf (lft (gT (g2 fGt (g2 fIx (vN 0) (kI 2)) (kI 0)))) (fSeq (fSet 2 (lft (g2 fMod (gCall fInt (aCons (g2 fIx (vN 0) (kI 2)) aNil)) (vN 1))))
  (fSeq (fStore 0 (kI 2) (lft (g2 fDiv (g2 fIx (vN 0) (kI 2)) (vN 1))))
  (fRet (mName 2)))) fNil)
  (fSeq (fSet 3 (lft (kI 0)))
  (fSeq (fIf (lft (gT (g2 fGt (gCall fLen (aCons (g2 fIx (vN 0) (kI 0)) aNil)) (kI 0)))) (fSet 3 (lft (gCall fAbs (aCons (g2 fIx (g2 fIx (vN 0) (kI 0)) (g2 fMod (gCall fInt (aCons (g2 fIx (vN 0) (kI 1)) aNil)) (gCall fLen (aCons (g2 fIx (vN 0) (kI 0)) aNil)))) aNil)))) fNil)
  (fSeq (fStore 0 (kI 1) (lft (g2 fAdd (g2 fIx (vN 0) (kI 1)) (kI 1))))
  (fSeq (fIf (lft (gT (g2 fGe (vN 3) (g2 fPow (kI 10) (kI 18))))) (fSeq (fStore 0 (kI 2) (lft (g2 fDiv (vN 3) (vN 1))))
  (fRet (lft (g2 fMod (gCall fInt (aCons (vN 3) aNil)) (vN 1))))) fNil)
  (fSeq (fSet 4 (lft (g2 fMod (gCall fInt (aCons (g2 fAdd (g2 fMul (g2 fAdd (vN 3) (kI 1)) (kI 48271)) (g2 fMul (g2 fIx (vN 0) (kI 3)) (kI 69621))) aNil)) (kI 2147483647))))
  (fSeq (fSet 4 (lft (g2 fMod (gCall fInt (aCons (g2 fAdd (g2 fAdd (g2 fMul (vN 4) (kI 16807)) (g2 fDiv (vN 3) (kI 97))) (g2 fIx (vN 0) (kI 3))) aNil)) (kI 2147483629))))
  (fRet (lft (g2 fMod (g2 fDiv (vN 4) (kI 11)) (vN 1))))))))))))
def F__law_draw := runM 5 2 d__law_draw
def d__law_long_number : En → SR :=
  (fSeq (fSet 2 (mCallM 0 F__law_draw (hO (lft (g2 fPow (kI 10) (kI 18))) hNil)))
  (fSeq (fFor (kName 3) (mR1 (mCallM 0 F__law_draw (hN 1 hNil))) (fSet 2 (m2 fAdd (lft (g2 fMul (vN 2) (g2 fPow (kI 10) (kI 18)))) (mCallM 0 F__law_draw (hO (lft (g2 fPow (kI 10) (kI 18))) hNil)))))
  (fRet (m2 fMul (lft (gPur (vN 2))) (mIx (lft (gLst (aCons (kI 1) (aCons (g1 fNeg (kI 1)) aNil)))) (mCallM 0 F__law_draw (hO (lft (kI 2)) hNil)))))))
def F__law_long_number := runM 4 2 d__law_long_number
def d__law_some_datum (Fr : T → List T → RF) : En → SR :=
  (fSeq (fSet 2 (mCallM 0 F__law_draw (hO (lft (kI 7)) hNil)))
  (fSeq (fIf (lft (gOr (gT (g2 fLt (vN 2) (kI 2))) (gAnd (gT (g2 fEq (vN 1) (kI 0))) (gT (g2 fGt (vN 2) (kI 3)))))) (fRet (mIx (mOf mkLst (mCons (m2 fSub (mCallM 0 F__law_draw (hO (lft (kI 21)) hNil)) (lft (kI 10))) (mCons (mCallM 0 F__law_long_number (hO (lft (kI 6)) hNil)) mNil))) (mCallM 0 F__law_draw (hO (lft (kI 2)) hNil)))) fNil)
  (fSeq (fIf (lft (gT (g2 fLt (vN 2) (kI 4)))) (fRet (mIx (lft (gLst (aCons (kS (Str.ofString "")) (aCons (kS (Str.ofString "a b")) (aCons (kS (Str.ofString "(1, 2)")) (aCons (kS (Str.ofString "0")) (aCons (kS (Str.ofString "x#y, z")) (aCons (kS (Str.ofString "-")) aNil)))))))) (mCallM 0 F__law_draw (hO (lft (kI 6)) hNil)))) fNil)
  (fRet (mOf (rOf fTuple) (mCons (mLc [3] (mR1 (mCallM 0 F__law_draw (hO (lft (kI 4)) hNil))) (kName 3) gYes (mCallM 0 Fr (hO (lft (g2 fSub (vN 1) (kI 1))) hNil))) mNil))))))
def F__law_some_datum : Nat → T → List T → RF
  | 0 => fun _ _ => .no
  | n + 1 => runM 4 2 (d__law_some_datum (F__law_some_datum n))
def d__law_datum_text (Fr : List T → R T) : En → SR :=
  (fSeq (fIf (lft (gTru (gIsi isTup (vN 0)))) (fRet (lft (g2 fAdd (g2 fAdd (kS (Str.ofString "(")) (gSm fJoin (kS (Str.ofString ", ")) (aCons (gLc [1] (gIt (vN 0)) (kName 1) gYes (gFn Fr (aCons (vN 1) aNil))) aNil))) (kS (Str.ofString ")"))))) fNil)
  (fSeq (fIf (lft (gTru (gIsi isStr (vN 0)))) (fRet (lft (g2 fAdd (g2 fAdd (kS (Str.ofString "'")) (vN 0)) (kS (Str.ofString "'"))))) fNil)
  (fRet (lft (gFn F__law_figures_of (aCons (vN 0) aNil))))))
def F__law_datum_text : Nat → List T → R T
  | 0 => fun _ => .no
  | n + 1 => runP 2 1 (d__law_datum_text (F__law_datum_text n))
def d__law_is_int : En → SR :=
  (fRet (lft (gPur (gAndV (gIsi isInt (vN 0)) (gNotV (gIsi isBl (vN 0)))))))
def F__law_is_int := runP 1 1 d__law_is_int
def d__law_same (Fr : List T → R T) : En → SR :=
  (fSeq (fIf (lft (gTru (gIsi isTup (vN 1)))) (fSeq (fIf (lft (gOr (gNot (gTru (gIsi isTup (vN 0)))) (gT (g2 fNe (gCall fLen (aCons (vN 0) aNil)) (gCall fLen (aCons (vN 1) aNil)))))) (fRet (lft (kB false))) fNil)
  (fRet (lft (gCall fAll (aCons (gLc [2] (gR1 (gCall fLen (aCons (vN 1) aNil))) (kName 2) gYes (gFn Fr (aCons (g2 fIx (vN 0) (vN 2)) (aCons (g2 fIx (vN 1) (vN 2)) aNil)))) aNil))))) fNil)
  (fSeq (fIf (lft (gTru (gIsi isStr (vN 1)))) (fRet (lft (gPur (gAndV (gIsi isStr (vN 0)) (g2 fEq (vN 0) (vN 1)))))) fNil)
  (fRet (lft (gPur (gAndV (gFn F__law_is_int (aCons (vN 0) aNil)) (g2 fEq (vN 0) (vN 1))))))))
def F__law_same : Nat → List T → R T
  | 0 => fun _ => .no
  | n + 1 => runP 3 2 (d__law_same (F__law_same n))
def d__law_one_of : En → SR :=
  (fRet (mIxNg 1 (mCallM 0 F__law_draw (hO (lft (gCall fLen (aCons (vN 1) aNil))) hNil))))
def F__law_one_of := runM 2 2 d__law_one_of
def d_write_integer (Fr : List T → R T) : En → SR :=
  (fSeq (fIf (lft (gT (g2 fLt (vN 0) (kI 0)))) (fRet (lft (g2 fAdd (kS (Str.ofString "-")) (gFn Fr (aCons (g1 fNeg (vN 0)) aNil))))) fNil)
  (fSeq (fSet 1 (lft (gLst aNil)))
  (fSeq (fWh mu_write_integer_0 (lft (gT (g2 fGe (vN 0) (kI 10000000000000000000000000000000000000000000000000000000000000000)))) (fSeq (fAsg (kTup 2 (kCons (kName 0) (kCons (kName 2) kNil))) (lft (gCall fDivmod (aCons (vN 0) (aCons (kI 10000000000000000000000000000000000000000000000000000000000000000) aNil)))))
  (fExpr (mApp 1 (lft (gSm fZfill (gCall fStr (aCons (vN 2) aNil)) (aCons (kI 64) aNil)))))))
  (fSeq (fExpr (mApp 1 (lft (gCall fStr (aCons (vN 0) aNil)))))
  (fRet (lft (gSm fJoin (kS (Str.ofString "")) (aCons (g1 fRev (vN 1)) aNil))))))))
def F_write_integer : Nat → List T → R T
  | 0 => fun _ => .no
  | n + 1 => runP 3 1 (d_write_integer (F_write_integer n))
def d_write_data (Fr : List T → R T) : En → SR :=
  (fSeq (fIf (lft (gTru (gIsi isTup (vN 0)))) (fRet (lft (g2 fAdd (g2 fAdd (kS (Str.ofString "(")) (gSm fJoin (kS (Str.ofString ", ")) (aCons (gLc [1] (gIt (vN 0)) (kName 1) gYes (gFn Fr (aCons (vN 1) aNil))) aNil))) (kS (Str.ofString ")"))))) fNil)
  (fSeq (fIf (lft (gTru (gIsi isStr (vN 0)))) (fRet (lft (g2 fAdd (g2 fAdd (kS (Str.ofString "'")) (vN 0)) (kS (Str.ofString "'"))))) fNil)
  (fRet (lft (gFn (F_write_integer 2) (aCons (vN 0) aNil))))))
def F_write_data : Nat → List T → R T
  | 0 => fun _ => .no
  | n + 1 => runP 2 1 (d_write_data (F_write_data n))
def d_law : En → SR :=
  (fSeq (fSet 1 (lft (gFn F__law_start (aCons (vN 0) aNil))))
  (fSeq (fFor (kName 2) (lft (gR1 (kI 4))) (fSeq (fSet 3 (mIx (mOf mkLst (mCons (m2 fSub (mCallM 1 F__law_draw (hO (lft (kI 41)) hNil)) (lft (kI 20))) (mCons (mCallM 1 F__law_long_number (hO (lft (kI 30)) hNil)) mNil))) (mCallM 1 F__law_draw (hO (lft (kI 2)) hNil))))
  (fSeq (fSet 4 (lft (gFn F__law_figures_of (aCons (vN 3) aNil))))
  (fSeq (fIf (lft (gOr (gNot (gTru (gFn (F__law_same 46) (aCons (gFn (F_write_integer 2) (aCons (vN 3) aNil)) (aCons (vN 4) aNil))))) (gNot (gTru (gFn (F__law_same 46) (aCons (gFn F_read_integer (aCons (vN 4) aNil)) (aCons (vN 3) aNil))))))) (fRet (lft (kB false))) fNil)
  (fSeq (fSet 5 (lft (gLst (aCons (kS (Str.ofString "")) (aCons (kS (Str.ofString "-")) (aCons (kS (Str.ofString "-0")) (aCons (kS (Str.ofString "+1")) (aCons (kS (Str.ofString "00")) (aCons (g2 fAdd (kS (Str.ofString "0")) (vN 4)) (aCons (g2 fAdd (vN 4) (kS (Str.ofString " "))) (aCons (g2 fAdd (kS (Str.ofString " ")) (vN 4)) (aCons (g2 fAdd (vN 4) (kS (Str.ofString "-"))) (aCons (kS (Str.ofString "--1")) (aCons (kS (Str.ofString "1 2")) (aCons (kS (Str.ofString "1_0")) (aCons (kS (Str.ofString "x")) aNil))))))))))))))))
  (fSeq (fIf (mNot (mTru (mOf F__law_refuses_text (mCons (lft (kS (Str.ofString "integer"))) (mCons (mCallM 1 F__law_one_of (hN 5 hNil)) mNil))))) (fRet (lft (kB false))) fNil)
  (fSeq (fSet 6 (mCallM 1 (F__law_some_datum 6) (hO (lft (kI 4)) hNil)))
  (fSeq (fSet 4 (lft (gFn (F__law_datum_text 46) (aCons (vN 6) aNil))))
  (fSeq (fIf (lft (gOr (gNot (gTru (gFn (F__law_same 46) (aCons (gFn (F_write_data 46) (aCons (vN 6) aNil)) (aCons (vN 4) aNil))))) (gNot (gTru (gFn (F__law_same 46) (aCons (gFn F_read_data (aCons (vN 4) aNil)) (aCons (vN 6) aNil))))))) (fRet (lft (kB false))) fNil)
  (fSeq (fSet 5 (lft (gLst (aCons (kS (Str.ofString "")) (aCons (kS (Str.ofString "(")) (aCons (kS (Str.ofString ")")) (aCons (kS (Str.ofString "(1,2)")) (aCons (kS (Str.ofString "(1, )")) (aCons (kS (Str.ofString "(1 2)")) (aCons (kS (Str.ofString "(1)2")) (aCons (kS (Str.ofString "'a")) (aCons (kS (Str.ofString "a'")) (aCons (kS (Str.ofString "()()")) (aCons (kS (Str.ofString "(,)")) (aCons (kS (Str.ofString "( 1)")) (aCons (kS (Str.ofString "'a''b'")) (aCons (kS (Str.ofString "(1,  2)")) aNil)))))))))))))))))
  (fSeq (fSet 5 (lft (g2 fAdd (vN 5) (gLst (aCons (g2 fAdd (vN 4) (kS (Str.ofString " "))) (aCons (g2 fAdd (kS (Str.ofString "(")) (vN 4)) (aCons (g2 fAdd (vN 4) (kS (Str.ofString ")"))) (aCons (g2 fAdd (vN 4) (kS (Str.ofString ", 1"))) (aCons (g2 fAdd (g2 fAdd (kS (Str.ofString "(")) (vN 4)) (kS (Str.ofString ",)"))) (aCons (kS (Str.ofString "1.0")) (aCons (kS (Str.ofString "(-0)")) (aCons (kS (Str.ofString "None")) aNil))))))))))))
  (fIf (mNot (mTru (mOf F__law_refuses_text (mCons (lft (kS (Str.ofString "data"))) (mCons (mCallM 1 F__law_one_of (hN 5 hNil)) mNil))))) (fRet (lft (kB false))) fNil))))))))))))
  (fSeq (fSet 7 (lft (g2 fAdd (kI 1) (gCall fAbs (aCons (vN 3) aNil)))))
  (fSeq (fFor (kName 2) (lft (gR1 (kI 280))) (fSet 7 (lft (g2 fAdd (g2 fMul (vN 7) (g2 fPow (kI 10) (kI 18))) (vN 2)))))
  (fSeq (fSet 4 (lft (gFn F__law_figures_of (aCons (vN 7) aNil))))
  (fSeq (fIf (lft (gOr (gNot (gTru (gFn (F__law_same 46) (aCons (gFn (F_write_integer 2) (aCons (vN 7) aNil)) (aCons (vN 4) aNil))))) (gNot (gTru (gFn (F__law_same 46) (aCons (gFn F_read_integer (aCons (vN 4) aNil)) (aCons (vN 7) aNil))))))) (fRet (lft (kB false))) fNil)
  (fSeq (fSet 8 (lft (gCall fTuple (aCons (gLc [10] (gR1 (kI 60)) (kName 10) gYes (gTup (aCons (vN 10) (aCons (gTup aNil) aNil)))) aNil))))
  (fSeq (fIf (lft (gNot (gTru (gFn (F__law_same 46) (aCons (gFn F_read_data (aCons (gFn (F_write_data 46) (aCons (vN 8) aNil)) aNil)) (aCons (vN 8) aNil)))))) (fRet (lft (kB false))) fNil)
  (fSeq (fFor (kName 6) (lft (gIt (gLst (aCons (kS (Str.ofString "\\")) (aCons (kS (Str.ofString "\"")) (aCons (kS (Str.ofString "a longer text, of (many) signs")) (aCons (gTup (aCons (kS (Str.ofString "\\n")) (aCons (kI 1) (aCons (g1 fNeg (kI 1)) aNil)))) (aCons (gFn F__law_nested (aCons (gTup aNil) (aCons (kI 39) aNil))) aNil)))))))) (fSeq (fIf (lft (gNot (gTru (gFn (F__law_same 46) (aCons (gFn (F_write_data 46) (aCons (vN 6) aNil)) (aCons (gFn (F__law_datum_text 46) (aCons (vN 6) aNil)) aNil)))))) (fRet (lft (kB false))) fNil)
  (fIf (lft (gNot (gTru (gFn (F__law_same 46) (aCons (gFn F_read_data (aCons (gFn (F__law_datum_text 46) (aCons (vN 6) aNil)) aNil)) (aCons (vN 6) aNil)))))) (fRet (lft (kB false))) fNil)))
  (fSeq (fFor (kName 4) (lft (gIt (gLst (aCons (kS (Str.ofString "(1,.2)")) (aCons (kS (Str.ofString "(1,-2)")) (aCons (kS (Str.ofString "(007)")) (aCons (kS (Str.ofString "(01, 2)")) (aCons (kS (Str.ofString "( )")) (aCons (kS (Str.ofString "(1, 2 )")) (aCons (g2 fAdd (g2 fMulS (kS (Str.ofString "(")) (kI 41)) (g2 fMulS (kS (Str.ofString ")")) (kI 41))) (aCons (kS (Str.ofString "(1, 2,)")) (aCons (kS (Str.ofString "(1;2)")) aNil)))))))))))) (fIf (lft (gNot (gTru (gFn F__law_refuses_text (aCons (kS (Str.ofString "data")) (aCons (vN 4) aNil)))))) (fRet (lft (kB false))) fNil))
  (fSeq (fSet 9 (lft (gFn F__law_nested (aCons (kI 7) (aCons (kI 40) aNil)))))
  (fSeq (fIf (lft (gNot (gTru (gFn (F__law_same 46) (aCons (gFn F_read_data (aCons (gFn (F_write_data 46) (aCons (vN 9) aNil)) aNil)) (aCons (vN 9) aNil)))))) (fRet (lft (kB false))) fNil)
  (fRet (lft (gFn F__law_refuses_text (aCons (kS (Str.ofString "data")) (aCons (gFn (F__law_datum_text 46) (aCons (gFn F__law_nested (aCons (kI 7) (aCons (kI 41) aNil))) aNil)) aNil)))))))))))))))))
def F_law := runP 11 1 d_law
end K00
namespace K00
open PySem PySem.Spec L2 Z
open PyProof.Rows hiding St
def topS (i : Nat) : Stmt := PySem.Challenge.pw_countunseen_k00_integers_and_data.main.body.getD i (.Pass ⟨0, 0, 0, 0⟩)
/-! that they do -/
section
variable {P : Program} {w : World} {K : PySem.W.Frag} {base : Heap} {mg : Str → Option Value}
abbrev s__law_start : Stmt := topS 16
abbrev N__law_start : List Str := ["script"]
theorem sc__law_start : FnScope ["script"] ["script"] (defScope s__law_start) := ⟨rfl, rfl, rfl, by decide +kernel, rfl, by decide +kernel, by decide +kernel⟩
theorem ok__law_start {f : Addr} {fd : FuncData} (F : Fun K "_law_start" "_law_start" s__law_start f fd) (hm : mg "_law_start" = some (.ref f)) (hb : Binds K fd ["script"] []) (z_list : mg "list" = none) : FnP P w K mg base "_law_start" 1 F__law_start :=
  fnP F sc__law_start hm hb fun cdv A outer s H E hr cz => (b_one (s_ret (n_lst (an_cons (n_callT f_list boot_list z_list (av_cons (v_name 0) av_nil)) (an_cons n_int (an_cons n_int (an_cons n_int an_nil))))).up))
abbrev s__law_figures_of : Stmt := topS 21
abbrev N__law_figures_of : List Str := ["number", "left", "found", "turn", "low"]
theorem sc__law_figures_of : FnScope ["number", "left", "found", "turn", "low"] ["number"] (defScope s__law_figures_of) := ⟨rfl, rfl, rfl, by decide +kernel, rfl, by decide +kernel, by decide +kernel⟩
theorem ok__law_figures_of {f : Addr} {fd : FuncData} (F : Fun K "_law_figures_of" "_law_figures_of" s__law_figures_of f fd) (hm : mg "_law_figures_of" = some (.ref f)) (hb : Binds K fd ["number"] []) (z_abs : mg "abs" = none) (z_range : mg "range" = none) (z_str : mg "str" = none) : FnP P w K mg base "_law_figures_of" 1 F__law_figures_of :=
  fnP F sc__law_figures_of hm hb fun cdv A outer s H E hr cz => (b_cons (s_set 1 cz (n_callB f_abs boot_abs z_abs (av_cons (v_name 0) av_nil)).up)
      (b_cons (s_set 2 cz n_str.up)
      (b_cons (s_for cz (j_rng1 z_range (PN.v n_int)).up (t_name 3 cz.nd) (b_cons (s_if (c_cmp m_lt (v_name 1) (PN.v (n_bin b_pow (PN.v n_int) (PN.v n_int)))).up (b_one s_break) b_nil)
      (b_cons (s_set 4 cz (n_bin b_sub (v_name 1) (PN.v (n_bin b_mul (PN.v (n_bin b_div (v_name 1) (PN.v (n_bin b_pow (PN.v n_int) (PN.v n_int))))) (PN.v (n_bin b_pow (PN.v n_int) (PN.v n_int)))))).up)
      (b_cons (s_set 2 cz (n_bin b_add (PN.v (n_slice (PN.v (n_callT f_str boot_str z_str (av_cons (PN.v (n_bin b_add (PN.v (n_bin b_pow (PN.v n_int) (PN.v n_int))) (v_name 4))) av_nil))) (o_some (PN.v n_int)) o_none)) (v_name 2)).up)
      (b_one (s_set 1 cz (n_bin b_div (v_name 1) (PN.v (n_bin b_pow (PN.v n_int) (PN.v n_int)))).up))))))
      (b_cons (s_set 2 cz (n_bin b_add (PN.v (n_callT f_str boot_str z_str (av_cons (v_name 1) av_nil))) (v_name 2)).up)
      (b_cons (s_if (c_cmp m_lt (v_name 0) (PN.v n_int)).up (b_one (s_ret (n_bin b_add (PN.v n_str) (v_name 2)).up)) b_nil)
      (b_one (s_ret (m_name 2))))))))
abbrev s__law_nested : Stmt := topS 25
abbrev N__law_nested : List Str := ["datum", "many", "turn"]
theorem sc__law_nested : FnScope ["datum", "many", "turn"] ["datum", "many"] (defScope s__law_nested) := ⟨rfl, rfl, rfl, by decide +kernel, rfl, by decide +kernel, by decide +kernel⟩
theorem ok__law_nested {f : Addr} {fd : FuncData} (F : Fun K "_law_nested" "_law_nested" s__law_nested f fd) (hm : mg "_law_nested" = some (.ref f)) (hb : Binds K fd ["datum", "many"] []) (z_range : mg "range" = none) : FnP P w K mg base "_law_nested" 1 F__law_nested :=
  fnP F sc__law_nested hm hb fun cdv A outer s H E hr cz => (b_cons (s_for cz (j_rng1 z_range (v_name 1)).up (t_name 2 cz.nd) (b_one (s_set 0 cz (n_tup (av_cons (v_name 0) av_nil)).up)))
      (b_one (s_ret (m_name 0))))
abbrev s_read_integer : Stmt := topS 7
abbrev N_read_integer : List Str := ["text", "digits", "char", "head", "n", "start"]
theorem sc_read_integer : FnScope ["text", "digits", "char", "head", "n", "start"] ["text"] (defScope s_read_integer) := ⟨rfl, rfl, rfl, by decide +kernel, rfl, by decide +kernel, by decide +kernel⟩
theorem ok_read_integer {f : Addr} {fd : FuncData} (F : Fun K "read_integer" "read_integer" s_read_integer f fd) (hm : mg "read_integer" = some (.ref f)) (hb : Binds K fd ["text"] []) (z_int : mg "int" = none) (z_len : mg "len" = none) (z_range : mg "range" = none) {K_BadText : Addr} (E_BadText : ExA K mg "BadText" K_BadText) {tk_BASE : Tok} (c_BASE : mg "BASE" = some (.int 10000000000000000000000000000000000000000000000000000000000000000 tk_BASE)) {tk_DIGITS : Tok} (c_DIGITS : mg "DIGITS" = some (.str (Str.ofString "0123456789") tk_DIGITS)) : FnP P w K mg base "read_integer" 1 F_read_integer :=
  fnP F sc_read_integer hm hb fun cdv A outer s H E hr cz => (b_cons (s_set 1 cz (m_name 0))
      (b_cons (s_if (c_cmp (m_eq hr.units) (PN.v (n_slice (v_name 0) o_none (o_some (PN.v n_int)))) (PN.v n_str)).up (b_one (s_set 1 cz (n_slice (v_name 0) (o_some (PN.v n_int)) o_none).up)) b_nil)
      (b_cons (s_if (c_w (w_or (c_cmp (m_eq hr.units) (v_name 1) (PN.v n_str)) (w_or1 (c_w (w_and (c_cmp (m_eq hr.units) (v_ix (v_name 1) (PN.v n_int)) (PN.v n_str)) (w_and1 (c_cmp (m_ne hr.units) (v_name 0) (PN.v n_str)))))))).up (b_one (s_raiseA cz E_BadText)) b_nil)
      (b_cons (s_forN 1 cz (t_name 2 cz.nd) (b_one (s_if (c_cmp m_notIn (v_name 2) (PN.v (n_glS c_DIGITS))).up (b_one (s_raiseA cz E_BadText)) b_nil)))
      (b_cons (s_set 3 cz (n_bin b_mod (PN.v (n_callB f_len PySem.boot_len z_len (av_cons (v_name 1) av_nil))) (PN.v n_int)).up)
      (b_cons (s_set 4 cz n_int.up)
      (b_cons (s_if (c_cmp m_gt (v_name 3) (PN.v n_int)).up (b_one (s_set 4 cz (n_callT f_intS boot_int z_int (av_cons (PN.v (n_slice (v_name 1) o_none (o_some (v_name 3)))) av_nil)).up)) b_nil)
      (b_cons (s_for cz (j_rng3 z_range (v_name 3) (PN.v (n_callB f_len PySem.boot_len z_len (av_cons (v_name 1) av_nil))) (PN.v n_int)).up (t_name 5 cz.nd) (b_one (s_set 4 cz (n_bin b_add (PN.v (n_bin b_mul (v_name 4) (PN.v (n_glI c_BASE)))) (PN.v (n_callT f_intS boot_int z_int (av_cons (PN.v (n_slice (v_name 1) (o_some (v_name 5)) (o_some (PN.v (n_bin b_add (v_name 5) (PN.v n_int)))))) av_nil)))).up)))
      (b_cons (s_if (c_cmp (m_eq hr.units) (v_ix (v_name 0) (PN.v n_int)) (PN.v n_str)).up (b_one (s_ret (n_neg (v_name 4)).up)) b_nil)
      (b_one (s_ret (m_name 4))))))))))))
abbrev s_plain_text : Stmt := topS 12
abbrev N_plain_text : List Str := ["text", "char"]
theorem sc_plain_text : FnScope ["text", "char"] ["text"] (defScope s_plain_text) := ⟨rfl, rfl, rfl, by decide +kernel, rfl, by decide +kernel, by decide +kernel⟩
theorem ok_plain_text {f : Addr} {fd : FuncData} (F : Fun K "plain_text" "plain_text" s_plain_text f fd) (hm : mg "plain_text" = some (.ref f)) (hb : Binds K fd ["text"] []) (z_ord : mg "ord" = none) : FnP P w K mg base "plain_text" 1 F_plain_text :=
  fnP F sc_plain_text hm hb fun cdv A outer s H E hr cz => (b_cons (s_forN 0 cz (t_name 1 cz.nd) (b_one (s_if (c_w (w_or (c_cmp m_lt (v_name 1) (PN.v n_str)) (w_or (c_cmp m_gtS (v_name 1) (PN.v n_str)) (w_or (c_cmp (m_eq hr.units) (v_name 1) (PN.v n_str)) (w_or1 (c_cmp (m_eq hr.units) (PN.v (n_callB f_ord (by decide +kernel) z_ord (av_cons (v_name 1) av_nil))) (PN.v n_int))))))).up (b_one (s_ret n_bl.up)) b_nil)))
      (b_one (s_ret n_bl.up)))
abbrev s_read_plain : Stmt := topS 13
abbrev N_read_plain : List Str := ["text", "start", "end"]
theorem sc_read_plain : FnScope ["text", "start", "end"] ["text", "start"] (defScope s_read_plain) := ⟨rfl, rfl, rfl, by decide +kernel, rfl, by decide +kernel, by decide +kernel⟩
theorem ok_read_plain {f : Addr} {fd : FuncData} (F : Fun K "read_plain" "read_plain" s_read_plain f fd) (hm : mg "read_plain" = some (.ref f)) (hb : Binds K fd ["text", "start"] []) (G_plain_text : FnP P w K mg base "plain_text" 1 F_plain_text) (G_read_integer : FnP P w K mg base "read_integer" 1 F_read_integer) (z_len : mg "len" = none) {K_BadText : Addr} (E_BadText : ExA K mg "BadText" K_BadText) {tk_SIGNS : Tok} (c_SIGNS : mg "SIGNS" = some (.str (Str.ofString "-0123456789") tk_SIGNS)) : FnP P w K mg base "read_plain" 2 F_read_plain :=
  fnP F sc_read_plain hm hb fun cdv A outer s H E hr cz => (b_cons (s_if (c_cmp (m_eq hr.units) (v_ix (v_name 0) (v_name 1)) (PN.v n_str)).up (b_cons (s_set 2 cz (n_sm sm_find (v_name 0) (av_cons (PN.v n_str) (av_cons (PN.v (n_bin b_add (v_name 1) (PN.v n_int))) av_nil))).up)
      (b_cons (s_if (c_w (w_or (c_cmp m_lt (v_name 2) (PN.v n_int)) (w_or1 (c_not (c_truth (PN.v (n_call G_plain_text cz.tk (hr.mono (by decide)) (av_cons (PN.v (n_slice (v_name 0) (o_some (PN.v (n_bin b_add (v_name 1) (PN.v n_int)))) (o_some (v_name 2)))) av_nil)))))))).up (b_one (s_raiseA cz E_BadText)) b_nil)
      (b_one (s_ret (n_tup (av_cons (PN.v (n_slice (v_name 0) (o_some (PN.v (n_bin b_add (v_name 1) (PN.v n_int)))) (o_some (v_name 2)))) (av_cons (PN.v (n_bin b_add (v_name 2) (PN.v n_int))) av_nil))).up)))) b_nil)
      (b_cons (s_set 2 cz (m_name 1))
      (b_cons (s_while mu_read_plain_0 cz (c_w (w_and (c_cmp m_lt (v_name 2) (PN.v (n_callB f_len PySem.boot_len z_len (av_cons (v_name 0) av_nil)))) (w_and1 (c_cmp m_in (v_ix (v_name 0) (v_name 2)) (PN.v (n_glS c_SIGNS)))))).up (b_one (s_aug 2 cz i_add n_int.up)))
      (b_one (s_ret (n_tup (av_cons (PN.v (n_call G_read_integer cz.tk (hr.mono (by decide)) (av_cons (PN.v (n_slice (v_name 0) (o_some (v_name 1)) (o_some (v_name 2)))) av_nil))) (av_cons (v_name 2) av_nil))).up)))))
abbrev s_read_data : Stmt := topS 14
abbrev N_read_data : List Str := ["text", "stack", "index", "fresh", "done", "item"]
theorem sc_read_data : FnScope ["text", "stack", "index", "fresh", "done", "item"] ["text"] (defScope s_read_data) := ⟨rfl, rfl, rfl, by decide +kernel, rfl, by decide +kernel, by decide +kernel⟩
theorem ok_read_data {f : Addr} {fd : FuncData} (F : Fun K "read_data" "read_data" s_read_data f fd) (hm : mg "read_data" = some (.ref f)) (hb : Binds K fd ["text"] []) (G_read_plain : FnP P w K mg base "read_plain" 2 F_read_plain) (z_len : mg "len" = none) (z_tuple : mg "tuple" = none) {K_BadText : Addr} (E_BadText : ExA K mg "BadText" K_BadText) {tk_DEPTH : Tok} (c_DEPTH : mg "DEPTH" = some (.int 40 tk_DEPTH)) : FnP P w K mg base "read_data" 3 F_read_data :=
  fnP F sc_read_data hm hb fun cdv A outer s H E hr cz => (b_cons (s_set 1 cz (n_lst (an_cons (n_lst an_nil) an_nil)).up)
      (b_cons (s_set 2 cz n_int.up)
      (b_cons (s_set 3 cz n_bl.up)
      (b_cons (s_while mu_read_data_0 cz (c_cmp m_lt (v_name 2) (PN.v (n_callB f_len PySem.boot_len z_len (av_cons (v_name 0) av_nil)))).up (b_one (s_if (c_w (w_and (c_truth (v_name 3)) (w_and (c_cmp (m_eq hr.units) (v_ix (v_name 0) (v_name 2)) (PN.v n_str)) (w_and1 (c_cmp m_le (PN.v (n_callB f_len PySem.boot_len z_len (av_cons (v_name 1) av_nil))) (PN.v (n_glI c_DEPTH))))))).up (b_cons (s_expr (m_app 1 (n_lst an_nil).up))
      (b_one (s_aug 2 cz i_add n_int.up))) (b_one (s_if (c_w (w_and (c_cmp (m_eq hr.units) (v_ix (v_name 0) (v_name 2)) (PN.v n_str)) (w_and (c_cmp m_gt (PN.v (n_callB f_len PySem.boot_len z_len (av_cons (v_name 1) av_nil))) (PN.v n_int)) (w_and1 (c_w (w_or (c_not (c_truth (v_name 3))) (w_or1 (c_cmp (m_eq hr.units) (v_ix (v_name 0) (PN.v (n_bin b_sub (v_name 2) (PN.v n_int)))) (PN.v n_str))))))))).up (b_cons (s_set 4 cz (m_callT f_tuple boot_tuple z_tuple (ma_cons (m_pop 1) ma_nil)))
      (b_cons (s_expr (m_appIx 1 (PN.v (n_neg (PN.v n_int))) (v_name 4).pur))
      (b_cons (s_aug 2 cz i_add n_int.up)
      (b_one (s_set 3 cz n_bl.up))))) (b_one (s_if (c_w (w_and (c_not (c_truth (v_name 3))) (w_and (c_cmp m_gt (PN.v (n_callB f_len PySem.boot_len z_len (av_cons (v_name 1) av_nil))) (PN.v n_int)) (w_and1 (c_cmp (m_eq hr.units) (PN.v (n_slice (v_name 0) (o_some (v_name 2)) (o_some (PN.v (n_bin b_add (v_name 2) (PN.v n_int)))))) (PN.v n_str)))))).up (b_cons (s_aug 2 cz i_add n_int.up)
      (b_one (s_set 3 cz n_bl.up))) (b_one (s_if (c_w (w_and (c_truth (v_name 3)) (w_and1 (c_cmp (m_ne hr.units) (v_ix (v_name 0) (v_name 2)) (PN.v n_str))))).up (b_cons (s_asg (n_call G_read_plain cz.tk (hr.mono (by decide)) (av_cons (v_name 0) (av_cons (v_name 2) av_nil))).up (t_tup cz.calm (ts_cons (t_name 5 cz.nd) (ts_cons (t_name 2 cz.nd) ts_nil))))
      (b_cons (s_expr (m_appIx 1 (PN.v (n_neg (PN.v n_int))) (v_name 5).pur))
      (b_one (s_set 3 cz n_bl.up)))) (b_one (s_raiseA cz E_BadText)))))))))))
      (b_cons (s_if (c_w (w_or (c_cmp (m_ne hr.units) (PN.v (n_callB f_len PySem.boot_len z_len (av_cons (v_name 1) av_nil))) (PN.v n_int)) (w_or1 (c_cmp (m_ne hr.units) (PN.v (n_callB f_len PySem.boot_len z_len (av_cons (v_ix (v_name 1) (PN.v n_int)) av_nil))) (PN.v n_int))))).up (b_one (s_raiseA cz E_BadText)) b_nil)
      (b_one (s_ret (v_ix (v_ix (v_name 1) (PN.v n_int)) (PN.v n_int)).pur.up)))))))
abbrev s__law_refuses_text : Stmt := topS 26
abbrev N__law_refuses_text : List Str := ["kind", "text", "e"]
theorem sc__law_refuses_text : FnScope ["kind", "text", "e"] ["kind", "text"] (defScope s__law_refuses_text) := ⟨rfl, rfl, rfl, by decide +kernel, rfl, by decide +kernel, by decide +kernel⟩
theorem ok__law_refuses_text {f : Addr} {fd : FuncData} (F : Fun K "_law_refuses_text" "_law_refuses_text" s__law_refuses_text f fd) (hm : mg "_law_refuses_text" = some (.ref f)) (hb : Binds K fd ["kind", "text"] []) (G_read_data : FnP P w K mg base "read_data" 3 F_read_data) (G_read_integer : FnP P w K mg base "read_integer" 1 F_read_integer) (z_isinstance : mg "isinstance" = none) {K_BadText : Addr} {K_CountunseenError : Addr} (EC_BadText : ExcC K K_BadText) (E_BadText : ExA K mg "BadText" K_BadText) (KT_BadText_CountunseenError : PySem.W.kitOne K (.ref K_BadText) (.ref K_CountunseenError) = some true) (M_BadText : mg "BadText" = some (.ref K_BadText)) (M_CountunseenError : mg "CountunseenError" = some (.ref K_CountunseenError)) (XM_BadText_BadText : PySem.W.exmOne K (.ref K_BadText) (.ref K_BadText) = some true) : FnP P w K mg base "_law_refuses_text" 4 F__law_refuses_text :=
  fnP F sc__law_refuses_text hm hb fun cdv A outer s H E hr cz => (b_cons (s_try 2 cz M_BadText (hcat_cons E_BadText.mg XM_BadText_BadText hcat_nil) (fun _ _ _ cz => (b_one (s_if (c_cmp (m_eq hr.units) (v_name 0) (PN.v n_str)).up (b_one (s_expr (n_call G_read_integer cz.tk (hr.mono (by decide)) (av_cons (v_name 1) av_nil)).up)) (b_one (s_expr (n_call G_read_data cz.tk (hr.mono (by decide)) (av_cons (v_name 1) av_nil)).up))))) (su_isi 2 E_BadText.mg EC_BadText M_CountunseenError KT_BadText_CountunseenError z_isinstance))
      (b_one (s_ret n_bl.up)))
abbrev s__law_draw : Stmt := topS 17
abbrev N__law_draw : List Str := ["state", "most", "found", "cell", "mixed"]
theorem sc__law_draw : FnScope ["state", "most", "found", "cell", "mixed"] ["state", "most"] (defScope s__law_draw) := ⟨rfl, rfl, rfl, by decide +kernel, rfl, by decide +kernel, by decide +kernel⟩
theorem ok__law_draw {f : Addr} {fd : FuncData} (F : Fun K "_law_draw" "_law_draw" s__law_draw f fd) (hm : mg "_law_draw" = some (.ref f)) (hb : Binds K fd ["state", "most"] []) (z_abs : mg "abs" = none) (z_int : mg "int" = none) (z_len : mg "len" = none) : FnM P w K mg base "_law_draw" 1 F__law_draw :=
  fnM F sc__law_draw hm hb fun cdv A outer s H E hr cz => (b_cons (s_store 0 (n_bin b_add (v_ix (v_name 0) (PN.v n_int)) (PN.v n_int)).up (PN.v n_int))
      (b_cons (s_if (c_cmp m_gt (v_ix (v_name 0) (PN.v n_int)) (PN.v n_int)).up (b_cons (s_set 2 cz (n_bin b_mod (PN.v (n_callT f_int boot_int z_int (av_cons (v_ix (v_name 0) (PN.v n_int)) av_nil))) (v_name 1)).up)
      (b_cons (s_store 0 (n_bin b_div (v_ix (v_name 0) (PN.v n_int)) (v_name 1)).up (PN.v n_int))
      (b_one (s_ret (m_name 2))))) b_nil)
      (b_cons (s_set 3 cz n_int.up)
      (b_cons (s_if (c_cmp m_gt (PN.v (n_callB f_len PySem.boot_len z_len (av_cons (v_ix (v_name 0) (PN.v n_int)) av_nil))) (PN.v n_int)).up (b_one (s_set 3 cz (n_callB f_abs boot_abs z_abs (av_cons (v_ix (v_ix (v_name 0) (PN.v n_int)) (PN.v (n_bin b_mod (PN.v (n_callT f_int boot_int z_int (av_cons (v_ix (v_name 0) (PN.v n_int)) av_nil))) (PN.v (n_callB f_len PySem.boot_len z_len (av_cons (v_ix (v_name 0) (PN.v n_int)) av_nil)))))) av_nil)).up)) b_nil)
      (b_cons (s_store 0 (n_bin b_add (v_ix (v_name 0) (PN.v n_int)) (PN.v n_int)).up (PN.v n_int))
      (b_cons (s_if (c_cmp m_ge (v_name 3) (PN.v (n_bin b_pow (PN.v n_int) (PN.v n_int)))).up (b_cons (s_store 0 (n_bin b_div (v_name 3) (v_name 1)).up (PN.v n_int))
      (b_one (s_ret (n_bin b_mod (PN.v (n_callT f_int boot_int z_int (av_cons (v_name 3) av_nil))) (v_name 1)).up))) b_nil)
      (b_cons (s_set 4 cz (n_bin b_mod (PN.v (n_callT f_int boot_int z_int (av_cons (PN.v (n_bin b_add (PN.v (n_bin b_mul (PN.v (n_bin b_add (v_name 3) (PN.v n_int))) (PN.v n_int))) (PN.v (n_bin b_mul (v_ix (v_name 0) (PN.v n_int)) (PN.v n_int))))) av_nil))) (PN.v n_int)).up)
      (b_cons (s_set 4 cz (n_bin b_mod (PN.v (n_callT f_int boot_int z_int (av_cons (PN.v (n_bin b_add (PN.v (n_bin b_add (PN.v (n_bin b_mul (v_name 4) (PN.v n_int))) (PN.v (n_bin b_div (v_name 3) (PN.v n_int))))) (v_ix (v_name 0) (PN.v n_int)))) av_nil))) (PN.v n_int)).up)
      (b_one (s_ret (n_bin b_mod (PN.v (n_bin b_div (v_name 4) (PN.v n_int))) (v_name 1)).up))))))))))
abbrev s__law_long_number : Stmt := topS 22
abbrev N__law_long_number : List Str := ["state", "most", "number", "turn"]
theorem sc__law_long_number : FnScope ["state", "most", "number", "turn"] ["state", "most"] (defScope s__law_long_number) := ⟨rfl, rfl, rfl, by decide +kernel, rfl, by decide +kernel, by decide +kernel⟩
theorem ok__law_long_number {f : Addr} {fd : FuncData} (F : Fun K "_law_long_number" "_law_long_number" s__law_long_number f fd) (hm : mg "_law_long_number" = some (.ref f)) (hb : Binds K fd ["state", "most"] []) (G__law_draw : FnM P w K mg base "_law_draw" 1 F__law_draw) (z_range : mg "range" = none) : FnM P w K mg base "_law_long_number" 2 F__law_long_number :=
  fnM F sc__law_long_number hm hb fun cdv A outer s H E hr cz => (b_cons (s_set 2 cz (m_callM 0 G__law_draw cz.tk (hr.mono (by decide)) (mh_o (n_bin b_pow (PN.v n_int) (PN.v n_int)).up mh_nil)))
      (b_cons (s_for cz (mi_rng1 z_range (m_callM 0 G__law_draw cz.tk (hr.mono (by decide)) (mh_n 1 mh_nil))) (t_name 3 cz.nd) (b_one (s_set 2 cz (m_bin b_add (n_bin b_mul (v_name 2) (PN.v (n_bin b_pow (PN.v n_int) (PN.v n_int)))).up (m_callM 0 G__law_draw cz.tk (hr.mono (by decide)) (mh_o (n_bin b_pow (PN.v n_int) (PN.v n_int)).up mh_nil))))))
      (b_one (s_ret (m_bin b_mul (v_name 2).pur.up (m_ix (n_lst (an_cons n_int (an_cons (n_neg (PN.v n_int)) an_nil))).up (m_callM 0 G__law_draw cz.tk (hr.mono (by decide)) (mh_o n_int.up mh_nil))))))))
abbrev s__law_some_datum : Stmt := topS 23
abbrev N__law_some_datum : List Str := ["state", "depth", "pick", "k"]
theorem sc__law_some_datum : FnScope ["state", "depth", "pick", "k"] ["state", "depth"] (defScope s__law_some_datum) := ⟨rfl, rfl, rfl, by decide +kernel, rfl, by decide +kernel, by decide +kernel⟩
theorem ok__law_some_datum {f : Addr} {fd : FuncData} (F : Fun K "_law_some_datum" "_law_some_datum" s__law_some_datum f fd) (hm : mg "_law_some_datum" = some (.ref f)) (hb : Binds K fd ["state", "depth"] []) (G__law_draw : FnM P w K mg base "_law_draw" 1 F__law_draw) (G__law_long_number : FnM P w K mg base "_law_long_number" 2 F__law_long_number) (z_range : mg "range" = none) (z_tuple : mg "tuple" = none) : ∀ n : Nat, FnM P w K mg base "_law_some_datum" (3 + n) (F__law_some_datum (n + 1)) := by
  have step : ∀ (n k : Nat) (Fr), FnM P w K mg base "_law_some_datum" k Fr → 2 ≤ k → FnM P w K mg base "_law_some_datum" (k + 1) (runM 4 2 (d__law_some_datum Fr)) := fun n k Fr G__law_some_datum hk =>
    fnM F sc__law_some_datum hm hb fun cdv A outer s H E hr cz => (b_cons (s_set 2 cz (m_callM 0 G__law_draw cz.tk (hr.mono (by omega)) (mh_o n_int.up mh_nil)))
      (b_cons (s_if (c_w (w_or (c_cmp m_lt (v_name 2) (PN.v n_int)) (w_or1 (c_w (w_and (c_cmp (m_eq hr.units) (v_name 1) (PN.v n_int)) (w_and1 (c_cmp m_gt (v_name 2) (PN.v n_int)))))))).up (b_one (s_ret (m_ix (m_lst (ma_cons (m_bin b_sub (m_callM 0 G__law_draw cz.tk (hr.mono (by omega)) (mh_o n_int.up mh_nil)) n_int.up) (ma_cons (m_callM 0 G__law_long_number cz.tk (hr.mono (by omega)) (mh_o n_int.up mh_nil)) ma_nil))) (m_callM 0 G__law_draw cz.tk (hr.mono (by omega)) (mh_o n_int.up mh_nil))))) b_nil)
      (b_cons (s_if (c_cmp m_lt (v_name 2) (PN.v n_int)).up (b_one (s_ret (m_ix (n_lst (an_cons n_str (an_cons n_str (an_cons n_str (an_cons n_str (an_cons n_str (an_cons n_str an_nil))))))).up (m_callM 0 G__law_draw cz.tk (hr.mono (by omega)) (mh_o n_int.up mh_nil))))) b_nil)
      (b_one (s_ret (m_callT f_tuple boot_tuple z_tuple (ma_cons (m_lc [("k", 3)] cz (mi_rng1 z_range (m_callM 0 G__law_draw cz.tk (hr.mono (by omega)) (mh_o n_int.up mh_nil))) (blk_ok (N := N__law_some_datum) (sc := defScope s__law_some_datum) (by decide +kernel)) (ix_name (by decide)) (fun _ _ _ _ _ => (t_name 3 cz.nd)) (fun _ _ _ _ _ => cs_nil) (fun _ _ _ _ _ => (m_callM 0 G__law_some_datum takes0 (hr.mono (by omega)) (mh_o (n_bin b_sub (v_name 1) (PN.v n_int)).up mh_nil)))) ma_nil)))))))
  have go : ∀ n : Nat, FnM P w K mg base "_law_some_datum" (2 + n) (F__law_some_datum n) := fun n => by
    induction n with
    | zero => exact fnM_no F hm hb
    | succ n ih => exact step n (2 + n) _ ih (by omega)
  exact fun n => by have := go (n + 1); rw [show 2 + (n + 1) = 3 + n by omega] at this; exact this
abbrev s__law_datum_text : Stmt := topS 24
abbrev N__law_datum_text : List Str := ["datum", "one"]
theorem sc__law_datum_text : FnScope ["datum", "one"] ["datum"] (defScope s__law_datum_text) := ⟨rfl, rfl, rfl, by decide +kernel, rfl, by decide +kernel, by decide +kernel⟩
theorem ok__law_datum_text {f : Addr} {fd : FuncData} (F : Fun K "_law_datum_text" "_law_datum_text" s__law_datum_text f fd) (hm : mg "_law_datum_text" = some (.ref f)) (hb : Binds K fd ["datum"] []) (G__law_figures_of : FnP P w K mg base "_law_figures_of" 1 F__law_figures_of) (z_isinstance : mg "isinstance" = none) (z_str : mg "str" = none) (z_tuple : mg "tuple" = none) : ∀ n : Nat, FnP P w K mg base "_law_datum_text" (2 + n) (F__law_datum_text (n + 1)) := by
  have step : ∀ (n k : Nat) (Fr), FnP P w K mg base "_law_datum_text" k Fr → 1 ≤ k → FnP P w K mg base "_law_datum_text" (k + 1) (runP 2 1 (d__law_datum_text Fr)) := fun n k Fr G__law_datum_text hk =>
    fnP F sc__law_datum_text hm hb fun cdv A outer s H E hr cz => (b_cons (s_if (c_truth (PN.v (n_isi kit_tup z_isinstance z_tuple boot_tuple (v_name 0)))).up (b_one (s_ret (n_bin b_add (PN.v (n_bin b_add (PN.v n_str) (PN.v (n_sm sm_join (PN.v n_str) (av_cons (PN.v (n_lc [("one", 1)] cz.calm cz.nd (i_sq (v_name 0)) (blk_ok (N := N__law_datum_text) (sc := defScope s__law_datum_text) (by decide +kernel)) (ix_name (by decide)) (fun _ _ _ _ _ => (t_name 1 cz.nd)) (fun _ _ _ _ _ => cs_nil) (fun _ _ _ _ _ => (n_call G__law_datum_text takes0 (hr.mono (by omega)) (av_cons (v_name 1) av_nil))))) av_nil))))) (PN.v n_str)).up)) b_nil)
      (b_cons (s_if (c_truth (PN.v (n_isi kit_str z_isinstance z_str boot_str (v_name 0)))).up (b_one (s_ret (n_bin b_add (PN.v (n_bin b_add (PN.v n_str) (v_name 0))) (PN.v n_str)).up)) b_nil)
      (b_one (s_ret (n_call G__law_figures_of cz.tk (hr.mono (by omega)) (av_cons (v_name 0) av_nil)).up))))
  have go : ∀ n : Nat, FnP P w K mg base "_law_datum_text" (1 + n) (F__law_datum_text n) := fun n => by
    induction n with
    | zero => exact fnP_no F hm hb
    | succ n ih => exact step n (1 + n) _ ih (by omega)
  exact fun n => by have := go (n + 1); rw [show 1 + (n + 1) = 2 + n by omega] at this; exact this
abbrev s__law_is_int : Stmt := topS 19
abbrev N__law_is_int : List Str := ["x"]
theorem sc__law_is_int : FnScope ["x"] ["x"] (defScope s__law_is_int) := ⟨rfl, rfl, rfl, by decide +kernel, rfl, by decide +kernel, by decide +kernel⟩
theorem ok__law_is_int {f : Addr} {fd : FuncData} (F : Fun K "_law_is_int" "_law_is_int" s__law_is_int f fd) (hm : mg "_law_is_int" = some (.ref f)) (hb : Binds K fd ["x"] []) (z_bool : mg "bool" = none) (z_int : mg "int" = none) (z_isinstance : mg "isinstance" = none) : FnP P w K mg base "_law_is_int" 1 F__law_is_int :=
  fnP F sc__law_is_int hm hb fun cdv A outer s H E hr cz => (b_one (s_ret (v_and (PN.v (n_isi kit_int z_isinstance z_int boot_int (v_name 0))) (v_one (PN.v (n_not (PN.v (n_isi kit_bl z_isinstance z_bool boot_bool (v_name 0))))))).pur.up))
abbrev s__law_same : Stmt := topS 20
abbrev N__law_same : List Str := ["x", "y", "k"]
theorem sc__law_same : FnScope ["x", "y", "k"] ["x", "y"] (defScope s__law_same) := ⟨rfl, rfl, rfl, by decide +kernel, rfl, by decide +kernel, by decide +kernel⟩
theorem ok__law_same {f : Addr} {fd : FuncData} (F : Fun K "_law_same" "_law_same" s__law_same f fd) (hm : mg "_law_same" = some (.ref f)) (hb : Binds K fd ["x", "y"] []) (G__law_is_int : FnP P w K mg base "_law_is_int" 1 F__law_is_int) (z_all : mg "all" = none) (z_isinstance : mg "isinstance" = none) (z_len : mg "len" = none) (z_range : mg "range" = none) (z_str : mg "str" = none) (z_tuple : mg "tuple" = none) : ∀ n : Nat, FnP P w K mg base "_law_same" (2 + n) (F__law_same (n + 1)) := by
  have step : ∀ (n k : Nat) (Fr), FnP P w K mg base "_law_same" k Fr → 1 ≤ k → FnP P w K mg base "_law_same" (k + 1) (runP 3 2 (d__law_same Fr)) := fun n k Fr G__law_same hk =>
    fnP F sc__law_same hm hb fun cdv A outer s H E hr cz => (b_cons (s_if (c_truth (PN.v (n_isi kit_tup z_isinstance z_tuple boot_tuple (v_name 1)))).up (b_cons (s_if (c_w (w_or (c_not (c_truth (PN.v (n_isi kit_tup z_isinstance z_tuple boot_tuple (v_name 0))))) (w_or1 (c_cmp (m_ne hr.units) (PN.v (n_callB f_len PySem.boot_len z_len (av_cons (v_name 0) av_nil))) (PN.v (n_callB f_len PySem.boot_len z_len (av_cons (v_name 1) av_nil))))))).up (b_one (s_ret n_bl.up)) b_nil)
      (b_one (s_ret (n_callB (f_all rfl) (by decide +kernel) z_all (av_cons (PN.v (n_lc [("k", 2)] cz.calm cz.nd (j_rng1 z_range (PN.v (n_callB f_len PySem.boot_len z_len (av_cons (v_name 1) av_nil)))).v (blk_ok (N := N__law_same) (sc := defScope s__law_same) (by decide +kernel)) (ix_name (by decide)) (fun _ _ _ _ _ => (t_name 2 cz.nd)) (fun _ _ _ _ _ => cs_nil) (fun _ _ _ _ _ => (n_call G__law_same takes0 (hr.mono (by omega)) (av_cons (v_ix (v_name 0) (v_name 2)) (av_cons (v_ix (v_name 1) (v_name 2)) av_nil)))))) av_nil)).up))) b_nil)
      (b_cons (s_if (c_truth (PN.v (n_isi kit_str z_isinstance z_str boot_str (v_name 1)))).up (b_one (s_ret (v_and (PN.v (n_isi kit_str z_isinstance z_str boot_str (v_name 0))) (v_one (PN.v (n_cmp (m_eq hr.units) (v_name 0) (v_name 1))))).pur.up)) b_nil)
      (b_one (s_ret (v_and (PN.v (n_call G__law_is_int cz.tk (hr.mono (by omega)) (av_cons (v_name 0) av_nil))) (v_one (PN.v (n_cmp (m_eq hr.units) (v_name 0) (v_name 1))))).pur.up))))
  have go : ∀ n : Nat, FnP P w K mg base "_law_same" (1 + n) (F__law_same n) := fun n => by
    induction n with
    | zero => exact fnP_no F hm hb
    | succ n ih => exact step n (1 + n) _ ih (by omega)
  exact fun n => by have := go (n + 1); rw [show 1 + (n + 1) = 2 + n by omega] at this; exact this
abbrev s__law_one_of : Stmt := topS 18
abbrev N__law_one_of : List Str := ["state", "items"]
theorem sc__law_one_of : FnScope ["state", "items"] ["state", "items"] (defScope s__law_one_of) := ⟨rfl, rfl, rfl, by decide +kernel, rfl, by decide +kernel, by decide +kernel⟩
theorem ok__law_one_of {f : Addr} {fd : FuncData} (F : Fun K "_law_one_of" "_law_one_of" s__law_one_of f fd) (hm : mg "_law_one_of" = some (.ref f)) (hb : Binds K fd ["state", "items"] []) (G__law_draw : FnM P w K mg base "_law_draw" 1 F__law_draw) (z_len : mg "len" = none) : FnM P w K mg base "_law_one_of" 2 F__law_one_of :=
  fnM F sc__law_one_of hm hb fun cdv A outer s H E hr cz => (b_one (s_ret (m_ixN 1 (m_callM 0 G__law_draw cz.tk (hr.mono (by decide)) (mh_o (n_callB f_len PySem.boot_len z_len (av_cons (v_name 1) av_nil)).up mh_nil)))))
abbrev s_write_integer : Stmt := topS 6
abbrev N_write_integer : List Str := ["n", "chunks", "low"]
theorem sc_write_integer : FnScope ["n", "chunks", "low"] ["n"] (defScope s_write_integer) := ⟨rfl, rfl, rfl, by decide +kernel, rfl, by decide +kernel, by decide +kernel⟩
theorem ok_write_integer {f : Addr} {fd : FuncData} (F : Fun K "write_integer" "write_integer" s_write_integer f fd) (hm : mg "write_integer" = some (.ref f)) (hb : Binds K fd ["n"] []) (z_divmod : mg "divmod" = none) (z_str : mg "str" = none) {tk_BASE : Tok} (c_BASE : mg "BASE" = some (.int 10000000000000000000000000000000000000000000000000000000000000000 tk_BASE)) : ∀ n : Nat, FnP P w K mg base "write_integer" (1 + n) (F_write_integer (n + 1)) := by
  have step : ∀ (n k : Nat) (Fr), FnP P w K mg base "write_integer" k Fr → 0 ≤ k → FnP P w K mg base "write_integer" (k + 1) (runP 3 1 (d_write_integer Fr)) := fun n k Fr G_write_integer hk =>
    fnP F sc_write_integer hm hb fun cdv A outer s H E hr cz => (b_cons (s_if (c_cmp m_lt (v_name 0) (PN.v n_int)).up (b_one (s_ret (n_bin b_add (PN.v n_str) (PN.v (n_call G_write_integer cz.tk (hr.mono (by omega)) (av_cons (PN.v (n_neg (v_name 0))) av_nil)))).up)) b_nil)
      (b_cons (s_set 1 cz (n_lst an_nil).up)
      (b_cons (s_while mu_write_integer_0 cz (c_cmp m_ge (v_name 0) (PN.v (n_glI c_BASE))).up (b_cons (s_asg (n_callB f_divmod (by decide +kernel) z_divmod (av_cons (v_name 0) (av_cons (PN.v (n_glI c_BASE)) av_nil))).up (t_tup cz.calm (ts_cons (t_name 0 cz.nd) (ts_cons (t_name 2 cz.nd) ts_nil))))
      (b_one (s_expr (m_app 1 (n_sm sm_zfill (PN.v (n_callT f_str boot_str z_str (av_cons (v_name 2) av_nil))) (av_cons (PN.v n_int) av_nil)).up)))))
      (b_cons (s_expr (m_app 1 (n_callT f_str boot_str z_str (av_cons (v_name 0) av_nil)).up))
      (b_one (s_ret (n_sm sm_join (PN.v n_str) (av_cons (PN.v (n_rev (v_name 1))) av_nil)).up))))))
  have go : ∀ n : Nat, FnP P w K mg base "write_integer" (0 + n) (F_write_integer n) := fun n => by
    induction n with
    | zero => exact fnP_no F hm hb
    | succ n ih => exact step n (0 + n) _ ih (by omega)
  exact fun n => by have := go (n + 1); rw [show 0 + (n + 1) = 1 + n by omega] at this; exact this
abbrev s_write_data : Stmt := topS 11
abbrev N_write_data : List Str := ["datum", "item"]
theorem sc_write_data : FnScope ["datum", "item"] ["datum"] (defScope s_write_data) := ⟨rfl, rfl, rfl, by decide +kernel, rfl, by decide +kernel, by decide +kernel⟩
theorem ok_write_data {f : Addr} {fd : FuncData} (F : Fun K "write_data" "write_data" s_write_data f fd) (hm : mg "write_data" = some (.ref f)) (hb : Binds K fd ["datum"] []) (G_write_integer : FnP P w K mg base "write_integer" 2 (F_write_integer 2)) (z_isinstance : mg "isinstance" = none) (z_str : mg "str" = none) (z_tuple : mg "tuple" = none) : ∀ n : Nat, FnP P w K mg base "write_data" (3 + n) (F_write_data (n + 1)) := by
  have step : ∀ (n k : Nat) (Fr), FnP P w K mg base "write_data" k Fr → 2 ≤ k → FnP P w K mg base "write_data" (k + 1) (runP 2 1 (d_write_data Fr)) := fun n k Fr G_write_data hk =>
    fnP F sc_write_data hm hb fun cdv A outer s H E hr cz => (b_cons (s_if (c_truth (PN.v (n_isi kit_tup z_isinstance z_tuple boot_tuple (v_name 0)))).up (b_one (s_ret (n_bin b_add (PN.v (n_bin b_add (PN.v n_str) (PN.v (n_sm sm_join (PN.v n_str) (av_cons (PN.v (n_lc [("item", 1)] cz.calm cz.nd (i_sq (v_name 0)) (blk_ok (N := N_write_data) (sc := defScope s_write_data) (by decide +kernel)) (ix_name (by decide)) (fun _ _ _ _ _ => (t_name 1 cz.nd)) (fun _ _ _ _ _ => cs_nil) (fun _ _ _ _ _ => (n_call G_write_data takes0 (hr.mono (by omega)) (av_cons (v_name 1) av_nil))))) av_nil))))) (PN.v n_str)).up)) b_nil)
      (b_cons (s_if (c_truth (PN.v (n_isi kit_str z_isinstance z_str boot_str (v_name 0)))).up (b_one (s_ret (n_bin b_add (PN.v (n_bin b_add (PN.v n_str) (v_name 0))) (PN.v n_str)).up)) b_nil)
      (b_one (s_ret (n_call G_write_integer cz.tk (hr.mono (by omega)) (av_cons (v_name 0) av_nil)).up))))
  have go : ∀ n : Nat, FnP P w K mg base "write_data" (2 + n) (F_write_data n) := fun n => by
    induction n with
    | zero => exact fnP_no F hm hb
    | succ n ih => exact step n (2 + n) _ ih (by omega)
  exact fun n => by have := go (n + 1); rw [show 2 + (n + 1) = 3 + n by omega] at this; exact this
abbrev s_law : Stmt := topS 27
abbrev N_law : List Str := ["script", "state", "turn", "number", "text", "bad", "datum", "great", "wide", "deep", "k"]
theorem sc_law : FnScope ["script", "state", "turn", "number", "text", "bad", "datum", "great", "wide", "deep", "k"] ["script"] (defScope s_law) := ⟨rfl, rfl, rfl, by decide +kernel, rfl, by decide +kernel, by decide +kernel⟩
theorem ok_law {f : Addr} {fd : FuncData} (F : Fun K "law" "law" s_law f fd) (G__law_datum_text : FnP P w K mg base "_law_datum_text" 47 (F__law_datum_text 46)) (G__law_draw : FnM P w K mg base "_law_draw" 1 F__law_draw) (G__law_figures_of : FnP P w K mg base "_law_figures_of" 1 F__law_figures_of) (G__law_long_number : FnM P w K mg base "_law_long_number" 2 F__law_long_number) (G__law_nested : FnP P w K mg base "_law_nested" 1 F__law_nested) (G__law_one_of : FnM P w K mg base "_law_one_of" 2 F__law_one_of) (G__law_refuses_text : FnP P w K mg base "_law_refuses_text" 4 F__law_refuses_text) (G__law_same : FnP P w K mg base "_law_same" 47 (F__law_same 46)) (G__law_some_datum : FnM P w K mg base "_law_some_datum" 8 (F__law_some_datum 6)) (G__law_start : FnP P w K mg base "_law_start" 1 F__law_start) (G_read_data : FnP P w K mg base "read_data" 3 F_read_data) (G_read_integer : FnP P w K mg base "read_integer" 1 F_read_integer) (G_write_data : FnP P w K mg base "write_data" 48 (F_write_data 46)) (G_write_integer : FnP P w K mg base "write_integer" 2 (F_write_integer 2)) (z_abs : mg "abs" = none) (z_range : mg "range" = none) (z_tuple : mg "tuple" = none) : FnOk P w K mg base (L2.CX P w) 49 f fd ["script"] (spP K mg F_law) :=
  fnPk F sc_law fun cdv A outer s H E hr cz => (b_cons (s_set 1 cz (n_call G__law_start cz.tk (hr.mono (by decide)) (av_cons (v_name 0) av_nil)).up)
      (b_cons (s_for cz (j_rng1 z_range (PN.v n_int)).up (t_name 2 cz.nd) (b_cons (s_set 3 cz (m_ix (m_lst (ma_cons (m_bin b_sub (m_callM 1 G__law_draw cz.tk (hr.mono (by decide)) (mh_o n_int.up mh_nil)) n_int.up) (ma_cons (m_callM 1 G__law_long_number cz.tk (hr.mono (by decide)) (mh_o n_int.up mh_nil)) ma_nil))) (m_callM 1 G__law_draw cz.tk (hr.mono (by decide)) (mh_o n_int.up mh_nil))))
      (b_cons (s_set 4 cz (n_call G__law_figures_of cz.tk (hr.mono (by decide)) (av_cons (v_name 3) av_nil)).up)
      (b_cons (s_if (c_w (w_or (c_not (c_truth (PN.v (n_call G__law_same cz.tk (hr.mono (by decide)) (av_cons (PN.v (n_call G_write_integer cz.tk (hr.mono (by decide)) (av_cons (v_name 3) av_nil))) (av_cons (v_name 4) av_nil)))))) (w_or1 (c_not (c_truth (PN.v (n_call G__law_same cz.tk (hr.mono (by decide)) (av_cons (PN.v (n_call G_read_integer cz.tk (hr.mono (by decide)) (av_cons (v_name 4) av_nil))) (av_cons (v_name 3) av_nil))))))))).up (b_one (s_ret n_bl.up)) b_nil)
      (b_cons (s_set 5 cz (n_lst (an_cons n_str (an_cons n_str (an_cons n_str (an_cons n_str (an_cons n_str (an_cons (n_bin b_add (PN.v n_str) (v_name 4)) (an_cons (n_bin b_add (v_name 4) (PN.v n_str)) (an_cons (n_bin b_add (PN.v n_str) (v_name 4)) (an_cons (n_bin b_add (v_name 4) (PN.v n_str)) (an_cons n_str (an_cons n_str (an_cons n_str (an_cons n_str an_nil)))))))))))))).up)
      (b_cons (s_if (mc_not (mc_truth (m_call G__law_refuses_text cz.tk (hr.mono (by decide)) (ma_cons n_str.up (ma_cons (m_callM 1 G__law_one_of cz.tk (hr.mono (by decide)) (mh_n 5 mh_nil)) ma_nil))))) (b_one (s_ret n_bl.up)) b_nil)
      (b_cons (s_set 6 cz (m_callM 1 G__law_some_datum cz.tk (hr.mono (by decide)) (mh_o n_int.up mh_nil)))
      (b_cons (s_set 4 cz (n_call G__law_datum_text cz.tk (hr.mono (by decide)) (av_cons (v_name 6) av_nil)).up)
      (b_cons (s_if (c_w (w_or (c_not (c_truth (PN.v (n_call G__law_same cz.tk (hr.mono (by decide)) (av_cons (PN.v (n_call G_write_data cz.tk (hr.mono (by decide)) (av_cons (v_name 6) av_nil))) (av_cons (v_name 4) av_nil)))))) (w_or1 (c_not (c_truth (PN.v (n_call G__law_same cz.tk (hr.mono (by decide)) (av_cons (PN.v (n_call G_read_data cz.tk (hr.mono (by decide)) (av_cons (v_name 4) av_nil))) (av_cons (v_name 6) av_nil))))))))).up (b_one (s_ret n_bl.up)) b_nil)
      (b_cons (s_set 5 cz (n_lst (an_cons n_str (an_cons n_str (an_cons n_str (an_cons n_str (an_cons n_str (an_cons n_str (an_cons n_str (an_cons n_str (an_cons n_str (an_cons n_str (an_cons n_str (an_cons n_str (an_cons n_str (an_cons n_str an_nil))))))))))))))).up)
      (b_cons (s_set 5 cz (n_bin b_add (v_name 5) (PN.v (n_lst (an_cons (n_bin b_add (v_name 4) (PN.v n_str)) (an_cons (n_bin b_add (PN.v n_str) (v_name 4)) (an_cons (n_bin b_add (v_name 4) (PN.v n_str)) (an_cons (n_bin b_add (v_name 4) (PN.v n_str)) (an_cons (n_bin b_add (PN.v (n_bin b_add (PN.v n_str) (v_name 4))) (PN.v n_str)) (an_cons n_str (an_cons n_str (an_cons n_str an_nil))))))))))).up)
      (b_one (s_if (mc_not (mc_truth (m_call G__law_refuses_text cz.tk (hr.mono (by decide)) (ma_cons n_str.up (ma_cons (m_callM 1 G__law_one_of cz.tk (hr.mono (by decide)) (mh_n 5 mh_nil)) ma_nil))))) (b_one (s_ret n_bl.up)) b_nil)))))))))))))
      (b_cons (s_set 7 cz (n_bin b_add (PN.v n_int) (PN.v (n_callB f_abs boot_abs z_abs (av_cons (v_name 3) av_nil)))).up)
      (b_cons (s_for cz (j_rng1 z_range (PN.v n_int)).up (t_name 2 cz.nd) (b_one (s_set 7 cz (n_bin b_add (PN.v (n_bin b_mul (v_name 7) (PN.v (n_bin b_pow (PN.v n_int) (PN.v n_int))))) (v_name 2)).up)))
      (b_cons (s_set 4 cz (n_call G__law_figures_of cz.tk (hr.mono (by decide)) (av_cons (v_name 7) av_nil)).up)
      (b_cons (s_if (c_w (w_or (c_not (c_truth (PN.v (n_call G__law_same cz.tk (hr.mono (by decide)) (av_cons (PN.v (n_call G_write_integer cz.tk (hr.mono (by decide)) (av_cons (v_name 7) av_nil))) (av_cons (v_name 4) av_nil)))))) (w_or1 (c_not (c_truth (PN.v (n_call G__law_same cz.tk (hr.mono (by decide)) (av_cons (PN.v (n_call G_read_integer cz.tk (hr.mono (by decide)) (av_cons (v_name 4) av_nil))) (av_cons (v_name 7) av_nil))))))))).up (b_one (s_ret n_bl.up)) b_nil)
      (b_cons (s_set 8 cz (n_callT f_tuple boot_tuple z_tuple (av_cons (PN.v (n_lc [("k", 10)] cz.calm cz.nd (j_rng1 z_range (PN.v n_int)).v (blk_ok (N := N_law) (sc := defScope s_law) (by decide +kernel)) (ix_name (by decide)) (fun _ _ _ _ _ => (t_name 10 cz.nd)) (fun _ _ _ _ _ => cs_nil) (fun _ _ _ _ _ => (n_tup (av_cons (v_name 10) (av_cons (PN.v (n_tup av_nil)) av_nil)))))) av_nil)).up)
      (b_cons (s_if (c_not (c_truth (PN.v (n_call G__law_same cz.tk (hr.mono (by decide)) (av_cons (PN.v (n_call G_read_data cz.tk (hr.mono (by decide)) (av_cons (PN.v (n_call G_write_data cz.tk (hr.mono (by decide)) (av_cons (v_name 8) av_nil))) av_nil))) (av_cons (v_name 8) av_nil)))))).up (b_one (s_ret n_bl.up)) b_nil)
      (b_cons (s_for cz (j_sq (n_lst (an_cons n_str (an_cons n_str (an_cons n_str (an_cons (n_tup (av_cons (PN.v n_str) (av_cons (PN.v n_int) (av_cons (PN.v (n_neg (PN.v n_int))) av_nil)))) (an_cons (n_call G__law_nested cz.tk (hr.mono (by decide)) (av_cons (PN.v (n_tup av_nil)) (av_cons (PN.v n_int) av_nil))) an_nil))))))).up (t_name 6 cz.nd) (b_cons (s_if (c_not (c_truth (PN.v (n_call G__law_same cz.tk (hr.mono (by decide)) (av_cons (PN.v (n_call G_write_data cz.tk (hr.mono (by decide)) (av_cons (v_name 6) av_nil))) (av_cons (PN.v (n_call G__law_datum_text cz.tk (hr.mono (by decide)) (av_cons (v_name 6) av_nil))) av_nil)))))).up (b_one (s_ret n_bl.up)) b_nil)
      (b_one (s_if (c_not (c_truth (PN.v (n_call G__law_same cz.tk (hr.mono (by decide)) (av_cons (PN.v (n_call G_read_data cz.tk (hr.mono (by decide)) (av_cons (PN.v (n_call G__law_datum_text cz.tk (hr.mono (by decide)) (av_cons (v_name 6) av_nil))) av_nil))) (av_cons (v_name 6) av_nil)))))).up (b_one (s_ret n_bl.up)) b_nil))))
      (b_cons (s_for cz (j_sq (n_lst (an_cons n_str (an_cons n_str (an_cons n_str (an_cons n_str (an_cons n_str (an_cons n_str (an_cons (n_bin b_add (PN.v (n_bin b_mulS (PN.v n_str) (PN.v n_int))) (PN.v (n_bin b_mulS (PN.v n_str) (PN.v n_int)))) (an_cons n_str (an_cons n_str an_nil))))))))))).up (t_name 4 cz.nd) (b_one (s_if (c_not (c_truth (PN.v (n_call G__law_refuses_text cz.tk (hr.mono (by decide)) (av_cons (PN.v n_str) (av_cons (v_name 4) av_nil)))))).up (b_one (s_ret n_bl.up)) b_nil)))
      (b_cons (s_set 9 cz (n_call G__law_nested cz.tk (hr.mono (by decide)) (av_cons (PN.v n_int) (av_cons (PN.v n_int) av_nil))).up)
      (b_cons (s_if (c_not (c_truth (PN.v (n_call G__law_same cz.tk (hr.mono (by decide)) (av_cons (PN.v (n_call G_read_data cz.tk (hr.mono (by decide)) (av_cons (PN.v (n_call G_write_data cz.tk (hr.mono (by decide)) (av_cons (v_name 9) av_nil))) av_nil))) (av_cons (v_name 9) av_nil)))))).up (b_one (s_ret n_bl.up)) b_nil)
      (b_one (s_ret (n_call G__law_refuses_text cz.tk (hr.mono (by decide)) (av_cons (PN.v n_str) (av_cons (PN.v (n_call G__law_datum_text cz.tk (hr.mono (by decide)) (av_cons (PN.v (n_call G__law_nested cz.tk (hr.mono (by decide)) (av_cons (PN.v n_int) (av_cons (PN.v n_int) av_nil)))) av_nil))) av_nil))).up))))))))))))))
end
theorem all_mk {l : PySem.W.OpenLaw} {w : World} {K : PySem.W.Frag} {h : Heap} {mg : Str → Option Value} {fa : Addr} (X : K.In h) (G : h.Ns mainGlobals mg) (hfa : mg "law" = some (.ref fa))
    {f0 : Addr} {od0 an0 : Option Addr} {sl0 : Array (Option Value)} {oc0 kV0 dc0 pm0 cd0 ct0 : Value}
    (a0 : PySem.W.nsIn K mainGlobals "_law_start" = some (some (.ref f0))) (l0 : K.lookup f0 = some ⟨oc0, od0, .func (PySem.W.fnOf "_law_start" "_law_start" (defArgs s__law_start) (defBody s__law_start) (defScope s__law_start) .none kV0 dc0 pm0 an0 cd0 ct0), sl0⟩) (c0 : PySem.W.codeIn K cd0 "_law_start" = true) (k0 : PySem.W.keepIn K (.ref f0) = true)
    {f1 : Addr} {od1 an1 : Option Addr} {sl1 : Array (Option Value)} {oc1 kV1 dc1 pm1 cd1 ct1 : Value}
    (a1 : PySem.W.nsIn K mainGlobals "_law_figures_of" = some (some (.ref f1))) (l1 : K.lookup f1 = some ⟨oc1, od1, .func (PySem.W.fnOf "_law_figures_of" "_law_figures_of" (defArgs s__law_figures_of) (defBody s__law_figures_of) (defScope s__law_figures_of) .none kV1 dc1 pm1 an1 cd1 ct1), sl1⟩) (c1 : PySem.W.codeIn K cd1 "_law_figures_of" = true) (k1 : PySem.W.keepIn K (.ref f1) = true)
    {f2 : Addr} {od2 an2 : Option Addr} {sl2 : Array (Option Value)} {oc2 kV2 dc2 pm2 cd2 ct2 : Value}
    (a2 : PySem.W.nsIn K mainGlobals "_law_nested" = some (some (.ref f2))) (l2 : K.lookup f2 = some ⟨oc2, od2, .func (PySem.W.fnOf "_law_nested" "_law_nested" (defArgs s__law_nested) (defBody s__law_nested) (defScope s__law_nested) .none kV2 dc2 pm2 an2 cd2 ct2), sl2⟩) (c2 : PySem.W.codeIn K cd2 "_law_nested" = true) (k2 : PySem.W.keepIn K (.ref f2) = true)
    {f3 : Addr} {od3 an3 : Option Addr} {sl3 : Array (Option Value)} {oc3 kV3 dc3 pm3 cd3 ct3 : Value}
    (a3 : PySem.W.nsIn K mainGlobals "read_integer" = some (some (.ref f3))) (l3 : K.lookup f3 = some ⟨oc3, od3, .func (PySem.W.fnOf "read_integer" "read_integer" (defArgs s_read_integer) (defBody s_read_integer) (defScope s_read_integer) .none kV3 dc3 pm3 an3 cd3 ct3), sl3⟩) (c3 : PySem.W.codeIn K cd3 "read_integer" = true) (k3 : PySem.W.keepIn K (.ref f3) = true)
    {f4 : Addr} {od4 an4 : Option Addr} {sl4 : Array (Option Value)} {oc4 kV4 dc4 pm4 cd4 ct4 : Value}
    (a4 : PySem.W.nsIn K mainGlobals "plain_text" = some (some (.ref f4))) (l4 : K.lookup f4 = some ⟨oc4, od4, .func (PySem.W.fnOf "plain_text" "plain_text" (defArgs s_plain_text) (defBody s_plain_text) (defScope s_plain_text) .none kV4 dc4 pm4 an4 cd4 ct4), sl4⟩) (c4 : PySem.W.codeIn K cd4 "plain_text" = true) (k4 : PySem.W.keepIn K (.ref f4) = true)
    {f5 : Addr} {od5 an5 : Option Addr} {sl5 : Array (Option Value)} {oc5 kV5 dc5 pm5 cd5 ct5 : Value}
    (a5 : PySem.W.nsIn K mainGlobals "read_plain" = some (some (.ref f5))) (l5 : K.lookup f5 = some ⟨oc5, od5, .func (PySem.W.fnOf "read_plain" "read_plain" (defArgs s_read_plain) (defBody s_read_plain) (defScope s_read_plain) .none kV5 dc5 pm5 an5 cd5 ct5), sl5⟩) (c5 : PySem.W.codeIn K cd5 "read_plain" = true) (k5 : PySem.W.keepIn K (.ref f5) = true)
    {f6 : Addr} {od6 an6 : Option Addr} {sl6 : Array (Option Value)} {oc6 kV6 dc6 pm6 cd6 ct6 : Value}
    (a6 : PySem.W.nsIn K mainGlobals "read_data" = some (some (.ref f6))) (l6 : K.lookup f6 = some ⟨oc6, od6, .func (PySem.W.fnOf "read_data" "read_data" (defArgs s_read_data) (defBody s_read_data) (defScope s_read_data) .none kV6 dc6 pm6 an6 cd6 ct6), sl6⟩) (c6 : PySem.W.codeIn K cd6 "read_data" = true) (k6 : PySem.W.keepIn K (.ref f6) = true)
    {f7 : Addr} {od7 an7 : Option Addr} {sl7 : Array (Option Value)} {oc7 kV7 dc7 pm7 cd7 ct7 : Value}
    (a7 : PySem.W.nsIn K mainGlobals "_law_refuses_text" = some (some (.ref f7))) (l7 : K.lookup f7 = some ⟨oc7, od7, .func (PySem.W.fnOf "_law_refuses_text" "_law_refuses_text" (defArgs s__law_refuses_text) (defBody s__law_refuses_text) (defScope s__law_refuses_text) .none kV7 dc7 pm7 an7 cd7 ct7), sl7⟩) (c7 : PySem.W.codeIn K cd7 "_law_refuses_text" = true) (k7 : PySem.W.keepIn K (.ref f7) = true)
    {f8 : Addr} {od8 an8 : Option Addr} {sl8 : Array (Option Value)} {oc8 kV8 dc8 pm8 cd8 ct8 : Value}
    (a8 : PySem.W.nsIn K mainGlobals "_law_draw" = some (some (.ref f8))) (l8 : K.lookup f8 = some ⟨oc8, od8, .func (PySem.W.fnOf "_law_draw" "_law_draw" (defArgs s__law_draw) (defBody s__law_draw) (defScope s__law_draw) .none kV8 dc8 pm8 an8 cd8 ct8), sl8⟩) (c8 : PySem.W.codeIn K cd8 "_law_draw" = true) (k8 : PySem.W.keepIn K (.ref f8) = true)
    {f9 : Addr} {od9 an9 : Option Addr} {sl9 : Array (Option Value)} {oc9 kV9 dc9 pm9 cd9 ct9 : Value}
    (a9 : PySem.W.nsIn K mainGlobals "_law_long_number" = some (some (.ref f9))) (l9 : K.lookup f9 = some ⟨oc9, od9, .func (PySem.W.fnOf "_law_long_number" "_law_long_number" (defArgs s__law_long_number) (defBody s__law_long_number) (defScope s__law_long_number) .none kV9 dc9 pm9 an9 cd9 ct9), sl9⟩) (c9 : PySem.W.codeIn K cd9 "_law_long_number" = true) (k9 : PySem.W.keepIn K (.ref f9) = true)
    {f10 : Addr} {od10 an10 : Option Addr} {sl10 : Array (Option Value)} {oc10 kV10 dc10 pm10 cd10 ct10 : Value}
    (a10 : PySem.W.nsIn K mainGlobals "_law_some_datum" = some (some (.ref f10))) (l10 : K.lookup f10 = some ⟨oc10, od10, .func (PySem.W.fnOf "_law_some_datum" "_law_some_datum" (defArgs s__law_some_datum) (defBody s__law_some_datum) (defScope s__law_some_datum) .none kV10 dc10 pm10 an10 cd10 ct10), sl10⟩) (c10 : PySem.W.codeIn K cd10 "_law_some_datum" = true) (k10 : PySem.W.keepIn K (.ref f10) = true)
    {f11 : Addr} {od11 an11 : Option Addr} {sl11 : Array (Option Value)} {oc11 kV11 dc11 pm11 cd11 ct11 : Value}
    (a11 : PySem.W.nsIn K mainGlobals "_law_datum_text" = some (some (.ref f11))) (l11 : K.lookup f11 = some ⟨oc11, od11, .func (PySem.W.fnOf "_law_datum_text" "_law_datum_text" (defArgs s__law_datum_text) (defBody s__law_datum_text) (defScope s__law_datum_text) .none kV11 dc11 pm11 an11 cd11 ct11), sl11⟩) (c11 : PySem.W.codeIn K cd11 "_law_datum_text" = true) (k11 : PySem.W.keepIn K (.ref f11) = true)
    {f12 : Addr} {od12 an12 : Option Addr} {sl12 : Array (Option Value)} {oc12 kV12 dc12 pm12 cd12 ct12 : Value}
    (a12 : PySem.W.nsIn K mainGlobals "_law_is_int" = some (some (.ref f12))) (l12 : K.lookup f12 = some ⟨oc12, od12, .func (PySem.W.fnOf "_law_is_int" "_law_is_int" (defArgs s__law_is_int) (defBody s__law_is_int) (defScope s__law_is_int) .none kV12 dc12 pm12 an12 cd12 ct12), sl12⟩) (c12 : PySem.W.codeIn K cd12 "_law_is_int" = true) (k12 : PySem.W.keepIn K (.ref f12) = true)
    {f13 : Addr} {od13 an13 : Option Addr} {sl13 : Array (Option Value)} {oc13 kV13 dc13 pm13 cd13 ct13 : Value}
    (a13 : PySem.W.nsIn K mainGlobals "_law_same" = some (some (.ref f13))) (l13 : K.lookup f13 = some ⟨oc13, od13, .func (PySem.W.fnOf "_law_same" "_law_same" (defArgs s__law_same) (defBody s__law_same) (defScope s__law_same) .none kV13 dc13 pm13 an13 cd13 ct13), sl13⟩) (c13 : PySem.W.codeIn K cd13 "_law_same" = true) (k13 : PySem.W.keepIn K (.ref f13) = true)
    {f14 : Addr} {od14 an14 : Option Addr} {sl14 : Array (Option Value)} {oc14 kV14 dc14 pm14 cd14 ct14 : Value}
    (a14 : PySem.W.nsIn K mainGlobals "_law_one_of" = some (some (.ref f14))) (l14 : K.lookup f14 = some ⟨oc14, od14, .func (PySem.W.fnOf "_law_one_of" "_law_one_of" (defArgs s__law_one_of) (defBody s__law_one_of) (defScope s__law_one_of) .none kV14 dc14 pm14 an14 cd14 ct14), sl14⟩) (c14 : PySem.W.codeIn K cd14 "_law_one_of" = true) (k14 : PySem.W.keepIn K (.ref f14) = true)
    {f15 : Addr} {od15 an15 : Option Addr} {sl15 : Array (Option Value)} {oc15 kV15 dc15 pm15 cd15 ct15 : Value}
    (a15 : PySem.W.nsIn K mainGlobals "write_integer" = some (some (.ref f15))) (l15 : K.lookup f15 = some ⟨oc15, od15, .func (PySem.W.fnOf "write_integer" "write_integer" (defArgs s_write_integer) (defBody s_write_integer) (defScope s_write_integer) .none kV15 dc15 pm15 an15 cd15 ct15), sl15⟩) (c15 : PySem.W.codeIn K cd15 "write_integer" = true) (k15 : PySem.W.keepIn K (.ref f15) = true)
    {f16 : Addr} {od16 an16 : Option Addr} {sl16 : Array (Option Value)} {oc16 kV16 dc16 pm16 cd16 ct16 : Value}
    (a16 : PySem.W.nsIn K mainGlobals "write_data" = some (some (.ref f16))) (l16 : K.lookup f16 = some ⟨oc16, od16, .func (PySem.W.fnOf "write_data" "write_data" (defArgs s_write_data) (defBody s_write_data) (defScope s_write_data) .none kV16 dc16 pm16 an16 cd16 ct16), sl16⟩) (c16 : PySem.W.codeIn K cd16 "write_data" = true) (k16 : PySem.W.keepIn K (.ref f16) = true)
    {f17 : Addr} {od17 an17 : Option Addr} {sl17 : Array (Option Value)} {oc17 kV17 dc17 pm17 cd17 ct17 : Value}
    (a17 : PySem.W.nsIn K mainGlobals "law" = some (some (.ref f17))) (l17 : K.lookup f17 = some ⟨oc17, od17, .func (PySem.W.fnOf "law" "law" (defArgs s_law) (defBody s_law) (defScope s_law) .none kV17 dc17 pm17 an17 cd17 ct17), sl17⟩) (c17 : PySem.W.codeIn K cd17 "law" = true) (k17 : PySem.W.keepIn K (.ref f17) = true)
    (y_abs : PySem.W.nsIn K mainGlobals "abs" = some none)
    (y_all : PySem.W.nsIn K mainGlobals "all" = some none)
    (y_bool : PySem.W.nsIn K mainGlobals "bool" = some none)
    (y_divmod : PySem.W.nsIn K mainGlobals "divmod" = some none)
    (y_int : PySem.W.nsIn K mainGlobals "int" = some none)
    (y_isinstance : PySem.W.nsIn K mainGlobals "isinstance" = some none)
    (y_len : PySem.W.nsIn K mainGlobals "len" = some none)
    (y_list : PySem.W.nsIn K mainGlobals "list" = some none)
    (y_ord : PySem.W.nsIn K mainGlobals "ord" = some none)
    (y_range : PySem.W.nsIn K mainGlobals "range" = some none)
    (y_str : PySem.W.nsIn K mainGlobals "str" = some none)
    (y_tuple : PySem.W.nsIn K mainGlobals "tuple" = some none)
    {tk_BASE : Tok} (x_BASE : PySem.W.nsIn K mainGlobals "BASE" = some (some (.int 10000000000000000000000000000000000000000000000000000000000000000 tk_BASE)))
    {tk_DEPTH : Tok} (x_DEPTH : PySem.W.nsIn K mainGlobals "DEPTH" = some (some (.int 40 tk_DEPTH)))
    {tk_DIGITS : Tok} (x_DIGITS : PySem.W.nsIn K mainGlobals "DIGITS" = some (some (.str (Str.ofString "0123456789") tk_DIGITS)))
    {tk_SIGNS : Tok} (x_SIGNS : PySem.W.nsIn K mainGlobals "SIGNS" = some (some (.str (Str.ofString "-0123456789") tk_SIGNS)))
    {K_BadText : Addr}
    (xa_BadText : PySem.W.nsIn K mainGlobals "BadText" = some (some (.ref K_BadText)))
    {K_CountunseenError : Addr}
    (xa_CountunseenError : PySem.W.nsIn K mainGlobals "CountunseenError" = some (some (.ref K_CountunseenError)))
    (xs_BadText : PySem.W.subIn K (.ref K_BadText) (.type "BaseException") = some true)
    (xt_BadText : PySem.W.typeIn K (.ref K_BadText) = some (.type "type"))
    (xd_BadText : PySem.W.hasDictIn K K_BadText = true)
    (xg_BadText : PySem.W.findIn K (.ref K_BadText) "__getattribute__" = some (some (.builtin "BaseException.__getattribute__")))
    (xh_BadText : PySem.W.findIn K (.ref K_BadText) "__getattr__" = some none)
    (xc_BadText : PySem.W.findIn K (.ref K_BadText) "__class__" = some (some (.builtin "object.__class__")))
    (xn : PySem.W.specialIn K (.builtin "object.__class__") "__get__" = some (some (.builtin "getset_descriptor.__get__")))
    (xq : PySem.W.takesIn K (.builtin "object.__class__") = some true)
    (xm_BadText : PySem.W.mroIn K K_BadText (.type "object") = some true)
    (xx_BadText : PySem.W.excIn K K_BadText veTail "ValueError.__new__" = true)
    (xk_BadText : PySem.W.keepIn K (.ref K_BadText) = true)
    (xs_CountunseenError : PySem.W.subIn K (.ref K_CountunseenError) (.type "BaseException") = some true)
    (xt_CountunseenError : PySem.W.typeIn K (.ref K_CountunseenError) = some (.type "type"))
    (xi_CountunseenError : PySem.W.isClsIn K K_CountunseenError = true)
    (xu_BadText_CountunseenError : PySem.W.subIn K (.ref K_BadText) (.ref K_CountunseenError) = some true)
    (xu_BadText_BadText : PySem.W.subIn K (.ref K_BadText) (.ref K_BadText) = some true)
    : ∃ fd : FuncData, (∀ (s : Shared) (v : Value), BindsTo s fd ⟨[v], []⟩ [("script", v)]) ∧ ∀ base : Heap, K.In base → base.Ns mainGlobals mg → FnOk l.prog w K mg base (L2.CX l.prog w) 49 fa fd ["script"] (spL K F_law) := by
  have e := hfa.symm.trans (PySem.W.mg_of X G a17)
  cases e
  have F0 := fun_mk (st := s__law_start) l0 c0 k0
  have b0 := F0.binds (ps := ["script"]) fun _ _ _ _ _ _ us hl => match us, hl with | [_], _ => rfl
  have F1 := fun_mk (st := s__law_figures_of) l1 c1 k1
  have b1 := F1.binds (ps := ["number"]) fun _ _ _ _ _ _ us hl => match us, hl with | [_], _ => rfl
  have F2 := fun_mk (st := s__law_nested) l2 c2 k2
  have b2 := F2.binds (ps := ["datum", "many"]) fun _ _ _ _ _ _ us hl => match us, hl with | [_, _], _ => rfl
  have F3 := fun_mk (st := s_read_integer) l3 c3 k3
  have b3 := F3.binds (ps := ["text"]) fun _ _ _ _ _ _ us hl => match us, hl with | [_], _ => rfl
  have F4 := fun_mk (st := s_plain_text) l4 c4 k4
  have b4 := F4.binds (ps := ["text"]) fun _ _ _ _ _ _ us hl => match us, hl with | [_], _ => rfl
  have F5 := fun_mk (st := s_read_plain) l5 c5 k5
  have b5 := F5.binds (ps := ["text", "start"]) fun _ _ _ _ _ _ us hl => match us, hl with | [_, _], _ => rfl
  have F6 := fun_mk (st := s_read_data) l6 c6 k6
  have b6 := F6.binds (ps := ["text"]) fun _ _ _ _ _ _ us hl => match us, hl with | [_], _ => rfl
  have F7 := fun_mk (st := s__law_refuses_text) l7 c7 k7
  have b7 := F7.binds (ps := ["kind", "text"]) fun _ _ _ _ _ _ us hl => match us, hl with | [_, _], _ => rfl
  have F8 := fun_mk (st := s__law_draw) l8 c8 k8
  have b8 := F8.binds (ps := ["state", "most"]) fun _ _ _ _ _ _ us hl => match us, hl with | [_, _], _ => rfl
  have F9 := fun_mk (st := s__law_long_number) l9 c9 k9
  have b9 := F9.binds (ps := ["state", "most"]) fun _ _ _ _ _ _ us hl => match us, hl with | [_, _], _ => rfl
  have F10 := fun_mk (st := s__law_some_datum) l10 c10 k10
  have b10 := F10.binds (ps := ["state", "depth"]) fun _ _ _ _ _ _ us hl => match us, hl with | [_, _], _ => rfl
  have F11 := fun_mk (st := s__law_datum_text) l11 c11 k11
  have b11 := F11.binds (ps := ["datum"]) fun _ _ _ _ _ _ us hl => match us, hl with | [_], _ => rfl
  have F12 := fun_mk (st := s__law_is_int) l12 c12 k12
  have b12 := F12.binds (ps := ["x"]) fun _ _ _ _ _ _ us hl => match us, hl with | [_], _ => rfl
  have F13 := fun_mk (st := s__law_same) l13 c13 k13
  have b13 := F13.binds (ps := ["x", "y"]) fun _ _ _ _ _ _ us hl => match us, hl with | [_, _], _ => rfl
  have F14 := fun_mk (st := s__law_one_of) l14 c14 k14
  have b14 := F14.binds (ps := ["state", "items"]) fun _ _ _ _ _ _ us hl => match us, hl with | [_, _], _ => rfl
  have F15 := fun_mk (st := s_write_integer) l15 c15 k15
  have b15 := F15.binds (ps := ["n"]) fun _ _ _ _ _ _ us hl => match us, hl with | [_], _ => rfl
  have F16 := fun_mk (st := s_write_data) l16 c16 k16
  have b16 := F16.binds (ps := ["datum"]) fun _ _ _ _ _ _ us hl => match us, hl with | [_], _ => rfl
  have F17 := fun_mk (st := s_law) l17 c17 k17
  have b17 := F17.binds (ps := ["script"]) fun _ _ _ _ _ _ us hl => match us, hl with | [_], _ => rfl
  have EC_BadText : ExcC K K_BadText := ⟨xg_BadText, xh_BadText, xs_BadText, xd_BadText, xc_BadText, xn, xq, xm_BadText⟩
  have E_BadText : ExA K mg "BadText" K_BadText := ⟨PySem.W.mg_of X G xa_BadText, xx_BadText, xk_BadText, xs_BadText, xt_BadText⟩
  have KT_BadText_CountunseenError := kit_ref xi_CountunseenError xt_CountunseenError xu_BadText_CountunseenError
  have M_BadText := PySem.W.mg_of X G xa_BadText
  have M_CountunseenError := PySem.W.mg_of X G xa_CountunseenError
  have XM_BadText_BadText := PySem.W.exm_ref xs_BadText xd_BadText xt_BadText xu_BadText_BadText
  have z_abs := PySem.W.mg_none_of X G y_abs
  have z_all := PySem.W.mg_none_of X G y_all
  have z_bool := PySem.W.mg_none_of X G y_bool
  have z_divmod := PySem.W.mg_none_of X G y_divmod
  have z_int := PySem.W.mg_none_of X G y_int
  have z_isinstance := PySem.W.mg_none_of X G y_isinstance
  have z_len := PySem.W.mg_none_of X G y_len
  have z_list := PySem.W.mg_none_of X G y_list
  have z_ord := PySem.W.mg_none_of X G y_ord
  have z_range := PySem.W.mg_none_of X G y_range
  have z_str := PySem.W.mg_none_of X G y_str
  have z_tuple := PySem.W.mg_none_of X G y_tuple
  have c_BASE := PySem.W.mg_of X G x_BASE
  have c_DEPTH := PySem.W.mg_of X G x_DEPTH
  have c_DIGITS := PySem.W.mg_of X G x_DIGITS
  have c_SIGNS := PySem.W.mg_of X G x_SIGNS
  refine ⟨PySem.W.fnOf "law" "law" (defArgs s_law) (defBody s_law) (defScope s_law) .none kV17 dc17 pm17 an17 cd17 ct17, fun s v => .of_eq rfl, fun base hK hG => ?_⟩
  have G__law_start : FnP l.prog w K mg base "_law_start" 1 F__law_start := ok__law_start F0 (PySem.W.mg_of X G a0) b0 z_list
  have G__law_figures_of : FnP l.prog w K mg base "_law_figures_of" 1 F__law_figures_of := ok__law_figures_of F1 (PySem.W.mg_of X G a1) b1 z_abs z_range z_str
  have G__law_nested : FnP l.prog w K mg base "_law_nested" 1 F__law_nested := ok__law_nested F2 (PySem.W.mg_of X G a2) b2 z_range
  have G_read_integer : FnP l.prog w K mg base "read_integer" 1 F_read_integer := ok_read_integer F3 (PySem.W.mg_of X G a3) b3 z_int z_len z_range E_BadText c_BASE c_DIGITS
  have G_plain_text : FnP l.prog w K mg base "plain_text" 1 F_plain_text := ok_plain_text F4 (PySem.W.mg_of X G a4) b4 z_ord
  have G_read_plain : FnP l.prog w K mg base "read_plain" 2 F_read_plain := ok_read_plain F5 (PySem.W.mg_of X G a5) b5 G_plain_text G_read_integer z_len E_BadText c_SIGNS
  have G_read_data : FnP l.prog w K mg base "read_data" 3 F_read_data := ok_read_data F6 (PySem.W.mg_of X G a6) b6 G_read_plain z_len z_tuple E_BadText c_DEPTH
  have G__law_refuses_text : FnP l.prog w K mg base "_law_refuses_text" 4 F__law_refuses_text := ok__law_refuses_text F7 (PySem.W.mg_of X G a7) b7 G_read_data G_read_integer z_isinstance EC_BadText E_BadText KT_BadText_CountunseenError M_BadText M_CountunseenError XM_BadText_BadText
  have G__law_draw : FnM l.prog w K mg base "_law_draw" 1 F__law_draw := ok__law_draw F8 (PySem.W.mg_of X G a8) b8 z_abs z_int z_len
  have G__law_long_number : FnM l.prog w K mg base "_law_long_number" 2 F__law_long_number := ok__law_long_number F9 (PySem.W.mg_of X G a9) b9 G__law_draw z_range
  have G__law_some_datum : FnM l.prog w K mg base "_law_some_datum" 8 (F__law_some_datum 6) := ok__law_some_datum F10 (PySem.W.mg_of X G a10) b10 G__law_draw G__law_long_number z_range z_tuple 5
  have G__law_datum_text : FnP l.prog w K mg base "_law_datum_text" 47 (F__law_datum_text 46) := ok__law_datum_text F11 (PySem.W.mg_of X G a11) b11 G__law_figures_of z_isinstance z_str z_tuple 45
  have G__law_is_int : FnP l.prog w K mg base "_law_is_int" 1 F__law_is_int := ok__law_is_int F12 (PySem.W.mg_of X G a12) b12 z_bool z_int z_isinstance
  have G__law_same : FnP l.prog w K mg base "_law_same" 47 (F__law_same 46) := ok__law_same F13 (PySem.W.mg_of X G a13) b13 G__law_is_int z_all z_isinstance z_len z_range z_str z_tuple 45
  have G__law_one_of : FnM l.prog w K mg base "_law_one_of" 2 F__law_one_of := ok__law_one_of F14 (PySem.W.mg_of X G a14) b14 G__law_draw z_len
  have G_write_integer : FnP l.prog w K mg base "write_integer" 2 (F_write_integer 2) := ok_write_integer F15 (PySem.W.mg_of X G a15) b15 z_divmod z_str c_BASE 1
  have G_write_data : FnP l.prog w K mg base "write_data" 48 (F_write_data 46) := ok_write_data F16 (PySem.W.mg_of X G a16) b16 G_write_integer z_isinstance z_str z_tuple 45
  exact law_ok (ok_law F17 G__law_datum_text G__law_draw G__law_figures_of G__law_long_number G__law_nested G__law_one_of G__law_refuses_text G__law_same G__law_some_datum G__law_start G_read_data G_read_integer G_write_data G_write_integer z_abs z_range z_tuple)
end K00
namespace K00
open PySem PySem.Spec L2 Z
open PyProof.Rows hiding St
open PySem.NumText
/-! the texts of the program -/
theorem sMinus : Str.ofString "-" = tx [45] := by decide +kernel
theorem sNone : Str.ofString "" = tx [] := by decide +kernel
theorem ten18 : (10 : Nat) ^ 18 = 1000000000000000000 := by decide
theorem pow18 : fPow (.d (.int 10)) (.d (.int 18)) = some (I 1000000000000000000) := by
  rw [fPow_i, if_pos (by decide), show ((10 : Int) ^ (18 : Int).toNat) = 1000000000000000000 by decide]
theorem mulOk18 (z : Int) : MulOk z 1000000000000000000 := .r (by decide)
theorem log18 : (1000000000000000000 : Int).natAbs.log2 < 9000 := by decide +kernel
/-- the body of figures' loop -/
def figB : En → SR := (fSeq (fIf (lft (gT (g2 fLt (vN 1) (g2 fPow (kI 10) (kI 18))))) (fun en => .brk en) fNil)
  (fSeq (fSet 4 (lft (g2 fSub (vN 1) (g2 fMul (g2 fDiv (vN 1) (g2 fPow (kI 10) (kI 18))) (g2 fPow (kI 10) (kI 18))))))
  (fSeq (fSet 2 (lft (g2 fAdd (gSl (gCall fStr (aCons (g2 fAdd (g2 fPow (kI 10) (kI 18)) (vN 4)) aNil)) (oS (kI 1)) oN) (vN 2))))
  (fSet 1 (lft (g2 fDiv (vN 1) (g2 fPow (kI 10) (kI 18))))))))
theorem pad_one {m : Nat} (h : m < 1000000000000000000) : dec (1000000000000000000 + m) = 49 :: pad 18 m := by
  have := dec_pad (n := 1) (k := 18) (l := m) (by decide) (by decide) (by rw [ten18]; exact h)
  rw [show 1 * 10 ^ 18 + m = 1000000000000000000 + m by rw [ten18]] at this
  rw [this, dec_small (by decide)]; rfl
theorem figB_brk {z : Int} {n : Nat} {f : List Nat} {o3 o4 : Sl} (h : n < 1000000000000000000) : figB [.v (I z), .v (I n), .v (S f), o3, o4] = .brk [.v (I z), .v (I n), .v (S f), o3, o4] := by
  unfold figB
  rw [fSeq_ev, fIf_t (by simp only [gPur_ev, gAndV_ev, gOrV_ev, gNotV_ev, gIsi_ev, gAnd_ev, gOr_ev, gNot_ev, gTru_ev, gT_ev, g2_ev, g1_ev, gIf_ev, gCall_ev, gFn_ev, gTup_ev, gLst_ev, gSl_ev, gCh_ev, gYes_ev, oN_ev, oS_ev, asI_ev, aCons_ev, aNil_ev, vN_ev, kI_ev, kB_ev, kS_ev, kD'_ev, at_succ, at_zero, get_v, get_w, get_b, get_n, Z.R.of_some, Z.R.bind_ok, Z.R.pur_d, fAdd_i, fSub_i, fNeg_i, fLt_i, fLe_i, fGt_i, fGe_i, fEq_i, fNe_i, fInt_i, fInt_b, fAbs_i, fMin2_i, fMax2_i, fLen_l, fLen_t, fLen_r, tst_b, tru_b, tru_i, tru_t, tru_l, tru_r, tru_n, List.length_map, wipeE_cons, wipeE_nil, List.set_cons_succ, List.set_cons_zero, setE_cons, setE_nil, mkS_d, mkS_l, mkTup_nil, mkTup_ev, mkLst_ev, allD_cons, allD_nil, allD_map, Option.map_some, Option.bind_some, if_true, Bool.false_eq_true, if_false, ite_true, ite_false, Bool.not_true, Bool.not_false, decide_true, decide_false, isInt_i, isInt_b, isInt_t, isBl_i, isBl_b, isBl_t, fTuple_ev, fList_ev, dataOf_t, dataOf_l, dataOf_r, lft_ev, Z.RM.of_ok, Z.RM.bind_ok, mCons_ev, mNil_ev, m2_ev, mOf_ev, mT_ev, mTru_ev, mNot_ev, List.cons_append, List.nil_append, pow18]; rw [decide_eq_true (by omega)])]
  rfl
theorem split18 {n q r : Nat} (hn : n = q * 1000000000000000000 + r) (hq : 0 < q) (hr : r < 1000000000000000000) : dec n = dec q ++ pad 18 r ∧ (pad 18 r).length = 18 := by
  have h1 : r < 10 ^ 18 := by rw [ten18]; exact hr
  have := dec_pad (n := q) (k := 18) (l := r) hq (by decide) h1
  rw [ten18, ← hn] at this
  exact ⟨this, pad_len (by decide) h1⟩
theorem div18 {n q r : Nat} (hn : n = q * 1000000000000000000 + r) (hr : r < 1000000000000000000) : (n : Int) / 1000000000000000000 = (q : Int) := by omega
theorem figB_nx {z : Int} {n q r : Nat} {f : List Nat} {o3 o4 : Sl} (hb : NB o4) (hn : n = q * 1000000000000000000 + r) (hq : 0 < q) (hr : r < 1000000000000000000) (hf : f.length + 18 ≤ most) :
    figB [.v (I z), .v (I n), .v (S f), o3, o4] = .nx [.v (I z), .v (I q), .v (S (pad 18 r ++ f)), o3, .v (I r)] := by
  unfold figB
  have hl := (split18 hn hq hr).2
  have hd := div18 hn hr
  rw [fSeq_ev, fIf_f (by simp only [gPur_ev, gAndV_ev, gOrV_ev, gNotV_ev, gIsi_ev, gAnd_ev, gOr_ev, gNot_ev, gTru_ev, gT_ev, g2_ev, g1_ev, gIf_ev, gCall_ev, gFn_ev, gTup_ev, gLst_ev, gSl_ev, gCh_ev, gYes_ev, oN_ev, oS_ev, asI_ev, aCons_ev, aNil_ev, vN_ev, kI_ev, kB_ev, kS_ev, kD'_ev, at_succ, at_zero, get_v, get_w, get_b, get_n, Z.R.of_some, Z.R.bind_ok, Z.R.pur_d, fAdd_i, fSub_i, fNeg_i, fLt_i, fLe_i, fGt_i, fGe_i, fEq_i, fNe_i, fInt_i, fInt_b, fAbs_i, fMin2_i, fMax2_i, fLen_l, fLen_t, fLen_r, tst_b, tru_b, tru_i, tru_t, tru_l, tru_r, tru_n, List.length_map, wipeE_cons, wipeE_nil, List.set_cons_succ, List.set_cons_zero, setE_cons, setE_nil, mkS_d, mkS_l, mkTup_nil, mkTup_ev, mkLst_ev, allD_cons, allD_nil, allD_map, Option.map_some, Option.bind_some, if_true, Bool.false_eq_true, if_false, ite_true, ite_false, Bool.not_true, Bool.not_false, decide_true, decide_false, isInt_i, isInt_b, isInt_t, isBl_i, isBl_b, isBl_t, fTuple_ev, fList_ev, dataOf_t, dataOf_l, dataOf_r, lft_ev, Z.RM.of_ok, Z.RM.bind_ok, mCons_ev, mNil_ev, m2_ev, mOf_ev, mT_ev, mTru_ev, mNot_ev, List.cons_append, List.nil_append, pow18]; rw [decide_eq_false (by omega)]), fNil_ev, sq_nx, fSeq_ev]
  have e1 : (fSet 4 (lft (g2 fSub (vN 1) (g2 fMul (g2 fDiv (vN 1) (g2 fPow (kI 10) (kI 18))) (g2 fPow (kI 10) (kI 18)))))) [.v (I z), .v (I n), .v (S f), o3, o4] = .nx [.v (I z), .v (I n), .v (S f), o3, .v (I r)] := by
    rw [fSet_ev, lft_n (x := I r)]
    · rw [RM.s_ok]
      simp only [stow_succ, hb.s, Option.map_some, toS_some]
    · simp only [gPur_ev, gAndV_ev, gOrV_ev, gNotV_ev, gIsi_ev, gAnd_ev, gOr_ev, gNot_ev, gTru_ev, gT_ev, g2_ev, g1_ev, gIf_ev, gCall_ev, gFn_ev, gTup_ev, gLst_ev, gSl_ev, gCh_ev, gYes_ev, oN_ev, oS_ev, asI_ev, aCons_ev, aNil_ev, vN_ev, kI_ev, kB_ev, kS_ev, kD'_ev, at_succ, at_zero, get_v, get_w, get_b, get_n, Z.R.of_some, Z.R.bind_ok, Z.R.pur_d, fAdd_i, fSub_i, fNeg_i, fLt_i, fLe_i, fGt_i, fGe_i, fEq_i, fNe_i, fInt_i, fInt_b, fAbs_i, fMin2_i, fMax2_i, fLen_l, fLen_t, fLen_r, tst_b, tru_b, tru_i, tru_t, tru_l, tru_r, tru_n, List.length_map, wipeE_cons, wipeE_nil, List.set_cons_succ, List.set_cons_zero, setE_cons, setE_nil, mkS_d, mkS_l, mkTup_nil, mkTup_ev, mkLst_ev, allD_cons, allD_nil, allD_map, Option.map_some, Option.bind_some, if_true, Bool.false_eq_true, if_false, ite_true, ite_false, Bool.not_true, Bool.not_false, decide_true, decide_false, isInt_i, isInt_b, isInt_t, isBl_i, isBl_b, isBl_t, fTuple_ev, fList_ev, dataOf_t, dataOf_l, dataOf_r, lft_ev, Z.RM.of_ok, Z.RM.bind_ok, mCons_ev, mNil_ev, m2_ev, mOf_ev, mT_ev, mTru_ev, mNot_ev, List.cons_append, List.nil_append, pow18, fDiv_i]
      rw [if_pos ⟨by decide, log18⟩, R.of_some, R.bind_ok, fMul_i, if_pos (mulOk18 _), R.of_some, R.bind_ok, fSub_i, R.of_some, hd, show (n : Int) - (q : Int) * 1000000000000000000 = (r : Int) by omega]
  rw [e1, sq_nx, fSeq_ev]
  have e2 : (fSet 2 (lft (g2 fAdd (gSl (gCall fStr (aCons (g2 fAdd (g2 fPow (kI 10) (kI 18)) (vN 4)) aNil)) (oS (kI 1)) oN) (vN 2)))) [.v (I z), .v (I n), .v (S f), o3, .v (I r)] = .nx [.v (I z), .v (I n), .v (S (pad 18 r ++ f)), o3, .v (I r)] := by
    rw [fSet_ev, lft_n (x := S (pad 18 r ++ f))]
    · rw [RM.s_ok]
      simp only [stow_succ, stow_v0, Option.map_some, toS_some]
    · have e3 := fStr_n (z := 1000000000000000000 + (r : Int)) (1000000000000000000 + r) (by omega) (Nat.lt_of_lt_of_le (show _ < 10 ^ 19 by rw [show 10 ^ 19 = 10000000000000000000 by decide]; omega) (Nat.pow_le_pow_right (by decide) (by decide)))
      rw [pad_one hr] at e3
      have e4 := fSl_from (z := 49 :: pad 18 r) (k := 1) 1 rfl (by rw [List.length_cons, hl]; decide)
      have e5 := fAdd_S (a := pad 18 r) (b := f) (by rw [hl]; omega)
      simp only [gPur_ev, gAndV_ev, gOrV_ev, gNotV_ev, gIsi_ev, gAnd_ev, gOr_ev, gNot_ev, gTru_ev, gT_ev, g2_ev, g1_ev, gIf_ev, gCall_ev, gFn_ev, gTup_ev, gLst_ev, gSl_ev, gCh_ev, gYes_ev, oN_ev, oS_ev, asI_ev, aCons_ev, aNil_ev, vN_ev, kI_ev, kB_ev, kS_ev, kD'_ev, at_succ, at_zero, get_v, get_w, get_b, get_n, Z.R.of_some, Z.R.bind_ok, Z.R.pur_d, fAdd_i, fSub_i, fNeg_i, fLt_i, fLe_i, fGt_i, fGe_i, fEq_i, fNe_i, fInt_i, fInt_b, fAbs_i, fMin2_i, fMax2_i, fLen_l, fLen_t, fLen_r, tst_b, tru_b, tru_i, tru_t, tru_l, tru_r, tru_n, List.length_map, wipeE_cons, wipeE_nil, List.set_cons_succ, List.set_cons_zero, setE_cons, setE_nil, mkS_d, mkS_l, mkTup_nil, mkTup_ev, mkLst_ev, allD_cons, allD_nil, allD_map, Option.map_some, Option.bind_some, if_true, Bool.false_eq_true, if_false, ite_true, ite_false, Bool.not_true, Bool.not_false, decide_true, decide_false, isInt_i, isInt_b, isInt_t, isBl_i, isBl_b, isBl_t, fTuple_ev, fList_ev, dataOf_t, dataOf_l, dataOf_r, lft_ev, Z.RM.of_ok, Z.RM.bind_ok, mCons_ev, mNil_ev, m2_ev, mOf_ev, mT_ev, mTru_ev, mNot_ev, List.cons_append, List.nil_append, pow18, e3]
      rw [e4, R.of_some, R.bind_ok, List.drop_succ_cons, List.drop_zero, e5, R.of_some]
  rw [e2, sq_nx]
  rw [fSet_ev, lft_n (x := I q)]
  · rw [RM.s_ok]
    simp only [stow_succ, stow_v0, Option.map_some, toS_some]
  · simp only [gPur_ev, gAndV_ev, gOrV_ev, gNotV_ev, gIsi_ev, gAnd_ev, gOr_ev, gNot_ev, gTru_ev, gT_ev, g2_ev, g1_ev, gIf_ev, gCall_ev, gFn_ev, gTup_ev, gLst_ev, gSl_ev, gCh_ev, gYes_ev, oN_ev, oS_ev, asI_ev, aCons_ev, aNil_ev, vN_ev, kI_ev, kB_ev, kS_ev, kD'_ev, at_succ, at_zero, get_v, get_w, get_b, get_n, Z.R.of_some, Z.R.bind_ok, Z.R.pur_d, fAdd_i, fSub_i, fNeg_i, fLt_i, fLe_i, fGt_i, fGe_i, fEq_i, fNe_i, fInt_i, fInt_b, fAbs_i, fMin2_i, fMax2_i, fLen_l, fLen_t, fLen_r, tst_b, tru_b, tru_i, tru_t, tru_l, tru_r, tru_n, List.length_map, wipeE_cons, wipeE_nil, List.set_cons_succ, List.set_cons_zero, setE_cons, setE_nil, mkS_d, mkS_l, mkTup_nil, mkTup_ev, mkLst_ev, allD_cons, allD_nil, allD_map, Option.map_some, Option.bind_some, if_true, Bool.false_eq_true, if_false, ite_true, ite_false, Bool.not_true, Bool.not_false, decide_true, decide_false, isInt_i, isInt_b, isInt_t, isBl_i, isBl_b, isBl_t, fTuple_ev, fList_ev, dataOf_t, dataOf_l, dataOf_r, lft_ev, Z.RM.of_ok, Z.RM.bind_ok, mCons_ev, mNil_ev, m2_ev, mOf_ev, mT_ev, mTru_ev, mNot_ev, List.cons_append, List.nil_append, pow18, fDiv_i]
    rw [if_pos ⟨by decide, log18⟩, R.of_some, hd]
theorem split_c (n c : Nat) (hc : 0 < c) : ∃ q r, n = q * c + r ∧ r < c := ⟨n / c, n % c, by rw [Nat.mul_comm]; exact (Nat.div_add_mod n c).symm, Nat.mod_lt _ hc⟩
theorem split_n (n : Nat) : ∃ q r, n = q * 1000000000000000000 + r ∧ r < 1000000000000000000 := split_c n 1000000000000000000 (by decide)
theorem figL {z : Int} (L : List D) : ∀ (m n : Nat) (f : List Nat) (o3 o4 : Sl), NB o3 → NB o4 → n < 10 ^ m → m ≤ 18 * L.length → (dec n).length + f.length ≤ most →
    ∃ n' f' o3' o4', forE (kName 3) figB (L.map T.d) [.v (I z), .v (I n), .v (S f), o3, o4] = .nx [.v (I z), .v (I (n' : Nat)), .v (S f'), o3', o4'] ∧ n' < 1000000000000000000 ∧ dec n' ++ f' = dec n ++ f := by
  induction L with
  | nil =>
    intro m n f o3 o4 _ _ hn hm _
    have e : m = 0 := by simpa using hm
    subst e
    refine ⟨n, f, o3, o4, rfl, ?_, rfl⟩
    have : n < 1 := hn
    omega
  | cons d L ih =>
    intro m n f o3 o4 h3 h4 hn hm hl
    rw [List.map_cons]
    have es : stows [.v (I z), .v (I n), .v (S f), o3, o4] [(3, .d d)] = some [.v (I z), .v (I n), .v (S f), .v (.d d), o4] := by simp only [stows_cons, stow_succ, h3.s, Option.map_some, mkS_d, Option.bind_some, stows_nil]
    obtain ⟨q, r, hq, hr⟩ := split_n n
    by_cases h : q = 0
    · have h : n < 1000000000000000000 := by rw [hq, h]; omega
      exact ⟨n, f, .v (.d d), o4, forE_brk (kName_ev) es (figB_brk h), h, rfl⟩
    · have h0 : 0 < q := Nat.pos_of_ne_zero h
      obtain ⟨ed, hp⟩ := split18 hq h0 hr
      have el := congrArg List.length ed
      rw [List.length_append, hp] at el
      have hm18 : 18 < m := by
        rcases Nat.lt_or_ge 18 m with h | h
        · exact h
        · have := Nat.lt_of_lt_of_le hn (Nat.pow_le_pow_right (by decide) h)
          rw [ten18] at this
          omega
      have estep := forE_nx (k := kName 3) (xs := L.map T.d) kName_ev es (figB_nx (z := z) (o3 := .v (.d d)) h4 hq h0 hr (show f.length + 18 ≤ most by omega))
      have hd : q < 10 ^ (m - 18) := by
        have h1 : q * 10 ^ 18 < 10 ^ (m - 18) * 10 ^ 18 := by
          rw [← Nat.pow_add, show m - 18 + 18 = m by omega, ten18]; omega
        exact Nat.lt_of_mul_lt_mul_right h1
      obtain ⟨n', f', o3', o4', e1, e2, e3⟩ := ih (m - 18) q (pad 18 r ++ f) (.v (.d d)) (.v (I r)) NB.v NB.v hd (by rw [List.length_cons] at hm; omega) (by rw [List.length_append, hp]; omega)
      refine ⟨n', f', o3', o4', estep.trans e1, e2, ?_⟩
      rw [e3, ← List.append_assoc, ← ed]
theorem figures_ok {z : Int} {m : Nat} (h : z.natAbs < 10 ^ m) (h1 : 1 ≤ m) (hm : m ≤ 160000) : F__law_figures_of [I z] = .ok (S (sI z)) := by
  refine runP_ret rfl ?_
  show ∃ e, d__law_figures_of [.v (I z), .n, .n, .n, .n] = _
  unfold d__law_figures_of
  have hl := dec_len h1 h
  have ea : (if z < 0 then -z else z) = (z.natAbs : Int) := by split <;> omega
  refine ret_seq (en1 := [.v (I z), .v (I z.natAbs), .n, .n, .n]) (by rw [fSet_ev, lft_n (x := I z.natAbs) (by simp only [gPur_ev, gAndV_ev, gOrV_ev, gNotV_ev, gIsi_ev, gAnd_ev, gOr_ev, gNot_ev, gTru_ev, gT_ev, g2_ev, g1_ev, gIf_ev, gCall_ev, gFn_ev, gTup_ev, gLst_ev, gSl_ev, gCh_ev, gYes_ev, oN_ev, oS_ev, asI_ev, aCons_ev, aNil_ev, vN_ev, kI_ev, kB_ev, kS_ev, kD'_ev, at_succ, at_zero, get_v, get_w, get_b, get_n, Z.R.of_some, Z.R.bind_ok, Z.R.pur_d, fAdd_i, fSub_i, fNeg_i, fLt_i, fLe_i, fGt_i, fGe_i, fEq_i, fNe_i, fInt_i, fInt_b, fAbs_i, fMin2_i, fMax2_i, fLen_l, fLen_t, fLen_r, tst_b, tru_b, tru_i, tru_t, tru_l, tru_r, tru_n, List.length_map, wipeE_cons, wipeE_nil, List.set_cons_succ, List.set_cons_zero, setE_cons, setE_nil, mkS_d, mkS_l, mkTup_nil, mkTup_ev, mkLst_ev, allD_cons, allD_nil, allD_map, Option.map_some, Option.bind_some, if_true, Bool.false_eq_true, if_false, ite_true, ite_false, Bool.not_true, Bool.not_false, decide_true, decide_false, isInt_i, isInt_b, isInt_t, isBl_i, isBl_b, isBl_t, fTuple_ev, fList_ev, dataOf_t, dataOf_l, dataOf_r, lft_ev, Z.RM.of_ok, Z.RM.bind_ok, mCons_ev, mNil_ev, m2_ev, mOf_ev, mT_ev, mTru_ev, mNot_ev, List.cons_append, List.nil_append]; rw [ea])]; rfl) ?_
  refine ret_seq (en1 := [.v (I z), .v (I z.natAbs), .v (S []), .n, .n]) (by rw [fSet_ev, sNone]; rfl) ?_
  obtain ⟨n', f', o3', o4', e1, e2, e3⟩ := figL (z := z) ((List.range 9999).map fun (i : Nat) => D.int (i : Int)) m z.natAbs [] .n .n NB.n NB.n h (by rw [List.length_map, List.length_range]; omega) (by rw [List.length_nil]; show _ ≤ 16777216; omega)
  rw [List.append_nil] at e3
  have e3l := congrArg List.length e3
  rw [List.length_append] at e3l
  refine ret_seq (en1 := [.v (I z), .v (I n'), .v (S f'), o3', o4']) ?_ ?_
  · show (lft (gR1 (kI 9999)) _).s _ = _
    rw [lft_n (gR1_of (n := 9999) rfl (by decide)), RM.s_ok]
    rw [List.map_map] at e1
    exact e1
  have e4 := fStr_n (z := (n' : Int)) n' rfl (Nat.lt_of_lt_of_le (show _ < 10 ^ 18 by rw [ten18]; exact e2) (Nat.pow_le_pow_right (by decide) (by decide)))
  refine ret_seq (en1 := [.v (I z), .v (I n'), .v (S (dec z.natAbs)), o3', o4']) ?_ ?_
  · rw [fSet_ev, lft_n (x := S (dec z.natAbs))]
    · rfl
    · simp only [gPur_ev, gAndV_ev, gOrV_ev, gNotV_ev, gIsi_ev, gAnd_ev, gOr_ev, gNot_ev, gTru_ev, gT_ev, g2_ev, g1_ev, gIf_ev, gCall_ev, gFn_ev, gTup_ev, gLst_ev, gSl_ev, gCh_ev, gYes_ev, oN_ev, oS_ev, asI_ev, aCons_ev, aNil_ev, vN_ev, kI_ev, kB_ev, kS_ev, kD'_ev, at_succ, at_zero, get_v, get_w, get_b, get_n, Z.R.of_some, Z.R.bind_ok, Z.R.pur_d, fAdd_i, fSub_i, fNeg_i, fLt_i, fLe_i, fGt_i, fGe_i, fEq_i, fNe_i, fInt_i, fInt_b, fAbs_i, fMin2_i, fMax2_i, fLen_l, fLen_t, fLen_r, tst_b, tru_b, tru_i, tru_t, tru_l, tru_r, tru_n, List.length_map, wipeE_cons, wipeE_nil, List.set_cons_succ, List.set_cons_zero, setE_cons, setE_nil, mkS_d, mkS_l, mkTup_nil, mkTup_ev, mkLst_ev, allD_cons, allD_nil, allD_map, Option.map_some, Option.bind_some, if_true, Bool.false_eq_true, if_false, ite_true, ite_false, Bool.not_true, Bool.not_false, decide_true, decide_false, isInt_i, isInt_b, isInt_t, isBl_i, isBl_b, isBl_t, fTuple_ev, fList_ev, dataOf_t, dataOf_l, dataOf_r, lft_ev, Z.RM.of_ok, Z.RM.bind_ok, mCons_ev, mNil_ev, m2_ev, mOf_ev, mT_ev, mTru_ev, mNot_ev, List.cons_append, List.nil_append, e4]
      rw [fAdd_S (by show _ ≤ 16777216; omega), e3, R.of_some]
  by_cases hz : z < 0
  · refine ⟨[.v (I z), .v (I n'), .v (S (dec z.natAbs)), o3', o4'], ?_⟩
    rw [fSeq_ev, fIf_t (by simp only [gPur_ev, gAndV_ev, gOrV_ev, gNotV_ev, gIsi_ev, gAnd_ev, gOr_ev, gNot_ev, gTru_ev, gT_ev, g2_ev, g1_ev, gIf_ev, gCall_ev, gFn_ev, gTup_ev, gLst_ev, gSl_ev, gCh_ev, gYes_ev, oN_ev, oS_ev, asI_ev, aCons_ev, aNil_ev, vN_ev, kI_ev, kB_ev, kS_ev, kD'_ev, at_succ, at_zero, get_v, get_w, get_b, get_n, Z.R.of_some, Z.R.bind_ok, Z.R.pur_d, fAdd_i, fSub_i, fNeg_i, fLt_i, fLe_i, fGt_i, fGe_i, fEq_i, fNe_i, fInt_i, fInt_b, fAbs_i, fMin2_i, fMax2_i, fLen_l, fLen_t, fLen_r, tst_b, tru_b, tru_i, tru_t, tru_l, tru_r, tru_n, List.length_map, wipeE_cons, wipeE_nil, List.set_cons_succ, List.set_cons_zero, setE_cons, setE_nil, mkS_d, mkS_l, mkTup_nil, mkTup_ev, mkLst_ev, allD_cons, allD_nil, allD_map, Option.map_some, Option.bind_some, if_true, Bool.false_eq_true, if_false, ite_true, ite_false, Bool.not_true, Bool.not_false, decide_true, decide_false, isInt_i, isInt_b, isInt_t, isBl_i, isBl_b, isBl_t, fTuple_ev, fList_ev, dataOf_t, dataOf_l, dataOf_r, lft_ev, Z.RM.of_ok, Z.RM.bind_ok, mCons_ev, mNil_ev, m2_ev, mOf_ev, mT_ev, mTru_ev, mNot_ev, List.cons_append, List.nil_append]; rw [decide_eq_true hz]), fRet_ev, lft_n (x := S (sI z))]
    · rfl
    · simp only [gPur_ev, gAndV_ev, gOrV_ev, gNotV_ev, gIsi_ev, gAnd_ev, gOr_ev, gNot_ev, gTru_ev, gT_ev, g2_ev, g1_ev, gIf_ev, gCall_ev, gFn_ev, gTup_ev, gLst_ev, gSl_ev, gCh_ev, gYes_ev, oN_ev, oS_ev, asI_ev, aCons_ev, aNil_ev, vN_ev, kI_ev, kB_ev, kS_ev, kD'_ev, at_succ, at_zero, get_v, get_w, get_b, get_n, Z.R.of_some, Z.R.bind_ok, Z.R.pur_d, fAdd_i, fSub_i, fNeg_i, fLt_i, fLe_i, fGt_i, fGe_i, fEq_i, fNe_i, fInt_i, fInt_b, fAbs_i, fMin2_i, fMax2_i, fLen_l, fLen_t, fLen_r, tst_b, tru_b, tru_i, tru_t, tru_l, tru_r, tru_n, List.length_map, wipeE_cons, wipeE_nil, List.set_cons_succ, List.set_cons_zero, setE_cons, setE_nil, mkS_d, mkS_l, mkTup_nil, mkTup_ev, mkLst_ev, allD_cons, allD_nil, allD_map, Option.map_some, Option.bind_some, if_true, Bool.false_eq_true, if_false, ite_true, ite_false, Bool.not_true, Bool.not_false, decide_true, decide_false, isInt_i, isInt_b, isInt_t, isBl_i, isBl_b, isBl_t, fTuple_ev, fList_ev, dataOf_t, dataOf_l, dataOf_r, lft_ev, Z.RM.of_ok, Z.RM.bind_ok, mCons_ev, mNil_ev, m2_ev, mOf_ev, mT_ev, mTru_ev, mNot_ev, List.cons_append, List.nil_append, sMinus]
      rw [fAdd_S (by rw [List.length_singleton]; show _ ≤ 16777216; omega), R.of_some]
      unfold sI
      rw [if_pos hz]; rfl
  · refine ret_if_f (by simp only [gPur_ev, gAndV_ev, gOrV_ev, gNotV_ev, gIsi_ev, gAnd_ev, gOr_ev, gNot_ev, gTru_ev, gT_ev, g2_ev, g1_ev, gIf_ev, gCall_ev, gFn_ev, gTup_ev, gLst_ev, gSl_ev, gCh_ev, gYes_ev, oN_ev, oS_ev, asI_ev, aCons_ev, aNil_ev, vN_ev, kI_ev, kB_ev, kS_ev, kD'_ev, at_succ, at_zero, get_v, get_w, get_b, get_n, Z.R.of_some, Z.R.bind_ok, Z.R.pur_d, fAdd_i, fSub_i, fNeg_i, fLt_i, fLe_i, fGt_i, fGe_i, fEq_i, fNe_i, fInt_i, fInt_b, fAbs_i, fMin2_i, fMax2_i, fLen_l, fLen_t, fLen_r, tst_b, tru_b, tru_i, tru_t, tru_l, tru_r, tru_n, List.length_map, wipeE_cons, wipeE_nil, List.set_cons_succ, List.set_cons_zero, setE_cons, setE_nil, mkS_d, mkS_l, mkTup_nil, mkTup_ev, mkLst_ev, allD_cons, allD_nil, allD_map, Option.map_some, Option.bind_some, if_true, Bool.false_eq_true, if_false, ite_true, ite_false, Bool.not_true, Bool.not_false, decide_true, decide_false, isInt_i, isInt_b, isInt_t, isBl_i, isBl_b, isBl_t, fTuple_ev, fList_ev, dataOf_t, dataOf_l, dataOf_r, lft_ev, Z.RM.of_ok, Z.RM.bind_ok, mCons_ev, mNil_ev, m2_ev, mOf_ev, mT_ev, mTru_ev, mNot_ev, List.cons_append, List.nil_append]; rw [decide_eq_false hz]) ⟨[.v (I z), .v (I n'), .v (S (dec z.natAbs)), o3', o4'], ?_⟩
    unfold sI
    rw [if_neg hz]
    rfl
end K00
namespace K00
open PySem PySem.Spec L2 Z
open PyProof.Rows hiding St
open PySem.NumText
/-! write_integer -/
abbrev BASE : Int := 10000000000000000000000000000000000000000000000000000000000000000
theorem ten64 : (10 : Nat) ^ 64 = 10000000000000000000000000000000000000000000000000000000000000000 := by decide
def wrC : En → R Bool := gT (g2 fGe (vN 0) (kI 10000000000000000000000000000000000000000000000000000000000000000))
def wrB : En → SR := (fSeq (fAsg (kTup 2 (kCons (kName 0) (kCons (kName 2) kNil))) (lft (gCall fDivmod (aCons (vN 0) (aCons (kI 10000000000000000000000000000000000000000000000000000000000000000) aNil)))))
  (fExpr (mApp 1 (lft (gSm fZfill (gCall fStr (aCons (vN 2) aNil)) (aCons (kI 64) aNil))))))
theorem pylong64 (i : Int) : Builtin.divisionGoesByPylong i 10000000000000000000000000000000000000000000000000000000000000000 = false := by
  unfold Builtin.divisionGoesByPylong
  have : decide ((if ((10000000000000000000000000000000000000000000000000000000000000000 : Int) == 0) = true then 0 else (10000000000000000000000000000000000000000000000000000000000000000 : Int).natAbs.log2 / 30 + 1) > 300) = false := by decide +kernel
  simp only [this, Bool.false_and]
theorem fDivmod_i {i j : Int} (h1 : 0 < j) (h2 : Builtin.divisionGoesByPylong i j = false) : fDivmod [.d (.int i), .d (.int j)] = some (.d (.tup [.int (i / j), .int (i % j)])) := by
  show (if 0 < j ∧ Builtin.divisionGoesByPylong i j = false then some (T.d (.tup [.int (i / j), .int (i % j)])) else none) = _
  exact if_pos ⟨h1, h2⟩
abbrev chk (cs : List (List Nat)) : T := .l ((cs.map fun c => D.str (tx c)).map T.d)
theorem split64 {n q r : Nat} (hn : n = q * 10000000000000000000000000000000000000000000000000000000000000000 + r) (hq : 0 < q) (hr : r < 10000000000000000000000000000000000000000000000000000000000000000) : dec n = dec q ++ pad 64 r ∧ (pad 64 r).length = 64 := by
  have h1 : r < 10 ^ 64 := by rw [ten64]; exact hr
  have := dec_pad (n := q) (k := 64) (l := r) hq (by decide) h1
  rw [ten64, ← hn] at this
  exact ⟨this, pad_len (by decide) h1⟩
theorem wrC_t {n : Nat} {s1 s2 : Sl} (h : 10000000000000000000000000000000000000000000000000000000000000000 ≤ n) : wrC [.v (I n), s1, s2] = .ok true := by
  unfold wrC
  simp only [gPur_ev, gAndV_ev, gOrV_ev, gNotV_ev, gIsi_ev, gAnd_ev, gOr_ev, gNot_ev, gTru_ev, gT_ev, g2_ev, g1_ev, gIf_ev, gCall_ev, gFn_ev, gTup_ev, gLst_ev, gSl_ev, gCh_ev, gYes_ev, oN_ev, oS_ev, asI_ev, aCons_ev, aNil_ev, vN_ev, kI_ev, kB_ev, kS_ev, kD'_ev, at_succ, at_zero, get_v, get_w, get_b, get_n, Z.R.of_some, Z.R.bind_ok, Z.R.pur_d, fAdd_i, fSub_i, fNeg_i, fLt_i, fLe_i, fGt_i, fGe_i, fEq_i, fNe_i, fInt_i, fInt_b, fAbs_i, fMin2_i, fMax2_i, fLen_l, fLen_t, fLen_r, tst_b, tru_b, tru_i, tru_t, tru_l, tru_r, tru_n, List.length_map, wipeE_cons, wipeE_nil, List.set_cons_succ, List.set_cons_zero, setE_cons, setE_nil, mkS_d, mkS_l, mkTup_nil, mkTup_ev, mkLst_ev, allD_cons, allD_nil, allD_map, Option.map_some, Option.bind_some, if_true, Bool.false_eq_true, if_false, ite_true, ite_false, Bool.not_true, Bool.not_false, decide_true, decide_false, isInt_i, isInt_b, isInt_t, isBl_i, isBl_b, isBl_t, fTuple_ev, fList_ev, dataOf_t, dataOf_l, dataOf_r, lft_ev, Z.RM.of_ok, Z.RM.bind_ok, mCons_ev, mNil_ev, m2_ev, mOf_ev, mT_ev, mTru_ev, mNot_ev, List.cons_append, List.nil_append]; rw [decide_eq_true (by omega)]
theorem wrC_f {n : Nat} {s1 s2 : Sl} (h : n < 10000000000000000000000000000000000000000000000000000000000000000) : wrC [.v (I n), s1, s2] = .ok false := by
  unfold wrC
  simp only [gPur_ev, gAndV_ev, gOrV_ev, gNotV_ev, gIsi_ev, gAnd_ev, gOr_ev, gNot_ev, gTru_ev, gT_ev, g2_ev, g1_ev, gIf_ev, gCall_ev, gFn_ev, gTup_ev, gLst_ev, gSl_ev, gCh_ev, gYes_ev, oN_ev, oS_ev, asI_ev, aCons_ev, aNil_ev, vN_ev, kI_ev, kB_ev, kS_ev, kD'_ev, at_succ, at_zero, get_v, get_w, get_b, get_n, Z.R.of_some, Z.R.bind_ok, Z.R.pur_d, fAdd_i, fSub_i, fNeg_i, fLt_i, fLe_i, fGt_i, fGe_i, fEq_i, fNe_i, fInt_i, fInt_b, fAbs_i, fMin2_i, fMax2_i, fLen_l, fLen_t, fLen_r, tst_b, tru_b, tru_i, tru_t, tru_l, tru_r, tru_n, List.length_map, wipeE_cons, wipeE_nil, List.set_cons_succ, List.set_cons_zero, setE_cons, setE_nil, mkS_d, mkS_l, mkTup_nil, mkTup_ev, mkLst_ev, allD_cons, allD_nil, allD_map, Option.map_some, Option.bind_some, if_true, Bool.false_eq_true, if_false, ite_true, ite_false, Bool.not_true, Bool.not_false, decide_true, decide_false, isInt_i, isInt_b, isInt_t, isBl_i, isBl_b, isBl_t, fTuple_ev, fList_ev, dataOf_t, dataOf_l, dataOf_r, lft_ev, Z.RM.of_ok, Z.RM.bind_ok, mCons_ev, mNil_ev, m2_ev, mOf_ev, mT_ev, mTru_ev, mNot_ev, List.cons_append, List.nil_append]; rw [decide_eq_false (by omega)]
theorem wrB_nx {n q r : Nat} {cs : List (List Nat)} {o2 : Sl} (hb : NB o2) (hn : n = q * 10000000000000000000000000000000000000000000000000000000000000000 + r) (hr : r < 10000000000000000000000000000000000000000000000000000000000000000) (hf : cs.length < most) :
    wrB [.v (I n), .v (chk cs), o2] = .nx [.v (I q), .v (chk (cs ++ [pad 64 r])), .v (I r)] := by
  unfold wrB
  have h1 : (n : Int) / 10000000000000000000000000000000000000000000000000000000000000000 = (q : Int) := by omega
  have h2 : (n : Int) % 10000000000000000000000000000000000000000000000000000000000000000 = (r : Int) := by omega
  have hr' : r < 10 ^ 64 := by rw [ten64]; exact hr
  have e1 : (fAsg (kTup 2 (kCons (kName 0) (kCons (kName 2) kNil))) (lft (gCall fDivmod (aCons (vN 0) (aCons (kI 10000000000000000000000000000000000000000000000000000000000000000) aNil))))) [.v (I n), .v (chk cs), o2] = .nx [.v (I q), .v (chk cs), .v (I r)] := by
    rw [fAsg_ev, lft_n (x := .d (.tup [.int q, .int r]))]
    · rw [RM.s_ok]
      simp only [kTup_ev, List.length_cons, List.length_nil, if_true, kCons_ev, kName_ev, kNil_ev, Option.bind_some, Option.map_some, List.cons_append, List.nil_append, stowD_cons, stowD_nil, stow_succ, stow_v0, hb.s, toS_some]
    · simp only [gPur_ev, gAndV_ev, gOrV_ev, gNotV_ev, gIsi_ev, gAnd_ev, gOr_ev, gNot_ev, gTru_ev, gT_ev, g2_ev, g1_ev, gIf_ev, gCall_ev, gFn_ev, gTup_ev, gLst_ev, gSl_ev, gCh_ev, gYes_ev, oN_ev, oS_ev, asI_ev, aCons_ev, aNil_ev, vN_ev, kI_ev, kB_ev, kS_ev, kD'_ev, at_succ, at_zero, get_v, get_w, get_b, get_n, Z.R.of_some, Z.R.bind_ok, Z.R.pur_d, fAdd_i, fSub_i, fNeg_i, fLt_i, fLe_i, fGt_i, fGe_i, fEq_i, fNe_i, fInt_i, fInt_b, fAbs_i, fMin2_i, fMax2_i, fLen_l, fLen_t, fLen_r, tst_b, tru_b, tru_i, tru_t, tru_l, tru_r, tru_n, List.length_map, wipeE_cons, wipeE_nil, List.set_cons_succ, List.set_cons_zero, setE_cons, setE_nil, mkS_d, mkS_l, mkTup_nil, mkTup_ev, mkLst_ev, allD_cons, allD_nil, allD_map, Option.map_some, Option.bind_some, if_true, Bool.false_eq_true, if_false, ite_true, ite_false, Bool.not_true, Bool.not_false, decide_true, decide_false, isInt_i, isInt_b, isInt_t, isBl_i, isBl_b, isBl_t, fTuple_ev, fList_ev, dataOf_t, dataOf_l, dataOf_r, lft_ev, Z.RM.of_ok, Z.RM.bind_ok, mCons_ev, mNil_ev, m2_ev, mOf_ev, mT_ev, mTru_ev, mNot_ev, List.cons_append, List.nil_append]
      rw [fDivmod_i (by decide) (pylong64 _), R.of_some, h1, h2]
  rw [fSeq_ev, e1, sq_nx, fExpr_ev]
  have e2 : (lft (gSm fZfill (gCall fStr (aCons (vN 2) aNil)) (aCons (kI 64) aNil))) [.v (I q), .v (chk cs), .v (I r)] = .ok (S (pad 64 r)) [.v (I q), .v (chk cs), .v (I r)] := by
    refine lft_n ?_
    unfold gSm
    have e3 := fStr_n (z := (r : Int)) r rfl (Nat.lt_of_lt_of_le hr' (Nat.pow_le_pow_right (by decide) (by decide)))
    simp only [gPur_ev, gAndV_ev, gOrV_ev, gNotV_ev, gIsi_ev, gAnd_ev, gOr_ev, gNot_ev, gTru_ev, gT_ev, g2_ev, g1_ev, gIf_ev, gCall_ev, gFn_ev, gTup_ev, gLst_ev, gSl_ev, gCh_ev, gYes_ev, oN_ev, oS_ev, asI_ev, aCons_ev, aNil_ev, vN_ev, kI_ev, kB_ev, kS_ev, kD'_ev, at_succ, at_zero, get_v, get_w, get_b, get_n, Z.R.of_some, Z.R.bind_ok, Z.R.pur_d, fAdd_i, fSub_i, fNeg_i, fLt_i, fLe_i, fGt_i, fGe_i, fEq_i, fNe_i, fInt_i, fInt_b, fAbs_i, fMin2_i, fMax2_i, fLen_l, fLen_t, fLen_r, tst_b, tru_b, tru_i, tru_t, tru_l, tru_r, tru_n, List.length_map, wipeE_cons, wipeE_nil, List.set_cons_succ, List.set_cons_zero, setE_cons, setE_nil, mkS_d, mkS_l, mkTup_nil, mkTup_ev, mkLst_ev, allD_cons, allD_nil, allD_map, Option.map_some, Option.bind_some, if_true, Bool.false_eq_true, if_false, ite_true, ite_false, Bool.not_true, Bool.not_false, decide_true, decide_false, isInt_i, isInt_b, isInt_t, isBl_i, isBl_b, isBl_t, fTuple_ev, fList_ev, dataOf_t, dataOf_l, dataOf_r, lft_ev, Z.RM.of_ok, Z.RM.bind_ok, mCons_ev, mNil_ev, m2_ev, mOf_ev, mT_ev, mTru_ev, mNot_ev, List.cons_append, List.nil_append, e3]
    show R.of (fZfill (tx (dec r)) [.d (.int ((64 : Nat) : Int))]) = _
    rw [fZfill_dec (by decide) (by decide) hr', R.of_some]
  have e4 : mApp 1 (lft (gSm fZfill (gCall fStr (aCons (vN 2) aNil)) (aCons (kI 64) aNil))) [.v (I q), .v (chk cs), .v (I r)] = .ok (.d .non) [.v (I q), .v (chk (cs ++ [pad 64 r])), .v (I r)] := by
    unfold mApp
    simp only [own_succ, own_v0]
    rw [e2, RM.bind_ok]
    simp only [own_succ, own_v0]
    rw [if_pos (by rw [List.length_map, List.length_map]; exact hf)]
    simp only [setO_succ, setO_v0, chk, List.map_append, List.map_cons, List.map_nil]
  rw [e4]; rfl
theorem wrL : ∀ (k m n : Nat) (cs : List (List Nat)) (o2 : Sl), NB o2 → n < 10 ^ m → m ≤ 64 * k → cs.length + k < 200000 →
    ∃ n' cs' o2', whE (lft wrC) wrB (k + 1) [.v (I n), .v (chk cs), o2] = .nx [.v (I (n' : Nat)), .v (chk cs'), o2'] ∧ NB o2' ∧ n' < 10000000000000000000000000000000000000000000000000000000000000000 ∧ cs'.length < 200000 ∧ dec n' ++ cs'.reverse.flatten = dec n ++ cs.reverse.flatten := by
  intro k
  induction k with
  | zero =>
    intro m n cs o2 hb hn hm hc
    have e : m = 0 := by omega
    subst e
    rw [Nat.pow_zero] at hn
    have h : n < 10000000000000000000000000000000000000000000000000000000000000000 := by omega
    exact ⟨n, cs, o2, whE_f (lft_n (wrC_f h)), hb, h, by omega, rfl⟩
  | succ k ih =>
    intro m n cs o2 hb hn hm hc
    obtain ⟨q, r, hq, hr⟩ := split_c n 10000000000000000000000000000000000000000000000000000000000000000 (by decide)
    by_cases h : q = 0
    · have h : n < 10000000000000000000000000000000000000000000000000000000000000000 := by rw [hq, h, Nat.zero_mul, Nat.zero_add]; exact hr
      exact ⟨n, cs, o2, whE_f (lft_n (wrC_f h)), hb, h, by omega, rfl⟩
    · have h0 : 0 < q := Nat.pos_of_ne_zero h
      obtain ⟨ed, hp⟩ := split64 hq h0 hr
      have hge : 10000000000000000000000000000000000000000000000000000000000000000 ≤ n := by omega
      have estep := whE_nx (n := k + 1) (c := lft wrC) (lft_n (wrC_t hge)) (wrB_nx (cs := cs) hb hq hr (Nat.lt_trans (show cs.length < 200000 by omega) (by decide)))
      have hm64 : 64 < m := by
        rcases Nat.lt_or_ge 64 m with h | h
        · exact h
        · have := Nat.lt_of_lt_of_le hn (Nat.pow_le_pow_right (by decide) h)
          rw [ten64] at this
          omega
      have hd : q < 10 ^ (m - 64) := by
        have h1 : q * 10 ^ 64 < 10 ^ (m - 64) * 10 ^ 64 := by
          rw [← Nat.pow_add, show m - 64 + 64 = m by omega, ten64]; omega
        exact Nat.lt_of_mul_lt_mul_right h1
      obtain ⟨n', cs', o2', e1, e2, e3, e4, e5⟩ := ih (m - 64) q (cs ++ [pad 64 r]) (.v (I r)) NB.v hd (by omega) (by rw [List.length_append, List.length_singleton]; omega)
      refine ⟨n', cs', o2', estep.trans e1, e2, e3, e4, ?_⟩
      rw [e5, List.reverse_append, List.reverse_singleton, List.flatten_append, ← List.append_assoc, ed, List.flatten_singleton]
theorem jn_nil : ∀ cs : List (List Nat), jn [] cs = cs.flatten
  | [] => rfl
  | [a] => by rw [jn, List.flatten_singleton]
  | a :: b :: r => by
    have ih := jn_nil (b :: r)
    show a ++ [] ++ jn [] (b :: r) = a ++ (b :: r).flatten
    rw [ih, List.append_nil]
theorem sum_flatten (cs : List (List Nat)) : (cs.map List.length).sum = cs.flatten.length := (List.length_flatten).symm
theorem write_nat {Fr : List T → R T} {n m : Nat} (h : n < 10 ^ m) (hm : m ≤ 160000) (h1 : 1 ≤ m) : runP 3 1 (d_write_integer Fr) [I n] = .ok (S (dec n)) := by
  refine runP_ret rfl ?_
  show ∃ e, d_write_integer Fr [.v (I n), .n, .n] = _
  unfold d_write_integer
  have hl := dec_len h1 h
  refine ret_if_f (by simp only [gPur_ev, gAndV_ev, gOrV_ev, gNotV_ev, gIsi_ev, gAnd_ev, gOr_ev, gNot_ev, gTru_ev, gT_ev, g2_ev, g1_ev, gIf_ev, gCall_ev, gFn_ev, gTup_ev, gLst_ev, gSl_ev, gCh_ev, gYes_ev, oN_ev, oS_ev, asI_ev, aCons_ev, aNil_ev, vN_ev, kI_ev, kB_ev, kS_ev, kD'_ev, at_succ, at_zero, get_v, get_w, get_b, get_n, Z.R.of_some, Z.R.bind_ok, Z.R.pur_d, fAdd_i, fSub_i, fNeg_i, fLt_i, fLe_i, fGt_i, fGe_i, fEq_i, fNe_i, fInt_i, fInt_b, fAbs_i, fMin2_i, fMax2_i, fLen_l, fLen_t, fLen_r, tst_b, tru_b, tru_i, tru_t, tru_l, tru_r, tru_n, List.length_map, wipeE_cons, wipeE_nil, List.set_cons_succ, List.set_cons_zero, setE_cons, setE_nil, mkS_d, mkS_l, mkTup_nil, mkTup_ev, mkLst_ev, allD_cons, allD_nil, allD_map, Option.map_some, Option.bind_some, if_true, Bool.false_eq_true, if_false, ite_true, ite_false, Bool.not_true, Bool.not_false, decide_true, decide_false, isInt_i, isInt_b, isInt_t, isBl_i, isBl_b, isBl_t, fTuple_ev, fList_ev, dataOf_t, dataOf_l, dataOf_r, lft_ev, Z.RM.of_ok, Z.RM.bind_ok, mCons_ev, mNil_ev, m2_ev, mOf_ev, mT_ev, mTru_ev, mNot_ev, List.cons_append, List.nil_append]; rw [decide_eq_false (by omega)]) ?_
  refine ret_seq (en1 := [.v (I n), .v (chk []), .n]) rfl ?_
  obtain ⟨n', cs', o2', e1, e2, e3, e4, e5⟩ := wrL 99999 m n [] .n NB.n h (by omega) (by decide)
  refine ret_seq (en1 := [.v (I n'), .v (chk cs'), o2']) (by rw [fWh_ev]; exact e1) ?_
  have es := fStr_n (z := (n' : Int)) n' rfl (Nat.lt_of_lt_of_le (show _ < 10 ^ 64 by rw [ten64]; exact e3) (Nat.pow_le_pow_right (by decide) (by decide)))
  have ea : mApp 1 (lft (gCall fStr (aCons (vN 0) aNil))) [.v (I n'), .v (chk cs'), o2'] = .ok (.d .non) [.v (I n'), .v (chk (cs' ++ [dec n'])), o2'] := by
    unfold mApp
    simp only [own_succ, own_v0]
    rw [lft_n (x := S (dec n')) (by simp only [gPur_ev, gAndV_ev, gOrV_ev, gNotV_ev, gIsi_ev, gAnd_ev, gOr_ev, gNot_ev, gTru_ev, gT_ev, g2_ev, g1_ev, gIf_ev, gCall_ev, gFn_ev, gTup_ev, gLst_ev, gSl_ev, gCh_ev, gYes_ev, oN_ev, oS_ev, asI_ev, aCons_ev, aNil_ev, vN_ev, kI_ev, kB_ev, kS_ev, kD'_ev, at_succ, at_zero, get_v, get_w, get_b, get_n, Z.R.of_some, Z.R.bind_ok, Z.R.pur_d, fAdd_i, fSub_i, fNeg_i, fLt_i, fLe_i, fGt_i, fGe_i, fEq_i, fNe_i, fInt_i, fInt_b, fAbs_i, fMin2_i, fMax2_i, fLen_l, fLen_t, fLen_r, tst_b, tru_b, tru_i, tru_t, tru_l, tru_r, tru_n, List.length_map, wipeE_cons, wipeE_nil, List.set_cons_succ, List.set_cons_zero, setE_cons, setE_nil, mkS_d, mkS_l, mkTup_nil, mkTup_ev, mkLst_ev, allD_cons, allD_nil, allD_map, Option.map_some, Option.bind_some, if_true, Bool.false_eq_true, if_false, ite_true, ite_false, Bool.not_true, Bool.not_false, decide_true, decide_false, isInt_i, isInt_b, isInt_t, isBl_i, isBl_b, isBl_t, fTuple_ev, fList_ev, dataOf_t, dataOf_l, dataOf_r, lft_ev, Z.RM.of_ok, Z.RM.bind_ok, mCons_ev, mNil_ev, m2_ev, mOf_ev, mT_ev, mTru_ev, mNot_ev, List.cons_append, List.nil_append, es]), RM.bind_ok]
    simp only [own_succ, own_v0]
    rw [if_pos (by rw [List.length_map, List.length_map]; show _ < 16777216; omega)]
    simp only [setO_succ, setO_v0, chk, List.map_append, List.map_cons, List.map_nil]
  refine ret_seq (en1 := [.v (I n'), .v (chk (cs' ++ [dec n'])), o2']) (by rw [fExpr_ev, ea]; rfl) ?_
  refine ret_lft ?_
  have er : (cs' ++ [dec n']).reverse = dec n' :: cs'.reverse := by rw [List.reverse_append]; rfl
  have ef : (dec n' :: cs'.reverse).flatten = dec n := by rw [List.flatten_cons, e5]; exact List.append_nil _
  have ej := fJoin_of (sep := []) (x := chk (dec n' :: cs'.reverse)) (dec n' :: cs'.reverse) (by show allD _ = _; rw [allD_map]) (by rw [sum_flatten, ef, List.length_nil, Nat.mul_zero]; show _ ≤ 16777216; omega)
  unfold gSm
  have erv : fRev (chk (cs' ++ [dec n'])) = some (chk (dec n' :: cs'.reverse)) := by
    show (allD _).map _ = _
    rw [allD_map, Option.map_some, ← er]
    simp only [chk, List.map_reverse]
  simp only [gPur_ev, gAndV_ev, gOrV_ev, gNotV_ev, gIsi_ev, gAnd_ev, gOr_ev, gNot_ev, gTru_ev, gT_ev, g2_ev, g1_ev, gIf_ev, gCall_ev, gFn_ev, gTup_ev, gLst_ev, gSl_ev, gCh_ev, gYes_ev, oN_ev, oS_ev, asI_ev, aCons_ev, aNil_ev, vN_ev, kI_ev, kB_ev, kS_ev, kD'_ev, at_succ, at_zero, get_v, get_w, get_b, get_n, Z.R.of_some, Z.R.bind_ok, Z.R.pur_d, fAdd_i, fSub_i, fNeg_i, fLt_i, fLe_i, fGt_i, fGe_i, fEq_i, fNe_i, fInt_i, fInt_b, fAbs_i, fMin2_i, fMax2_i, fLen_l, fLen_t, fLen_r, tst_b, tru_b, tru_i, tru_t, tru_l, tru_r, tru_n, List.length_map, wipeE_cons, wipeE_nil, List.set_cons_succ, List.set_cons_zero, setE_cons, setE_nil, mkS_d, mkS_l, mkTup_nil, mkTup_ev, mkLst_ev, allD_cons, allD_nil, allD_map, Option.map_some, Option.bind_some, if_true, Bool.false_eq_true, if_false, ite_true, ite_false, Bool.not_true, Bool.not_false, decide_true, decide_false, isInt_i, isInt_b, isInt_t, isBl_i, isBl_b, isBl_t, fTuple_ev, fList_ev, dataOf_t, dataOf_l, dataOf_r, lft_ev, Z.RM.of_ok, Z.RM.bind_ok, mCons_ev, mNil_ev, m2_ev, mOf_ev, mT_ev, mTru_ev, mNot_ev, List.cons_append, List.nil_append, erv, sNone]
  show R.of (fJoin (tx []) [chk (dec n' :: cs'.reverse)]) = _
  rw [ej, jn_nil, ef, R.of_some]
theorem write_integer_ok {z : Int} {m : Nat} (h : z.natAbs < 10 ^ m) (h1 : 1 ≤ m) (hm : m ≤ 160000) : F_write_integer 2 [I z] = .ok (S (sI z)) := by
  have hl := dec_len h1 h
  by_cases hz : z < 0
  · show runP 3 1 (d_write_integer (F_write_integer 1)) [I z] = _
    refine runP_ret rfl ?_
    show ∃ e, d_write_integer (F_write_integer 1) [.v (I z), .n, .n] = _
    unfold d_write_integer
    have e : F_write_integer 1 [I (-z)] = .ok (S (dec z.natAbs)) := by
      rw [show -z = (z.natAbs : Int) by omega]
      exact write_nat h hm h1
    refine ⟨[.v (I z), .n, .n], ?_⟩
    rw [fSeq_ev, fIf_t (by simp only [gPur_ev, gAndV_ev, gOrV_ev, gNotV_ev, gIsi_ev, gAnd_ev, gOr_ev, gNot_ev, gTru_ev, gT_ev, g2_ev, g1_ev, gIf_ev, gCall_ev, gFn_ev, gTup_ev, gLst_ev, gSl_ev, gCh_ev, gYes_ev, oN_ev, oS_ev, asI_ev, aCons_ev, aNil_ev, vN_ev, kI_ev, kB_ev, kS_ev, kD'_ev, at_succ, at_zero, get_v, get_w, get_b, get_n, Z.R.of_some, Z.R.bind_ok, Z.R.pur_d, fAdd_i, fSub_i, fNeg_i, fLt_i, fLe_i, fGt_i, fGe_i, fEq_i, fNe_i, fInt_i, fInt_b, fAbs_i, fMin2_i, fMax2_i, fLen_l, fLen_t, fLen_r, tst_b, tru_b, tru_i, tru_t, tru_l, tru_r, tru_n, List.length_map, wipeE_cons, wipeE_nil, List.set_cons_succ, List.set_cons_zero, setE_cons, setE_nil, mkS_d, mkS_l, mkTup_nil, mkTup_ev, mkLst_ev, allD_cons, allD_nil, allD_map, Option.map_some, Option.bind_some, if_true, Bool.false_eq_true, if_false, ite_true, ite_false, Bool.not_true, Bool.not_false, decide_true, decide_false, isInt_i, isInt_b, isInt_t, isBl_i, isBl_b, isBl_t, fTuple_ev, fList_ev, dataOf_t, dataOf_l, dataOf_r, lft_ev, Z.RM.of_ok, Z.RM.bind_ok, mCons_ev, mNil_ev, m2_ev, mOf_ev, mT_ev, mTru_ev, mNot_ev, List.cons_append, List.nil_append]; rw [decide_eq_true hz]), fRet_ev, lft_n (x := S (sI z))]
    · rfl
    · simp only [gPur_ev, gAndV_ev, gOrV_ev, gNotV_ev, gIsi_ev, gAnd_ev, gOr_ev, gNot_ev, gTru_ev, gT_ev, g2_ev, g1_ev, gIf_ev, gCall_ev, gFn_ev, gTup_ev, gLst_ev, gSl_ev, gCh_ev, gYes_ev, oN_ev, oS_ev, asI_ev, aCons_ev, aNil_ev, vN_ev, kI_ev, kB_ev, kS_ev, kD'_ev, at_succ, at_zero, get_v, get_w, get_b, get_n, Z.R.of_some, Z.R.bind_ok, Z.R.pur_d, fAdd_i, fSub_i, fNeg_i, fLt_i, fLe_i, fGt_i, fGe_i, fEq_i, fNe_i, fInt_i, fInt_b, fAbs_i, fMin2_i, fMax2_i, fLen_l, fLen_t, fLen_r, tst_b, tru_b, tru_i, tru_t, tru_l, tru_r, tru_n, List.length_map, wipeE_cons, wipeE_nil, List.set_cons_succ, List.set_cons_zero, setE_cons, setE_nil, mkS_d, mkS_l, mkTup_nil, mkTup_ev, mkLst_ev, allD_cons, allD_nil, allD_map, Option.map_some, Option.bind_some, if_true, Bool.false_eq_true, if_false, ite_true, ite_false, Bool.not_true, Bool.not_false, decide_true, decide_false, isInt_i, isInt_b, isInt_t, isBl_i, isBl_b, isBl_t, fTuple_ev, fList_ev, dataOf_t, dataOf_l, dataOf_r, lft_ev, Z.RM.of_ok, Z.RM.bind_ok, mCons_ev, mNil_ev, m2_ev, mOf_ev, mT_ev, mTru_ev, mNot_ev, List.cons_append, List.nil_append, sMinus, e]
      rw [fAdd_S (by rw [List.length_singleton]; show _ ≤ 16777216; omega), R.of_some]
      unfold sI
      rw [if_pos hz]; rfl
  · have e := write_nat (Fr := F_write_integer 1) h hm h1
    unfold sI
    rw [if_neg hz]
    rw [show ((z.natAbs : Nat) : Int) = z by omega] at e
    exact e
end K00
namespace K00
open PySem PySem.Spec L2 Z
open PyProof.Rows hiding St
open PySem.NumText
/-! read_integer -/
theorem sZero : Str.ofString "0" = tx [48] := by decide +kernel
theorem sDigs : Str.ofString "0123456789" = tx [48, 49, 50, 51, 52, 53, 54, 55, 56, 57] := by decide +kernel
abbrev bad : Exc := ⟨Str.ofString "BadText", none⟩
def rdig (t : List Nat) : List Nat := if t.take 1 = [45] then t.drop 1 else t
def isD (c : Nat) : Bool := decide (48 ≤ c) && decide (c ≤ 57)
theorem mem_digs (c : Nat) : decide (c ∈ [48, 49, 50, 51, 52, 53, 54, 55, 56, 57]) = isD c := by
  unfold isD
  rw [Bool.eq_iff_iff]
  simp only [decide_eq_true_eq, Bool.and_eq_true, List.mem_cons, List.not_mem_nil, or_false]
  omega
theorem isD_all {ds : List Nat} (h : AllDigits ds) : ∀ c ∈ ds, isD c = true := fun c m => by
  have := h c m
  unfold isD
  rw [decide_eq_true this.1, decide_eq_true this.2]; rfl
/-- the part ahead of the loop -/
def rdC : En → R Bool := (gOr (gT (g2 fEq (vN 1) (kS (Str.ofString "")))) (gAnd (gT (g2 fEq (g2 fIx (vN 1) (kI 0)) (kS (Str.ofString "0")))) (gT (g2 fNe (vN 0) (kS (Str.ofString "0"))))))
def rdB : En → SR := (fIf (lft (gT (g2 fNotIn (vN 2) (kS (Str.ofString "0123456789"))))) (fRaise (Str.ofString "BadText")) fNil)
def rdL : En → SR := (fSet 4 (lft (g2 fAdd (g2 fMul (vN 4) (kI 10000000000000000000000000000000000000000000000000000000000000000)) (gCall fIntS (aCons (gSl (vN 1) (oS (vN 5)) (oS (g2 fAdd (vN 5) (kI 64)))) aNil)))))
def rdN : En → SR := (fSeq (fSet 3 (lft (g2 fMod (gCall fLen (aCons (vN 1) aNil)) (kI 64))))
  (fSeq (fSet 4 (lft (kI 0)))
  (fSeq (fIf (lft (gT (g2 fGt (vN 3) (kI 0)))) (fSet 4 (lft (gCall fIntS (aCons (gSl (vN 1) oN (oS (vN 3))) aNil)))) fNil)
  (fSeq (fFor (kName 5) (lft (gR3 (vN 3) (gCall fLen (aCons (vN 1) aNil)) (kI 64))) rdL)
  (fSeq (fIf (lft (gT (g2 fEq (g2 fIx (vN 0) (kI 0)) (kS (Str.ofString "-"))))) (fRet (lft (g1 fNeg (vN 4)))) fNil)
  (fRet (mName 4)))))))
theorem d_read_eq : d_read_integer = (fSeq (fSet 1 (mName 0))
  (fSeq (fIf (lft (gT (g2 fEq (gSl (vN 0) oN (oS (kI 1))) (kS (Str.ofString "-"))))) (fSet 1 (lft (gSl (vN 0) (oS (kI 1)) oN))) fNil)
  (fSeq (fIf (lft rdC) (fRaise (Str.ofString "BadText")) fNil)
  (fSeq (fForN (kName 2) 1 rdB) rdN)))) := rfl
theorem okc_take {t : List Nat} (h : okc t = true) (n : Nat) : okc (t.take n) = true := List.all_eq_true.mpr fun c m => List.all_eq_true.mp h c (List.mem_of_mem_take m)
theorem okc_drop {t : List Nat} (h : okc t = true) (n : Nat) : okc (t.drop n) = true := List.all_eq_true.mpr fun c m => List.all_eq_true.mp h c (List.mem_of_mem_drop m)
theorem okc_rdig {t : List Nat} (h : okc t = true) : okc (rdig t) = true := by
  unfold rdig; split
  · exact okc_drop h 1
  · exact h
theorem rdig_len (t : List Nat) : (rdig t).length ≤ t.length := by
  unfold rdig; split
  · rw [List.length_drop]; omega
  · exact Nat.le_refl _
abbrev r5 (t ds : List Nat) (o2 o3 o4 o5 : Sl) : En := [.v (S t), .v (S ds), o2, o3, o4, o5]
theorem rd_start {t : List Nat} (h : okc t = true) (hl : t.length ≤ 200000) : ∃ en1, fSet 1 (mName 0) (r5 t t .n .n .n .n) = .nx en1 ∧ (fIf (lft (gT (g2 fEq (gSl (vN 0) oN (oS (kI 1))) (kS (Str.ofString "-"))))) (fSet 1 (lft (gSl (vN 0) (oS (kI 1)) oN))) fNil) en1 = .nx (r5 t (rdig t) .n .n .n .n) := by
  refine ⟨r5 t t .n .n .n .n, rfl, ?_⟩
  have hm : t.length ≤ most := Nat.le_trans hl (by decide)
  have e := fEq_S (okc_take h 1) (show okc [45] = true by decide)
  have s1 := fSl_to (z := t) (k := 1) 1 rfl hm
  have s2 := fSl_from (z := t) (k := 1) 1 rfl hm
  unfold rdig
  by_cases h1 : t.take 1 = [45]
  · rw [if_pos h1, fIf_t (by simp only [gPur_ev, gAndV_ev, gOrV_ev, gNotV_ev, gIsi_ev, gAnd_ev, gOr_ev, gNot_ev, gTru_ev, gT_ev, g2_ev, g1_ev, gIf_ev, gCall_ev, gFn_ev, gTup_ev, gLst_ev, gSl_ev, gCh_ev, gYes_ev, oN_ev, oS_ev, asI_ev, aCons_ev, aNil_ev, vN_ev, kI_ev, kB_ev, kS_ev, kD'_ev, at_succ, at_zero, get_v, get_w, get_b, get_n, Z.R.of_some, Z.R.bind_ok, Z.R.pur_d, fAdd_i, fSub_i, fNeg_i, fLt_i, fLe_i, fGt_i, fGe_i, fEq_i, fNe_i, fInt_i, fInt_b, fAbs_i, fMin2_i, fMax2_i, fLen_l, fLen_t, fLen_r, tst_b, tru_b, tru_i, tru_t, tru_l, tru_r, tru_n, List.length_map, wipeE_cons, wipeE_nil, List.set_cons_succ, List.set_cons_zero, setE_cons, setE_nil, mkS_d, mkS_l, mkTup_nil, mkTup_ev, mkLst_ev, allD_cons, allD_nil, allD_map, Option.map_some, Option.bind_some, if_true, Bool.false_eq_true, if_false, ite_true, ite_false, Bool.not_true, Bool.not_false, decide_true, decide_false, isInt_i, isInt_b, isInt_t, isBl_i, isBl_b, isBl_t, fTuple_ev, fList_ev, dataOf_t, dataOf_l, dataOf_r, lft_ev, Z.RM.of_ok, Z.RM.bind_ok, mCons_ev, mNil_ev, m2_ev, mOf_ev, mT_ev, mTru_ev, mNot_ev, List.cons_append, List.nil_append, sMinus, s1, e, decide_eq_true h1]), fSet_ev, lft_n (x := S (t.drop 1)) (by simp only [gPur_ev, gAndV_ev, gOrV_ev, gNotV_ev, gIsi_ev, gAnd_ev, gOr_ev, gNot_ev, gTru_ev, gT_ev, g2_ev, g1_ev, gIf_ev, gCall_ev, gFn_ev, gTup_ev, gLst_ev, gSl_ev, gCh_ev, gYes_ev, oN_ev, oS_ev, asI_ev, aCons_ev, aNil_ev, vN_ev, kI_ev, kB_ev, kS_ev, kD'_ev, at_succ, at_zero, get_v, get_w, get_b, get_n, Z.R.of_some, Z.R.bind_ok, Z.R.pur_d, fAdd_i, fSub_i, fNeg_i, fLt_i, fLe_i, fGt_i, fGe_i, fEq_i, fNe_i, fInt_i, fInt_b, fAbs_i, fMin2_i, fMax2_i, fLen_l, fLen_t, fLen_r, tst_b, tru_b, tru_i, tru_t, tru_l, tru_r, tru_n, List.length_map, wipeE_cons, wipeE_nil, List.set_cons_succ, List.set_cons_zero, setE_cons, setE_nil, mkS_d, mkS_l, mkTup_nil, mkTup_ev, mkLst_ev, allD_cons, allD_nil, allD_map, Option.map_some, Option.bind_some, if_true, Bool.false_eq_true, if_false, ite_true, ite_false, Bool.not_true, Bool.not_false, decide_true, decide_false, isInt_i, isInt_b, isInt_t, isBl_i, isBl_b, isBl_t, fTuple_ev, fList_ev, dataOf_t, dataOf_l, dataOf_r, lft_ev, Z.RM.of_ok, Z.RM.bind_ok, mCons_ev, mNil_ev, m2_ev, mOf_ev, mT_ev, mTru_ev, mNot_ev, List.cons_append, List.nil_append, s2])]
    rfl
  · rw [if_neg h1, fIf_f (by simp only [gPur_ev, gAndV_ev, gOrV_ev, gNotV_ev, gIsi_ev, gAnd_ev, gOr_ev, gNot_ev, gTru_ev, gT_ev, g2_ev, g1_ev, gIf_ev, gCall_ev, gFn_ev, gTup_ev, gLst_ev, gSl_ev, gCh_ev, gYes_ev, oN_ev, oS_ev, asI_ev, aCons_ev, aNil_ev, vN_ev, kI_ev, kB_ev, kS_ev, kD'_ev, at_succ, at_zero, get_v, get_w, get_b, get_n, Z.R.of_some, Z.R.bind_ok, Z.R.pur_d, fAdd_i, fSub_i, fNeg_i, fLt_i, fLe_i, fGt_i, fGe_i, fEq_i, fNe_i, fInt_i, fInt_b, fAbs_i, fMin2_i, fMax2_i, fLen_l, fLen_t, fLen_r, tst_b, tru_b, tru_i, tru_t, tru_l, tru_r, tru_n, List.length_map, wipeE_cons, wipeE_nil, List.set_cons_succ, List.set_cons_zero, setE_cons, setE_nil, mkS_d, mkS_l, mkTup_nil, mkTup_ev, mkLst_ev, allD_cons, allD_nil, allD_map, Option.map_some, Option.bind_some, if_true, Bool.false_eq_true, if_false, ite_true, ite_false, Bool.not_true, Bool.not_false, decide_true, decide_false, isInt_i, isInt_b, isInt_t, isBl_i, isBl_b, isBl_t, fTuple_ev, fList_ev, dataOf_t, dataOf_l, dataOf_r, lft_ev, Z.RM.of_ok, Z.RM.bind_ok, mCons_ev, mNil_ev, m2_ev, mOf_ev, mT_ev, mTru_ev, mNot_ev, List.cons_append, List.nil_append, sMinus, s1, e, decide_eq_false h1])]
    rfl
def bad1 (t : List Nat) : Prop := rdig t = [] ∨ ((rdig t).head? = some 48 ∧ t ≠ [48])
theorem rdC_ok {t : List Nat} {o2 o3 o4 o5 : Sl} (h : okc t = true) (hl : t.length ≤ 200000) : ∃ b, rdC (r5 t (rdig t) o2 o3 o4 o5) = .ok b ∧ (b = true ↔ bad1 t) := by
  have hd := okc_rdig h
  have hdl := rdig_len t
  have e1 := fEq_S hd (show okc [] = true by decide)
  have e3 := fNe_S h (show okc [48] = true by decide)
  unfold rdC bad1
  cases ed : rdig t with
  | nil =>
    rw [ed] at e1
    exact ⟨true, by simp only [gPur_ev, gAndV_ev, gOrV_ev, gNotV_ev, gIsi_ev, gAnd_ev, gOr_ev, gNot_ev, gTru_ev, gT_ev, g2_ev, g1_ev, gIf_ev, gCall_ev, gFn_ev, gTup_ev, gLst_ev, gSl_ev, gCh_ev, gYes_ev, oN_ev, oS_ev, asI_ev, aCons_ev, aNil_ev, vN_ev, kI_ev, kB_ev, kS_ev, kD'_ev, at_succ, at_zero, get_v, get_w, get_b, get_n, Z.R.of_some, Z.R.bind_ok, Z.R.pur_d, fAdd_i, fSub_i, fNeg_i, fLt_i, fLe_i, fGt_i, fGe_i, fEq_i, fNe_i, fInt_i, fInt_b, fAbs_i, fMin2_i, fMax2_i, fLen_l, fLen_t, fLen_r, tst_b, tru_b, tru_i, tru_t, tru_l, tru_r, tru_n, List.length_map, wipeE_cons, wipeE_nil, List.set_cons_succ, List.set_cons_zero, setE_cons, setE_nil, mkS_d, mkS_l, mkTup_nil, mkTup_ev, mkLst_ev, allD_cons, allD_nil, allD_map, Option.map_some, Option.bind_some, if_true, Bool.false_eq_true, if_false, ite_true, ite_false, Bool.not_true, Bool.not_false, decide_true, decide_false, isInt_i, isInt_b, isInt_t, isBl_i, isBl_b, isBl_t, fTuple_ev, fList_ev, dataOf_t, dataOf_l, dataOf_r, lft_ev, Z.RM.of_ok, Z.RM.bind_ok, mCons_ev, mNil_ev, m2_ev, mOf_ev, mT_ev, mTru_ev, mNot_ev, List.cons_append, List.nil_append, sNone, e1], by simp⟩
  | cons c r =>
    rw [ed] at e1 hdl hd
    have hc : okc [c] = true := List.all_eq_true.mpr fun x m => List.all_eq_true.mp hd x (by rw [List.mem_singleton.mp m]; exact List.mem_cons_self ..)
    have e2 := fEq_S hc (show okc [48] = true by decide)
    have ei := fIx_S (z := c :: r) (k := 0) 0 rfl (by simp) (Nat.le_trans hdl (Nat.le_trans hl (by decide)))
    rw [List.getElem_cons_zero] at ei
    by_cases h1 : c = 48
    · by_cases h2 : t = [48]
      · refine ⟨false, ?_, ?_⟩
        · simp only [gPur_ev, gAndV_ev, gOrV_ev, gNotV_ev, gIsi_ev, gAnd_ev, gOr_ev, gNot_ev, gTru_ev, gT_ev, g2_ev, g1_ev, gIf_ev, gCall_ev, gFn_ev, gTup_ev, gLst_ev, gSl_ev, gCh_ev, gYes_ev, oN_ev, oS_ev, asI_ev, aCons_ev, aNil_ev, vN_ev, kI_ev, kB_ev, kS_ev, kD'_ev, at_succ, at_zero, get_v, get_w, get_b, get_n, Z.R.of_some, Z.R.bind_ok, Z.R.pur_d, fAdd_i, fSub_i, fNeg_i, fLt_i, fLe_i, fGt_i, fGe_i, fEq_i, fNe_i, fInt_i, fInt_b, fAbs_i, fMin2_i, fMax2_i, fLen_l, fLen_t, fLen_r, tst_b, tru_b, tru_i, tru_t, tru_l, tru_r, tru_n, List.length_map, wipeE_cons, wipeE_nil, List.set_cons_succ, List.set_cons_zero, setE_cons, setE_nil, mkS_d, mkS_l, mkTup_nil, mkTup_ev, mkLst_ev, allD_cons, allD_nil, allD_map, Option.map_some, Option.bind_some, if_true, Bool.false_eq_true, if_false, ite_true, ite_false, Bool.not_true, Bool.not_false, decide_true, decide_false, isInt_i, isInt_b, isInt_t, isBl_i, isBl_b, isBl_t, fTuple_ev, fList_ev, dataOf_t, dataOf_l, dataOf_r, lft_ev, Z.RM.of_ok, Z.RM.bind_ok, mCons_ev, mNil_ev, m2_ev, mOf_ev, mT_ev, mTru_ev, mNot_ev, List.cons_append, List.nil_append, sNone, sZero, e1, ei, e2, e3]
          rw [decide_eq_false (by simp), decide_eq_true (by rw [h1]), decide_eq_true h2]; rfl
        · simp [h2]
      · refine ⟨true, ?_, ?_⟩
        · simp only [gPur_ev, gAndV_ev, gOrV_ev, gNotV_ev, gIsi_ev, gAnd_ev, gOr_ev, gNot_ev, gTru_ev, gT_ev, g2_ev, g1_ev, gIf_ev, gCall_ev, gFn_ev, gTup_ev, gLst_ev, gSl_ev, gCh_ev, gYes_ev, oN_ev, oS_ev, asI_ev, aCons_ev, aNil_ev, vN_ev, kI_ev, kB_ev, kS_ev, kD'_ev, at_succ, at_zero, get_v, get_w, get_b, get_n, Z.R.of_some, Z.R.bind_ok, Z.R.pur_d, fAdd_i, fSub_i, fNeg_i, fLt_i, fLe_i, fGt_i, fGe_i, fEq_i, fNe_i, fInt_i, fInt_b, fAbs_i, fMin2_i, fMax2_i, fLen_l, fLen_t, fLen_r, tst_b, tru_b, tru_i, tru_t, tru_l, tru_r, tru_n, List.length_map, wipeE_cons, wipeE_nil, List.set_cons_succ, List.set_cons_zero, setE_cons, setE_nil, mkS_d, mkS_l, mkTup_nil, mkTup_ev, mkLst_ev, allD_cons, allD_nil, allD_map, Option.map_some, Option.bind_some, if_true, Bool.false_eq_true, if_false, ite_true, ite_false, Bool.not_true, Bool.not_false, decide_true, decide_false, isInt_i, isInt_b, isInt_t, isBl_i, isBl_b, isBl_t, fTuple_ev, fList_ev, dataOf_t, dataOf_l, dataOf_r, lft_ev, Z.RM.of_ok, Z.RM.bind_ok, mCons_ev, mNil_ev, m2_ev, mOf_ev, mT_ev, mTru_ev, mNot_ev, List.cons_append, List.nil_append, sNone, sZero, e1, ei, e2, e3]
          rw [decide_eq_false (by simp), decide_eq_true (by rw [h1]), decide_eq_false h2]; rfl
        · simp [h1, h2]
    · refine ⟨false, ?_, ?_⟩
      · simp only [gPur_ev, gAndV_ev, gOrV_ev, gNotV_ev, gIsi_ev, gAnd_ev, gOr_ev, gNot_ev, gTru_ev, gT_ev, g2_ev, g1_ev, gIf_ev, gCall_ev, gFn_ev, gTup_ev, gLst_ev, gSl_ev, gCh_ev, gYes_ev, oN_ev, oS_ev, asI_ev, aCons_ev, aNil_ev, vN_ev, kI_ev, kB_ev, kS_ev, kD'_ev, at_succ, at_zero, get_v, get_w, get_b, get_n, Z.R.of_some, Z.R.bind_ok, Z.R.pur_d, fAdd_i, fSub_i, fNeg_i, fLt_i, fLe_i, fGt_i, fGe_i, fEq_i, fNe_i, fInt_i, fInt_b, fAbs_i, fMin2_i, fMax2_i, fLen_l, fLen_t, fLen_r, tst_b, tru_b, tru_i, tru_t, tru_l, tru_r, tru_n, List.length_map, wipeE_cons, wipeE_nil, List.set_cons_succ, List.set_cons_zero, setE_cons, setE_nil, mkS_d, mkS_l, mkTup_nil, mkTup_ev, mkLst_ev, allD_cons, allD_nil, allD_map, Option.map_some, Option.bind_some, if_true, Bool.false_eq_true, if_false, ite_true, ite_false, Bool.not_true, Bool.not_false, decide_true, decide_false, isInt_i, isInt_b, isInt_t, isBl_i, isBl_b, isBl_t, fTuple_ev, fList_ev, dataOf_t, dataOf_l, dataOf_r, lft_ev, Z.RM.of_ok, Z.RM.bind_ok, mCons_ev, mNil_ev, m2_ev, mOf_ev, mT_ev, mTru_ev, mNot_ev, List.cons_append, List.nil_append, sNone, sZero, e1, ei, e2, e3]
        rw [decide_eq_false (by simp), decide_eq_false (by simpa using h1)]; rfl
      · simp [h1]
theorem rdB_ok {t ds : List Nat} {o3 o4 o5 : Sl} {c : Nat} (h : isD c = true) : rdB (r5 t ds (.v (S [c])) o3 o4 o5) = .nx (r5 t ds (.v (S [c])) o3 o4 o5) := by
  unfold rdB
  rw [fIf_f (by simp only [gPur_ev, gAndV_ev, gOrV_ev, gNotV_ev, gIsi_ev, gAnd_ev, gOr_ev, gNot_ev, gTru_ev, gT_ev, g2_ev, g1_ev, gIf_ev, gCall_ev, gFn_ev, gTup_ev, gLst_ev, gSl_ev, gCh_ev, gYes_ev, oN_ev, oS_ev, asI_ev, aCons_ev, aNil_ev, vN_ev, kI_ev, kB_ev, kS_ev, kD'_ev, at_succ, at_zero, get_v, get_w, get_b, get_n, Z.R.of_some, Z.R.bind_ok, Z.R.pur_d, fAdd_i, fSub_i, fNeg_i, fLt_i, fLe_i, fGt_i, fGe_i, fEq_i, fNe_i, fInt_i, fInt_b, fAbs_i, fMin2_i, fMax2_i, fLen_l, fLen_t, fLen_r, tst_b, tru_b, tru_i, tru_t, tru_l, tru_r, tru_n, List.length_map, wipeE_cons, wipeE_nil, List.set_cons_succ, List.set_cons_zero, setE_cons, setE_nil, mkS_d, mkS_l, mkTup_nil, mkTup_ev, mkLst_ev, allD_cons, allD_nil, allD_map, Option.map_some, Option.bind_some, if_true, Bool.false_eq_true, if_false, ite_true, ite_false, Bool.not_true, Bool.not_false, decide_true, decide_false, isInt_i, isInt_b, isInt_t, isBl_i, isBl_b, isBl_t, fTuple_ev, fList_ev, dataOf_t, dataOf_l, dataOf_r, lft_ev, Z.RM.of_ok, Z.RM.bind_ok, mCons_ev, mNil_ev, m2_ev, mOf_ev, mT_ev, mTru_ev, mNot_ev, List.cons_append, List.nil_append, sDigs, fNotIn_S, mem_digs, h])]; rfl
theorem rdB_ex {t ds : List Nat} {o3 o4 o5 : Sl} {c : Nat} (h : isD c = false) : rdB (r5 t ds (.v (S [c])) o3 o4 o5) = .ex bad (r5 t ds (.v (S [c])) o3 o4 o5) := by
  unfold rdB
  rw [fIf_t (by simp only [gPur_ev, gAndV_ev, gOrV_ev, gNotV_ev, gIsi_ev, gAnd_ev, gOr_ev, gNot_ev, gTru_ev, gT_ev, g2_ev, g1_ev, gIf_ev, gCall_ev, gFn_ev, gTup_ev, gLst_ev, gSl_ev, gCh_ev, gYes_ev, oN_ev, oS_ev, asI_ev, aCons_ev, aNil_ev, vN_ev, kI_ev, kB_ev, kS_ev, kD'_ev, at_succ, at_zero, get_v, get_w, get_b, get_n, Z.R.of_some, Z.R.bind_ok, Z.R.pur_d, fAdd_i, fSub_i, fNeg_i, fLt_i, fLe_i, fGt_i, fGe_i, fEq_i, fNe_i, fInt_i, fInt_b, fAbs_i, fMin2_i, fMax2_i, fLen_l, fLen_t, fLen_r, tst_b, tru_b, tru_i, tru_t, tru_l, tru_r, tru_n, List.length_map, wipeE_cons, wipeE_nil, List.set_cons_succ, List.set_cons_zero, setE_cons, setE_nil, mkS_d, mkS_l, mkTup_nil, mkTup_ev, mkLst_ev, allD_cons, allD_nil, allD_map, Option.map_some, Option.bind_some, if_true, Bool.false_eq_true, if_false, ite_true, ite_false, Bool.not_true, Bool.not_false, decide_true, decide_false, isInt_i, isInt_b, isInt_t, isBl_i, isBl_b, isBl_t, fTuple_ev, fList_ev, dataOf_t, dataOf_l, dataOf_r, lft_ev, Z.RM.of_ok, Z.RM.bind_ok, mCons_ev, mNil_ev, m2_ev, mOf_ev, mT_ev, mTru_ev, mNot_ev, List.cons_append, List.nil_append, sDigs, fNotIn_S, mem_digs, h])]; rfl
theorem st2 {t ds : List Nat} {o2 o3 o4 o5 : Sl} {c : Nat} (hb : NB o2) : stows (r5 t ds o2 o3 o4 o5) [(2, S [c])] = some (r5 t ds (.v (S [c])) o3 o4 o5) := by
  simp only [stows_cons, stow_succ, hb.s, Option.map_some, mkS_d, Option.bind_some, stows_nil]
theorem rd_loop {t ds : List Nat} {o3 o4 o5 : Sl} : ∀ (cs : List Nat) (o2 : Sl), NB o2 → (∀ c ∈ cs, isD c = true) → ∃ o2', NB o2' ∧ forE (kName 2) rdB (cs.map fun c => S [c]) (r5 t ds o2 o3 o4 o5) = .nx (r5 t ds o2' o3 o4 o5)
  | [], o2, hb, _ => ⟨o2, hb, rfl⟩
  | c :: cs, o2, hb, h => by
    obtain ⟨o2', h1, h2⟩ := rd_loop cs (.v (S [c])) NB.v fun d m => h d (List.mem_cons_of_mem _ m)
    exact ⟨o2', h1, (forE_nx kName_ev (st2 hb) (rdB_ok (h c (List.mem_cons_self ..)))).trans h2⟩
theorem rd_loopX {t ds : List Nat} {o3 o4 o5 : Sl} : ∀ (cs : List Nat) (o2 : Sl), NB o2 → (∃ c ∈ cs, isD c = false) → ∃ en, forE (kName 2) rdB (cs.map fun c => S [c]) (r5 t ds o2 o3 o4 o5) = .ex bad en
  | [], o2, hb, h => by obtain ⟨c, m, _⟩ := h; cases m
  | c :: cs, o2, hb, h => by
    cases hc : isD c with
    | false => exact ⟨_, forE_ex kName_ev (st2 hb) (rdB_ex hc)⟩
    | true =>
      obtain ⟨en, h2⟩ := rd_loopX (t := t) (ds := ds) (o3 := o3) (o4 := o4) (o5 := o5) cs (.v (S [c])) NB.v (by
        obtain ⟨d, m, hd⟩ := h
        rcases List.mem_cons.mp m with rfl | m
        · rw [hc] at hd; cases hd
        · exact ⟨d, m, hd⟩)
      exact ⟨en, (forE_nx kName_ev (st2 hb) (rdB_ok hc)).trans h2⟩
theorem fForN_S {t ds : List Nat} {o2 o3 o4 o5 : Sl} {f : En → SR} : fForN (kName 2) 1 f (r5 t ds o2 o3 o4 o5) = forE (kName 2) f (ds.map fun c => S [c]) (r5 t ds o2 o3 o4 o5) := rfl
/-- what is none -/
theorem read_bad {t : List Nat} (h : okc t = true) (hl : t.length ≤ 200000) (hb : bad1 t ∨ ∃ c ∈ rdig t, isD c = false) : F_read_integer [S t] = .ex bad := by
  refine runP_ex rfl ?_
  show ∃ e, d_read_integer [.v (S t), .n, .n, .n, .n, .n] = _
  rw [d_read_eq]
  obtain ⟨en1, h1, h2⟩ := rd_start h hl
  refine ex_seq (en1 := en1) h1 (ex_seq h2 ?_)
  obtain ⟨b, h3, h4⟩ := rdC_ok (o2 := .n) (o3 := .n) (o4 := .n) (o5 := .n) h hl
  by_cases hb1 : bad1 t
  · rw [h4.mpr hb1] at h3
    exact ex_here (en1 := r5 t (rdig t) .n .n .n .n) (by rw [fIf_t h3]; rfl)
  · have hbf : b = false := by
      cases b with
      | false => rfl
      | true => exact absurd (h4.mp rfl) hb1
    rw [hbf] at h3
    refine ex_if_f h3 ?_
    obtain ⟨en, h5⟩ := rd_loopX (t := t) (ds := rdig t) (o3 := .n) (o4 := .n) (o5 := .n) (rdig t) .n NB.n (hb.resolve_left hb1)
    exact ex_here (en1 := en) (by rw [fForN_S]; exact h5)
/-! the value -/
theorem val_le {cs : List Nat} (h : AllDigits cs) (hl : cs.length ≤ 200000) : MulOk ((digitsVal cs : Nat) : Int) 10000000000000000000000000000000000000000000000000000000000000000 := by
  refine .inr ?_
  have h1 := val_lt h
  have h2 : (10000000000000000000000000000000000000000000000000000000000000000 : Int).natAbs.log2 < 300 := by decide +kernel
  have h3 : ((digitsVal cs : Nat) : Int).natAbs.log2 < 800001 := by
    rw [Int.natAbs_natCast]
    by_cases h0 : digitsVal cs = 0
    · rw [h0]; decide
    · rw [Nat.log2_lt h0]
      refine Nat.lt_of_lt_of_le h1 (Nat.le_trans (Nat.pow_le_pow_left (show 10 ≤ 2 ^ 4 by decide) _) ?_)
      rw [← Nat.pow_mul]
      exact Nat.pow_le_pow_right (by decide) (by omega)
  omega
theorem rdL_ok {t ds : List Nat} {o2 : Sl} {o3 : Sl} {n : Nat} {a : Nat} (h : AllDigits ds) (hl : ds.length ≤ 200000) (hn : n + 64 ≤ ds.length) (ha : a = digitsVal (ds.take n)) :
    rdL (r5 t ds o2 o3 (.v (I a)) (.v (I n))) = .nx (r5 t ds o2 o3 (.v (I (digitsVal (ds.take (n + 64)) : Nat))) (.v (I n))) := by
  unfold rdL
  have hm : ds.length ≤ most := Nat.le_trans hl (by decide)
  have hp := fSl_part (z := ds) (k := (n : Int)) (m := (n : Int) + 64) n (n + 64) rfl (by omega) hm
  rw [show n + 64 - n = 64 by omega] at hp
  have hd : AllDigits ((ds.drop n).take 64) := fun c m => h c (List.mem_of_mem_drop (List.mem_of_mem_take m))
  have hlen : ((ds.drop n).take 64).length = 64 := by rw [List.length_take, List.length_drop]; omega
  have hi := fIntS_digits hd (by intro e; rw [e] at hlen; cases hlen) (by omega)
  have ht : AllDigits (ds.take n) := fun c m => h c (List.mem_of_mem_take m)
  have hmul := val_le ht (by rw [List.length_take]; omega)
  rw [← ha] at hmul
  have hv : digitsVal (ds.take (n + 64)) = a * 10000000000000000000000000000000000000000000000000000000000000000 + digitsVal ((ds.drop n).take 64) := by
    rw [List.take_add, val_app, hlen, ← ha, ten64]
  rw [fSet_ev, lft_n (x := I (digitsVal (ds.take (n + 64)) : Nat))]
  · rw [RM.s_ok]
    simp only [stow_succ, stow_v0, Option.map_some, toS_some]
  · simp only [gPur_ev, gAndV_ev, gOrV_ev, gNotV_ev, gIsi_ev, gAnd_ev, gOr_ev, gNot_ev, gTru_ev, gT_ev, g2_ev, g1_ev, gIf_ev, gCall_ev, gFn_ev, gTup_ev, gLst_ev, gSl_ev, gCh_ev, gYes_ev, oN_ev, oS_ev, asI_ev, aCons_ev, aNil_ev, vN_ev, kI_ev, kB_ev, kS_ev, kD'_ev, at_succ, at_zero, get_v, get_w, get_b, get_n, Z.R.of_some, Z.R.bind_ok, Z.R.pur_d, fAdd_i, fSub_i, fNeg_i, fLt_i, fLe_i, fGt_i, fGe_i, fEq_i, fNe_i, fInt_i, fInt_b, fAbs_i, fMin2_i, fMax2_i, fLen_l, fLen_t, fLen_r, tst_b, tru_b, tru_i, tru_t, tru_l, tru_r, tru_n, List.length_map, wipeE_cons, wipeE_nil, List.set_cons_succ, List.set_cons_zero, setE_cons, setE_nil, mkS_d, mkS_l, mkTup_nil, mkTup_ev, mkLst_ev, allD_cons, allD_nil, allD_map, Option.map_some, Option.bind_some, if_true, Bool.false_eq_true, if_false, ite_true, ite_false, Bool.not_true, Bool.not_false, decide_true, decide_false, isInt_i, isInt_b, isInt_t, isBl_i, isBl_b, isBl_t, fTuple_ev, fList_ev, dataOf_t, dataOf_l, dataOf_r, lft_ev, Z.RM.of_ok, Z.RM.bind_ok, mCons_ev, mNil_ev, m2_ev, mOf_ev, mT_ev, mTru_ev, mNot_ev, List.cons_append, List.nil_append]
    rw [hp]
    simp only [gPur_ev, gAndV_ev, gOrV_ev, gNotV_ev, gIsi_ev, gAnd_ev, gOr_ev, gNot_ev, gTru_ev, gT_ev, g2_ev, g1_ev, gIf_ev, gCall_ev, gFn_ev, gTup_ev, gLst_ev, gSl_ev, gCh_ev, gYes_ev, oN_ev, oS_ev, asI_ev, aCons_ev, aNil_ev, vN_ev, kI_ev, kB_ev, kS_ev, kD'_ev, at_succ, at_zero, get_v, get_w, get_b, get_n, Z.R.of_some, Z.R.bind_ok, Z.R.pur_d, fAdd_i, fSub_i, fNeg_i, fLt_i, fLe_i, fGt_i, fGe_i, fEq_i, fNe_i, fInt_i, fInt_b, fAbs_i, fMin2_i, fMax2_i, fLen_l, fLen_t, fLen_r, tst_b, tru_b, tru_i, tru_t, tru_l, tru_r, tru_n, List.length_map, wipeE_cons, wipeE_nil, List.set_cons_succ, List.set_cons_zero, setE_cons, setE_nil, mkS_d, mkS_l, mkTup_nil, mkTup_ev, mkLst_ev, allD_cons, allD_nil, allD_map, Option.map_some, Option.bind_some, if_true, Bool.false_eq_true, if_false, ite_true, ite_false, Bool.not_true, Bool.not_false, decide_true, decide_false, isInt_i, isInt_b, isInt_t, isBl_i, isBl_b, isBl_t, fTuple_ev, fList_ev, dataOf_t, dataOf_l, dataOf_r, lft_ev, Z.RM.of_ok, Z.RM.bind_ok, mCons_ev, mNil_ev, m2_ev, mOf_ev, mT_ev, mTru_ev, mNot_ev, List.cons_append, List.nil_append, hi, fMul_i]
    rw [if_pos hmul, R.of_some, R.bind_ok, fAdd_i, R.of_some, hv]
    congr 3
theorem rd_num {t ds : List Nat} {o2 : Sl} (h : AllDigits ds) (h0 : ds ≠ []) (hl : ds.length ≤ 200000) (ht : okc t = true) (htl : t.length ≤ 200001) (hb : NB o2) (t0 : 0 < t.length) :
    ∃ e, rdN (r5 t ds o2 .n .n .n) = .ret (I (if t.head? = some 45 then -((digitsVal ds : Nat) : Int) else ((digitsVal ds : Nat) : Int))) e := by
  unfold rdN
  have hm : ds.length ≤ most := Nat.le_trans hl (by decide)
  have e1 := fLen_S hm
  refine ret_seq (en1 := r5 t ds o2 (.v (I (ds.length % 64 : Nat))) .n .n) ?_ ?_
  · rw [fSet_ev, lft_n (x := I (ds.length % 64 : Nat))]
    · rfl
    · simp only [gPur_ev, gAndV_ev, gOrV_ev, gNotV_ev, gIsi_ev, gAnd_ev, gOr_ev, gNot_ev, gTru_ev, gT_ev, g2_ev, g1_ev, gIf_ev, gCall_ev, gFn_ev, gTup_ev, gLst_ev, gSl_ev, gCh_ev, gYes_ev, oN_ev, oS_ev, asI_ev, aCons_ev, aNil_ev, vN_ev, kI_ev, kB_ev, kS_ev, kD'_ev, at_succ, at_zero, get_v, get_w, get_b, get_n, Z.R.of_some, Z.R.bind_ok, Z.R.pur_d, fAdd_i, fSub_i, fNeg_i, fLt_i, fLe_i, fGt_i, fGe_i, fEq_i, fNe_i, fInt_i, fInt_b, fAbs_i, fMin2_i, fMax2_i, fLen_l, fLen_t, fLen_r, tst_b, tru_b, tru_i, tru_t, tru_l, tru_r, tru_n, List.length_map, wipeE_cons, wipeE_nil, List.set_cons_succ, List.set_cons_zero, setE_cons, setE_nil, mkS_d, mkS_l, mkTup_nil, mkTup_ev, mkLst_ev, allD_cons, allD_nil, allD_map, Option.map_some, Option.bind_some, if_true, Bool.false_eq_true, if_false, ite_true, ite_false, Bool.not_true, Bool.not_false, decide_true, decide_false, isInt_i, isInt_b, isInt_t, isBl_i, isBl_b, isBl_t, fTuple_ev, fList_ev, dataOf_t, dataOf_l, dataOf_r, lft_ev, Z.RM.of_ok, Z.RM.bind_ok, mCons_ev, mNil_ev, m2_ev, mOf_ev, mT_ev, mTru_ev, mNot_ev, List.cons_append, List.nil_append, e1, fMod_i]
      rw [if_pos (by decide), R.of_some]; congr 3
  refine ret_seq (en1 := r5 t ds o2 (.v (I (ds.length % 64 : Nat))) (.v (I 0)) .n) rfl ?_
  have hr : ds.length % 64 < 64 := Nat.mod_lt _ (by decide)
  have hq : ds.length = ds.length % 64 + 64 * (ds.length / 64) := by omega
  generalize ds.length % 64 = r at hr hq
  generalize ds.length / 64 = q at hq
  refine ret_seq (en1 := r5 t ds o2 (.v (I r)) (.v (I (digitsVal (ds.take r) : Nat))) .n) ?_ ?_
  · by_cases hr0 : r = 0
    · rw [fIf_f (by simp only [gPur_ev, gAndV_ev, gOrV_ev, gNotV_ev, gIsi_ev, gAnd_ev, gOr_ev, gNot_ev, gTru_ev, gT_ev, g2_ev, g1_ev, gIf_ev, gCall_ev, gFn_ev, gTup_ev, gLst_ev, gSl_ev, gCh_ev, gYes_ev, oN_ev, oS_ev, asI_ev, aCons_ev, aNil_ev, vN_ev, kI_ev, kB_ev, kS_ev, kD'_ev, at_succ, at_zero, get_v, get_w, get_b, get_n, Z.R.of_some, Z.R.bind_ok, Z.R.pur_d, fAdd_i, fSub_i, fNeg_i, fLt_i, fLe_i, fGt_i, fGe_i, fEq_i, fNe_i, fInt_i, fInt_b, fAbs_i, fMin2_i, fMax2_i, fLen_l, fLen_t, fLen_r, tst_b, tru_b, tru_i, tru_t, tru_l, tru_r, tru_n, List.length_map, wipeE_cons, wipeE_nil, List.set_cons_succ, List.set_cons_zero, setE_cons, setE_nil, mkS_d, mkS_l, mkTup_nil, mkTup_ev, mkLst_ev, allD_cons, allD_nil, allD_map, Option.map_some, Option.bind_some, if_true, Bool.false_eq_true, if_false, ite_true, ite_false, Bool.not_true, Bool.not_false, decide_true, decide_false, isInt_i, isInt_b, isInt_t, isBl_i, isBl_b, isBl_t, fTuple_ev, fList_ev, dataOf_t, dataOf_l, dataOf_r, lft_ev, Z.RM.of_ok, Z.RM.bind_ok, mCons_ev, mNil_ev, m2_ev, mOf_ev, mT_ev, mTru_ev, mNot_ev, List.cons_append, List.nil_append]; rw [decide_eq_false (by omega)]), hr0]; rfl
    · rw [fIf_t (by simp only [gPur_ev, gAndV_ev, gOrV_ev, gNotV_ev, gIsi_ev, gAnd_ev, gOr_ev, gNot_ev, gTru_ev, gT_ev, g2_ev, g1_ev, gIf_ev, gCall_ev, gFn_ev, gTup_ev, gLst_ev, gSl_ev, gCh_ev, gYes_ev, oN_ev, oS_ev, asI_ev, aCons_ev, aNil_ev, vN_ev, kI_ev, kB_ev, kS_ev, kD'_ev, at_succ, at_zero, get_v, get_w, get_b, get_n, Z.R.of_some, Z.R.bind_ok, Z.R.pur_d, fAdd_i, fSub_i, fNeg_i, fLt_i, fLe_i, fGt_i, fGe_i, fEq_i, fNe_i, fInt_i, fInt_b, fAbs_i, fMin2_i, fMax2_i, fLen_l, fLen_t, fLen_r, tst_b, tru_b, tru_i, tru_t, tru_l, tru_r, tru_n, List.length_map, wipeE_cons, wipeE_nil, List.set_cons_succ, List.set_cons_zero, setE_cons, setE_nil, mkS_d, mkS_l, mkTup_nil, mkTup_ev, mkLst_ev, allD_cons, allD_nil, allD_map, Option.map_some, Option.bind_some, if_true, Bool.false_eq_true, if_false, ite_true, ite_false, Bool.not_true, Bool.not_false, decide_true, decide_false, isInt_i, isInt_b, isInt_t, isBl_i, isBl_b, isBl_t, fTuple_ev, fList_ev, dataOf_t, dataOf_l, dataOf_r, lft_ev, Z.RM.of_ok, Z.RM.bind_ok, mCons_ev, mNil_ev, m2_ev, mOf_ev, mT_ev, mTru_ev, mNot_ev, List.cons_append, List.nil_append]; rw [decide_eq_true (by omega)]), fSet_ev, lft_n (x := I (digitsVal (ds.take r) : Nat))]
      · rfl
      · have hp := fSl_to (z := ds) (k := (r : Int)) r rfl hm
        have hlen : (ds.take r).length = r := by rw [List.length_take]; omega
        have hi := fIntS_digits (cs := ds.take r) (fun c m => h c (List.mem_of_mem_take m)) (by intro e; rw [e] at hlen; simp at hlen; omega) (by omega)
        simp only [gPur_ev, gAndV_ev, gOrV_ev, gNotV_ev, gIsi_ev, gAnd_ev, gOr_ev, gNot_ev, gTru_ev, gT_ev, g2_ev, g1_ev, gIf_ev, gCall_ev, gFn_ev, gTup_ev, gLst_ev, gSl_ev, gCh_ev, gYes_ev, oN_ev, oS_ev, asI_ev, aCons_ev, aNil_ev, vN_ev, kI_ev, kB_ev, kS_ev, kD'_ev, at_succ, at_zero, get_v, get_w, get_b, get_n, Z.R.of_some, Z.R.bind_ok, Z.R.pur_d, fAdd_i, fSub_i, fNeg_i, fLt_i, fLe_i, fGt_i, fGe_i, fEq_i, fNe_i, fInt_i, fInt_b, fAbs_i, fMin2_i, fMax2_i, fLen_l, fLen_t, fLen_r, tst_b, tru_b, tru_i, tru_t, tru_l, tru_r, tru_n, List.length_map, wipeE_cons, wipeE_nil, List.set_cons_succ, List.set_cons_zero, setE_cons, setE_nil, mkS_d, mkS_l, mkTup_nil, mkTup_ev, mkLst_ev, allD_cons, allD_nil, allD_map, Option.map_some, Option.bind_some, if_true, Bool.false_eq_true, if_false, ite_true, ite_false, Bool.not_true, Bool.not_false, decide_true, decide_false, isInt_i, isInt_b, isInt_t, isBl_i, isBl_b, isBl_t, fTuple_ev, fList_ev, dataOf_t, dataOf_l, dataOf_r, lft_ev, Z.RM.of_ok, Z.RM.bind_ok, mCons_ev, mNil_ev, m2_ev, mOf_ev, mT_ev, mTru_ev, mNot_ev, List.cons_append, List.nil_append]
        rw [hp]
        simp only [gPur_ev, gAndV_ev, gOrV_ev, gNotV_ev, gIsi_ev, gAnd_ev, gOr_ev, gNot_ev, gTru_ev, gT_ev, g2_ev, g1_ev, gIf_ev, gCall_ev, gFn_ev, gTup_ev, gLst_ev, gSl_ev, gCh_ev, gYes_ev, oN_ev, oS_ev, asI_ev, aCons_ev, aNil_ev, vN_ev, kI_ev, kB_ev, kS_ev, kD'_ev, at_succ, at_zero, get_v, get_w, get_b, get_n, Z.R.of_some, Z.R.bind_ok, Z.R.pur_d, fAdd_i, fSub_i, fNeg_i, fLt_i, fLe_i, fGt_i, fGe_i, fEq_i, fNe_i, fInt_i, fInt_b, fAbs_i, fMin2_i, fMax2_i, fLen_l, fLen_t, fLen_r, tst_b, tru_b, tru_i, tru_t, tru_l, tru_r, tru_n, List.length_map, wipeE_cons, wipeE_nil, List.set_cons_succ, List.set_cons_zero, setE_cons, setE_nil, mkS_d, mkS_l, mkTup_nil, mkTup_ev, mkLst_ev, allD_cons, allD_nil, allD_map, Option.map_some, Option.bind_some, if_true, Bool.false_eq_true, if_false, ite_true, ite_false, Bool.not_true, Bool.not_false, decide_true, decide_false, isInt_i, isInt_b, isInt_t, isBl_i, isBl_b, isBl_t, fTuple_ev, fList_ev, dataOf_t, dataOf_l, dataOf_r, lft_ev, Z.RM.of_ok, Z.RM.bind_ok, mCons_ev, mNil_ev, m2_ev, mOf_ev, mT_ev, mTru_ev, mNot_ev, List.cons_append, List.nil_append, hi]
  obtain ⟨en', e2, hq'⟩ := for_ix (v := 5) (mi := lft (gR3 (vN 3) (gCall fLen (aCons (vN 1) aNil)) (kI 64))) (f := rdL) (fun (i : Nat) en => ∃ o5, NB o5 ∧ en = r5 t ds o2 (.v (I r)) (.v (I (digitsVal (ds.take (r + 64 * i)) : Nat))) o5) (r5 t ds o2 (.v (I r)) (.v (I (digitsVal (ds.take r) : Nat))) .n) (lft_n (gR3_of (a := r) (b := (ds.length : Int)) (c := 64) (n := q) rfl (by simp only [gPur_ev, gAndV_ev, gOrV_ev, gNotV_ev, gIsi_ev, gAnd_ev, gOr_ev, gNot_ev, gTru_ev, gT_ev, g2_ev, g1_ev, gIf_ev, gCall_ev, gFn_ev, gTup_ev, gLst_ev, gSl_ev, gCh_ev, gYes_ev, oN_ev, oS_ev, asI_ev, aCons_ev, aNil_ev, vN_ev, kI_ev, kB_ev, kS_ev, kD'_ev, at_succ, at_zero, get_v, get_w, get_b, get_n, Z.R.of_some, Z.R.bind_ok, Z.R.pur_d, fAdd_i, fSub_i, fNeg_i, fLt_i, fLe_i, fGt_i, fGe_i, fEq_i, fNe_i, fInt_i, fInt_b, fAbs_i, fMin2_i, fMax2_i, fLen_l, fLen_t, fLen_r, tst_b, tru_b, tru_i, tru_t, tru_l, tru_r, tru_n, List.length_map, wipeE_cons, wipeE_nil, List.set_cons_succ, List.set_cons_zero, setE_cons, setE_nil, mkS_d, mkS_l, mkTup_nil, mkTup_ev, mkLst_ev, allD_cons, allD_nil, allD_map, Option.map_some, Option.bind_some, if_true, Bool.false_eq_true, if_false, ite_true, ite_false, Bool.not_true, Bool.not_false, decide_true, decide_false, isInt_i, isInt_b, isInt_t, isBl_i, isBl_b, isBl_t, fTuple_ev, fList_ev, dataOf_t, dataOf_l, dataOf_r, lft_ev, Z.RM.of_ok, Z.RM.bind_ok, mCons_ev, mNil_ev, m2_ev, mOf_ev, mT_ev, mTru_ev, mNot_ev, List.cons_append, List.nil_append, e1]) rfl (by omega) (by decide) (by omega) (by omega) (by decide))) ⟨.n, NB.n, by rw [Nat.mul_zero, Nat.add_zero]⟩ (fun i hi en ⟨o5, hb5, e⟩ => by
    rw [List.length_map, List.length_range] at hi
    subst e
    rw [List.getElem_map, List.getElem_range]
    have hcast : (r : Int) + (i : Int) * ((64 : Nat) : Int) = ((r + 64 * i : Nat) : Int) := by omega
    rw [hcast]
    refine ⟨r5 t ds o2 (.v (I r)) (.v (I (digitsVal (ds.take (r + 64 * i)) : Nat))) (.v (I (r + 64 * i : Nat))), _, by simp only [stow_succ, hb5.s, Option.map_some, mkS_d], .inl (rdL_ok h hl (by omega) rfl), .v (I (r + 64 * i : Nat)), NB.v, by rw [show r + 64 * (i + 1) = r + 64 * i + 64 by omega]⟩)
  rw [List.length_map, List.length_range, ← hq, List.take_length] at hq'
  obtain ⟨o5, hb5, rfl⟩ := hq'
  refine ret_seq e2 ?_
  have ei := fIx_S (z := t) (k := 0) 0 rfl t0 (Nat.le_trans htl (by decide))
  have ec : okc [t[0]] = true := List.all_eq_true.mpr fun x m => List.all_eq_true.mp ht x (by rw [List.mem_singleton.mp m]; exact List.getElem_mem t0)
  have ee := fEq_S ec (show okc [45] = true by decide)
  have hh : t.head? = some t[0] := by
    cases t with
    | nil => exact absurd t0 (by decide)
    | cons c r => rfl
  rw [hh]
  by_cases h4 : t[0] = 45
  · rw [if_pos (by rw [h4])]
    refine ⟨r5 t ds o2 (.v (I r)) (.v (I (digitsVal ds : Nat))) o5, ?_⟩
    rw [fSeq_ev, fIf_t (by simp only [gPur_ev, gAndV_ev, gOrV_ev, gNotV_ev, gIsi_ev, gAnd_ev, gOr_ev, gNot_ev, gTru_ev, gT_ev, g2_ev, g1_ev, gIf_ev, gCall_ev, gFn_ev, gTup_ev, gLst_ev, gSl_ev, gCh_ev, gYes_ev, oN_ev, oS_ev, asI_ev, aCons_ev, aNil_ev, vN_ev, kI_ev, kB_ev, kS_ev, kD'_ev, at_succ, at_zero, get_v, get_w, get_b, get_n, Z.R.of_some, Z.R.bind_ok, Z.R.pur_d, fAdd_i, fSub_i, fNeg_i, fLt_i, fLe_i, fGt_i, fGe_i, fEq_i, fNe_i, fInt_i, fInt_b, fAbs_i, fMin2_i, fMax2_i, fLen_l, fLen_t, fLen_r, tst_b, tru_b, tru_i, tru_t, tru_l, tru_r, tru_n, List.length_map, wipeE_cons, wipeE_nil, List.set_cons_succ, List.set_cons_zero, setE_cons, setE_nil, mkS_d, mkS_l, mkTup_nil, mkTup_ev, mkLst_ev, allD_cons, allD_nil, allD_map, Option.map_some, Option.bind_some, if_true, Bool.false_eq_true, if_false, ite_true, ite_false, Bool.not_true, Bool.not_false, decide_true, decide_false, isInt_i, isInt_b, isInt_t, isBl_i, isBl_b, isBl_t, fTuple_ev, fList_ev, dataOf_t, dataOf_l, dataOf_r, lft_ev, Z.RM.of_ok, Z.RM.bind_ok, mCons_ev, mNil_ev, m2_ev, mOf_ev, mT_ev, mTru_ev, mNot_ev, List.cons_append, List.nil_append, ei, sMinus, ee]; rw [decide_eq_true (by rw [h4])])]
    rfl
  · rw [if_neg (by intro e; injection e with e; exact h4 e)]
    exact ret_if_f (by simp only [gPur_ev, gAndV_ev, gOrV_ev, gNotV_ev, gIsi_ev, gAnd_ev, gOr_ev, gNot_ev, gTru_ev, gT_ev, g2_ev, g1_ev, gIf_ev, gCall_ev, gFn_ev, gTup_ev, gLst_ev, gSl_ev, gCh_ev, gYes_ev, oN_ev, oS_ev, asI_ev, aCons_ev, aNil_ev, vN_ev, kI_ev, kB_ev, kS_ev, kD'_ev, at_succ, at_zero, get_v, get_w, get_b, get_n, Z.R.of_some, Z.R.bind_ok, Z.R.pur_d, fAdd_i, fSub_i, fNeg_i, fLt_i, fLe_i, fGt_i, fGe_i, fEq_i, fNe_i, fInt_i, fInt_b, fAbs_i, fMin2_i, fMax2_i, fLen_l, fLen_t, fLen_r, tst_b, tru_b, tru_i, tru_t, tru_l, tru_r, tru_n, List.length_map, wipeE_cons, wipeE_nil, List.set_cons_succ, List.set_cons_zero, setE_cons, setE_nil, mkS_d, mkS_l, mkTup_nil, mkTup_ev, mkLst_ev, allD_cons, allD_nil, allD_map, Option.map_some, Option.bind_some, if_true, Bool.false_eq_true, if_false, ite_true, ite_false, Bool.not_true, Bool.not_false, decide_true, decide_false, isInt_i, isInt_b, isInt_t, isBl_i, isBl_b, isBl_t, fTuple_ev, fList_ev, dataOf_t, dataOf_l, dataOf_r, lft_ev, Z.RM.of_ok, Z.RM.bind_ok, mCons_ev, mNil_ev, m2_ev, mOf_ev, mT_ev, mTru_ev, mNot_ev, List.cons_append, List.nil_append, ei, sMinus, ee]; rw [decide_eq_false (by simpa using h4)]) ⟨r5 t ds o2 (.v (I r)) (.v (I (digitsVal ds : Nat))) o5, rfl⟩
theorem okc_sI (z : Int) : okc (sI z) = true := by
  unfold sI
  split
  · exact List.all_eq_true.mpr fun c m => decide_eq_true (by
      rcases List.mem_cons.mp m with rfl | m
      · decide
      · have := dec_all _ c m; omega)
  · exact okc_digits (dec_all _)
theorem dec_h45 (n : Nat) : (dec n).head? ≠ some 45 := fun e => by
  cases ed : dec n with
  | nil => rw [ed] at e; cases e
  | cons c r =>
    rw [ed] at e
    injection e with e
    have := dec_all n c (by rw [ed]; exact List.mem_cons_self ..)
    omega
theorem take1 (t : List Nat) : t.take 1 = [45] ↔ t.head? = some 45 := by
  cases t with
  | nil => simp
  | cons c r => simp
theorem rdig_sI (z : Int) : rdig (sI z) = dec z.natAbs := by
  unfold rdig sI
  by_cases h : z < 0
  · rw [if_pos h]; rfl
  · rw [if_neg h, if_neg]
    rw [take1]; exact dec_h45 _
theorem sI_good (z : Int) : ¬ bad1 (sI z) := by
  unfold bad1
  rw [rdig_sI]
  rintro (h | ⟨h1, h2⟩)
  · exact dec_ne _ h
  · by_cases h0 : z.natAbs = 0
    · apply h2
      have : z = 0 := by omega
      subst this
      show dec 0 = _
      exact dec_small (by decide)
    · obtain ⟨c, r, e, hc⟩ := dec_head z.natAbs (by omega)
      rw [e] at h1
      injection h1 with h1
      omega
theorem read_integer_ok {z : Int} {m : Nat} (h : z.natAbs < 10 ^ m) (h1 : 1 ≤ m) (hm : m ≤ 160000) : F_read_integer [S (sI z)] = .ok (I z) := by
  have hl := dec_len h1 h
  have hls : (sI z).length ≤ 160001 := by unfold sI; split <;> (try rw [List.length_cons]) <;> omega
  refine runP_ret rfl ?_
  show ∃ e, d_read_integer [.v (S (sI z)), .n, .n, .n, .n, .n] = _
  rw [d_read_eq]
  obtain ⟨en1, h2, h3⟩ := rd_start (okc_sI z) (by omega)
  refine ret_seq (en1 := en1) h2 (ret_seq h3 ?_)
  obtain ⟨b, h4, h5⟩ := rdC_ok (o2 := .n) (o3 := .n) (o4 := .n) (o5 := .n) (okc_sI z) (by omega)
  have hbf : b = false := by
    cases b with
    | false => rfl
    | true => exact absurd (h5.mp rfl) (sI_good z)
  rw [hbf] at h4
  refine ret_if_f h4 ?_
  rw [rdig_sI]
  obtain ⟨o2', hb, h6⟩ := rd_loop (t := sI z) (ds := dec z.natAbs) (o3 := .n) (o4 := .n) (o5 := .n) (dec z.natAbs) .n NB.n (isD_all (dec_all _))
  refine ret_seq (en1 := r5 (sI z) (dec z.natAbs) o2' .n .n .n) (by rw [fForN_S]; exact h6) ?_
  obtain ⟨e, h7⟩ := rd_num (t := sI z) (o2 := o2') (dec_all z.natAbs) (dec_ne _) (by omega) (okc_sI z) (by omega) hb (by
    unfold sI; split
    · simp
    · exact List.length_pos_iff.mpr (dec_ne _))
  refine ⟨e, h7.trans ?_⟩
  rw [dec_val]
  unfold sI
  by_cases hz : z < 0
  · rw [if_pos hz, if_pos (show (45 :: dec z.natAbs).head? = some 45 from rfl), show -((z.natAbs : Nat) : Int) = z by omega]
  · rw [if_neg hz, if_neg (dec_h45 _), show ((z.natAbs : Nat) : Int) = z by omega]
end K00
namespace K00
open PySem PySem.Spec L2 Z
open PyProof.Rows hiding St
open PySem.NumText
/-! data and their texts -/
mutual
def dtx : D → List Nat
  | .int z => sI z
  | .str s => 39 :: (s.cps.toList ++ [39])
  | .tup ds => 40 :: (jn [44, 32] (dtxs ds) ++ [41])
  | _ => []
def dtxs : List D → List (List Nat)
  | [] => []
  | d :: r => dtx d :: dtxs r
end
theorem dtxs_map : ∀ ds : List D, dtxs ds = ds.map dtx
  | [] => rfl
  | d :: r => by rw [dtxs, dtxs_map r, List.map_cons]
def okS (c : Nat) : Bool := decide (32 ≤ c) && decide (c ≤ 126) && decide (c ≠ 39) && decide (c ≠ 37)
inductive GD : Nat → D → Prop
  | int {n : Nat} {z : Int} : z.natAbs < 10 ^ 200 → GD n (.int z)
  | str {n : Nat} {s : List Nat} : s.all okS = true → GD n (.str (tx s))
  | tup {n : Nat} {ds : List D} : (∀ d ∈ ds, GD n d) → GD (n + 1) (.tup ds)
theorem GD.mono {n m : Nat} {d : D} (h : GD n d) (hm : n ≤ m) : GD m d := by
  induction h generalizing m with
  | int h => exact .int h
  | str h => exact .str h
  | tup h ih =>
    obtain ⟨k, rfl⟩ : ∃ k, m = k + 1 := ⟨m - 1, by omega⟩
    exact .tup fun d hd => ih d hd (by omega)
theorem okS_lt {s : List Nat} (h : s.all okS = true) : okc s = true := List.all_eq_true.mpr fun c m => by
  have := List.all_eq_true.mp h c m
  unfold okS at this
  simp only [Bool.and_eq_true, decide_eq_true_eq] at this
  exact decide_eq_true (by omega)
theorem GD.pln {n : Nat} {d : D} (h : GD n d) : pln n d = true := by
  induction h with
  | int h => exact pln_int _ _
  | str h => exact pln_str (ok_tx (okS_lt h))
  | tup h ih => exact pln_tup ih
/-! lengths -/
theorem jn_len : ∀ (sep : List Nat) (a : List Nat) (r : List (List Nat)), (jn sep (a :: r)).length = ((a :: r).map List.length).sum + r.length * sep.length
  | sep, a, [] => by simp [jn]
  | sep, a, b :: r => by
    have ih := jn_len sep b r
    show (a ++ sep ++ jn sep (b :: r)).length = _
    rw [List.length_append, List.length_append, ih, List.map_cons (l := b :: r), List.sum_cons, List.length_cons (as := r), Nat.succ_mul]; omega
theorem dtx_tup (ds : List D) : dtx (.tup ds) = 40 :: (jn [44, 32] (ds.map dtx) ++ [41]) := by rw [dtx, dtxs_map]
theorem sum_le {xs : List Nat} {x : Nat} (h : x ∈ xs) : x ≤ xs.sum := by
  induction xs with
  | nil => cases h
  | cons a r ih =>
    rw [List.sum_cons]
    rcases List.mem_cons.mp h with rfl | h
    · omega
    · have := ih h; omega
theorem dtx_mem {ds : List D} {d : D} (h : d ∈ ds) : (dtx d).length ≤ (dtx (.tup ds)).length := by
  rw [dtx_tup, List.length_cons, List.length_append]
  cases ds with
  | nil => cases h
  | cons a r =>
    rw [List.map_cons, jn_len]
    have := sum_le (xs := ((a :: r).map dtx).map List.length) (x := (dtx d).length) (List.mem_map.mpr ⟨dtx d, List.mem_map.mpr ⟨d, h, rfl⟩, rfl⟩)
    rw [List.map_cons] at this
    omega
theorem dtx_cnt (ds : List D) : ds.length ≤ (dtx (.tup ds)).length := by
  rw [dtx_tup, List.length_cons, List.length_append]
  cases ds with
  | nil => exact Nat.zero_le _
  | cons a r =>
    rw [List.map_cons, jn_len, List.length_map, List.length_cons]
    simp only [List.length_cons, List.length_nil]
    omega
theorem dtx_sum (ds : List D) : ((ds.map dtx).map List.length).sum + (ds.map dtx).length * 2 ≤ (dtx (.tup ds)).length + 2 := by
  rw [dtx_tup, List.length_cons, List.length_append]
  cases ds with
  | nil => exact Nat.zero_le _
  | cons a r =>
    rw [List.map_cons, jn_len, List.length_map, List.length_cons, List.length_map]
    simp only [List.length_cons, List.length_nil]
    omega
theorem dtx_jn (ds : List D) : (jn [44, 32] (ds.map dtx)).length + 2 = (dtx (.tup ds)).length := by
  rw [dtx_tup, List.length_cons, List.length_append]; rfl
/-! written -/
theorem sOpen : Str.ofString "(" = tx [40] := by decide +kernel
theorem sClose : Str.ofString ")" = tx [41] := by decide +kernel
theorem sComma : Str.ofString ", " = tx [44, 32] := by decide +kernel
theorem sQuote : Str.ofString "'" = tx [39] := by decide +kernel
def dGen (L Fr : List T → R T) : En → SR :=
  (fSeq (fIf (lft (gTru (gIsi isTup (vN 0)))) (fRet (lft (g2 fAdd (g2 fAdd (kS (Str.ofString "(")) (gSm fJoin (kS (Str.ofString ", ")) (aCons (gLc [1] (gIt (vN 0)) (kName 1) gYes (gFn Fr (aCons (vN 1) aNil))) aNil))) (kS (Str.ofString ")"))))) fNil)
  (fSeq (fIf (lft (gTru (gIsi isStr (vN 0)))) (fRet (lft (g2 fAdd (g2 fAdd (kS (Str.ofString "'")) (vN 0)) (kS (Str.ofString "'"))))) fNil)
  (fRet (lft (gFn L (aCons (vN 0) aNil))))))
theorem d_write_eq : d_write_data = dGen (F_write_integer 2) := rfl
theorem d_text_eq : d__law_datum_text = dGen F__law_figures_of := rfl
theorem gen_ok {L : List T → R T} (hL : ∀ z : Int, z.natAbs < 10 ^ 200 → L [I z] = .ok (S (sI z))) {F : Nat → List T → R T} (hF : ∀ n, F (n + 1) = runP 2 1 (dGen L (F n))) : ∀ {n : Nat} {d : D}, GD n d → (dtx d).length ≤ 1000000 → F (n + 1) [.d d] = .ok (S (dtx d)) := by
  intro n d h
  induction h with
  | @int n z h =>
    intro _
    rw [hF]
    refine runP_ret rfl ?_
    show ∃ e, dGen L (F n) [.v (I z), .n] = _
    unfold dGen
    refine ret_if_f (by simp only [gPur_ev, gAndV_ev, gOrV_ev, gNotV_ev, gIsi_ev, gAnd_ev, gOr_ev, gNot_ev, gTru_ev, gT_ev, g2_ev, g1_ev, gIf_ev, gCall_ev, gFn_ev, gTup_ev, gLst_ev, gSl_ev, gCh_ev, gYes_ev, oN_ev, oS_ev, asI_ev, aCons_ev, aNil_ev, vN_ev, kI_ev, kB_ev, kS_ev, kD'_ev, at_succ, at_zero, get_v, get_w, get_b, get_n, Z.R.of_some, Z.R.bind_ok, Z.R.pur_d, fAdd_i, fSub_i, fNeg_i, fLt_i, fLe_i, fGt_i, fGe_i, fEq_i, fNe_i, fInt_i, fInt_b, fAbs_i, fMin2_i, fMax2_i, fLen_l, fLen_t, fLen_r, tst_b, tru_b, tru_i, tru_t, tru_l, tru_r, tru_n, List.length_map, wipeE_cons, wipeE_nil, List.set_cons_succ, List.set_cons_zero, setE_cons, setE_nil, mkS_d, mkS_l, mkTup_nil, mkTup_ev, mkLst_ev, allD_cons, allD_nil, allD_map, Option.map_some, Option.bind_some, if_true, Bool.false_eq_true, if_false, ite_true, ite_false, Bool.not_true, Bool.not_false, decide_true, decide_false, isInt_i, isInt_b, isInt_t, isBl_i, isBl_b, isBl_t, fTuple_ev, fList_ev, dataOf_t, dataOf_l, dataOf_r, lft_ev, Z.RM.of_ok, Z.RM.bind_ok, mCons_ev, mNil_ev, m2_ev, mOf_ev, mT_ev, mTru_ev, mNot_ev, List.cons_append, List.nil_append]; rfl) (ret_if_f (by simp only [gPur_ev, gAndV_ev, gOrV_ev, gNotV_ev, gIsi_ev, gAnd_ev, gOr_ev, gNot_ev, gTru_ev, gT_ev, g2_ev, g1_ev, gIf_ev, gCall_ev, gFn_ev, gTup_ev, gLst_ev, gSl_ev, gCh_ev, gYes_ev, oN_ev, oS_ev, asI_ev, aCons_ev, aNil_ev, vN_ev, kI_ev, kB_ev, kS_ev, kD'_ev, at_succ, at_zero, get_v, get_w, get_b, get_n, Z.R.of_some, Z.R.bind_ok, Z.R.pur_d, fAdd_i, fSub_i, fNeg_i, fLt_i, fLe_i, fGt_i, fGe_i, fEq_i, fNe_i, fInt_i, fInt_b, fAbs_i, fMin2_i, fMax2_i, fLen_l, fLen_t, fLen_r, tst_b, tru_b, tru_i, tru_t, tru_l, tru_r, tru_n, List.length_map, wipeE_cons, wipeE_nil, List.set_cons_succ, List.set_cons_zero, setE_cons, setE_nil, mkS_d, mkS_l, mkTup_nil, mkTup_ev, mkLst_ev, allD_cons, allD_nil, allD_map, Option.map_some, Option.bind_some, if_true, Bool.false_eq_true, if_false, ite_true, ite_false, Bool.not_true, Bool.not_false, decide_true, decide_false, isInt_i, isInt_b, isInt_t, isBl_i, isBl_b, isBl_t, fTuple_ev, fList_ev, dataOf_t, dataOf_l, dataOf_r, lft_ev, Z.RM.of_ok, Z.RM.bind_ok, mCons_ev, mNil_ev, m2_ev, mOf_ev, mT_ev, mTru_ev, mNot_ev, List.cons_append, List.nil_append]; rfl) (ret_lft ?_))
    simp only [gPur_ev, gAndV_ev, gOrV_ev, gNotV_ev, gIsi_ev, gAnd_ev, gOr_ev, gNot_ev, gTru_ev, gT_ev, g2_ev, g1_ev, gIf_ev, gCall_ev, gFn_ev, gTup_ev, gLst_ev, gSl_ev, gCh_ev, gYes_ev, oN_ev, oS_ev, asI_ev, aCons_ev, aNil_ev, vN_ev, kI_ev, kB_ev, kS_ev, kD'_ev, at_succ, at_zero, get_v, get_w, get_b, get_n, Z.R.of_some, Z.R.bind_ok, Z.R.pur_d, fAdd_i, fSub_i, fNeg_i, fLt_i, fLe_i, fGt_i, fGe_i, fEq_i, fNe_i, fInt_i, fInt_b, fAbs_i, fMin2_i, fMax2_i, fLen_l, fLen_t, fLen_r, tst_b, tru_b, tru_i, tru_t, tru_l, tru_r, tru_n, List.length_map, wipeE_cons, wipeE_nil, List.set_cons_succ, List.set_cons_zero, setE_cons, setE_nil, mkS_d, mkS_l, mkTup_nil, mkTup_ev, mkLst_ev, allD_cons, allD_nil, allD_map, Option.map_some, Option.bind_some, if_true, Bool.false_eq_true, if_false, ite_true, ite_false, Bool.not_true, Bool.not_false, decide_true, decide_false, isInt_i, isInt_b, isInt_t, isBl_i, isBl_b, isBl_t, fTuple_ev, fList_ev, dataOf_t, dataOf_l, dataOf_r, lft_ev, Z.RM.of_ok, Z.RM.bind_ok, mCons_ev, mNil_ev, m2_ev, mOf_ev, mT_ev, mTru_ev, mNot_ev, List.cons_append, List.nil_append, hL z h]
    rw [dtx]
  | @str n s h =>
    intro hl
    rw [dtx, List.length_cons, List.length_append, List.length_singleton, List.toList_toArray] at hl
    rw [hF]
    refine runP_ret rfl ?_
    show ∃ e, dGen L (F n) [.v (S s), .n] = _
    unfold dGen
    refine ret_if_f (by simp only [gPur_ev, gAndV_ev, gOrV_ev, gNotV_ev, gIsi_ev, gAnd_ev, gOr_ev, gNot_ev, gTru_ev, gT_ev, g2_ev, g1_ev, gIf_ev, gCall_ev, gFn_ev, gTup_ev, gLst_ev, gSl_ev, gCh_ev, gYes_ev, oN_ev, oS_ev, asI_ev, aCons_ev, aNil_ev, vN_ev, kI_ev, kB_ev, kS_ev, kD'_ev, at_succ, at_zero, get_v, get_w, get_b, get_n, Z.R.of_some, Z.R.bind_ok, Z.R.pur_d, fAdd_i, fSub_i, fNeg_i, fLt_i, fLe_i, fGt_i, fGe_i, fEq_i, fNe_i, fInt_i, fInt_b, fAbs_i, fMin2_i, fMax2_i, fLen_l, fLen_t, fLen_r, tst_b, tru_b, tru_i, tru_t, tru_l, tru_r, tru_n, List.length_map, wipeE_cons, wipeE_nil, List.set_cons_succ, List.set_cons_zero, setE_cons, setE_nil, mkS_d, mkS_l, mkTup_nil, mkTup_ev, mkLst_ev, allD_cons, allD_nil, allD_map, Option.map_some, Option.bind_some, if_true, Bool.false_eq_true, if_false, ite_true, ite_false, Bool.not_true, Bool.not_false, decide_true, decide_false, isInt_i, isInt_b, isInt_t, isBl_i, isBl_b, isBl_t, fTuple_ev, fList_ev, dataOf_t, dataOf_l, dataOf_r, lft_ev, Z.RM.of_ok, Z.RM.bind_ok, mCons_ev, mNil_ev, m2_ev, mOf_ev, mT_ev, mTru_ev, mNot_ev, List.cons_append, List.nil_append]; rfl) ?_
    refine ⟨[.v (S s), .n], ?_⟩
    rw [fSeq_ev, fIf_t (by simp only [gPur_ev, gAndV_ev, gOrV_ev, gNotV_ev, gIsi_ev, gAnd_ev, gOr_ev, gNot_ev, gTru_ev, gT_ev, g2_ev, g1_ev, gIf_ev, gCall_ev, gFn_ev, gTup_ev, gLst_ev, gSl_ev, gCh_ev, gYes_ev, oN_ev, oS_ev, asI_ev, aCons_ev, aNil_ev, vN_ev, kI_ev, kB_ev, kS_ev, kD'_ev, at_succ, at_zero, get_v, get_w, get_b, get_n, Z.R.of_some, Z.R.bind_ok, Z.R.pur_d, fAdd_i, fSub_i, fNeg_i, fLt_i, fLe_i, fGt_i, fGe_i, fEq_i, fNe_i, fInt_i, fInt_b, fAbs_i, fMin2_i, fMax2_i, fLen_l, fLen_t, fLen_r, tst_b, tru_b, tru_i, tru_t, tru_l, tru_r, tru_n, List.length_map, wipeE_cons, wipeE_nil, List.set_cons_succ, List.set_cons_zero, setE_cons, setE_nil, mkS_d, mkS_l, mkTup_nil, mkTup_ev, mkLst_ev, allD_cons, allD_nil, allD_map, Option.map_some, Option.bind_some, if_true, Bool.false_eq_true, if_false, ite_true, ite_false, Bool.not_true, Bool.not_false, decide_true, decide_false, isInt_i, isInt_b, isInt_t, isBl_i, isBl_b, isBl_t, fTuple_ev, fList_ev, dataOf_t, dataOf_l, dataOf_r, lft_ev, Z.RM.of_ok, Z.RM.bind_ok, mCons_ev, mNil_ev, m2_ev, mOf_ev, mT_ev, mTru_ev, mNot_ev, List.cons_append, List.nil_append]; rfl), fRet_ev, lft_n (x := S (dtx (.str (tx s))))]
    · rfl
    · simp only [gPur_ev, gAndV_ev, gOrV_ev, gNotV_ev, gIsi_ev, gAnd_ev, gOr_ev, gNot_ev, gTru_ev, gT_ev, g2_ev, g1_ev, gIf_ev, gCall_ev, gFn_ev, gTup_ev, gLst_ev, gSl_ev, gCh_ev, gYes_ev, oN_ev, oS_ev, asI_ev, aCons_ev, aNil_ev, vN_ev, kI_ev, kB_ev, kS_ev, kD'_ev, at_succ, at_zero, get_v, get_w, get_b, get_n, Z.R.of_some, Z.R.bind_ok, Z.R.pur_d, fAdd_i, fSub_i, fNeg_i, fLt_i, fLe_i, fGt_i, fGe_i, fEq_i, fNe_i, fInt_i, fInt_b, fAbs_i, fMin2_i, fMax2_i, fLen_l, fLen_t, fLen_r, tst_b, tru_b, tru_i, tru_t, tru_l, tru_r, tru_n, List.length_map, wipeE_cons, wipeE_nil, List.set_cons_succ, List.set_cons_zero, setE_cons, setE_nil, mkS_d, mkS_l, mkTup_nil, mkTup_ev, mkLst_ev, allD_cons, allD_nil, allD_map, Option.map_some, Option.bind_some, if_true, Bool.false_eq_true, if_false, ite_true, ite_false, Bool.not_true, Bool.not_false, decide_true, decide_false, isInt_i, isInt_b, isInt_t, isBl_i, isBl_b, isBl_t, fTuple_ev, fList_ev, dataOf_t, dataOf_l, dataOf_r, lft_ev, Z.RM.of_ok, Z.RM.bind_ok, mCons_ev, mNil_ev, m2_ev, mOf_ev, mT_ev, mTru_ev, mNot_ev, List.cons_append, List.nil_append, sQuote]
      rw [fAdd_S (by rw [List.length_singleton]; show _ ≤ 16777216; omega)]
      simp only [gPur_ev, gAndV_ev, gOrV_ev, gNotV_ev, gIsi_ev, gAnd_ev, gOr_ev, gNot_ev, gTru_ev, gT_ev, g2_ev, g1_ev, gIf_ev, gCall_ev, gFn_ev, gTup_ev, gLst_ev, gSl_ev, gCh_ev, gYes_ev, oN_ev, oS_ev, asI_ev, aCons_ev, aNil_ev, vN_ev, kI_ev, kB_ev, kS_ev, kD'_ev, at_succ, at_zero, get_v, get_w, get_b, get_n, Z.R.of_some, Z.R.bind_ok, Z.R.pur_d, fAdd_i, fSub_i, fNeg_i, fLt_i, fLe_i, fGt_i, fGe_i, fEq_i, fNe_i, fInt_i, fInt_b, fAbs_i, fMin2_i, fMax2_i, fLen_l, fLen_t, fLen_r, tst_b, tru_b, tru_i, tru_t, tru_l, tru_r, tru_n, List.length_map, wipeE_cons, wipeE_nil, List.set_cons_succ, List.set_cons_zero, setE_cons, setE_nil, mkS_d, mkS_l, mkTup_nil, mkTup_ev, mkLst_ev, allD_cons, allD_nil, allD_map, Option.map_some, Option.bind_some, if_true, Bool.false_eq_true, if_false, ite_true, ite_false, Bool.not_true, Bool.not_false, decide_true, decide_false, isInt_i, isInt_b, isInt_t, isBl_i, isBl_b, isBl_t, fTuple_ev, fList_ev, dataOf_t, dataOf_l, dataOf_r, lft_ev, Z.RM.of_ok, Z.RM.bind_ok, mCons_ev, mNil_ev, m2_ev, mOf_ev, mT_ev, mTru_ev, mNot_ev, List.cons_append, List.nil_append]
      rw [fAdd_S (by simp only [List.cons_append, List.nil_append, List.length_cons, List.length_nil]; show _ ≤ 16777216; omega), R.of_some, dtx, List.toList_toArray]
      rfl
  | @tup n ds h ih =>
    intro hl
    have h1 := dtx_cnt ds
    have h2 := dtx_sum ds
    have h3 := dtx_jn ds
    rw [hF]
    refine runP_ret rfl ?_
    show ∃ e, dGen L (F (n + 1)) [.v (.d (.tup ds)), .n] = _
    unfold dGen
    refine ⟨[.v (.d (.tup ds)), .n], ?_⟩
    rw [fSeq_ev, fIf_t (by simp only [gPur_ev, gAndV_ev, gOrV_ev, gNotV_ev, gIsi_ev, gAnd_ev, gOr_ev, gNot_ev, gTru_ev, gT_ev, g2_ev, g1_ev, gIf_ev, gCall_ev, gFn_ev, gTup_ev, gLst_ev, gSl_ev, gCh_ev, gYes_ev, oN_ev, oS_ev, asI_ev, aCons_ev, aNil_ev, vN_ev, kI_ev, kB_ev, kS_ev, kD'_ev, at_succ, at_zero, get_v, get_w, get_b, get_n, Z.R.of_some, Z.R.bind_ok, Z.R.pur_d, fAdd_i, fSub_i, fNeg_i, fLt_i, fLe_i, fGt_i, fGe_i, fEq_i, fNe_i, fInt_i, fInt_b, fAbs_i, fMin2_i, fMax2_i, fLen_l, fLen_t, fLen_r, tst_b, tru_b, tru_i, tru_t, tru_l, tru_r, tru_n, List.length_map, wipeE_cons, wipeE_nil, List.set_cons_succ, List.set_cons_zero, setE_cons, setE_nil, mkS_d, mkS_l, mkTup_nil, mkTup_ev, mkLst_ev, allD_cons, allD_nil, allD_map, Option.map_some, Option.bind_some, if_true, Bool.false_eq_true, if_false, ite_true, ite_false, Bool.not_true, Bool.not_false, decide_true, decide_false, isInt_i, isInt_b, isInt_t, isBl_i, isBl_b, isBl_t, fTuple_ev, fList_ev, dataOf_t, dataOf_l, dataOf_r, lft_ev, Z.RM.of_ok, Z.RM.bind_ok, mCons_ev, mNil_ev, m2_ev, mOf_ev, mT_ev, mTru_ev, mNot_ev, List.cons_append, List.nil_append]; rfl), fRet_ev, lft_n (x := S (dtx (.tup ds)))]
    · rfl
    · have el := gLc_all (vs := [1]) (gs := gIt (vN 0)) (k := kName 1) (te := gFn (F (n + 1)) (aCons (vN 1) aNil)) (en := [.v (.d (.tup ds)), .n]) ds T.d (fun d => D.str (tx (dtx d))) rfl (by omega) (fun d hd => ⟨[(1, .d d)], rfl, by
        simp only [gPur_ev, gAndV_ev, gOrV_ev, gNotV_ev, gIsi_ev, gAnd_ev, gOr_ev, gNot_ev, gTru_ev, gT_ev, g2_ev, g1_ev, gIf_ev, gCall_ev, gFn_ev, gTup_ev, gLst_ev, gSl_ev, gCh_ev, gYes_ev, oN_ev, oS_ev, asI_ev, aCons_ev, aNil_ev, vN_ev, kI_ev, kB_ev, kS_ev, kD'_ev, at_succ, at_zero, get_v, get_w, get_b, get_n, Z.R.of_some, Z.R.bind_ok, Z.R.pur_d, fAdd_i, fSub_i, fNeg_i, fLt_i, fLe_i, fGt_i, fGe_i, fEq_i, fNe_i, fInt_i, fInt_b, fAbs_i, fMin2_i, fMax2_i, fLen_l, fLen_t, fLen_r, tst_b, tru_b, tru_i, tru_t, tru_l, tru_r, tru_n, List.length_map, wipeE_cons, wipeE_nil, List.set_cons_succ, List.set_cons_zero, setE_cons, setE_nil, mkS_d, mkS_l, mkTup_nil, mkTup_ev, mkLst_ev, allD_cons, allD_nil, allD_map, Option.map_some, Option.bind_some, if_true, Bool.false_eq_true, if_false, ite_true, ite_false, Bool.not_true, Bool.not_false, decide_true, decide_false, isInt_i, isInt_b, isInt_t, isBl_i, isBl_b, isBl_t, fTuple_ev, fList_ev, dataOf_t, dataOf_l, dataOf_r, lft_ev, Z.RM.of_ok, Z.RM.bind_ok, mCons_ev, mNil_ev, m2_ev, mOf_ev, mT_ev, mTru_ev, mNot_ev, List.cons_append, List.nil_append]
        exact ih d hd (Nat.le_trans (dtx_mem hd) hl)⟩)
      have ej := fJoin_of (sep := [44, 32]) (x := .l ((ds.map fun d => D.str (tx (dtx d))).map T.d)) (ds.map dtx) (by rw [dataOf_l, allD_map, List.map_map]; rfl) (by
        simp only [List.length_cons, List.length_nil]
        show _ ≤ 16777216; omega)
      have es : gSm fJoin (kS (Str.ofString ", ")) (aCons (gLc [1] (gIt (vN 0)) (kName 1) gYes (gFn (F (n + 1)) (aCons (vN 1) aNil))) aNil) [.v (.d (.tup ds)), .n] = .ok (S (jn [44, 32] (ds.map dtx))) := by
        unfold gSm
        rw [sComma, aCons_ev, el]
        show R.of (fJoin (tx [44, 32]) [_]) = _
        rw [ej, R.of_some]
      rw [g2_ev, g2_ev, es]
      simp only [gPur_ev, gAndV_ev, gOrV_ev, gNotV_ev, gIsi_ev, gAnd_ev, gOr_ev, gNot_ev, gTru_ev, gT_ev, g2_ev, g1_ev, gIf_ev, gCall_ev, gFn_ev, gTup_ev, gLst_ev, gSl_ev, gCh_ev, gYes_ev, oN_ev, oS_ev, asI_ev, aCons_ev, aNil_ev, vN_ev, kI_ev, kB_ev, kS_ev, kD'_ev, at_succ, at_zero, get_v, get_w, get_b, get_n, Z.R.of_some, Z.R.bind_ok, Z.R.pur_d, fAdd_i, fSub_i, fNeg_i, fLt_i, fLe_i, fGt_i, fGe_i, fEq_i, fNe_i, fInt_i, fInt_b, fAbs_i, fMin2_i, fMax2_i, fLen_l, fLen_t, fLen_r, tst_b, tru_b, tru_i, tru_t, tru_l, tru_r, tru_n, List.length_map, wipeE_cons, wipeE_nil, List.set_cons_succ, List.set_cons_zero, setE_cons, setE_nil, mkS_d, mkS_l, mkTup_nil, mkTup_ev, mkLst_ev, allD_cons, allD_nil, allD_map, Option.map_some, Option.bind_some, if_true, Bool.false_eq_true, if_false, ite_true, ite_false, Bool.not_true, Bool.not_false, decide_true, decide_false, isInt_i, isInt_b, isInt_t, isBl_i, isBl_b, isBl_t, fTuple_ev, fList_ev, dataOf_t, dataOf_l, dataOf_r, lft_ev, Z.RM.of_ok, Z.RM.bind_ok, mCons_ev, mNil_ev, m2_ev, mOf_ev, mT_ev, mTru_ev, mNot_ev, List.cons_append, List.nil_append, sOpen, sClose]
      rw [fAdd_S (by rw [List.length_singleton]; show _ ≤ 16777216; omega)]
      simp only [gPur_ev, gAndV_ev, gOrV_ev, gNotV_ev, gIsi_ev, gAnd_ev, gOr_ev, gNot_ev, gTru_ev, gT_ev, g2_ev, g1_ev, gIf_ev, gCall_ev, gFn_ev, gTup_ev, gLst_ev, gSl_ev, gCh_ev, gYes_ev, oN_ev, oS_ev, asI_ev, aCons_ev, aNil_ev, vN_ev, kI_ev, kB_ev, kS_ev, kD'_ev, at_succ, at_zero, get_v, get_w, get_b, get_n, Z.R.of_some, Z.R.bind_ok, Z.R.pur_d, fAdd_i, fSub_i, fNeg_i, fLt_i, fLe_i, fGt_i, fGe_i, fEq_i, fNe_i, fInt_i, fInt_b, fAbs_i, fMin2_i, fMax2_i, fLen_l, fLen_t, fLen_r, tst_b, tru_b, tru_i, tru_t, tru_l, tru_r, tru_n, List.length_map, wipeE_cons, wipeE_nil, List.set_cons_succ, List.set_cons_zero, setE_cons, setE_nil, mkS_d, mkS_l, mkTup_nil, mkTup_ev, mkLst_ev, allD_cons, allD_nil, allD_map, Option.map_some, Option.bind_some, if_true, Bool.false_eq_true, if_false, ite_true, ite_false, Bool.not_true, Bool.not_false, decide_true, decide_false, isInt_i, isInt_b, isInt_t, isBl_i, isBl_b, isBl_t, fTuple_ev, fList_ev, dataOf_t, dataOf_l, dataOf_r, lft_ev, Z.RM.of_ok, Z.RM.bind_ok, mCons_ev, mNil_ev, m2_ev, mOf_ev, mT_ev, mTru_ev, mNot_ev, List.cons_append, List.nil_append]
      rw [fAdd_S (by simp only [List.cons_append, List.nil_append, List.length_cons, List.length_nil]; show _ ≤ 16777216; omega), R.of_some, dtx_tup]
      rfl
theorem write_data_ok {n : Nat} {d : D} (h : GD n d) (hl : (dtx d).length ≤ 1000000) : F_write_data (n + 1) [.d d] = .ok (S (dtx d)) :=
  gen_ok (F := F_write_data) (fun z hz => write_integer_ok hz (by decide) (by decide)) (fun n => rfl) h hl
theorem datum_text_ok {n : Nat} {d : D} (h : GD n d) (hl : (dtx d).length ≤ 1000000) : F__law_datum_text (n + 1) [.d d] = .ok (S (dtx d)) :=
  gen_ok (F := F__law_datum_text) (fun z hz => figures_ok hz (by decide) (by decide)) (fun n => rfl) h hl
/-! the same -/
theorem same_eq : ∀ n, F__law_same n = F_same n
  | 0 => rfl
  | n + 1 => by
    show runP 3 2 (d__law_same (F__law_same n)) = runP 3 2 (d_same (F_same n))
    rw [same_eq n]; rfl
theorem GD.sz {n : Nat} {d : D} (h : GD n d) : (dtx d).length ≤ 900000 → sz d = true := by
  induction h with
  | int h => intro _; exact sz_int _
  | str h => intro _; exact sz_str _
  | @tup n ds h ih =>
    intro hl
    have h1 := dtx_cnt ds
    exact sz_tup (by omega) fun d hd => ih d hd (Nat.le_trans (dtx_mem hd) hl)
theorem same_self {n : Nat} {d : D} (h : GD n d) (hl : (dtx d).length ≤ 900000) (hn : n ≤ 45) : F__law_same 46 [.d d, .d d] = .ok (.d (.bl true)) := by
  have h' := h.mono hn
  rw [same_eq, same_ok 45 45 h'.pln h'.pln (by decide) (by decide) (h'.sz hl), deq_self h'.pln]
theorem same_S {s : List Nat} (h : okc s = true) : F__law_same 46 [S s, S s] = .ok (.d (.bl true)) := by
  have hp : pln 45 (.str (tx s)) = true := pln_str (ok_tx h)
  rw [same_eq, same_ok 45 45 hp hp (by decide) (by decide) (by first | exact sz_str _ | exact sz_int _), deq_self hp]
theorem same_I (z : Int) : F__law_same 46 [I z, I z] = .ok (.d (.bl true)) := by
  have hp : pln 45 (.int z) = true := pln_int _ _
  rw [same_eq, same_ok 45 45 hp hp (by decide) (by decide) (by first | exact sz_str _ | exact sz_int _), deq_self hp]
end K00
namespace K00
open PySem PySem.Spec L2 Z
open PyProof.Rows hiding St
open PySem.NumText
/-! read_plain -/
theorem sSigns : Str.ofString "-0123456789" = tx [45, 48, 49, 50, 51, 52, 53, 54, 55, 56, 57] := by decide +kernel
theorem sSpace : Str.ofString " " = tx [32] := by decide +kernel
theorem sTilde : Str.ofString "~" = tx [126] := by decide +kernel
def isG (c : Nat) : Bool := decide (c = 45) || isD c
theorem mem_signs (c : Nat) : decide (c ∈ [45, 48, 49, 50, 51, 52, 53, 54, 55, 56, 57]) = isG c := by
  unfold isG isD
  rw [Bool.eq_iff_iff]
  simp only [decide_eq_true_eq, Bool.and_eq_true, Bool.or_eq_true, List.mem_cons, List.not_mem_nil, or_false]
  omega
/-! plain_text -/
def plB : En → SR := (fIf (lft (gOr (gT (g2 fLt (vN 1) (kS (Str.ofString " ")))) (gOr (gT (g2 fGtS (vN 1) (kS (Str.ofString "~")))) (gOr (gT (g2 fEq (vN 1) (kS (Str.ofString "'")))) (gT (g2 fEq (gCall fOrd (aCons (vN 1) aNil)) (kI 37))))))) (fRet (lft (kB false))) fNil)
theorem plB_ok {s : List Nat} {c : Nat} (h : okS c = true) : plB [.v (S s), .v (S [c])] = .nx [.v (S s), .v (S [c])] := by
  unfold okS at h
  simp only [Bool.and_eq_true, decide_eq_true_eq] at h
  have e := fEq_S (a := [c]) (b := [39]) (List.all_eq_true.mpr fun x m => decide_eq_true (by rw [List.mem_singleton.mp m]; omega)) (by decide)
  unfold plB
  rw [fIf_f (by
    simp only [gPur_ev, gAndV_ev, gOrV_ev, gNotV_ev, gIsi_ev, gAnd_ev, gOr_ev, gNot_ev, gTru_ev, gT_ev, g2_ev, g1_ev, gIf_ev, gCall_ev, gFn_ev, gTup_ev, gLst_ev, gSl_ev, gCh_ev, gYes_ev, oN_ev, oS_ev, asI_ev, aCons_ev, aNil_ev, vN_ev, kI_ev, kB_ev, kS_ev, kD'_ev, at_succ, at_zero, get_v, get_w, get_b, get_n, Z.R.of_some, Z.R.bind_ok, Z.R.pur_d, fAdd_i, fSub_i, fNeg_i, fLt_i, fLe_i, fGt_i, fGe_i, fEq_i, fNe_i, fInt_i, fInt_b, fAbs_i, fMin2_i, fMax2_i, fLen_l, fLen_t, fLen_r, tst_b, tru_b, tru_i, tru_t, tru_l, tru_r, tru_n, List.length_map, wipeE_cons, wipeE_nil, List.set_cons_succ, List.set_cons_zero, setE_cons, setE_nil, mkS_d, mkS_l, mkTup_nil, mkTup_ev, mkLst_ev, allD_cons, allD_nil, allD_map, Option.map_some, Option.bind_some, if_true, Bool.false_eq_true, if_false, ite_true, ite_false, Bool.not_true, Bool.not_false, decide_true, decide_false, isInt_i, isInt_b, isInt_t, isBl_i, isBl_b, isBl_t, fTuple_ev, fList_ev, dataOf_t, dataOf_l, dataOf_r, lft_ev, Z.RM.of_ok, Z.RM.bind_ok, mCons_ev, mNil_ev, m2_ev, mOf_ev, mT_ev, mTru_ev, mNot_ev, List.cons_append, List.nil_append, sSpace, sTilde, sQuote, fLt_S, fGtS_S, fOrd_S, e]
    rw [decide_eq_false (show ¬ c < 32 by omega), decide_eq_false (show ¬ 126 < c by omega), decide_eq_false (show ¬ [c] = [39] by simp; omega), decide_eq_false (show ¬ (c : Int) = 37 by omega)]
    rfl)]
  rfl
theorem plL {s : List Nat} : ∀ (cs : List Nat) (o : Sl), NB o → cs.all okS = true → ∃ o', forE (kName 1) plB (cs.map fun c => S [c]) [.v (S s), o] = .nx [.v (S s), o']
  | [], o, _, _ => ⟨o, rfl⟩
  | c :: cs, o, hb, h => by
    rw [List.all_cons, Bool.and_eq_true] at h
    obtain ⟨o', h2⟩ := plL cs (.v (S [c])) NB.v h.2
    exact ⟨o', (forE_nx (en1 := [.v (S s), .v (S [c])]) kName_ev (by simp only [stows_cons, stow_succ, hb.s, Option.map_some, mkS_d, Option.bind_some, stows_nil]) (plB_ok h.1)).trans h2⟩
theorem plain_ok {s : List Nat} (h : s.all okS = true) : F_plain_text [S s] = .ok (.d (.bl true)) := by
  refine runP_ret rfl ?_
  show ∃ e, d_plain_text [.v (S s), .n] = _
  obtain ⟨o', h2⟩ := plL (s := s) s .n NB.n h
  exact ret_seq (en1 := [.v (S s), o']) (show fForN (kName 1) 0 plB [.v (S s), .n] = _ from h2) ⟨_, rfl⟩
theorem le2 {a b : D} : [a, b].length ≤ most := by show 2 ≤ 16777216; decide
/-! a text within quotes -/
def rpS : En → SR := (fSeq (fSet 2 (lft (gSm fFind (vN 0) (aCons (kS (Str.ofString "'")) (aCons (g2 fAdd (vN 1) (kI 1)) aNil)))))
  (fSeq (fIf (lft (gOr (gT (g2 fLt (vN 2) (kI 0))) (gNot (gTru (gFn F_plain_text (aCons (gSl (vN 0) (oS (g2 fAdd (vN 1) (kI 1))) (oS (vN 2))) aNil)))))) (fRaise (Str.ofString "BadText")) fNil)
  (fRet (lft (gTup (aCons (gSl (vN 0) (oS (g2 fAdd (vN 1) (kI 1))) (oS (vN 2))) (aCons (g2 fAdd (vN 2) (kI 1)) aNil)))))))
def rpC : En → R Bool := gAnd (gT (g2 fLt (vN 2) (gCall fLen (aCons (vN 0) aNil)))) (gT (g2 fIn (g2 fIx (vN 0) (vN 2)) (kS (Str.ofString "-0123456789"))))
def rpI : En → SR := (fSeq (fSet 2 (mName 1))
  (fSeq (fWh mu_read_plain_0 (lft rpC) (fAug 2 fAddA (lft (kI 1))))
  (fRet (lft (gTup (aCons (gFn F_read_integer (aCons (gSl (vN 0) (oS (vN 1)) (oS (vN 2))) aNil)) (aCons (vN 2) aNil)))))))
theorem d_plain_eq : d_read_plain = fSeq (fIf (lft (gT (g2 fEq (g2 fIx (vN 0) (vN 1)) (kS (Str.ofString "'"))))) rpS fNil) rpI := rfl
theorem get_at {z pre w post : List Nat} (hz : z = pre ++ (w ++ post)) {k : Nat} (hk : k < w.length) : z[pre.length + k]? = some w[k] := by
  rw [hz, List.getElem?_append_right (by omega), Nat.add_sub_cancel_left, List.getElem?_append_left hk, List.getElem?_eq_getElem hk]
theorem get_after {z pre w post : List Nat} (hz : z = pre ++ (w ++ post)) : z[pre.length + w.length]? = post[0]? := by
  rw [hz, List.getElem?_append_right (by omega), Nat.add_sub_cancel_left, List.getElem?_append_right (by omega), Nat.sub_self]
theorem part_at {z pre w post : List Nat} (hz : z = pre ++ (w ++ post)) : (z.drop pre.length).take w.length = w := by
  rw [hz, List.drop_left, List.take_left]
theorem okc_mem {z : List Nat} (h : okc z = true) {i : Nat} {c : Nat} (hc : z[i]? = some c) : okc [c] = true := List.all_eq_true.mpr fun x m => by
  rw [List.mem_singleton.mp m]
  obtain ⟨h1, h2⟩ := List.getElem?_eq_some_iff.mp hc
  exact List.all_eq_true.mp h c (h2 ▸ List.getElem_mem h1)
theorem fIx_at {z : List Nat} {k : Int} (i : Nat) {c : Nat} (hk : k = (i : Int)) (hm : z.length ≤ most) (hc : z[i]? = some c) : fIx (S z) (.d (.int k)) = some (S [c]) := by
  obtain ⟨h1, h2⟩ := List.getElem?_eq_some_iff.mp hc
  rw [fIx_S i hk h1 hm, h2]
theorem plain_str {z pre s post : List Nat} (hz : z = pre ++ ((39 :: (s ++ [39])) ++ post)) (hk : okc z = true) (hl : z.length ≤ 1000000) (h : s.all okS = true) :
    F_read_plain [S z, I pre.length] = .ok (.d (.tup [.str (tx s), .int (pre.length + (s.length + 2) : Nat)])) := by
  refine runP_ret rfl ?_
  show ∃ e, d_read_plain [.v (S z), .v (I pre.length), .n] = _
  rw [d_plain_eq]
  have hm : z.length ≤ most := Nat.le_trans hl (by decide)
  have g0 : z[pre.length]? = some 39 := by
    have := get_at hz (k := 0) (by simp)
    rw [Nat.add_zero] at this
    simpa using this
  have i0 := fIx_at (k := (pre.length : Int)) pre.length rfl hm g0
  have e0 := fEq_S (a := [39]) (b := [39]) (by decide) (by decide)
  have hz2 : z = (pre ++ [39]) ++ (s ++ (39 :: post)) := by rw [hz]; simp
  have hp2 : (pre ++ [39]).length = pre.length + 1 := by simp
  have g1 : z[pre.length + 1 + s.length]? = some 39 := by
    have := get_after hz2
    rw [hp2] at this
    rw [this]; rfl
  have f1 := fFind_S (z := z) (c := 39) (k := (pre.length : Int) + 1) (pre.length + 1) (pre.length + 1 + s.length) (by omega) (by omega) g1 (fun v hv1 hv2 e => by
    have := get_at hz2 (k := v - (pre.length + 1)) (by omega)
    rw [hp2, show pre.length + 1 + (v - (pre.length + 1)) = v by omega, e] at this
    injection this with this
    have hs := List.all_eq_true.mp h _ (List.getElem_mem (show v - (pre.length + 1) < s.length by omega))
    rw [← this] at hs
    cases hs)
  have s1 := fSl_part (z := z) (k := (pre.length : Int) + 1) (m := ((pre.length + 1 + s.length : Nat) : Int)) (pre.length + 1) (pre.length + 1 + s.length) (by omega) rfl hm
  have p2 := part_at hz2
  rw [hp2] at p2
  rw [show pre.length + 1 + s.length - (pre.length + 1) = s.length by omega, p2] at s1
  refine ⟨[.v (S z), .v (I pre.length), .v (I (pre.length + 1 + s.length : Nat))], ?_⟩
  rw [fSeq_ev, fIf_t (by simp only [gPur_ev, gAndV_ev, gOrV_ev, gNotV_ev, gIsi_ev, gAnd_ev, gOr_ev, gNot_ev, gTru_ev, gT_ev, g2_ev, g1_ev, gIf_ev, gCall_ev, gFn_ev, gTup_ev, gLst_ev, gSl_ev, gCh_ev, gYes_ev, oN_ev, oS_ev, asI_ev, aCons_ev, aNil_ev, vN_ev, kI_ev, kB_ev, kS_ev, kD'_ev, at_succ, at_zero, get_v, get_w, get_b, get_n, Z.R.of_some, Z.R.bind_ok, Z.R.pur_d, fAdd_i, fSub_i, fNeg_i, fLt_i, fLe_i, fGt_i, fGe_i, fEq_i, fNe_i, fInt_i, fInt_b, fAbs_i, fMin2_i, fMax2_i, fLen_l, fLen_t, fLen_r, tst_b, tru_b, tru_i, tru_t, tru_l, tru_r, tru_n, List.length_map, wipeE_cons, wipeE_nil, List.set_cons_succ, List.set_cons_zero, setE_cons, setE_nil, mkS_d, mkS_l, mkTup_nil, mkTup_ev, mkLst_ev, allD_cons, allD_nil, allD_map, Option.map_some, Option.bind_some, if_true, Bool.false_eq_true, if_false, ite_true, ite_false, Bool.not_true, Bool.not_false, decide_true, decide_false, isInt_i, isInt_b, isInt_t, isBl_i, isBl_b, isBl_t, fTuple_ev, fList_ev, dataOf_t, dataOf_l, dataOf_r, lft_ev, Z.RM.of_ok, Z.RM.bind_ok, mCons_ev, mNil_ev, m2_ev, mOf_ev, mT_ev, mTru_ev, mNot_ev, List.cons_append, List.nil_append, i0, sQuote, e0])]
  unfold rpS
  rw [fSeq_ev, fSet_ev, lft_n (x := I (pre.length + 1 + s.length : Nat))]
  · show ((fSeq (fIf (lft (gOr (gT (g2 fLt (vN 2) (kI 0))) (gNot (gTru (gFn F_plain_text (aCons (gSl (vN 0) (oS (g2 fAdd (vN 1) (kI 1))) (oS (vN 2))) aNil)))))) (fRaise (Str.ofString "BadText")) fNil)
      (fRet (lft (gTup (aCons (gSl (vN 0) (oS (g2 fAdd (vN 1) (kI 1))) (oS (vN 2))) (aCons (g2 fAdd (vN 2) (kI 1)) aNil)))))) [.v (S z), .v (I pre.length), .v (I (pre.length + 1 + s.length : Nat))]).sq _ = _
    rw [fSeq_ev, fIf_f (by
      simp only [gPur_ev, gAndV_ev, gOrV_ev, gNotV_ev, gIsi_ev, gAnd_ev, gOr_ev, gNot_ev, gTru_ev, gT_ev, g2_ev, g1_ev, gIf_ev, gCall_ev, gFn_ev, gTup_ev, gLst_ev, gSl_ev, gCh_ev, gYes_ev, oN_ev, oS_ev, asI_ev, aCons_ev, aNil_ev, vN_ev, kI_ev, kB_ev, kS_ev, kD'_ev, at_succ, at_zero, get_v, get_w, get_b, get_n, Z.R.of_some, Z.R.bind_ok, Z.R.pur_d, fAdd_i, fSub_i, fNeg_i, fLt_i, fLe_i, fGt_i, fGe_i, fEq_i, fNe_i, fInt_i, fInt_b, fAbs_i, fMin2_i, fMax2_i, fLen_l, fLen_t, fLen_r, tst_b, tru_b, tru_i, tru_t, tru_l, tru_r, tru_n, List.length_map, wipeE_cons, wipeE_nil, List.set_cons_succ, List.set_cons_zero, setE_cons, setE_nil, mkS_d, mkS_l, mkTup_nil, mkTup_ev, mkLst_ev, allD_cons, allD_nil, allD_map, Option.map_some, Option.bind_some, if_true, Bool.false_eq_true, if_false, ite_true, ite_false, Bool.not_true, Bool.not_false, decide_true, decide_false, isInt_i, isInt_b, isInt_t, isBl_i, isBl_b, isBl_t, fTuple_ev, fList_ev, dataOf_t, dataOf_l, dataOf_r, lft_ev, Z.RM.of_ok, Z.RM.bind_ok, mCons_ev, mNil_ev, m2_ev, mOf_ev, mT_ev, mTru_ev, mNot_ev, List.cons_append, List.nil_append, s1, plain_ok h]
      rw [decide_eq_false (show ¬ ((pre.length + 1 + s.length : Nat) : Int) < 0 by omega)]; rfl), fNil_ev, sq_nx, fRet_ev, lft_n (x := .d (.tup [.str (tx s), .int (pre.length + (s.length + 2) : Nat)]))]
    · rfl
    · simp only [gPur_ev, gAndV_ev, gOrV_ev, gNotV_ev, gIsi_ev, gAnd_ev, gOr_ev, gNot_ev, gTru_ev, gT_ev, g2_ev, g1_ev, gIf_ev, gCall_ev, gFn_ev, gTup_ev, gLst_ev, gSl_ev, gCh_ev, gYes_ev, oN_ev, oS_ev, asI_ev, aCons_ev, aNil_ev, vN_ev, kI_ev, kB_ev, kS_ev, kD'_ev, at_succ, at_zero, get_v, get_w, get_b, get_n, Z.R.of_some, Z.R.bind_ok, Z.R.pur_d, fAdd_i, fSub_i, fNeg_i, fLt_i, fLe_i, fGt_i, fGe_i, fEq_i, fNe_i, fInt_i, fInt_b, fAbs_i, fMin2_i, fMax2_i, fLen_l, fLen_t, fLen_r, tst_b, tru_b, tru_i, tru_t, tru_l, tru_r, tru_n, List.length_map, wipeE_cons, wipeE_nil, List.set_cons_succ, List.set_cons_zero, setE_cons, setE_nil, mkS_d, mkS_l, mkTup_nil, mkTup_ev, mkLst_ev, allD_cons, allD_nil, allD_map, Option.map_some, Option.bind_some, if_true, Bool.false_eq_true, if_false, ite_true, ite_false, Bool.not_true, Bool.not_false, decide_true, decide_false, isInt_i, isInt_b, isInt_t, isBl_i, isBl_b, isBl_t, fTuple_ev, fList_ev, dataOf_t, dataOf_l, dataOf_r, lft_ev, Z.RM.of_ok, Z.RM.bind_ok, mCons_ev, mNil_ev, m2_ev, mOf_ev, mT_ev, mTru_ev, mNot_ev, List.cons_append, List.nil_append, s1]
      rw [if_pos le2, R.of_some]
      congr 6
      omega
  · unfold gSm
    simp only [gPur_ev, gAndV_ev, gOrV_ev, gNotV_ev, gIsi_ev, gAnd_ev, gOr_ev, gNot_ev, gTru_ev, gT_ev, g2_ev, g1_ev, gIf_ev, gCall_ev, gFn_ev, gTup_ev, gLst_ev, gSl_ev, gCh_ev, gYes_ev, oN_ev, oS_ev, asI_ev, aCons_ev, aNil_ev, vN_ev, kI_ev, kB_ev, kS_ev, kD'_ev, at_succ, at_zero, get_v, get_w, get_b, get_n, Z.R.of_some, Z.R.bind_ok, Z.R.pur_d, fAdd_i, fSub_i, fNeg_i, fLt_i, fLe_i, fGt_i, fGe_i, fEq_i, fNe_i, fInt_i, fInt_b, fAbs_i, fMin2_i, fMax2_i, fLen_l, fLen_t, fLen_r, tst_b, tru_b, tru_i, tru_t, tru_l, tru_r, tru_n, List.length_map, wipeE_cons, wipeE_nil, List.set_cons_succ, List.set_cons_zero, setE_cons, setE_nil, mkS_d, mkS_l, mkTup_nil, mkTup_ev, mkLst_ev, allD_cons, allD_nil, allD_map, Option.map_some, Option.bind_some, if_true, Bool.false_eq_true, if_false, ite_true, ite_false, Bool.not_true, Bool.not_false, decide_true, decide_false, isInt_i, isInt_b, isInt_t, isBl_i, isBl_b, isBl_t, fTuple_ev, fList_ev, dataOf_t, dataOf_l, dataOf_r, lft_ev, Z.RM.of_ok, Z.RM.bind_ok, mCons_ev, mNil_ev, m2_ev, mOf_ev, mT_ev, mTru_ev, mNot_ev, List.cons_append, List.nil_append, sQuote]
    show R.of (fFind (tx z) [S [39], .d (.int ((pre.length : Int) + 1))]) = _
    rw [f1, R.of_some]
/-! a number -/
theorem rpC_t {z : List Nat} {i j c : Nat} (hl : z.length ≤ 1000000) (h : z[j]? = some c) (hc : isG c = true) : rpC [.v (S z), .v (I i), .v (I j)] = .ok true := by
  have hm : z.length ≤ most := Nat.le_trans hl (by decide)
  have hj := (List.getElem?_eq_some_iff.mp h).1
  have i0 := fIx_at (k := (j : Int)) j rfl hm h
  have e0 := fLen_S hm
  unfold rpC
  simp only [gPur_ev, gAndV_ev, gOrV_ev, gNotV_ev, gIsi_ev, gAnd_ev, gOr_ev, gNot_ev, gTru_ev, gT_ev, g2_ev, g1_ev, gIf_ev, gCall_ev, gFn_ev, gTup_ev, gLst_ev, gSl_ev, gCh_ev, gYes_ev, oN_ev, oS_ev, asI_ev, aCons_ev, aNil_ev, vN_ev, kI_ev, kB_ev, kS_ev, kD'_ev, at_succ, at_zero, get_v, get_w, get_b, get_n, Z.R.of_some, Z.R.bind_ok, Z.R.pur_d, fAdd_i, fSub_i, fNeg_i, fLt_i, fLe_i, fGt_i, fGe_i, fEq_i, fNe_i, fInt_i, fInt_b, fAbs_i, fMin2_i, fMax2_i, fLen_l, fLen_t, fLen_r, tst_b, tru_b, tru_i, tru_t, tru_l, tru_r, tru_n, List.length_map, wipeE_cons, wipeE_nil, List.set_cons_succ, List.set_cons_zero, setE_cons, setE_nil, mkS_d, mkS_l, mkTup_nil, mkTup_ev, mkLst_ev, allD_cons, allD_nil, allD_map, Option.map_some, Option.bind_some, if_true, Bool.false_eq_true, if_false, ite_true, ite_false, Bool.not_true, Bool.not_false, decide_true, decide_false, isInt_i, isInt_b, isInt_t, isBl_i, isBl_b, isBl_t, fTuple_ev, fList_ev, dataOf_t, dataOf_l, dataOf_r, lft_ev, Z.RM.of_ok, Z.RM.bind_ok, mCons_ev, mNil_ev, m2_ev, mOf_ev, mT_ev, mTru_ev, mNot_ev, List.cons_append, List.nil_append, i0, e0, sSigns, fIn_S, mem_signs, hc]
  rw [decide_eq_true (show (j : Int) < (z.length : Int) by omega)]; rfl
theorem rpC_f {z : List Nat} {i j : Nat} (hl : z.length ≤ 1000000) (h : ∀ c, z[j]? = some c → isG c = false) : rpC [.v (S z), .v (I i), .v (I j)] = .ok false := by
  have hm : z.length ≤ most := Nat.le_trans hl (by decide)
  have e0 := fLen_S hm
  unfold rpC
  by_cases hj : j < z.length
  · have hg := List.getElem?_eq_getElem hj
    have hc := h _ hg
    have i0 := fIx_at (k := (j : Int)) j rfl hm hg
    simp only [gPur_ev, gAndV_ev, gOrV_ev, gNotV_ev, gIsi_ev, gAnd_ev, gOr_ev, gNot_ev, gTru_ev, gT_ev, g2_ev, g1_ev, gIf_ev, gCall_ev, gFn_ev, gTup_ev, gLst_ev, gSl_ev, gCh_ev, gYes_ev, oN_ev, oS_ev, asI_ev, aCons_ev, aNil_ev, vN_ev, kI_ev, kB_ev, kS_ev, kD'_ev, at_succ, at_zero, get_v, get_w, get_b, get_n, Z.R.of_some, Z.R.bind_ok, Z.R.pur_d, fAdd_i, fSub_i, fNeg_i, fLt_i, fLe_i, fGt_i, fGe_i, fEq_i, fNe_i, fInt_i, fInt_b, fAbs_i, fMin2_i, fMax2_i, fLen_l, fLen_t, fLen_r, tst_b, tru_b, tru_i, tru_t, tru_l, tru_r, tru_n, List.length_map, wipeE_cons, wipeE_nil, List.set_cons_succ, List.set_cons_zero, setE_cons, setE_nil, mkS_d, mkS_l, mkTup_nil, mkTup_ev, mkLst_ev, allD_cons, allD_nil, allD_map, Option.map_some, Option.bind_some, if_true, Bool.false_eq_true, if_false, ite_true, ite_false, Bool.not_true, Bool.not_false, decide_true, decide_false, isInt_i, isInt_b, isInt_t, isBl_i, isBl_b, isBl_t, fTuple_ev, fList_ev, dataOf_t, dataOf_l, dataOf_r, lft_ev, Z.RM.of_ok, Z.RM.bind_ok, mCons_ev, mNil_ev, m2_ev, mOf_ev, mT_ev, mTru_ev, mNot_ev, List.cons_append, List.nil_append, i0, e0, sSigns, fIn_S, mem_signs, hc]
    rw [decide_eq_true (show (j : Int) < (z.length : Int) by omega)]; rfl
  · simp only [gPur_ev, gAndV_ev, gOrV_ev, gNotV_ev, gIsi_ev, gAnd_ev, gOr_ev, gNot_ev, gTru_ev, gT_ev, g2_ev, g1_ev, gIf_ev, gCall_ev, gFn_ev, gTup_ev, gLst_ev, gSl_ev, gCh_ev, gYes_ev, oN_ev, oS_ev, asI_ev, aCons_ev, aNil_ev, vN_ev, kI_ev, kB_ev, kS_ev, kD'_ev, at_succ, at_zero, get_v, get_w, get_b, get_n, Z.R.of_some, Z.R.bind_ok, Z.R.pur_d, fAdd_i, fSub_i, fNeg_i, fLt_i, fLe_i, fGt_i, fGe_i, fEq_i, fNe_i, fInt_i, fInt_b, fAbs_i, fMin2_i, fMax2_i, fLen_l, fLen_t, fLen_r, tst_b, tru_b, tru_i, tru_t, tru_l, tru_r, tru_n, List.length_map, wipeE_cons, wipeE_nil, List.set_cons_succ, List.set_cons_zero, setE_cons, setE_nil, mkS_d, mkS_l, mkTup_nil, mkTup_ev, mkLst_ev, allD_cons, allD_nil, allD_map, Option.map_some, Option.bind_some, if_true, Bool.false_eq_true, if_false, ite_true, ite_false, Bool.not_true, Bool.not_false, decide_true, decide_false, isInt_i, isInt_b, isInt_t, isBl_i, isBl_b, isBl_t, fTuple_ev, fList_ev, dataOf_t, dataOf_l, dataOf_r, lft_ev, Z.RM.of_ok, Z.RM.bind_ok, mCons_ev, mNil_ev, m2_ev, mOf_ev, mT_ev, mTru_ev, mNot_ev, List.cons_append, List.nil_append, e0]
    rw [decide_eq_false (show ¬ (j : Int) < (z.length : Int) by omega)]; rfl
theorem rp_loop {z : List Nat} {i : Nat} (hl : z.length ≤ 1000000) : ∀ (n j k : Nat), (∀ v, v < n → ∃ c, z[j + v]? = some c ∧ isG c = true) → (∀ c, z[j + n]? = some c → isG c = false) → n < k → whE (lft rpC) (fAug 2 fAddA (lft (kI 1))) k [.v (S z), .v (I i), .v (I j)] = .nx [.v (S z), .v (I i), .v (I (j + n : Nat))]
  | 0, j, k, _, h, hk => by
    obtain ⟨k, rfl⟩ : ∃ k', k = k' + 1 := ⟨k - 1, by omega⟩
    exact whE_f (lft_n (rpC_f hl h))
  | n + 1, j, k, h1, h2, hk => by
    obtain ⟨k, rfl⟩ : ∃ k', k = k' + 1 := ⟨k - 1, by omega⟩
    obtain ⟨c, hc, hg⟩ := h1 0 (by omega)
    rw [Nat.add_zero] at hc
    have st : fAug 2 fAddA (lft (kI 1)) [.v (S z), .v (I i), .v (I j)] = .nx [.v (S z), .v (I i), .v (I (j + 1 : Nat))] := rfl
    rw [whE_nx (lft_n (rpC_t hl hc hg)) st, rp_loop hl n (j + 1) k (fun v hv => by
      obtain ⟨c, hc, hg⟩ := h1 (v + 1) (by omega)
      exact ⟨c, by rw [show j + 1 + v = j + (v + 1) by omega]; exact hc, hg⟩) (fun c hc => h2 c (by rw [show j + (n + 1) = j + 1 + n by omega]; exact hc)) (by omega), show j + 1 + n = j + (n + 1) by omega]
theorem sI_G (n : Int) : ∀ c ∈ sI n, isG c = true := fun c m => by
  unfold sI at m
  unfold isG
  by_cases h : n < 0
  · rw [if_pos h] at m
    rcases List.mem_cons.mp m with rfl | m
    · rfl
    · rw [isD_all (dec_all _) c m, Bool.or_true]
  · rw [if_neg h] at m
    rw [isD_all (dec_all _) c m, Bool.or_true]
theorem sI_len {n : Int} {m : Nat} (h : n.natAbs < 10 ^ m) (h1 : 1 ≤ m) : (sI n).length ≤ m + 1 := by
  have := dec_len h1 h
  unfold sI
  split
  · rw [List.length_cons]; omega
  · omega
theorem plain_int {z pre post : List Nat} {n : Int} (hz : z = pre ++ (sI n ++ post)) (hk : okc z = true) (hl : z.length ≤ 1000000) (h : n.natAbs < 10 ^ 200) (hp : ∀ c, post[0]? = some c → isG c = false) :
    F_read_plain [S z, I pre.length] = .ok (.d (.tup [.int n, .int (pre.length + (sI n).length : Nat)])) := by
  refine runP_ret rfl ?_
  show ∃ e, d_read_plain [.v (S z), .v (I pre.length), .n] = _
  rw [d_plain_eq]
  have hm : z.length ≤ most := Nat.le_trans hl (by decide)
  have hne : 0 < (sI n).length := by
    unfold sI; split
    · simp
    · exact List.length_pos_iff.mpr (dec_ne _)
  have hlen := sI_len h (by decide)
  have g0 : z[pre.length]? = some (sI n)[0] := by
    have := get_at hz hne
    rwa [Nat.add_zero] at this
  have hc0 : isG (sI n)[0] = true := sI_G n _ (List.getElem_mem hne)
  have i0 := fIx_at (k := (pre.length : Int)) pre.length rfl hm g0
  have e0 := fEq_S (a := [(sI n)[0]]) (b := [39]) (okc_mem hk g0) (by decide)
  refine ret_if_f (by
    simp only [gPur_ev, gAndV_ev, gOrV_ev, gNotV_ev, gIsi_ev, gAnd_ev, gOr_ev, gNot_ev, gTru_ev, gT_ev, g2_ev, g1_ev, gIf_ev, gCall_ev, gFn_ev, gTup_ev, gLst_ev, gSl_ev, gCh_ev, gYes_ev, oN_ev, oS_ev, asI_ev, aCons_ev, aNil_ev, vN_ev, kI_ev, kB_ev, kS_ev, kD'_ev, at_succ, at_zero, get_v, get_w, get_b, get_n, Z.R.of_some, Z.R.bind_ok, Z.R.pur_d, fAdd_i, fSub_i, fNeg_i, fLt_i, fLe_i, fGt_i, fGe_i, fEq_i, fNe_i, fInt_i, fInt_b, fAbs_i, fMin2_i, fMax2_i, fLen_l, fLen_t, fLen_r, tst_b, tru_b, tru_i, tru_t, tru_l, tru_r, tru_n, List.length_map, wipeE_cons, wipeE_nil, List.set_cons_succ, List.set_cons_zero, setE_cons, setE_nil, mkS_d, mkS_l, mkTup_nil, mkTup_ev, mkLst_ev, allD_cons, allD_nil, allD_map, Option.map_some, Option.bind_some, if_true, Bool.false_eq_true, if_false, ite_true, ite_false, Bool.not_true, Bool.not_false, decide_true, decide_false, isInt_i, isInt_b, isInt_t, isBl_i, isBl_b, isBl_t, fTuple_ev, fList_ev, dataOf_t, dataOf_l, dataOf_r, lft_ev, Z.RM.of_ok, Z.RM.bind_ok, mCons_ev, mNil_ev, m2_ev, mOf_ev, mT_ev, mTru_ev, mNot_ev, List.cons_append, List.nil_append, i0, sQuote, e0]
    rw [decide_eq_false (by
      intro e
      injection e with e
      rw [e] at hc0; cases hc0)]) ?_
  unfold rpI
  refine ret_seq (en1 := [.v (S z), .v (I pre.length), .v (I pre.length)]) rfl ?_
  have lp := rp_loop (z := z) (i := pre.length) hl (sI n).length pre.length 100000 (fun v hv => ⟨_, get_at hz hv, sI_G n _ (List.getElem_mem hv)⟩) (fun c hc => hp c (by rw [← get_after hz]; exact hc)) (by omega)
  refine ret_seq (en1 := [.v (S z), .v (I pre.length), .v (I (pre.length + (sI n).length : Nat))]) (by rw [fWh_ev]; exact lp) ?_
  have s1 := fSl_part (z := z) (k := (pre.length : Int)) (m := ((pre.length + (sI n).length : Nat) : Int)) pre.length (pre.length + (sI n).length) rfl rfl hm
  rw [Nat.add_sub_cancel_left, part_at hz] at s1
  have rd := read_integer_ok h (by decide) (by decide)
  refine ret_lft ?_
  simp only [gPur_ev, gAndV_ev, gOrV_ev, gNotV_ev, gIsi_ev, gAnd_ev, gOr_ev, gNot_ev, gTru_ev, gT_ev, g2_ev, g1_ev, gIf_ev, gCall_ev, gFn_ev, gTup_ev, gLst_ev, gSl_ev, gCh_ev, gYes_ev, oN_ev, oS_ev, asI_ev, aCons_ev, aNil_ev, vN_ev, kI_ev, kB_ev, kS_ev, kD'_ev, at_succ, at_zero, get_v, get_w, get_b, get_n, Z.R.of_some, Z.R.bind_ok, Z.R.pur_d, fAdd_i, fSub_i, fNeg_i, fLt_i, fLe_i, fGt_i, fGe_i, fEq_i, fNe_i, fInt_i, fInt_b, fAbs_i, fMin2_i, fMax2_i, fLen_l, fLen_t, fLen_r, tst_b, tru_b, tru_i, tru_t, tru_l, tru_r, tru_n, List.length_map, wipeE_cons, wipeE_nil, List.set_cons_succ, List.set_cons_zero, setE_cons, setE_nil, mkS_d, mkS_l, mkTup_nil, mkTup_ev, mkLst_ev, allD_cons, allD_nil, allD_map, Option.map_some, Option.bind_some, if_true, Bool.false_eq_true, if_false, ite_true, ite_false, Bool.not_true, Bool.not_false, decide_true, decide_false, isInt_i, isInt_b, isInt_t, isBl_i, isBl_b, isBl_t, fTuple_ev, fList_ev, dataOf_t, dataOf_l, dataOf_r, lft_ev, Z.RM.of_ok, Z.RM.bind_ok, mCons_ev, mNil_ev, m2_ev, mOf_ev, mT_ev, mTru_ev, mNot_ev, List.cons_append, List.nil_append, s1, rd]
  rw [if_pos le2, R.of_some]
end K00
namespace K00
open PySem PySem.Spec L2 Z
open PyProof.Rows hiding St
open PySem.NumText
/-! read_data -/
abbrev stk (s : List (List D)) : T := .l (s.map fun ds => T.l (ds.map T.d))
abbrev p6 (z : List Nat) (s : List (List D)) (i : Nat) (fr : Bool) (o4 o5 : Sl) : En := [.v (S z), .v (stk s), .v (I i), .v (.d (.bl fr)), o4, o5]
def pC : En → R Bool := gT (g2 fLt (vN 2) (gCall fLen (aCons (vN 0) aNil)))
def c1 : En → R Bool := gAnd (gTru (vN 3)) (gAnd (gT (g2 fEq (g2 fIx (vN 0) (vN 2)) (kS (Str.ofString "(")))) (gT (g2 fLe (gCall fLen (aCons (vN 1) aNil)) (kI 40))))
def b1 : En → SR := (fSeq (fExpr (mApp 1 (lft (gLst aNil))))
  (fAug 2 fAddA (lft (kI 1))))
def c2 : En → R Bool := gAnd (gT (g2 fEq (g2 fIx (vN 0) (vN 2)) (kS (Str.ofString ")")))) (gAnd (gT (g2 fGt (gCall fLen (aCons (vN 1) aNil)) (kI 1))) (gOr (gNot (gTru (vN 3))) (gT (g2 fEq (g2 fIx (vN 0) (g2 fSub (vN 2) (kI 1))) (kS (Str.ofString "("))))))
def b2 : En → SR := (fSeq (fSet 4 (mOf (rOf fTuple) (mCons (mPop 1) mNil)))
  (fSeq (fExpr (mAppIx 1 (g1 fNeg (kI 1)) (gPur (vN 4))))
  (fSeq (fAug 2 fAddA (lft (kI 1)))
  (fSet 3 (lft (kB false))))))
def c3 : En → R Bool := gAnd (gNot (gTru (vN 3))) (gAnd (gT (g2 fGt (gCall fLen (aCons (vN 1) aNil)) (kI 1))) (gT (g2 fEq (gSl (vN 0) (oS (vN 2)) (oS (g2 fAdd (vN 2) (kI 2)))) (kS (Str.ofString ", ")))))
def b3 : En → SR := (fSeq (fAug 2 fAddA (lft (kI 2)))
  (fSet 3 (lft (kB true))))
def c4 : En → R Bool := gAnd (gTru (vN 3)) (gT (g2 fNe (g2 fIx (vN 0) (vN 2)) (kS (Str.ofString "("))))
def b4 : En → SR := (fSeq (fAsg (kTup 2 (kCons (kName 5) (kCons (kName 2) kNil))) (lft (gFn F_read_plain (aCons (vN 0) (aCons (vN 2) aNil)))))
  (fSeq (fExpr (mAppIx 1 (g1 fNeg (kI 1)) (gPur (vN 5))))
  (fSet 3 (lft (kB false)))))
def pB : En → SR := fIf (lft c1) b1 (fIf (lft c2) b2 (fIf (lft c3) b3 (fIf (lft c4) b4 (fRaise (Str.ofString "BadText")))))
def pE : En → SR := (fSeq (fIf (lft (gOr (gT (g2 fNe (gCall fLen (aCons (vN 1) aNil)) (kI 1))) (gT (g2 fNe (gCall fLen (aCons (g2 fIx (vN 1) (kI 0)) aNil)) (kI 1))))) (fRaise (Str.ofString "BadText")) fNil)
  (fRet (lft (gPur (g2 fIx (g2 fIx (vN 1) (kI 0)) (kI 0))))))
theorem d_data_eq : d_read_data = (fSeq (fSet 1 (lft (gLst (aCons (gLst aNil) aNil))))
  (fSeq (fSet 2 (lft (kI 0)))
  (fSeq (fSet 3 (lft (kB true)))
  (fSeq (fWh mu_read_data_0 (lft pC) pB) pE)))) := rfl
section
variable {z : List Nat} {s : List (List D)} {i : Nat} {fr : Bool} {o4 o5 : Sl} {c : Nat}
theorem stk_len : (s.map fun ds => T.l (ds.map T.d)).length = s.length := List.length_map ..
theorem pC_t (hl : z.length ≤ 1000000) (h : i < z.length) : pC (p6 z s i fr o4 o5) = .ok true := by
  have e0 := fLen_S (Nat.le_trans hl (show 1000000 ≤ most by decide))
  unfold pC
  simp only [gPur_ev, gAndV_ev, gOrV_ev, gNotV_ev, gIsi_ev, gAnd_ev, gOr_ev, gNot_ev, gTru_ev, gT_ev, g2_ev, g1_ev, gIf_ev, gCall_ev, gFn_ev, gTup_ev, gLst_ev, gSl_ev, gCh_ev, gYes_ev, oN_ev, oS_ev, asI_ev, aCons_ev, aNil_ev, vN_ev, kI_ev, kB_ev, kS_ev, kD'_ev, at_succ, at_zero, get_v, get_w, get_b, get_n, Z.R.of_some, Z.R.bind_ok, Z.R.pur_d, fAdd_i, fSub_i, fNeg_i, fLt_i, fLe_i, fGt_i, fGe_i, fEq_i, fNe_i, fInt_i, fInt_b, fAbs_i, fMin2_i, fMax2_i, fLen_l, fLen_t, fLen_r, tst_b, tru_b, tru_i, tru_t, tru_l, tru_r, tru_n, List.length_map, wipeE_cons, wipeE_nil, List.set_cons_succ, List.set_cons_zero, setE_cons, setE_nil, mkS_d, mkS_l, mkTup_nil, mkTup_ev, mkLst_ev, allD_cons, allD_nil, allD_map, Option.map_some, Option.bind_some, if_true, Bool.false_eq_true, if_false, ite_true, ite_false, Bool.not_true, Bool.not_false, decide_true, decide_false, isInt_i, isInt_b, isInt_t, isBl_i, isBl_b, isBl_t, fTuple_ev, fList_ev, dataOf_t, dataOf_l, dataOf_r, lft_ev, Z.RM.of_ok, Z.RM.bind_ok, mCons_ev, mNil_ev, m2_ev, mOf_ev, mT_ev, mTru_ev, mNot_ev, List.cons_append, List.nil_append, e0]; rw [decide_eq_true (by omega)]
theorem pC_f (hl : z.length ≤ 1000000) (h : z.length ≤ i) : pC (p6 z s i fr o4 o5) = .ok false := by
  have e0 := fLen_S (Nat.le_trans hl (show 1000000 ≤ most by decide))
  unfold pC
  simp only [gPur_ev, gAndV_ev, gOrV_ev, gNotV_ev, gIsi_ev, gAnd_ev, gOr_ev, gNot_ev, gTru_ev, gT_ev, g2_ev, g1_ev, gIf_ev, gCall_ev, gFn_ev, gTup_ev, gLst_ev, gSl_ev, gCh_ev, gYes_ev, oN_ev, oS_ev, asI_ev, aCons_ev, aNil_ev, vN_ev, kI_ev, kB_ev, kS_ev, kD'_ev, at_succ, at_zero, get_v, get_w, get_b, get_n, Z.R.of_some, Z.R.bind_ok, Z.R.pur_d, fAdd_i, fSub_i, fNeg_i, fLt_i, fLe_i, fGt_i, fGe_i, fEq_i, fNe_i, fInt_i, fInt_b, fAbs_i, fMin2_i, fMax2_i, fLen_l, fLen_t, fLen_r, tst_b, tru_b, tru_i, tru_t, tru_l, tru_r, tru_n, List.length_map, wipeE_cons, wipeE_nil, List.set_cons_succ, List.set_cons_zero, setE_cons, setE_nil, mkS_d, mkS_l, mkTup_nil, mkTup_ev, mkLst_ev, allD_cons, allD_nil, allD_map, Option.map_some, Option.bind_some, if_true, Bool.false_eq_true, if_false, ite_true, ite_false, Bool.not_true, Bool.not_false, decide_true, decide_false, isInt_i, isInt_b, isInt_t, isBl_i, isBl_b, isBl_t, fTuple_ev, fList_ev, dataOf_t, dataOf_l, dataOf_r, lft_ev, Z.RM.of_ok, Z.RM.bind_ok, mCons_ev, mNil_ev, m2_ev, mOf_ev, mT_ev, mTru_ev, mNot_ev, List.cons_append, List.nil_append, e0]; rw [decide_eq_false (by omega)]
theorem eq1 {a b : Nat} : ([a] = [b]) = (a = b) := by simp
theorem c1_ok (hl : z.length ≤ 1000000) (hk : okc z = true) (hc : z[i]? = some c) : c1 (p6 z s i fr o4 o5) = .ok (fr && (decide (c = 40) && decide (s.length ≤ 40))) := by
  have hm := Nat.le_trans hl (show 1000000 ≤ most by decide)
  have e0 := fEq_S (okc_mem hk hc) (show okc [40] = true by decide)
  have i0 := fIx_at (k := (i : Int)) i rfl hm hc
  unfold c1
  cases fr with
  | false => simp only [gPur_ev, gAndV_ev, gOrV_ev, gNotV_ev, gIsi_ev, gAnd_ev, gOr_ev, gNot_ev, gTru_ev, gT_ev, g2_ev, g1_ev, gIf_ev, gCall_ev, gFn_ev, gTup_ev, gLst_ev, gSl_ev, gCh_ev, gYes_ev, oN_ev, oS_ev, asI_ev, aCons_ev, aNil_ev, vN_ev, kI_ev, kB_ev, kS_ev, kD'_ev, at_succ, at_zero, get_v, get_w, get_b, get_n, Z.R.of_some, Z.R.bind_ok, Z.R.pur_d, fAdd_i, fSub_i, fNeg_i, fLt_i, fLe_i, fGt_i, fGe_i, fEq_i, fNe_i, fInt_i, fInt_b, fAbs_i, fMin2_i, fMax2_i, fLen_l, fLen_t, fLen_r, tst_b, tru_b, tru_i, tru_t, tru_l, tru_r, tru_n, List.length_map, wipeE_cons, wipeE_nil, List.set_cons_succ, List.set_cons_zero, setE_cons, setE_nil, mkS_d, mkS_l, mkTup_nil, mkTup_ev, mkLst_ev, allD_cons, allD_nil, allD_map, Option.map_some, Option.bind_some, if_true, Bool.false_eq_true, if_false, ite_true, ite_false, Bool.not_true, Bool.not_false, decide_true, decide_false, isInt_i, isInt_b, isInt_t, isBl_i, isBl_b, isBl_t, fTuple_ev, fList_ev, dataOf_t, dataOf_l, dataOf_r, lft_ev, Z.RM.of_ok, Z.RM.bind_ok, mCons_ev, mNil_ev, m2_ev, mOf_ev, mT_ev, mTru_ev, mNot_ev, List.cons_append, List.nil_append]; rfl
  | true =>
    by_cases h : c = 40
    · simp only [gPur_ev, gAndV_ev, gOrV_ev, gNotV_ev, gIsi_ev, gAnd_ev, gOr_ev, gNot_ev, gTru_ev, gT_ev, g2_ev, g1_ev, gIf_ev, gCall_ev, gFn_ev, gTup_ev, gLst_ev, gSl_ev, gCh_ev, gYes_ev, oN_ev, oS_ev, asI_ev, aCons_ev, aNil_ev, vN_ev, kI_ev, kB_ev, kS_ev, kD'_ev, at_succ, at_zero, get_v, get_w, get_b, get_n, Z.R.of_some, Z.R.bind_ok, Z.R.pur_d, fAdd_i, fSub_i, fNeg_i, fLt_i, fLe_i, fGt_i, fGe_i, fEq_i, fNe_i, fInt_i, fInt_b, fAbs_i, fMin2_i, fMax2_i, fLen_l, fLen_t, fLen_r, tst_b, tru_b, tru_i, tru_t, tru_l, tru_r, tru_n, List.length_map, wipeE_cons, wipeE_nil, List.set_cons_succ, List.set_cons_zero, setE_cons, setE_nil, mkS_d, mkS_l, mkTup_nil, mkTup_ev, mkLst_ev, allD_cons, allD_nil, allD_map, Option.map_some, Option.bind_some, if_true, Bool.false_eq_true, if_false, ite_true, ite_false, Bool.not_true, Bool.not_false, decide_true, decide_false, isInt_i, isInt_b, isInt_t, isBl_i, isBl_b, isBl_t, fTuple_ev, fList_ev, dataOf_t, dataOf_l, dataOf_r, lft_ev, Z.RM.of_ok, Z.RM.bind_ok, mCons_ev, mNil_ev, m2_ev, mOf_ev, mT_ev, mTru_ev, mNot_ev, List.cons_append, List.nil_append, i0, e0, sOpen, eq1, decide_eq_true h, stk_len, Bool.true_and]
      congr 1
      rw [decide_eq_decide]; omega
    · simp only [gPur_ev, gAndV_ev, gOrV_ev, gNotV_ev, gIsi_ev, gAnd_ev, gOr_ev, gNot_ev, gTru_ev, gT_ev, g2_ev, g1_ev, gIf_ev, gCall_ev, gFn_ev, gTup_ev, gLst_ev, gSl_ev, gCh_ev, gYes_ev, oN_ev, oS_ev, asI_ev, aCons_ev, aNil_ev, vN_ev, kI_ev, kB_ev, kS_ev, kD'_ev, at_succ, at_zero, get_v, get_w, get_b, get_n, Z.R.of_some, Z.R.bind_ok, Z.R.pur_d, fAdd_i, fSub_i, fNeg_i, fLt_i, fLe_i, fGt_i, fGe_i, fEq_i, fNe_i, fInt_i, fInt_b, fAbs_i, fMin2_i, fMax2_i, fLen_l, fLen_t, fLen_r, tst_b, tru_b, tru_i, tru_t, tru_l, tru_r, tru_n, List.length_map, wipeE_cons, wipeE_nil, List.set_cons_succ, List.set_cons_zero, setE_cons, setE_nil, mkS_d, mkS_l, mkTup_nil, mkTup_ev, mkLst_ev, allD_cons, allD_nil, allD_map, Option.map_some, Option.bind_some, if_true, Bool.false_eq_true, if_false, ite_true, ite_false, Bool.not_true, Bool.not_false, decide_true, decide_false, isInt_i, isInt_b, isInt_t, isBl_i, isBl_b, isBl_t, fTuple_ev, fList_ev, dataOf_t, dataOf_l, dataOf_r, lft_ev, Z.RM.of_ok, Z.RM.bind_ok, mCons_ev, mNil_ev, m2_ev, mOf_ev, mT_ev, mTru_ev, mNot_ev, List.cons_append, List.nil_append, i0, e0, sOpen, eq1, decide_eq_false h, Bool.true_and, Bool.false_and]
theorem c2_no (hl : z.length ≤ 1000000) (hk : okc z = true) (hc : z[i]? = some c) (h : c ≠ 41 ∨ s.length ≤ 1) : c2 (p6 z s i fr o4 o5) = .ok false := by
  have hm := Nat.le_trans hl (show 1000000 ≤ most by decide)
  have e0 := fEq_S (okc_mem hk hc) (show okc [41] = true by decide)
  have i0 := fIx_at (k := (i : Int)) i rfl hm hc
  unfold c2
  by_cases h1 : c = 41
  · have h2 := h.resolve_left (fun n => n h1)
    simp only [gPur_ev, gAndV_ev, gOrV_ev, gNotV_ev, gIsi_ev, gAnd_ev, gOr_ev, gNot_ev, gTru_ev, gT_ev, g2_ev, g1_ev, gIf_ev, gCall_ev, gFn_ev, gTup_ev, gLst_ev, gSl_ev, gCh_ev, gYes_ev, oN_ev, oS_ev, asI_ev, aCons_ev, aNil_ev, vN_ev, kI_ev, kB_ev, kS_ev, kD'_ev, at_succ, at_zero, get_v, get_w, get_b, get_n, Z.R.of_some, Z.R.bind_ok, Z.R.pur_d, fAdd_i, fSub_i, fNeg_i, fLt_i, fLe_i, fGt_i, fGe_i, fEq_i, fNe_i, fInt_i, fInt_b, fAbs_i, fMin2_i, fMax2_i, fLen_l, fLen_t, fLen_r, tst_b, tru_b, tru_i, tru_t, tru_l, tru_r, tru_n, List.length_map, wipeE_cons, wipeE_nil, List.set_cons_succ, List.set_cons_zero, setE_cons, setE_nil, mkS_d, mkS_l, mkTup_nil, mkTup_ev, mkLst_ev, allD_cons, allD_nil, allD_map, Option.map_some, Option.bind_some, if_true, Bool.false_eq_true, if_false, ite_true, ite_false, Bool.not_true, Bool.not_false, decide_true, decide_false, isInt_i, isInt_b, isInt_t, isBl_i, isBl_b, isBl_t, fTuple_ev, fList_ev, dataOf_t, dataOf_l, dataOf_r, lft_ev, Z.RM.of_ok, Z.RM.bind_ok, mCons_ev, mNil_ev, m2_ev, mOf_ev, mT_ev, mTru_ev, mNot_ev, List.cons_append, List.nil_append, i0, e0, sClose, eq1, decide_eq_true h1, stk_len]
    rw [decide_eq_false (by omega)]; rfl
  · simp only [gPur_ev, gAndV_ev, gOrV_ev, gNotV_ev, gIsi_ev, gAnd_ev, gOr_ev, gNot_ev, gTru_ev, gT_ev, g2_ev, g1_ev, gIf_ev, gCall_ev, gFn_ev, gTup_ev, gLst_ev, gSl_ev, gCh_ev, gYes_ev, oN_ev, oS_ev, asI_ev, aCons_ev, aNil_ev, vN_ev, kI_ev, kB_ev, kS_ev, kD'_ev, at_succ, at_zero, get_v, get_w, get_b, get_n, Z.R.of_some, Z.R.bind_ok, Z.R.pur_d, fAdd_i, fSub_i, fNeg_i, fLt_i, fLe_i, fGt_i, fGe_i, fEq_i, fNe_i, fInt_i, fInt_b, fAbs_i, fMin2_i, fMax2_i, fLen_l, fLen_t, fLen_r, tst_b, tru_b, tru_i, tru_t, tru_l, tru_r, tru_n, List.length_map, wipeE_cons, wipeE_nil, List.set_cons_succ, List.set_cons_zero, setE_cons, setE_nil, mkS_d, mkS_l, mkTup_nil, mkTup_ev, mkLst_ev, allD_cons, allD_nil, allD_map, Option.map_some, Option.bind_some, if_true, Bool.false_eq_true, if_false, ite_true, ite_false, Bool.not_true, Bool.not_false, decide_true, decide_false, isInt_i, isInt_b, isInt_t, isBl_i, isBl_b, isBl_t, fTuple_ev, fList_ev, dataOf_t, dataOf_l, dataOf_r, lft_ev, Z.RM.of_ok, Z.RM.bind_ok, mCons_ev, mNil_ev, m2_ev, mOf_ev, mT_ev, mTru_ev, mNot_ev, List.cons_append, List.nil_append, i0, e0, sClose, eq1, decide_eq_false h1]
theorem c2_yes (hl : z.length ≤ 1000000) (hk : okc z = true) (hc : z[i]? = some 41) (h : 1 < s.length) (h2 : fr = false ∨ ∃ j, i = j + 1 ∧ z[j]? = some 40) : c2 (p6 z s i fr o4 o5) = .ok true := by
  have hm := Nat.le_trans hl (show 1000000 ≤ most by decide)
  have e0 := fEq_S (okc_mem hk hc) (show okc [41] = true by decide)
  have i0 := fIx_at (k := (i : Int)) i rfl hm hc
  have hd : decide ((1 : Int) < (s.length : Int)) = true := decide_eq_true (by omega)
  unfold c2
  cases fr with
  | false => simp only [gPur_ev, gAndV_ev, gOrV_ev, gNotV_ev, gIsi_ev, gAnd_ev, gOr_ev, gNot_ev, gTru_ev, gT_ev, g2_ev, g1_ev, gIf_ev, gCall_ev, gFn_ev, gTup_ev, gLst_ev, gSl_ev, gCh_ev, gYes_ev, oN_ev, oS_ev, asI_ev, aCons_ev, aNil_ev, vN_ev, kI_ev, kB_ev, kS_ev, kD'_ev, at_succ, at_zero, get_v, get_w, get_b, get_n, Z.R.of_some, Z.R.bind_ok, Z.R.pur_d, fAdd_i, fSub_i, fNeg_i, fLt_i, fLe_i, fGt_i, fGe_i, fEq_i, fNe_i, fInt_i, fInt_b, fAbs_i, fMin2_i, fMax2_i, fLen_l, fLen_t, fLen_r, tst_b, tru_b, tru_i, tru_t, tru_l, tru_r, tru_n, List.length_map, wipeE_cons, wipeE_nil, List.set_cons_succ, List.set_cons_zero, setE_cons, setE_nil, mkS_d, mkS_l, mkTup_nil, mkTup_ev, mkLst_ev, allD_cons, allD_nil, allD_map, Option.map_some, Option.bind_some, if_true, Bool.false_eq_true, if_false, ite_true, ite_false, Bool.not_true, Bool.not_false, decide_true, decide_false, isInt_i, isInt_b, isInt_t, isBl_i, isBl_b, isBl_t, fTuple_ev, fList_ev, dataOf_t, dataOf_l, dataOf_r, lft_ev, Z.RM.of_ok, Z.RM.bind_ok, mCons_ev, mNil_ev, m2_ev, mOf_ev, mT_ev, mTru_ev, mNot_ev, List.cons_append, List.nil_append, i0, e0, sClose, eq1, decide_eq_true, stk_len, hd]
  | true =>
    obtain ⟨j, rfl, hj⟩ := h2.resolve_left (fun e => by cases e)
    have e1 := fEq_S (okc_mem hk hj) (show okc [40] = true by decide)
    have i1 := fIx_at (k := ((j + 1 : Nat) : Int) - 1) j (by omega) hm hj
    simp only [gPur_ev, gAndV_ev, gOrV_ev, gNotV_ev, gIsi_ev, gAnd_ev, gOr_ev, gNot_ev, gTru_ev, gT_ev, g2_ev, g1_ev, gIf_ev, gCall_ev, gFn_ev, gTup_ev, gLst_ev, gSl_ev, gCh_ev, gYes_ev, oN_ev, oS_ev, asI_ev, aCons_ev, aNil_ev, vN_ev, kI_ev, kB_ev, kS_ev, kD'_ev, at_succ, at_zero, get_v, get_w, get_b, get_n, Z.R.of_some, Z.R.bind_ok, Z.R.pur_d, fAdd_i, fSub_i, fNeg_i, fLt_i, fLe_i, fGt_i, fGe_i, fEq_i, fNe_i, fInt_i, fInt_b, fAbs_i, fMin2_i, fMax2_i, fLen_l, fLen_t, fLen_r, tst_b, tru_b, tru_i, tru_t, tru_l, tru_r, tru_n, List.length_map, wipeE_cons, wipeE_nil, List.set_cons_succ, List.set_cons_zero, setE_cons, setE_nil, mkS_d, mkS_l, mkTup_nil, mkTup_ev, mkLst_ev, allD_cons, allD_nil, allD_map, Option.map_some, Option.bind_some, if_true, Bool.false_eq_true, if_false, ite_true, ite_false, Bool.not_true, Bool.not_false, decide_true, decide_false, isInt_i, isInt_b, isInt_t, isBl_i, isBl_b, isBl_t, fTuple_ev, fList_ev, dataOf_t, dataOf_l, dataOf_r, lft_ev, Z.RM.of_ok, Z.RM.bind_ok, mCons_ev, mNil_ev, m2_ev, mOf_ev, mT_ev, mTru_ev, mNot_ev, List.cons_append, List.nil_append, i0, e0, sClose, sOpen, eq1, stk_len, hd, i1, e1]
theorem c3_no (hl : z.length ≤ 1000000) (hk : okc z = true) (h : fr = true ∨ s.length ≤ 1 ∨ (z.drop i).take 2 ≠ [44, 32]) : c3 (p6 z s i fr o4 o5) = .ok false := by
  have hm := Nat.le_trans hl (show 1000000 ≤ most by decide)
  have s1 := fSl_part (z := z) (k := (i : Int)) (m := (i : Int) + 2) i (i + 2) rfl (by omega) hm
  rw [Nat.add_sub_cancel_left] at s1
  have e0 := fEq_S (okc_take (okc_drop hk i) 2) (show okc [44, 32] = true by decide)
  unfold c3
  cases fr with
  | true => simp only [gPur_ev, gAndV_ev, gOrV_ev, gNotV_ev, gIsi_ev, gAnd_ev, gOr_ev, gNot_ev, gTru_ev, gT_ev, g2_ev, g1_ev, gIf_ev, gCall_ev, gFn_ev, gTup_ev, gLst_ev, gSl_ev, gCh_ev, gYes_ev, oN_ev, oS_ev, asI_ev, aCons_ev, aNil_ev, vN_ev, kI_ev, kB_ev, kS_ev, kD'_ev, at_succ, at_zero, get_v, get_w, get_b, get_n, Z.R.of_some, Z.R.bind_ok, Z.R.pur_d, fAdd_i, fSub_i, fNeg_i, fLt_i, fLe_i, fGt_i, fGe_i, fEq_i, fNe_i, fInt_i, fInt_b, fAbs_i, fMin2_i, fMax2_i, fLen_l, fLen_t, fLen_r, tst_b, tru_b, tru_i, tru_t, tru_l, tru_r, tru_n, List.length_map, wipeE_cons, wipeE_nil, List.set_cons_succ, List.set_cons_zero, setE_cons, setE_nil, mkS_d, mkS_l, mkTup_nil, mkTup_ev, mkLst_ev, allD_cons, allD_nil, allD_map, Option.map_some, Option.bind_some, if_true, Bool.false_eq_true, if_false, ite_true, ite_false, Bool.not_true, Bool.not_false, decide_true, decide_false, isInt_i, isInt_b, isInt_t, isBl_i, isBl_b, isBl_t, fTuple_ev, fList_ev, dataOf_t, dataOf_l, dataOf_r, lft_ev, Z.RM.of_ok, Z.RM.bind_ok, mCons_ev, mNil_ev, m2_ev, mOf_ev, mT_ev, mTru_ev, mNot_ev, List.cons_append, List.nil_append]
  | false =>
    by_cases h1 : s.length ≤ 1
    · simp only [gPur_ev, gAndV_ev, gOrV_ev, gNotV_ev, gIsi_ev, gAnd_ev, gOr_ev, gNot_ev, gTru_ev, gT_ev, g2_ev, g1_ev, gIf_ev, gCall_ev, gFn_ev, gTup_ev, gLst_ev, gSl_ev, gCh_ev, gYes_ev, oN_ev, oS_ev, asI_ev, aCons_ev, aNil_ev, vN_ev, kI_ev, kB_ev, kS_ev, kD'_ev, at_succ, at_zero, get_v, get_w, get_b, get_n, Z.R.of_some, Z.R.bind_ok, Z.R.pur_d, fAdd_i, fSub_i, fNeg_i, fLt_i, fLe_i, fGt_i, fGe_i, fEq_i, fNe_i, fInt_i, fInt_b, fAbs_i, fMin2_i, fMax2_i, fLen_l, fLen_t, fLen_r, tst_b, tru_b, tru_i, tru_t, tru_l, tru_r, tru_n, List.length_map, wipeE_cons, wipeE_nil, List.set_cons_succ, List.set_cons_zero, setE_cons, setE_nil, mkS_d, mkS_l, mkTup_nil, mkTup_ev, mkLst_ev, allD_cons, allD_nil, allD_map, Option.map_some, Option.bind_some, if_true, Bool.false_eq_true, if_false, ite_true, ite_false, Bool.not_true, Bool.not_false, decide_true, decide_false, isInt_i, isInt_b, isInt_t, isBl_i, isBl_b, isBl_t, fTuple_ev, fList_ev, dataOf_t, dataOf_l, dataOf_r, lft_ev, Z.RM.of_ok, Z.RM.bind_ok, mCons_ev, mNil_ev, m2_ev, mOf_ev, mT_ev, mTru_ev, mNot_ev, List.cons_append, List.nil_append, stk_len]
      rw [decide_eq_false (by omega)]; rfl
    · have h2 := (h.resolve_left (fun e => by cases e)).resolve_left h1
      have hd : decide ((1 : Int) < (s.length : Int)) = true := decide_eq_true (by omega)
      simp only [gPur_ev, gAndV_ev, gOrV_ev, gNotV_ev, gIsi_ev, gAnd_ev, gOr_ev, gNot_ev, gTru_ev, gT_ev, g2_ev, g1_ev, gIf_ev, gCall_ev, gFn_ev, gTup_ev, gLst_ev, gSl_ev, gCh_ev, gYes_ev, oN_ev, oS_ev, asI_ev, aCons_ev, aNil_ev, vN_ev, kI_ev, kB_ev, kS_ev, kD'_ev, at_succ, at_zero, get_v, get_w, get_b, get_n, Z.R.of_some, Z.R.bind_ok, Z.R.pur_d, fAdd_i, fSub_i, fNeg_i, fLt_i, fLe_i, fGt_i, fGe_i, fEq_i, fNe_i, fInt_i, fInt_b, fAbs_i, fMin2_i, fMax2_i, fLen_l, fLen_t, fLen_r, tst_b, tru_b, tru_i, tru_t, tru_l, tru_r, tru_n, List.length_map, wipeE_cons, wipeE_nil, List.set_cons_succ, List.set_cons_zero, setE_cons, setE_nil, mkS_d, mkS_l, mkTup_nil, mkTup_ev, mkLst_ev, allD_cons, allD_nil, allD_map, Option.map_some, Option.bind_some, if_true, Bool.false_eq_true, if_false, ite_true, ite_false, Bool.not_true, Bool.not_false, decide_true, decide_false, isInt_i, isInt_b, isInt_t, isBl_i, isBl_b, isBl_t, fTuple_ev, fList_ev, dataOf_t, dataOf_l, dataOf_r, lft_ev, Z.RM.of_ok, Z.RM.bind_ok, mCons_ev, mNil_ev, m2_ev, mOf_ev, mT_ev, mTru_ev, mNot_ev, List.cons_append, List.nil_append, stk_len, hd, s1, sComma, e0, decide_eq_false h2]
theorem c3_yes (hl : z.length ≤ 1000000) (hk : okc z = true) (h1 : 1 < s.length) (h2 : (z.drop i).take 2 = [44, 32]) : c3 (p6 z s i false o4 o5) = .ok true := by
  have hm := Nat.le_trans hl (show 1000000 ≤ most by decide)
  have s1 := fSl_part (z := z) (k := (i : Int)) (m := (i : Int) + 2) i (i + 2) rfl (by omega) hm
  rw [Nat.add_sub_cancel_left] at s1
  have e0 := fEq_S (okc_take (okc_drop hk i) 2) (show okc [44, 32] = true by decide)
  have hd : decide ((1 : Int) < (s.length : Int)) = true := decide_eq_true (by omega)
  unfold c3
  simp only [gPur_ev, gAndV_ev, gOrV_ev, gNotV_ev, gIsi_ev, gAnd_ev, gOr_ev, gNot_ev, gTru_ev, gT_ev, g2_ev, g1_ev, gIf_ev, gCall_ev, gFn_ev, gTup_ev, gLst_ev, gSl_ev, gCh_ev, gYes_ev, oN_ev, oS_ev, asI_ev, aCons_ev, aNil_ev, vN_ev, kI_ev, kB_ev, kS_ev, kD'_ev, at_succ, at_zero, get_v, get_w, get_b, get_n, Z.R.of_some, Z.R.bind_ok, Z.R.pur_d, fAdd_i, fSub_i, fNeg_i, fLt_i, fLe_i, fGt_i, fGe_i, fEq_i, fNe_i, fInt_i, fInt_b, fAbs_i, fMin2_i, fMax2_i, fLen_l, fLen_t, fLen_r, tst_b, tru_b, tru_i, tru_t, tru_l, tru_r, tru_n, List.length_map, wipeE_cons, wipeE_nil, List.set_cons_succ, List.set_cons_zero, setE_cons, setE_nil, mkS_d, mkS_l, mkTup_nil, mkTup_ev, mkLst_ev, allD_cons, allD_nil, allD_map, Option.map_some, Option.bind_some, if_true, Bool.false_eq_true, if_false, ite_true, ite_false, Bool.not_true, Bool.not_false, decide_true, decide_false, isInt_i, isInt_b, isInt_t, isBl_i, isBl_b, isBl_t, fTuple_ev, fList_ev, dataOf_t, dataOf_l, dataOf_r, lft_ev, Z.RM.of_ok, Z.RM.bind_ok, mCons_ev, mNil_ev, m2_ev, mOf_ev, mT_ev, mTru_ev, mNot_ev, List.cons_append, List.nil_append, stk_len, hd, s1, sComma, e0, decide_eq_true h2]
theorem c4_ok (hl : z.length ≤ 1000000) (hk : okc z = true) (hc : z[i]? = some c) : c4 (p6 z s i fr o4 o5) = .ok (fr && !decide (c = 40)) := by
  have hm := Nat.le_trans hl (show 1000000 ≤ most by decide)
  have e0 := fNe_S (okc_mem hk hc) (show okc [40] = true by decide)
  have i0 := fIx_at (k := (i : Int)) i rfl hm hc
  unfold c4
  cases fr with
  | false => simp only [gPur_ev, gAndV_ev, gOrV_ev, gNotV_ev, gIsi_ev, gAnd_ev, gOr_ev, gNot_ev, gTru_ev, gT_ev, g2_ev, g1_ev, gIf_ev, gCall_ev, gFn_ev, gTup_ev, gLst_ev, gSl_ev, gCh_ev, gYes_ev, oN_ev, oS_ev, asI_ev, aCons_ev, aNil_ev, vN_ev, kI_ev, kB_ev, kS_ev, kD'_ev, at_succ, at_zero, get_v, get_w, get_b, get_n, Z.R.of_some, Z.R.bind_ok, Z.R.pur_d, fAdd_i, fSub_i, fNeg_i, fLt_i, fLe_i, fGt_i, fGe_i, fEq_i, fNe_i, fInt_i, fInt_b, fAbs_i, fMin2_i, fMax2_i, fLen_l, fLen_t, fLen_r, tst_b, tru_b, tru_i, tru_t, tru_l, tru_r, tru_n, List.length_map, wipeE_cons, wipeE_nil, List.set_cons_succ, List.set_cons_zero, setE_cons, setE_nil, mkS_d, mkS_l, mkTup_nil, mkTup_ev, mkLst_ev, allD_cons, allD_nil, allD_map, Option.map_some, Option.bind_some, if_true, Bool.false_eq_true, if_false, ite_true, ite_false, Bool.not_true, Bool.not_false, decide_true, decide_false, isInt_i, isInt_b, isInt_t, isBl_i, isBl_b, isBl_t, fTuple_ev, fList_ev, dataOf_t, dataOf_l, dataOf_r, lft_ev, Z.RM.of_ok, Z.RM.bind_ok, mCons_ev, mNil_ev, m2_ev, mOf_ev, mT_ev, mTru_ev, mNot_ev, List.cons_append, List.nil_append]; rfl
  | true => simp only [gPur_ev, gAndV_ev, gOrV_ev, gNotV_ev, gIsi_ev, gAnd_ev, gOr_ev, gNot_ev, gTru_ev, gT_ev, g2_ev, g1_ev, gIf_ev, gCall_ev, gFn_ev, gTup_ev, gLst_ev, gSl_ev, gCh_ev, gYes_ev, oN_ev, oS_ev, asI_ev, aCons_ev, aNil_ev, vN_ev, kI_ev, kB_ev, kS_ev, kD'_ev, at_succ, at_zero, get_v, get_w, get_b, get_n, Z.R.of_some, Z.R.bind_ok, Z.R.pur_d, fAdd_i, fSub_i, fNeg_i, fLt_i, fLe_i, fGt_i, fGe_i, fEq_i, fNe_i, fInt_i, fInt_b, fAbs_i, fMin2_i, fMax2_i, fLen_l, fLen_t, fLen_r, tst_b, tru_b, tru_i, tru_t, tru_l, tru_r, tru_n, List.length_map, wipeE_cons, wipeE_nil, List.set_cons_succ, List.set_cons_zero, setE_cons, setE_nil, mkS_d, mkS_l, mkTup_nil, mkTup_ev, mkLst_ev, allD_cons, allD_nil, allD_map, Option.map_some, Option.bind_some, if_true, Bool.false_eq_true, if_false, ite_true, ite_false, Bool.not_true, Bool.not_false, decide_true, decide_false, isInt_i, isInt_b, isInt_t, isBl_i, isBl_b, isBl_t, fTuple_ev, fList_ev, dataOf_t, dataOf_l, dataOf_r, lft_ev, Z.RM.of_ok, Z.RM.bind_ok, mCons_ev, mNil_ev, m2_ev, mOf_ev, mT_ev, mTru_ev, mNot_ev, List.cons_append, List.nil_append, i0, e0, sOpen, eq1]; rfl
theorem b1_ok (hs : s.length < 1000) : b1 (p6 z s i fr o4 o5) = .nx (p6 z (s ++ [[]]) (i + 1) fr o4 o5) := by
  unfold b1
  have e : mApp 1 (lft (gLst aNil)) (p6 z s i fr o4 o5) = .ok (.d .non) (p6 z (s ++ [[]]) i fr o4 o5) := by
    unfold mApp
    simp only [own_succ, own_v0]
    rw [show lft (gLst aNil) (p6 z s i fr o4 o5) = .ok (.l []) (p6 z s i fr o4 o5) from rfl, RM.bind_ok]
    simp only [own_succ, own_v0]
    rw [if_pos (by rw [stk_len]; exact Nat.lt_trans hs (by decide))]
    simp only [setO_succ, setO_v0, p6, stk, List.map_append, List.map_cons, List.map_nil]
  rw [fSeq_ev, fExpr_ev, e]; rfl
theorem kid_last (s : List (List D)) (ys : List D) : kidOf ((s ++ [ys]).map fun ds => T.l (ds.map T.d)) (-1) = some (s.length, ys.map T.d) := by
  unfold kidOf ixN
  rw [stk_len, List.length_append, List.length_singleton, if_neg (by decide)]
  have h : -(-1 : Int) ≤ ((s.length + 1 : Nat) : Int) := by omega
  rw [if_pos (by omega)]
  rw [Option.bind_some, show (-1 + ((s.length + 1 : Nat) : Int)).toNat = s.length by omega]
  simp
theorem app_last {ys : List D} {d : D} {g : En → R T} {en : En} (h0 : ownAt en 1 = some (stk (s ++ [ys]))) (hg : g en = .ok (.d d)) (hy : ys.length < 16777216) : mAppIx 1 (g1 fNeg (kI 1)) g en = .ok (.d .non) (setO en 1 (stk (s ++ [ys ++ [d]]))) := by
  unfold mAppIx
  rw [h0]
  simp only [g1_ev, kI_ev, R.bind_ok, fNeg_i, R.of_some, kid_last, hg]
  rw [if_pos (by rw [List.length_map]; exact hy)]
  congr 2
  simp [stk]
theorem b2_ok {ys xs : List D} (hb : NB o4) (hy : ys.length < 16777216) : b2 (p6 z (s ++ [ys, xs]) i fr o4 o5) = .nx (p6 z (s ++ [ys ++ [.tup xs]]) (i + 1) false (.v (.d (.tup xs))) o5) := by
  unfold b2
  have el : ((s ++ [ys, xs]).map fun ds => T.l (ds.map T.d)) = (s.map fun ds => T.l (ds.map T.d)) ++ [T.l (ys.map T.d), T.l (xs.map T.d)] := by rw [List.map_append]; rfl
  have e1 : mOf (rOf fTuple) (mCons (mPop 1) mNil) (p6 z (s ++ [ys, xs]) i fr o4 o5) = .ok (.d (.tup xs)) (p6 z (s ++ [ys]) i fr o4 o5) := by
    have e2 : mPop 1 (p6 z (s ++ [ys, xs]) i fr o4 o5) = .ok (.l (xs.map T.d)) (p6 z (s ++ [ys]) i fr o4 o5) := by
      unfold mPop
      simp only [own_succ, own_v0]
      rw [el]
      have e3 : ((s.map fun ds => T.l (ds.map T.d)) ++ [T.l (ys.map T.d), T.l (xs.map T.d)]).getLast? = some (T.l (xs.map T.d)) := by simp
      rw [e3]
      simp only [setO_succ, setO_v0, stk]
      congr 5
      rw [List.map_append]
      rw [show (s.map fun ds => T.l (ds.map T.d)) ++ [T.l (ys.map T.d), T.l (xs.map T.d)] = ((s.map fun ds => T.l (ds.map T.d)) ++ [T.l (ys.map T.d)]) ++ [T.l (xs.map T.d)] by simp, List.dropLast_concat]
      rfl
    rw [mOf_ev, mCons_ev, e2]
    simp only [RM.bind_ok, mNil_ev]
    show RM.of (R.of (fTuple [.l (xs.map T.d)])) _ = _
    rw [fTuple_ev, dataOf_l, allD_map]; rfl
  rw [fSeq_ev, fSet_ev, e1, RM.s_ok]
  have e2 : stow (p6 z (s ++ [ys]) i fr o4 o5) 4 (.v (.d (.tup xs))) = some (p6 z (s ++ [ys]) i fr (.v (.d (.tup xs))) o5) := by simp only [stow_succ, hb.s, Option.map_some]
  rw [e2, toS_some, sq_nx, fSeq_ev, fExpr_ev, app_last (s := s) (ys := ys) (d := .tup xs) rfl rfl hy, RM.s_ok, sq_nx]
  rfl
theorem b3_ok : b3 (p6 z s i fr o4 o5) = .nx (p6 z s (i + 2) true o4 o5) := rfl
theorem b4_ok {ys : List D} {d : D} {j : Nat} (hb : NB o5) (hy : ys.length < 16777216) (h : F_read_plain [S z, I i] = .ok (.d (.tup [d, .int (j : Nat)]))) : b4 (p6 z (s ++ [ys]) i fr o4 o5) = .nx (p6 z (s ++ [ys ++ [d]]) j false o4 (.v (.d d))) := by
  unfold b4
  have e1 : (fAsg (kTup 2 (kCons (kName 5) (kCons (kName 2) kNil))) (lft (gFn F_read_plain (aCons (vN 0) (aCons (vN 2) aNil))))) (p6 z (s ++ [ys]) i fr o4 o5) = .nx (p6 z (s ++ [ys]) j fr o4 (.v (.d d))) := by
    rw [fAsg_ev, lft_n (x := .d (.tup [d, .int (j : Nat)])) (by simp only [gPur_ev, gAndV_ev, gOrV_ev, gNotV_ev, gIsi_ev, gAnd_ev, gOr_ev, gNot_ev, gTru_ev, gT_ev, g2_ev, g1_ev, gIf_ev, gCall_ev, gFn_ev, gTup_ev, gLst_ev, gSl_ev, gCh_ev, gYes_ev, oN_ev, oS_ev, asI_ev, aCons_ev, aNil_ev, vN_ev, kI_ev, kB_ev, kS_ev, kD'_ev, at_succ, at_zero, get_v, get_w, get_b, get_n, Z.R.of_some, Z.R.bind_ok, Z.R.pur_d, fAdd_i, fSub_i, fNeg_i, fLt_i, fLe_i, fGt_i, fGe_i, fEq_i, fNe_i, fInt_i, fInt_b, fAbs_i, fMin2_i, fMax2_i, fLen_l, fLen_t, fLen_r, tst_b, tru_b, tru_i, tru_t, tru_l, tru_r, tru_n, List.length_map, wipeE_cons, wipeE_nil, List.set_cons_succ, List.set_cons_zero, setE_cons, setE_nil, mkS_d, mkS_l, mkTup_nil, mkTup_ev, mkLst_ev, allD_cons, allD_nil, allD_map, Option.map_some, Option.bind_some, if_true, Bool.false_eq_true, if_false, ite_true, ite_false, Bool.not_true, Bool.not_false, decide_true, decide_false, isInt_i, isInt_b, isInt_t, isBl_i, isBl_b, isBl_t, fTuple_ev, fList_ev, dataOf_t, dataOf_l, dataOf_r, lft_ev, Z.RM.of_ok, Z.RM.bind_ok, mCons_ev, mNil_ev, m2_ev, mOf_ev, mT_ev, mTru_ev, mNot_ev, List.cons_append, List.nil_append]; exact h), RM.s_ok]
    simp only [kTup_ev, List.length_cons, List.length_nil, if_true, kCons_ev, kName_ev, kNil_ev, Option.bind_some, Option.map_some, List.cons_append, List.nil_append, stowD_cons, stowD_nil, stow_succ, stow_v0, hb.s, toS_some]
  rw [fSeq_ev, e1, sq_nx, fSeq_ev, fExpr_ev, app_last (s := s) (ys := ys) (d := d) rfl rfl hy, RM.s_ok, sq_nx]
  rfl
theorem pB_1 (hl : z.length ≤ 1000000) (hk : okc z = true) (hc : z[i]? = some 40) (hs : s.length ≤ 40) : pB (p6 z s i true o4 o5) = .nx (p6 z (s ++ [[]]) (i + 1) true o4 o5) := by
  unfold pB
  rw [fIf_t (by rw [c1_ok hl hk hc, decide_eq_true hs]; rfl), b1_ok (by omega)]
theorem pB_2 {ys xs : List D} (hl : z.length ≤ 1000000) (hk : okc z = true) (hc : z[i]? = some 41) (h2 : fr = false ∨ ∃ j, i = j + 1 ∧ z[j]? = some 40) (hb : NB o4) (hy : ys.length < 16777216) : pB (p6 z (s ++ [ys, xs]) i fr o4 o5) = .nx (p6 z (s ++ [ys ++ [.tup xs]]) (i + 1) false (.v (.d (.tup xs))) o5) := by
  unfold pB
  rw [fIf_f (by rw [c1_ok hl hk hc, decide_eq_false (by decide), Bool.false_and, Bool.and_false]), fIf_t (c2_yes hl hk hc (by simp) h2), b2_ok hb hy]
theorem pB_3 (hl : z.length ≤ 1000000) (hk : okc z = true) (h1 : 1 < s.length) (h2 : (z.drop i).take 2 = [44, 32]) (hc : z[i]? = some 44) : pB (p6 z s i false o4 o5) = .nx (p6 z s (i + 2) true o4 o5) := by
  unfold pB
  rw [fIf_f (by rw [c1_ok hl hk hc]; rfl), fIf_f (c2_no hl hk hc (.inl (by decide))), fIf_t (c3_yes hl hk h1 h2), b3_ok]
theorem pB_4 {ys : List D} {d : D} {j : Nat} (hl : z.length ≤ 1000000) (hk : okc z = true) (hc : z[i]? = some c) (h40 : c ≠ 40) (h41 : c ≠ 41) (hb : NB o5) (hy : ys.length < 16777216) (h : F_read_plain [S z, I i] = .ok (.d (.tup [d, .int (j : Nat)]))) : pB (p6 z (s ++ [ys]) i true o4 o5) = .nx (p6 z (s ++ [ys ++ [d]]) j false o4 (.v (.d d))) := by
  unfold pB
  rw [fIf_f (by rw [c1_ok hl hk hc, decide_eq_false h40]; rfl), fIf_f (c2_no hl hk hc (.inl h41)), fIf_f (c3_no hl hk (.inl rfl)), fIf_t (by rw [c4_ok hl hk hc, decide_eq_false h40]; rfl), b4_ok hb hy h]
theorem pB_x (hl : z.length ≤ 1000000) (hk : okc z = true) (hc : z[i]? = some c) (h2 : c ≠ 41 ∨ s.length ≤ 1) (h3 : s.length ≤ 1 ∨ (z.drop i).take 2 ≠ [44, 32]) : pB (p6 z s i false o4 o5) = .ex bad (p6 z s i false o4 o5) := by
  unfold pB
  rw [fIf_f (by rw [c1_ok hl hk hc]; rfl), fIf_f (c2_no hl hk hc h2), fIf_f (c3_no hl hk (.inr h3)), fIf_f (by rw [c4_ok hl hk hc]; rfl)]
  rfl
end
end K00
namespace K00
open PySem PySem.Spec L2 Z
open PyProof.Rows hiding St
open PySem.NumText
/-! the parser's runs -/
def Go (j : Nat) (a b : En) : Prop := ∀ k, whE (lft pC) pB (k + j) a = whE (lft pC) pB k b
theorem Go.zero (a : En) : Go 0 a a := fun _ => rfl
theorem Go.trans {i j : Nat} {a b c : En} (h1 : Go i a b) (h2 : Go j b c) : Go (j + i) a c := fun k => by rw [← Nat.add_assoc, h1, h2]
theorem Go.one {z : List Nat} {s : List (List D)} {i : Nat} {fr : Bool} {o4 o5 : Sl} {b : En} (hl : z.length ≤ 1000000) (hi : i < z.length) (h : pB (p6 z s i fr o4 o5) = .nx b) : Go 1 (p6 z s i fr o4 o5) b := fun k => whE_nx (lft_n (pC_t hl hi)) h
theorem lt_of_get {z : List Nat} {i c : Nat} (h : z[i]? = some c) : i < z.length := (List.getElem?_eq_some_iff.mp h).1
section
variable {z : List Nat} (hl : z.length ≤ 1000000) (hk : okc z = true)
include hl hk
/-- what is read of one datum -/
def Reads (z : List Nat) (n : Nat) (d : D) : Prop := ∀ (pre post : List Nat) (s : List (List D)) (ys : List D) (o4 o5 : Sl), z = pre ++ (dtx d ++ post) → s.length + n ≤ 40 → ys.length < 1000000 → NB o4 → NB o5 → (∀ c, post[0]? = some c → isG c = false) →
  ∃ j o4' o5', j ≤ (dtx d).length ∧ NB o4' ∧ NB o5' ∧ Go j (p6 z (s ++ [ys]) pre.length true o4 o5) (p6 z (s ++ [ys ++ [d]]) (pre.length + (dtx d).length) false o4' o5')
theorem reads_int {n : Nat} {x : Int} (h : x.natAbs < 10 ^ 200) : Reads z n (.int x) := by
  intro pre post s ys o4 o5 hz hs hy h4 h5 hp
  rw [dtx] at hz
  have hne : 0 < (sI x).length := by
    unfold sI; split
    · simp
    · exact List.length_pos_iff.mpr (dec_ne _)
  have g0 := get_at hz hne
  rw [Nat.add_zero] at g0
  have hG := sI_G x _ (List.getElem_mem hne)
  have hr := plain_int hz hk hl h hp
  refine ⟨1, o4, .v (.d (.int x)), by rw [dtx]; exact hne, h4, NB.v, Go.one hl (lt_of_get g0) ?_⟩
  rw [dtx]
  exact pB_4 hl hk g0 (fun e => by rw [e] at hG; cases hG) (fun e => by rw [e] at hG; cases hG) h5 (Nat.lt_trans hy (by decide)) hr
theorem reads_str {n : Nat} {t : List Nat} (h : t.all okS = true) : Reads z n (.str (tx t)) := by
  intro pre post s ys o4 o5 hz hs hy h4 h5 hp
  have ed : dtx (.str (tx t)) = 39 :: (t ++ [39]) := by rw [dtx, List.toList_toArray]
  rw [ed] at hz ⊢
  have g0 := get_at hz (k := 0) (by simp)
  rw [Nat.add_zero] at g0
  have hr := plain_str hz hk hl h
  have hlen : (39 :: (t ++ [39])).length = t.length + 2 := by simp
  refine ⟨1, o4, .v (S t), by rw [hlen]; omega, h4, NB.v, Go.one hl (lt_of_get g0) ?_⟩
  rw [hlen]
  exact pB_4 hl hk g0 (by show (39 : Nat) ≠ 40; decide) (by show (39 : Nat) ≠ 41; decide) h5 (Nat.lt_trans hy (by decide)) hr
theorem get_pre {pre : List Nat} {c : Nat} {rest : List Nat} (hz : z = pre ++ (c :: rest)) : z[pre.length]? = some c := by
  rw [hz, List.getElem?_append_right (Nat.le_refl _), Nat.sub_self]; rfl
/-- what stands between items -/
theorem reads_items {n : Nat} : ∀ (ds : List D), (∀ d ∈ ds, Reads z n d) → ∀ (pre post : List Nat) (s : List (List D)) (w ys : List D) (o4 o5 : Sl), ds ≠ [] → z = pre ++ (jn [44, 32] (ds.map dtx) ++ (41 :: post)) → s.length + 1 + n ≤ 40 → ys.length + ds.length < 1000000 → NB o4 → NB o5 →
    ∃ j o4' o5', j ≤ (jn [44, 32] (ds.map dtx)).length ∧ NB o4' ∧ NB o5' ∧ Go j (p6 z (s ++ [w, ys]) pre.length true o4 o5) (p6 z (s ++ [w, ys ++ ds]) (pre.length + (jn [44, 32] (ds.map dtx)).length) false o4' o5')
  | [], _, pre, post, s, w, ys, o4, o5, hne, _, _, _, _, _ => absurd rfl hne
  | [d], h, pre, post, s, w, ys, o4, o5, _, hz, hs, hy, h4, h5 => by
    have e1 : jn [44, 32] ([d].map dtx) = dtx d := rfl
    rw [e1] at hz ⊢
    have := h d (List.mem_cons_self ..) pre (41 :: post) (s ++ [w]) ys o4 o5 hz (by rw [List.length_append, List.length_singleton]; exact hs) (by omega) h4 h5 (fun c hc => by injection hc with hc; rw [← hc]; rfl)
    rw [List.append_assoc, List.append_assoc] at this
    exact this
  | d :: e :: r, h, pre, post, s, w, ys, o4, o5, _, hz, hs, hy, h4, h5 => by
    have e1 : jn [44, 32] ((d :: e :: r).map dtx) = dtx d ++ ([44, 32] ++ jn [44, 32] ((e :: r).map dtx)) := by
      show dtx d ++ [44, 32] ++ jn [44, 32] (dtx e :: r.map dtx) = _
      rw [List.append_assoc]; rfl
    rw [e1] at hz ⊢
    have hz1 : z = pre ++ (dtx d ++ (44 :: 32 :: (jn [44, 32] ((e :: r).map dtx) ++ (41 :: post)))) := by rw [hz]; simp
    obtain ⟨j1, a4, a5, hj1, n4, n5, g1⟩ := h d (List.mem_cons_self ..) pre _ (s ++ [w]) ys o4 o5 hz1 (by rw [List.length_append, List.length_singleton]; exact hs) (by simp only [List.length_cons] at hy; omega) h4 h5 (fun c hc => by injection hc with hc; rw [← hc]; rfl)
    rw [List.append_assoc, List.append_assoc] at g1
    have hz2 : z = (pre ++ dtx d) ++ (44 :: 32 :: (jn [44, 32] ((e :: r).map dtx) ++ (41 :: post))) := by rw [hz1]; simp
    have hp2 : (pre ++ dtx d).length = pre.length + (dtx d).length := List.length_append
    have k2 := get_pre hl hk hz2
    rw [hp2] at k2
    have g2 : Go 1 (p6 z (s ++ [w, ys ++ [d]]) (pre.length + (dtx d).length) false a4 a5) (p6 z (s ++ [w, ys ++ [d]]) (pre.length + (dtx d).length + 2) true a4 a5) :=
      Go.one hl (lt_of_get k2) (pB_3 hl hk (by simp) (by rw [← hp2]; conv => lhs; rw [hz2]
                                                         rw [List.drop_left]; rfl) k2)
    have hz3 : z = (pre ++ dtx d ++ [44, 32]) ++ (jn [44, 32] ((e :: r).map dtx) ++ (41 :: post)) := by rw [hz1]; simp
    have hp3 : (pre ++ dtx d ++ [44, 32]).length = pre.length + (dtx d).length + 2 := by rw [List.length_append, hp2]; rfl
    obtain ⟨j3, b4, b5, hj3, m4, m5, g3⟩ := reads_items (e :: r) (fun x m => h x (List.mem_cons_of_mem _ m)) (pre ++ dtx d ++ [44, 32]) post s w (ys ++ [d]) a4 a5 (by simp) hz3 hs (by rw [List.length_append, List.length_singleton]; simp only [List.length_cons] at hy ⊢; omega) n4 n5
    rw [hp3] at g3
    refine ⟨j3 + (1 + j1), b4, b5, ?_, m4, m5, ?_⟩
    · rw [List.length_append, List.length_append]; simp only [List.length_cons, List.length_nil]; omega
    · have g := (g1.trans g2).trans g3
      rw [List.append_assoc ys] at g
      rw [List.length_append, List.length_append, show pre.length + ((dtx d).length + ([44, 32].length + (jn [44, 32] ((e :: r).map dtx)).length)) = pre.length + (dtx d).length + 2 + (jn [44, 32] ((e :: r).map dtx)).length by simp only [List.length_cons, List.length_nil]; omega]
      exact g
theorem reads {n : Nat} {d : D} (h : GD n d) (hw : (dtx d).length ≤ 900000) : Reads z n d := by
  induction h with
  | int h => exact reads_int hl hk h
  | str h => exact reads_str hl hk h
  | @tup n ds h ih =>
    intro pre post s ys o4 o5 hz hs hy h4 h5 hp
    rw [dtx_tup] at hz
    have hcnt := dtx_cnt ds
    have hjn := dtx_jn ds
    have k0 := get_pre hl hk (show z = pre ++ (40 :: (jn [44, 32] (ds.map dtx) ++ [41] ++ post)) by rw [hz]; rfl)
    have g0 : Go 1 (p6 z (s ++ [ys]) pre.length true o4 o5) (p6 z (s ++ [ys] ++ [[]]) (pre.length + 1) true o4 o5) := Go.one hl (lt_of_get k0) (pB_1 hl hk k0 (by rw [List.length_append, List.length_singleton]; omega))
    rw [List.append_assoc] at g0
    have hz1 : z = (pre ++ [40]) ++ (jn [44, 32] (ds.map dtx) ++ (41 :: post)) := by rw [hz]; simp
    have hp1 : (pre ++ [40]).length = pre.length + 1 := by simp
    have hz2 : z = (pre ++ [40] ++ jn [44, 32] (ds.map dtx)) ++ (41 :: post) := by rw [hz]; simp
    have k2 := get_pre hl hk hz2
    have hp2 : (pre ++ [40] ++ jn [44, 32] (ds.map dtx)).length = pre.length + 1 + (jn [44, 32] (ds.map dtx)).length := by rw [List.length_append, hp1]
    rw [hp2] at k2
    by_cases hd : ds = []
    · subst hd
      have e2 : jn [44, 32] (([] : List D).map dtx) = [] := rfl
      rw [e2, List.length_nil, Nat.add_zero] at k2
      have g2 : Go 1 (p6 z (s ++ [ys, []]) (pre.length + 1) true o4 o5) (p6 z (s ++ [ys ++ [.tup []]]) (pre.length + 1 + 1) false (.v (.d (.tup []))) o5) :=
        Go.one hl (lt_of_get k2) (pB_2 hl hk k2 (.inr ⟨pre.length, rfl, k0⟩) h4 (Nat.lt_trans hy (by decide)))
      refine ⟨1 + 1, .v (.d (.tup [])), o5, by rw [dtx_tup]; simp, NB.v, h5, ?_⟩
      have g := g0.trans g2
      rw [show pre.length + (dtx (.tup [])).length = pre.length + 1 + 1 by rw [dtx_tup]; rfl]
      exact g
    · obtain ⟨j, a4, a5, hj, n4, n5, g1⟩ := reads_items hl hk ds (fun d m => ih d m (Nat.le_trans (dtx_mem m) hw)) (pre ++ [40]) post s ys [] o4 o5 hd hz1 (by omega) (by rw [List.length_nil]; omega) h4 h5
      rw [hp1, List.nil_append] at g1
      have g2 : Go 1 (p6 z (s ++ [ys, ds]) (pre.length + 1 + (jn [44, 32] (ds.map dtx)).length) false a4 a5) (p6 z (s ++ [ys ++ [.tup ds]]) (pre.length + 1 + (jn [44, 32] (ds.map dtx)).length + 1) false (.v (.d (.tup ds))) a5) :=
        Go.one hl (lt_of_get k2) (pB_2 hl hk k2 (.inl rfl) n4 (Nat.lt_trans hy (by decide)))
      refine ⟨1 + (j + 1), .v (.d (.tup ds)), a5, by omega, NB.v, n5, ?_⟩
      have g := (g0.trans g1).trans g2
      rw [show pre.length + (dtx (.tup ds)).length = pre.length + 1 + (jn [44, 32] (ds.map dtx)).length + 1 by omega]
      exact g
end
/-! read_data of texts -/
theorem start_seq {z : List Nat} {b : En → SR} {P : SR → Prop} (h : P ((fSeq (fWh mu_read_data_0 (lft pC) pB) pE) (p6 z [[]] 0 true .n .n))) : P (d_read_data [.v (S z), .n, .n, .n, .n, .n]) := by
  rw [d_data_eq]
  exact h
theorem data_run {z : List Nat} {j : Nat} {b : En} (hj : j ≤ 99000) (g : Go j (p6 z [[]] 0 true .n .n) b) : ∃ k, 0 < k ∧ fWh mu_read_data_0 (lft pC) pB (p6 z [[]] 0 true .n .n) = whE (lft pC) pB k b := by
  refine ⟨100000 - j, by omega, ?_⟩
  rw [fWh_ev]
  have := g (100000 - j)
  rw [show 100000 - j + j = 100000 by omega] at this
  exact this
theorem data_end {z : List Nat} {s : List (List D)} {i : Nat} {fr : Bool} {o4 o5 : Sl} {k : Nat} (hl : z.length ≤ 1000000) (hi : z.length ≤ i) (hk : 0 < k) : whE (lft pC) pB k (p6 z s i fr o4 o5) = .nx (p6 z s i fr o4 o5) := by
  obtain ⟨k, rfl⟩ : ∃ k', k = k' + 1 := ⟨k - 1, by omega⟩
  exact whE_f (lft_n (pC_f hl hi))
theorem read_data_ok {n : Nat} {d : D} (h : GD n d) (hn : n ≤ 40) (hw : (dtx d).length ≤ 90000) (hk : okc (dtx d) = true) : F_read_data [S (dtx d)] = .ok (.d d) := by
  refine runP_ret rfl ?_
  show ∃ e, d_read_data [.v (S (dtx d)), .n, .n, .n, .n, .n] = _
  have hl : (dtx d).length ≤ 1000000 := by omega
  obtain ⟨j, a4, a5, hj, n4, n5, g⟩ := reads hl hk h (by omega) [] [] [] [] .n .n (by simp) (by simpa using hn) (by decide) NB.n NB.n (fun c hc => by cases hc)
  obtain ⟨k, hk0, e1⟩ := data_run (by omega) g
  rw [List.length_nil, Nat.zero_add, data_end hl (Nat.le_refl _) hk0] at e1
  refine ⟨p6 (dtx d) [[d]] (dtx d).length false a4 a5, ?_⟩
  refine start_seq (b := pB) (P := fun r => r = _) ?_
  rw [fSeq_ev, e1, sq_nx]
  rfl
/-- more than one list is open at the end, or more stands behind -/
theorem read_data_bad {z : List Nat} {j : Nat} {b en : En} (hj : j ≤ 99000) (g : Go j (p6 z [[]] 0 true .n .n) b) (h : ∀ k, 0 < k → whE (lft pC) pB k b = .ex bad en) : F_read_data [S z] = .ex bad := by
  refine runP_ex rfl ?_
  show ∃ e, d_read_data [.v (S z), .n, .n, .n, .n, .n] = _
  obtain ⟨k, hk0, e1⟩ := data_run hj g
  rw [h k hk0] at e1
  refine ⟨en, ?_⟩
  refine start_seq (b := pB) (P := fun r => r = _) ?_
  rw [fSeq_ev, e1]; rfl
theorem read_data_open {z : List Nat} {j : Nat} {s : List (List D)} {i : Nat} {fr : Bool} {o4 o5 : Sl} (hl : z.length ≤ 1000000) (hj : j ≤ 99000) (g : Go j (p6 z [[]] 0 true .n .n) (p6 z s i fr o4 o5)) (hi : z.length ≤ i) (hs : s.length ≠ 1) : F_read_data [S z] = .ex bad := by
  refine runP_ex rfl ?_
  show ∃ e, d_read_data [.v (S z), .n, .n, .n, .n, .n] = _
  obtain ⟨k, hk0, e1⟩ := data_run hj g
  rw [data_end hl hi hk0] at e1
  refine ⟨p6 z s i fr o4 o5, ?_⟩
  refine start_seq (b := pB) (P := fun r => r = _) ?_
  rw [fSeq_ev, e1, sq_nx]
  unfold pE
  rw [fSeq_ev, fIf_t (by
    simp only [gPur_ev, gAndV_ev, gOrV_ev, gNotV_ev, gIsi_ev, gAnd_ev, gOr_ev, gNot_ev, gTru_ev, gT_ev, g2_ev, g1_ev, gIf_ev, gCall_ev, gFn_ev, gTup_ev, gLst_ev, gSl_ev, gCh_ev, gYes_ev, oN_ev, oS_ev, asI_ev, aCons_ev, aNil_ev, vN_ev, kI_ev, kB_ev, kS_ev, kD'_ev, at_succ, at_zero, get_v, get_w, get_b, get_n, Z.R.of_some, Z.R.bind_ok, Z.R.pur_d, fAdd_i, fSub_i, fNeg_i, fLt_i, fLe_i, fGt_i, fGe_i, fEq_i, fNe_i, fInt_i, fInt_b, fAbs_i, fMin2_i, fMax2_i, fLen_l, fLen_t, fLen_r, tst_b, tru_b, tru_i, tru_t, tru_l, tru_r, tru_n, List.length_map, wipeE_cons, wipeE_nil, List.set_cons_succ, List.set_cons_zero, setE_cons, setE_nil, mkS_d, mkS_l, mkTup_nil, mkTup_ev, mkLst_ev, allD_cons, allD_nil, allD_map, Option.map_some, Option.bind_some, if_true, Bool.false_eq_true, if_false, ite_true, ite_false, Bool.not_true, Bool.not_false, decide_true, decide_false, isInt_i, isInt_b, isInt_t, isBl_i, isBl_b, isBl_t, fTuple_ev, fList_ev, dataOf_t, dataOf_l, dataOf_r, lft_ev, Z.RM.of_ok, Z.RM.bind_ok, mCons_ev, mNil_ev, m2_ev, mOf_ev, mT_ev, mTru_ev, mNot_ev, List.cons_append, List.nil_append, stk_len]
    rw [decide_eq_false (by omega)]; rfl)]
  rfl
end K00
namespace K00
open PySem PySem.Spec L2 Z
open PyProof.Rows hiding St
open PySem.NumText
/-! the law's draws -/
theorem draw_eq : F__law_draw = F_draw := rfl
theorem oneof_eq : F__law_one_of = F_oneof := rfl
section
variable {ns : List Int} (hl : ns.length ≤ 63)
include hl
theorem draw_b {en : En} {i : Nat} {s : T} {m : Int} {g : En → RM T} (h0 : ownAt en i = some s) (hs : Stt ns s) (hg : g en = .ok (I m) en) (h1 : 0 < m) (h2 : m.natAbs.log2 < 9000) : ∃ v s', Rg m v ∧ mCallM i F_draw (hO g hNil) en = .ok (I v) (setO en i s') ∧ Stt ns s' := by
  obtain ⟨v, s', v0, v1, e, hs'⟩ := draw_lg hl hs h1 h2
  refine ⟨v, s', ⟨v0, v1⟩, ?_, hs'⟩
  exact callM (hs := [.o (I m)]) (x0 := s) (en1 := en) (x1 := s) (xs := [I m]) h0 (by rw [hO_ev, hg, RM.bind_ok, hNil_ev]; rfl) h0 rfl e
theorem long_ok {s : T} (hs : Stt ns s) {m : Nat} (h1 : 1 ≤ m) (hm : m ≤ 30) : ∃ z s', F__law_long_number s [I m] = .ok (I z) s' ∧ Stt ns s' ∧ z.natAbs < 10 ^ (18 * m) := by
  have start : startM 4 s [I m] = [.b s, .v (I m), .n, .n] := rfl
  obtain ⟨v, s1, hv, e1, hs1⟩ := draw_b hl (en := [.b s, .v (I m), .n, .n]) (i := 0) (g := lft (g2 fPow (kI 10) (kI 18))) rfl hs (lft_n (by simp only [gPur_ev, gAndV_ev, gOrV_ev, gNotV_ev, gIsi_ev, gAnd_ev, gOr_ev, gNot_ev, gTru_ev, gT_ev, g2_ev, g1_ev, gIf_ev, gCall_ev, gFn_ev, gTup_ev, gLst_ev, gSl_ev, gCh_ev, gYes_ev, oN_ev, oS_ev, asI_ev, aCons_ev, aNil_ev, vN_ev, kI_ev, kB_ev, kS_ev, kD'_ev, at_succ, at_zero, get_v, get_w, get_b, get_n, Z.R.of_some, Z.R.bind_ok, Z.R.pur_d, fAdd_i, fSub_i, fNeg_i, fLt_i, fLe_i, fGt_i, fGe_i, fEq_i, fNe_i, fInt_i, fInt_b, fAbs_i, fMin2_i, fMax2_i, fLen_l, fLen_t, fLen_r, tst_b, tru_b, tru_i, tru_t, tru_l, tru_r, tru_n, List.length_map, wipeE_cons, wipeE_nil, List.set_cons_succ, List.set_cons_zero, setE_cons, setE_nil, mkS_d, mkS_l, mkTup_nil, mkTup_ev, mkLst_ev, allD_cons, allD_nil, allD_map, Option.map_some, Option.bind_some, if_true, Bool.false_eq_true, if_false, ite_true, ite_false, Bool.not_true, Bool.not_false, decide_true, decide_false, isInt_i, isInt_b, isInt_t, isBl_i, isBl_b, isBl_t, fTuple_ev, fList_ev, dataOf_t, dataOf_l, dataOf_r, lft_ev, Z.RM.of_ok, Z.RM.bind_ok, mCons_ev, mNil_ev, m2_ev, mOf_ev, mT_ev, mTru_ev, mNot_ev, List.cons_append, List.nil_append, pow18])) (by decide) log18
  obtain ⟨t, s2, ht, e2, hs2⟩ := draw_n hl (en := [.b s1, .v (I m), .v (I v), .n]) (i := 0) (j := 1) (m := (m : Int)) rfl hs1 rfl (by decide) (by omega) (by omega)
  have hvn : v = (v.toNat : Int) := by have := hv.1; omega
  obtain ⟨en', e3, i3, n, s3, o3, hs3, hb3, hn3, rfl⟩ := for_ix (v := 3) (mi := mR1 (mCallM 0 F__law_draw (hN 1 hNil))) (f := (fSet 2 (m2 fAdd (lft (g2 fMul (vN 2) (g2 fPow (kI 10) (kI 18)))) (mCallM 0 F__law_draw (hO (lft (g2 fPow (kI 10) (kI 18))) hNil)))))
    (xs := rng 0 1 t.toNat) (fun (i : Nat) en => ∃ (_ : i ≤ t.toNat) (n : Nat) (s' : T) (o3 : Sl), Stt ns s' ∧ NB o3 ∧ n < 10 ^ (18 * (i + 1)) ∧ en = [.b s', .v (I m), .v (I n), o3]) [.b s1, .v (I m), .v (I v), .n] (by
      rw [mR1_ev, draw_eq, e2, RM.bind_ok, fR1_n (by have := ht.1; omega) (by have := ht.2; omega)]; rfl) ⟨Nat.zero_le _, v.toNat, s2, .n, hs2, NB.n, by
        have := hv.2
        rw [show 18 * (0 + 1) = 18 by decide, ten18]; omega, by
        simp only [setO_b0]; rw [← hvn]⟩ (fun i hi en ⟨hit, n, s', o3, hs', hb, hn, e⟩ => by
      subst e
      obtain ⟨w, s4, hw, e4, hs4⟩ := draw_b hl (en := [.b s', .v (I m), .v (I n), mkS (rng 0 1 t.toNat)[i]]) (i := 0) (g := lft (g2 fPow (kI 10) (kI 18))) rfl hs' (lft_n (by simp only [gPur_ev, gAndV_ev, gOrV_ev, gNotV_ev, gIsi_ev, gAnd_ev, gOr_ev, gNot_ev, gTru_ev, gT_ev, g2_ev, g1_ev, gIf_ev, gCall_ev, gFn_ev, gTup_ev, gLst_ev, gSl_ev, gCh_ev, gYes_ev, oN_ev, oS_ev, asI_ev, aCons_ev, aNil_ev, vN_ev, kI_ev, kB_ev, kS_ev, kD'_ev, at_succ, at_zero, get_v, get_w, get_b, get_n, Z.R.of_some, Z.R.bind_ok, Z.R.pur_d, fAdd_i, fSub_i, fNeg_i, fLt_i, fLe_i, fGt_i, fGe_i, fEq_i, fNe_i, fInt_i, fInt_b, fAbs_i, fMin2_i, fMax2_i, fLen_l, fLen_t, fLen_r, tst_b, tru_b, tru_i, tru_t, tru_l, tru_r, tru_n, List.length_map, wipeE_cons, wipeE_nil, List.set_cons_succ, List.set_cons_zero, setE_cons, setE_nil, mkS_d, mkS_l, mkTup_nil, mkTup_ev, mkLst_ev, allD_cons, allD_nil, allD_map, Option.map_some, Option.bind_some, if_true, Bool.false_eq_true, if_false, ite_true, ite_false, Bool.not_true, Bool.not_false, decide_true, decide_false, isInt_i, isInt_b, isInt_t, isBl_i, isBl_b, isBl_t, fTuple_ev, fList_ev, dataOf_t, dataOf_l, dataOf_r, lft_ev, Z.RM.of_ok, Z.RM.bind_ok, mCons_ev, mNil_ev, m2_ev, mOf_ev, mT_ev, mTru_ev, mNot_ev, List.cons_append, List.nil_append, pow18])) (by decide) log18
      rw [rng_len] at hi
      refine ⟨[.b s', .v (I m), .v (I n), mkS (rng 0 1 t.toNat)[i]], [.b s4, .v (I m), .v (I (n * 1000000000000000000 + w.toNat : Nat)), mkS (rng 0 1 t.toNat)[i]], by simp only [stow_succ, hb.s, Option.map_some], .inl ?_, by omega, n * 1000000000000000000 + w.toNat, s4, _, hs4, ?_, ?_, rfl⟩
      · rw [fSet_ev, m2_ev, lft_n (x := I ((n : Int) * 1000000000000000000)) (by simp only [gPur_ev, gAndV_ev, gOrV_ev, gNotV_ev, gIsi_ev, gAnd_ev, gOr_ev, gNot_ev, gTru_ev, gT_ev, g2_ev, g1_ev, gIf_ev, gCall_ev, gFn_ev, gTup_ev, gLst_ev, gSl_ev, gCh_ev, gYes_ev, oN_ev, oS_ev, asI_ev, aCons_ev, aNil_ev, vN_ev, kI_ev, kB_ev, kS_ev, kD'_ev, at_succ, at_zero, get_v, get_w, get_b, get_n, Z.R.of_some, Z.R.bind_ok, Z.R.pur_d, fAdd_i, fSub_i, fNeg_i, fLt_i, fLe_i, fGt_i, fGe_i, fEq_i, fNe_i, fInt_i, fInt_b, fAbs_i, fMin2_i, fMax2_i, fLen_l, fLen_t, fLen_r, tst_b, tru_b, tru_i, tru_t, tru_l, tru_r, tru_n, List.length_map, wipeE_cons, wipeE_nil, List.set_cons_succ, List.set_cons_zero, setE_cons, setE_nil, mkS_d, mkS_l, mkTup_nil, mkTup_ev, mkLst_ev, allD_cons, allD_nil, allD_map, Option.map_some, Option.bind_some, if_true, Bool.false_eq_true, if_false, ite_true, ite_false, Bool.not_true, Bool.not_false, decide_true, decide_false, isInt_i, isInt_b, isInt_t, isBl_i, isBl_b, isBl_t, fTuple_ev, fList_ev, dataOf_t, dataOf_l, dataOf_r, lft_ev, Z.RM.of_ok, Z.RM.bind_ok, mCons_ev, mNil_ev, m2_ev, mOf_ev, mT_ev, mTru_ev, mNot_ev, List.cons_append, List.nil_append, pow18, fMul_i]; rw [if_pos (mulOk18 _), R.of_some]), RM.bind_ok, draw_eq, e4, RM.bind_ok]
        have hwn : w = (w.toNat : Int) := by have := hw.1; omega
        simp only [fAdd_i, R.of_some, RM.of_ok, RM.s_ok, setO_b0, stow_succ, stow_v0, Option.map_some, toS_some]
        rw [show (n : Int) * 1000000000000000000 + w = ((n * 1000000000000000000 + w.toNat : Nat) : Int) by omega]
      · rw [rng_at (by rw [rng_len]; exact hi)]; exact NB.v
      · have hw2 := hw.2
        have hw1 := hw.1
        rw [show 18 * (i + 1 + 1) = 18 * (i + 1) + 18 by omega, Nat.pow_add, ten18]
        have : (n + 1) * 1000000000000000000 ≤ 10 ^ (18 * (i + 1)) * 1000000000000000000 := Nat.mul_le_mul_right _ hn
        omega)
  rw [rng_len] at hn3
  obtain ⟨u, s5, hu, e5, hs5⟩ := draw_b hl (en := [.b s3, .v (I m), .v (I n), o3]) (i := 0) (m := 2) (g := lft (kI 2)) rfl hs3 rfl (by decide) (by decide)
  have hz : ∃ z : Int, (z = (n : Int) ∨ z = -(n : Int)) ∧ (m2 fMul (lft (gPur (vN 2))) (mIx (lft (gLst (aCons (kI 1) (aCons (g1 fNeg (kI 1)) aNil)))) (mCallM 0 F__law_draw (hO (lft (kI 2)) hNil)))) [.b s3, .v (I m), .v (I n), o3] = .ok (I z) [.b s5, .v (I m), .v (I n), o3] := by
    have hlist : lft (gLst (aCons (kI 1) (aCons (g1 fNeg (kI 1)) aNil))) [.b s3, .v (I m), .v (I n), o3] = .ok (.l [I 1, I (-1)]) [.b s3, .v (I m), .v (I n), o3] := rfl
    have hcase : u = 0 ∨ u = 1 := by have := hu.1; have := hu.2; omega
    rcases hcase with rfl | rfl
    · refine ⟨n, .inl rfl, ?_⟩
      rw [m2_ev, lft_n (x := I n) rfl, RM.bind_ok]
      unfold mIx
      rw [hlist, RM.bind_ok, draw_eq, e5, RM.bind_ok]
      show RM.bind (RM.of (R.of (some (I 1))).pur _) _ = _
      rw [R.of_some, R.pur_d, RM.of_ok, RM.bind_ok, fMul_i, if_pos (.r (by decide)), Int.mul_one]; rfl
    · refine ⟨-n, .inr rfl, ?_⟩
      rw [m2_ev, lft_n (x := I n) rfl, RM.bind_ok]
      unfold mIx
      rw [hlist, RM.bind_ok, draw_eq, e5, RM.bind_ok]
      show RM.bind (RM.of (R.of (some (I (-1)))).pur _) _ = _
      rw [R.of_some, R.pur_d, RM.of_ok, RM.bind_ok, fMul_i, if_pos (.r (by decide)), show (n : Int) * -1 = -(n : Int) by omega]; rfl
  obtain ⟨z, hzn, e6⟩ := hz
  refine ⟨z, s5, runM_ret rfl ⟨[.v (I m), .v (I n), o3], ?_⟩, hs5, ?_⟩
  · rw [start]
    unfold d__law_long_number
    rw [fSeq_ev, fSet_ev, draw_eq, e1, RM.s_ok]
    show (((fSeq _ _) [.b s1, .v (I m), .v (I v), .n])) = _
    rw [fSeq_ev, ← draw_eq, e3, sq_nx, fRet_ev, e6]; rfl
  · have : z.natAbs = n := by omega
    rw [this]
    refine Nat.lt_of_lt_of_le hn3 (Nat.pow_le_pow_right (by decide) ?_)
    have := ht.2
    omega
end
/-! data, drawn -/
def lenB : Nat → Nat
  | 0 => 210
  | n + 1 => 3 * lenB n + 10
theorem lenB_ge : ∀ n, 210 ≤ lenB n
  | 0 => Nat.le_refl _
  | n + 1 => by have := lenB_ge n; unfold lenB; omega
structure DD (n : Nat) (x : D) : Prop where
  gd : GD n x
  len : (dtx x).length ≤ lenB n
theorem DD.int {n : Nat} {z : Int} (h : z.natAbs < 10 ^ 200) : DD n (.int z) := ⟨.int h, by
  have := sI_len h (by decide)
  have := lenB_ge n
  rw [dtx]; omega⟩
theorem DD.str {n : Nat} {t : List Nat} (h : t.all okS = true) (hl : t.length ≤ 100) : DD n (.str (tx t)) := ⟨.str h, by
  have := lenB_ge n
  rw [dtx, List.toList_toArray, List.length_cons, List.length_append, List.length_singleton]; omega⟩
theorem sum_bound {B : Nat} : ∀ {xs : List Nat}, (∀ x ∈ xs, x ≤ B) → xs.sum ≤ xs.length * B
  | [], _ => by simp
  | a :: r, h => by
    have := sum_bound (B := B) (xs := r) fun x m => h x (List.mem_cons_of_mem _ m)
    have := h a (List.mem_cons_self ..)
    rw [List.sum_cons, List.length_cons, Nat.succ_mul]; omega
theorem DD.tup {n : Nat} {xs : List D} (h : ∀ x ∈ xs, DD n x) (hl : xs.length ≤ 3) : DD (n + 1) (.tup xs) := ⟨.tup fun d m => (h d m).gd, by
  have e := dtx_jn xs
  have hb : ((xs.map dtx).map List.length).sum ≤ 3 * lenB n := by
    have := sum_bound (B := lenB n) (xs := (xs.map dtx).map List.length) fun y m => by
      obtain ⟨w, hw, rfl⟩ := List.mem_map.mp m
      obtain ⟨x, hx, rfl⟩ := List.mem_map.mp hw
      exact (h x hx).len
    rw [List.length_map, List.length_map] at this
    exact Nat.le_trans this (Nat.mul_le_mul_right _ hl)
  show _ ≤ 3 * lenB n + 10
  cases xs with
  | nil => rw [dtx_tup]; simp [jn]
  | cons a r =>
    rw [List.map_cons, jn_len, ← List.map_cons] at e
    rw [List.length_map] at e
    simp only [List.length_cons, List.length_nil] at e hl
    omega⟩
theorem data_of {P : D → Prop} : ∀ {ys : List T}, (∀ y ∈ ys, ∃ z, y = .d z ∧ P z) → ∃ zs : List D, ys = zs.map T.d ∧ ∀ z ∈ zs, P z
  | [], _ => ⟨[], rfl, fun _ m => absurd m List.not_mem_nil⟩
  | y :: ys, h => by
    obtain ⟨z, rfl, hz⟩ := h y (List.mem_cons_self ..)
    obtain ⟨zs, rfl, hs⟩ := data_of (ys := ys) fun y m => h y (List.mem_cons_of_mem _ m)
    exact ⟨z :: zs, rfl, fun w m => by
      rcases List.mem_cons.mp m with e | m
      · rw [e]; exact hz
      · exact hs w m⟩
def sixT : List (List Nat) := [[], [97, 32, 98], [40, 49, 44, 32, 50, 41], [48], [120, 35, 121, 44, 32, 122], [45]]
theorem six1 : Str.ofString "a b" = tx [97, 32, 98] := by decide +kernel
theorem six2 : Str.ofString "(1, 2)" = tx [40, 49, 44, 32, 50, 41] := by decide +kernel
theorem six4 : Str.ofString "x#y, z" = tx [120, 35, 121, 44, 32, 122] := by decide +kernel
section
variable {ns : List Int} (hl : ns.length ≤ 63)
include hl
theorem datum_body {Fr : T → List T → RF} {d : Nat} (hd : d < 1000) (hrec : 0 < d → ∀ {s : T}, Stt ns s → ∃ x s', Fr s [I ((d : Int) - 1)] = .ok (.d x) s' ∧ Stt ns s' ∧ DD (d - 1) x) {s : T} (hs : Stt ns s) :
    ∃ x s', runM 4 2 (d__law_some_datum Fr) s [I d] = .ok (.d x) s' ∧ Stt ns s' ∧ DD d x := by
  have start : startM 4 s [I d] = [.b s, .v (I d), .n, .n] := rfl
  obtain ⟨p, s1, hp, e1, hs1⟩ := draw_b hl (en := [.b s, .v (I d), .n, .n]) (i := 0) (m := 7) (g := lft (kI 7)) rfl hs rfl (by decide) (by decide)
  suffices h : ∃ x s', (∃ e, (fSeq (fIf (lft (gOr (gT (g2 fLt (vN 2) (kI 2))) (gAnd (gT (g2 fEq (vN 1) (kI 0))) (gT (g2 fGt (vN 2) (kI 3)))))) (fRet (mIx (mOf mkLst (mCons (m2 fSub (mCallM 0 F__law_draw (hO (lft (kI 21)) hNil)) (lft (kI 10))) (mCons (mCallM 0 F__law_long_number (hO (lft (kI 6)) hNil)) mNil))) (mCallM 0 F__law_draw (hO (lft (kI 2)) hNil)))) fNil)
  (fSeq (fIf (lft (gT (g2 fLt (vN 2) (kI 4)))) (fRet (mIx (lft (gLst (aCons (kS (Str.ofString "")) (aCons (kS (Str.ofString "a b")) (aCons (kS (Str.ofString "(1, 2)")) (aCons (kS (Str.ofString "0")) (aCons (kS (Str.ofString "x#y, z")) (aCons (kS (Str.ofString "-")) aNil)))))))) (mCallM 0 F__law_draw (hO (lft (kI 6)) hNil)))) fNil)
  (fRet (mOf (rOf fTuple) (mCons (mLc [3] (mR1 (mCallM 0 F__law_draw (hO (lft (kI 4)) hNil))) (kName 3) gYes (mCallM 0 Fr (hO (lft (g2 fSub (vN 1) (kI 1))) hNil))) mNil))))) [.b s1, .v (I d), .v (I p), .n] = .ret (.d x) (.b s' :: e)) ∧ Stt ns s' ∧ DD d x by
    obtain ⟨x, s', ⟨e, h⟩, h2, h3⟩ := h
    refine ⟨x, s', runM_ret rfl ⟨e, ?_⟩, h2, h3⟩
    rw [start]
    unfold d__law_some_datum
    rw [fSeq_ev, fSet_ev, draw_eq, e1, RM.s_ok]
    exact h
  by_cases hA : p < 2 ∨ (d = 0 ∧ 3 < p)
  · obtain ⟨v, s2, hv, e2, hs2⟩ := draw_b hl (en := [.b s1, .v (I d), .v (I p), .n]) (i := 0) (m := 21) (g := lft (kI 21)) rfl hs1 rfl (by decide) (by decide)
    obtain ⟨z, s3, e3, hs3, hz⟩ := long_ok hl hs2 (m := 6) (by decide) (by decide)
    have e3' : mCallM 0 F__law_long_number (hO (lft (kI 6)) hNil) [.b s2, .v (I d), .v (I p), .n] = .ok (I z) [.b s3, .v (I d), .v (I p), .n] := callM (hs := [.o (I 6)]) (x0 := s2) (en1 := [.b s2, .v (I d), .v (I p), .n]) (x1 := s2) (xs := [I 6]) rfl rfl rfl rfl e3
    obtain ⟨u, s4, hu, e4, hs4⟩ := draw_b hl (en := [.b s3, .v (I d), .v (I p), .n]) (i := 0) (m := 2) (g := lft (kI 2)) rfl hs3 rfl (by decide) (by decide)
    have el : mOf mkLst (mCons (m2 fSub (mCallM 0 F__law_draw (hO (lft (kI 21)) hNil)) (lft (kI 10))) (mCons (mCallM 0 F__law_long_number (hO (lft (kI 6)) hNil)) mNil)) [.b s1, .v (I d), .v (I p), .n] = .ok (.l [I (v - 10), I z]) [.b s3, .v (I d), .v (I p), .n] := by
      rw [mOf_ev, mCons_ev, m2_ev, draw_eq, e2, RM.bind_ok]
      show ((RM.bind (RM.bind (RM.ok (I 10) [.b s2, .v (I d), .v (I p), .n]) _) _).bind _) = _
      rw [RM.bind_ok, fSub_i, R.of_some, RM.of_ok, RM.bind_ok, mCons_ev, e3', RM.bind_ok, mNil_ev, RM.bind_ok, RM.bind_ok, RM.bind_ok]
      rfl
    have hc : u = 0 ∨ u = 1 := by have := hu.1; have := hu.2; omega
    have hx : ∃ x : Int, (x = v - 10 ∨ x = z) ∧ (mIx (mOf mkLst (mCons (m2 fSub (mCallM 0 F__law_draw (hO (lft (kI 21)) hNil)) (lft (kI 10))) (mCons (mCallM 0 F__law_long_number (hO (lft (kI 6)) hNil)) mNil))) (mCallM 0 F__law_draw (hO (lft (kI 2)) hNil))) [.b s1, .v (I d), .v (I p), .n] = .ok (I x) [.b s4, .v (I d), .v (I p), .n] := by
      unfold mIx
      rw [el, RM.bind_ok, draw_eq, e4, RM.bind_ok]
      rcases hc with rfl | rfl
      · exact ⟨_, .inl rfl, rfl⟩
      · exact ⟨_, .inr rfl, rfl⟩
    obtain ⟨x, hx, e5⟩ := hx
    refine ⟨.int x, s4, ⟨[.v (I d), .v (I p), .n], ?_⟩, hs4, DD.int ?_⟩
    · rw [fSeq_ev, fIf_t (by
        simp only [gPur_ev, gAndV_ev, gOrV_ev, gNotV_ev, gIsi_ev, gAnd_ev, gOr_ev, gNot_ev, gTru_ev, gT_ev, g2_ev, g1_ev, gIf_ev, gCall_ev, gFn_ev, gTup_ev, gLst_ev, gSl_ev, gCh_ev, gYes_ev, oN_ev, oS_ev, asI_ev, aCons_ev, aNil_ev, vN_ev, kI_ev, kB_ev, kS_ev, kD'_ev, at_succ, at_zero, get_v, get_w, get_b, get_n, Z.R.of_some, Z.R.bind_ok, Z.R.pur_d, fAdd_i, fSub_i, fNeg_i, fLt_i, fLe_i, fGt_i, fGe_i, fEq_i, fNe_i, fInt_i, fInt_b, fAbs_i, fMin2_i, fMax2_i, fLen_l, fLen_t, fLen_r, tst_b, tru_b, tru_i, tru_t, tru_l, tru_r, tru_n, List.length_map, wipeE_cons, wipeE_nil, List.set_cons_succ, List.set_cons_zero, setE_cons, setE_nil, mkS_d, mkS_l, mkTup_nil, mkTup_ev, mkLst_ev, allD_cons, allD_nil, allD_map, Option.map_some, Option.bind_some, if_true, Bool.false_eq_true, if_false, ite_true, ite_false, Bool.not_true, Bool.not_false, decide_true, decide_false, isInt_i, isInt_b, isInt_t, isBl_i, isBl_b, isBl_t, fTuple_ev, fList_ev, dataOf_t, dataOf_l, dataOf_r, lft_ev, Z.RM.of_ok, Z.RM.bind_ok, mCons_ev, mNil_ev, m2_ev, mOf_ev, mT_ev, mTru_ev, mNot_ev, List.cons_append, List.nil_append]
        by_cases h : p < 2
        · rw [decide_eq_true h]; rfl
        · obtain ⟨h1, h2⟩ := hA.resolve_left h
          rw [decide_eq_false h, decide_eq_true (show (d : Int) = 0 by omega), decide_eq_true h2]; rfl), fRet_ev, e5]
      rfl
    · rcases hx with rfl | rfl
      · have := hv.1; have := hv.2
        have : (v - 10).natAbs < 10 ^ 2 := by omega
        exact Nat.lt_of_lt_of_le this (Nat.pow_le_pow_right (by decide) (by decide))
      · exact Nat.lt_of_lt_of_le hz (Nat.pow_le_pow_right (by decide) (by decide))
  · have hA' : lft (gOr (gT (g2 fLt (vN 2) (kI 2))) (gAnd (gT (g2 fEq (vN 1) (kI 0))) (gT (g2 fGt (vN 2) (kI 3))))) [.b s1, .v (I d), .v (I p), .n] = .ok false [.b s1, .v (I d), .v (I p), .n] := lft_n (by
      simp only [gPur_ev, gAndV_ev, gOrV_ev, gNotV_ev, gIsi_ev, gAnd_ev, gOr_ev, gNot_ev, gTru_ev, gT_ev, g2_ev, g1_ev, gIf_ev, gCall_ev, gFn_ev, gTup_ev, gLst_ev, gSl_ev, gCh_ev, gYes_ev, oN_ev, oS_ev, asI_ev, aCons_ev, aNil_ev, vN_ev, kI_ev, kB_ev, kS_ev, kD'_ev, at_succ, at_zero, get_v, get_w, get_b, get_n, Z.R.of_some, Z.R.bind_ok, Z.R.pur_d, fAdd_i, fSub_i, fNeg_i, fLt_i, fLe_i, fGt_i, fGe_i, fEq_i, fNe_i, fInt_i, fInt_b, fAbs_i, fMin2_i, fMax2_i, fLen_l, fLen_t, fLen_r, tst_b, tru_b, tru_i, tru_t, tru_l, tru_r, tru_n, List.length_map, wipeE_cons, wipeE_nil, List.set_cons_succ, List.set_cons_zero, setE_cons, setE_nil, mkS_d, mkS_l, mkTup_nil, mkTup_ev, mkLst_ev, allD_cons, allD_nil, allD_map, Option.map_some, Option.bind_some, if_true, Bool.false_eq_true, if_false, ite_true, ite_false, Bool.not_true, Bool.not_false, decide_true, decide_false, isInt_i, isInt_b, isInt_t, isBl_i, isBl_b, isBl_t, fTuple_ev, fList_ev, dataOf_t, dataOf_l, dataOf_r, lft_ev, Z.RM.of_ok, Z.RM.bind_ok, mCons_ev, mNil_ev, m2_ev, mOf_ev, mT_ev, mTru_ev, mNot_ev, List.cons_append, List.nil_append]
      rw [decide_eq_false (fun h => hA (.inl h))]
      by_cases h : d = 0
      · rw [decide_eq_true (show (d : Int) = 0 by omega), decide_eq_false (fun h2 => hA (.inr ⟨h, h2⟩))]; rfl
      · rw [decide_eq_false (show ¬ (d : Int) = 0 by omega)]; rfl)
    by_cases hB : p < 4
    · obtain ⟨u, s2, hu, e2, hs2⟩ := draw_b hl (en := [.b s1, .v (I d), .v (I p), .n]) (i := 0) (m := 6) (g := lft (kI 6)) rfl hs1 rfl (by decide) (by decide)
      have el : lft (gLst (aCons (kS (Str.ofString "")) (aCons (kS (Str.ofString "a b")) (aCons (kS (Str.ofString "(1, 2)")) (aCons (kS (Str.ofString "0")) (aCons (kS (Str.ofString "x#y, z")) (aCons (kS (Str.ofString "-")) aNil))))))) [.b s1, .v (I d), .v (I p), .n] = .ok (.l (sixT.map S)) [.b s1, .v (I d), .v (I p), .n] := by
        rw [sNone, six1, six2, sZero, six4, sMinus]; rfl
      have hu' : u.toNat < sixT.length := by have := hu.1; have := hu.2; show _ < 6; omega
      have e5 : (mIx (lft (gLst (aCons (kS (Str.ofString "")) (aCons (kS (Str.ofString "a b")) (aCons (kS (Str.ofString "(1, 2)")) (aCons (kS (Str.ofString "0")) (aCons (kS (Str.ofString "x#y, z")) (aCons (kS (Str.ofString "-")) aNil)))))))) (mCallM 0 F__law_draw (hO (lft (kI 6)) hNil))) [.b s1, .v (I d), .v (I p), .n] = .ok (S sixT[u.toNat]) [.b s2, .v (I d), .v (I p), .n] := by
        unfold mIx
        rw [el, RM.bind_ok, draw_eq, e2, RM.bind_ok, fIx_l, atI_nat hu.1 (by rw [List.length_map]; have := hu.1; omega), List.getElem?_map, List.getElem?_eq_getElem hu']
        rfl
      have hok : ∀ t ∈ sixT, t.all okS = true ∧ t.length ≤ 100 := by decide
      have hq := hok _ (List.getElem_mem hu')
      refine ⟨.str (tx sixT[u.toNat]), s2, ⟨[.v (I d), .v (I p), .n], ?_⟩, hs2, DD.str hq.1 hq.2⟩
      rw [fSeq_ev, fIf_ev, hA', RM.s_ok, if_neg (by decide), fNil_ev, sq_nx, fSeq_ev, fIf_t (by simp only [gPur_ev, gAndV_ev, gOrV_ev, gNotV_ev, gIsi_ev, gAnd_ev, gOr_ev, gNot_ev, gTru_ev, gT_ev, g2_ev, g1_ev, gIf_ev, gCall_ev, gFn_ev, gTup_ev, gLst_ev, gSl_ev, gCh_ev, gYes_ev, oN_ev, oS_ev, asI_ev, aCons_ev, aNil_ev, vN_ev, kI_ev, kB_ev, kS_ev, kD'_ev, at_succ, at_zero, get_v, get_w, get_b, get_n, Z.R.of_some, Z.R.bind_ok, Z.R.pur_d, fAdd_i, fSub_i, fNeg_i, fLt_i, fLe_i, fGt_i, fGe_i, fEq_i, fNe_i, fInt_i, fInt_b, fAbs_i, fMin2_i, fMax2_i, fLen_l, fLen_t, fLen_r, tst_b, tru_b, tru_i, tru_t, tru_l, tru_r, tru_n, List.length_map, wipeE_cons, wipeE_nil, List.set_cons_succ, List.set_cons_zero, setE_cons, setE_nil, mkS_d, mkS_l, mkTup_nil, mkTup_ev, mkLst_ev, allD_cons, allD_nil, allD_map, Option.map_some, Option.bind_some, if_true, Bool.false_eq_true, if_false, ite_true, ite_false, Bool.not_true, Bool.not_false, decide_true, decide_false, isInt_i, isInt_b, isInt_t, isBl_i, isBl_b, isBl_t, fTuple_ev, fList_ev, dataOf_t, dataOf_l, dataOf_r, lft_ev, Z.RM.of_ok, Z.RM.bind_ok, mCons_ev, mNil_ev, m2_ev, mOf_ev, mT_ev, mTru_ev, mNot_ev, List.cons_append, List.nil_append]; rw [decide_eq_true hB]), fRet_ev, e5]
      rfl
    · have hd0 : 0 < d := Nat.pos_of_ne_zero fun h => hA (.inr ⟨h, by omega⟩)
      obtain ⟨c, s2, hc, e2, hs2⟩ := draw_b hl (en := [.b s1, .v (I d), .v (I p), .n]) (i := 0) (m := 4) (g := lft (kI 4)) rfl hs1 rfl (by decide) (by decide)
      obtain ⟨ys, s3, e3, hy, hP, hs3⟩ := lcM_st (S := Stt ns) (P := fun y => ∃ x, y = T.d x ∧ DD (d - 1) x) (k := 3) (te := mCallM 0 Fr (hO (lft (g2 fSub (vN 1) (kI 1))) hNil)) (fun s => [.b s, .v (I d), .v (I p), .n]) (fun s x => [.b s, .v (I d), .v (I p), .v (.d x)]) (fun s x => rfl) (fun s x hs => by
        obtain ⟨y, s', h1, h2, h3⟩ := hrec hd0 hs
        exact ⟨.d y, s', ⟨y, rfl, h3⟩, callM (hs := [.o (I ((d : Int) - 1))]) (x0 := s) (en1 := [.b s, .v (I d), .v (I p), .v (.d x)]) (x1 := s) (xs := [I ((d : Int) - 1)]) rfl rfl rfl rfl h1, h2⟩) (fun s x => rfl) ((List.range c.toNat).map fun (i : Nat) => D.int (0 + (i : Nat) * 1)) s2 hs2
      obtain ⟨xs, rfl, hxs⟩ := data_of hP
      rw [List.length_map, List.length_map, List.length_range] at hy
      have hc2 := hc.2
      have e4 : mLc [3] (mR1 (mCallM 0 F__law_draw (hO (lft (kI 4)) hNil))) (kName 3) gYes (mCallM 0 Fr (hO (lft (g2 fSub (vN 1) (kI 1))) hNil)) [.b s1, .v (I d), .v (I p), .n] = .ok (.l (xs.map T.d)) [.b s3, .v (I d), .v (I p), .n] := by
        unfold mLc
        rw [mR1_ev, draw_eq, e2, RM.bind_ok, fR1_n (by have := hc.1; omega) (by omega), RM.of_ok, RM.bind_ok, rng_d]
        show RM.bind (lcM [3] (kName 3) gYes _ _ [.b s2, .v (I d), .v (I p), .n]).calm _ = _
        rw [e3, mcalm_ok, RM.bind_ok, if_pos (by rw [List.length_map, hy]; show _ < 16777216; omega)]
      refine ⟨.tup xs, s3, ⟨[.v (I d), .v (I p), .n], ?_⟩, hs3, ?_⟩
      · rw [fSeq_ev, fIf_ev, hA', RM.s_ok, if_neg (by decide), fNil_ev, sq_nx, fSeq_ev, fIf_f (by simp only [gPur_ev, gAndV_ev, gOrV_ev, gNotV_ev, gIsi_ev, gAnd_ev, gOr_ev, gNot_ev, gTru_ev, gT_ev, g2_ev, g1_ev, gIf_ev, gCall_ev, gFn_ev, gTup_ev, gLst_ev, gSl_ev, gCh_ev, gYes_ev, oN_ev, oS_ev, asI_ev, aCons_ev, aNil_ev, vN_ev, kI_ev, kB_ev, kS_ev, kD'_ev, at_succ, at_zero, get_v, get_w, get_b, get_n, Z.R.of_some, Z.R.bind_ok, Z.R.pur_d, fAdd_i, fSub_i, fNeg_i, fLt_i, fLe_i, fGt_i, fGe_i, fEq_i, fNe_i, fInt_i, fInt_b, fAbs_i, fMin2_i, fMax2_i, fLen_l, fLen_t, fLen_r, tst_b, tru_b, tru_i, tru_t, tru_l, tru_r, tru_n, List.length_map, wipeE_cons, wipeE_nil, List.set_cons_succ, List.set_cons_zero, setE_cons, setE_nil, mkS_d, mkS_l, mkTup_nil, mkTup_ev, mkLst_ev, allD_cons, allD_nil, allD_map, Option.map_some, Option.bind_some, if_true, Bool.false_eq_true, if_false, ite_true, ite_false, Bool.not_true, Bool.not_false, decide_true, decide_false, isInt_i, isInt_b, isInt_t, isBl_i, isBl_b, isBl_t, fTuple_ev, fList_ev, dataOf_t, dataOf_l, dataOf_r, lft_ev, Z.RM.of_ok, Z.RM.bind_ok, mCons_ev, mNil_ev, m2_ev, mOf_ev, mT_ev, mTru_ev, mNot_ev, List.cons_append, List.nil_append]; rw [decide_eq_false hB]), fNil_ev, sq_nx, fRet_ev, mOf_ev, mCons_ev, e4, RM.bind_ok, mNil_ev, RM.bind_ok, RM.bind_ok]
        show (RM.of (R.of (fTuple [.l (xs.map T.d)])) _).s _ = _
        rw [fTuple_ev, dataOf_l, allD_map]; rfl
      · have := DD.tup (n := d - 1) hxs (by rw [hy]; omega)
        rwa [show d - 1 + 1 = d by omega] at this
theorem datum_ok : ∀ (d k : Nat), d < k → d < 1000 → ∀ {s : T}, Stt ns s → ∃ x s', F__law_some_datum k s [I d] = .ok (.d x) s' ∧ Stt ns s' ∧ DD d x := by
  intro d
  induction d with
  | zero =>
    intro k hk hd s hs
    obtain ⟨k, rfl⟩ : ∃ k', k = k' + 1 := ⟨k - 1, by omega⟩
    exact datum_body hl hd (fun h => absurd h (Nat.lt_irrefl _)) hs
  | succ d ih =>
    intro k hk hd s hs
    obtain ⟨k, rfl⟩ : ∃ k', k = k' + 1 := ⟨k - 1, by omega⟩
    exact datum_body hl hd (fun _ s hs => by
      have := ih k (by omega) (by omega) hs
      rw [show ((d + 1 : Nat) : Int) - 1 = (d : Int) by omega, show d + 1 - 1 = d by omega]
      exact this) hs
end
end K00
namespace K00
open PySem PySem.Spec L2 Z
open PyProof.Rows hiding St
open PySem.NumText
/-! the law -/
theorem k0 : Str.ofString "-0" = tx [45, 48] := by decide +kernel
theorem k1 : Str.ofString "+1" = tx [43, 49] := by decide +kernel
theorem k2 : Str.ofString "00" = tx [48, 48] := by decide +kernel
theorem k3 : Str.ofString "--1" = tx [45, 45, 49] := by decide +kernel
theorem k4 : Str.ofString "1 2" = tx [49, 32, 50] := by decide +kernel
theorem k5 : Str.ofString "1_0" = tx [49, 95, 48] := by decide +kernel
theorem k6 : Str.ofString "x" = tx [120] := by decide +kernel
theorem k7 : Str.ofString "(1,2)" = tx [40, 49, 44, 50, 41] := by decide +kernel
theorem k8 : Str.ofString "(1, )" = tx [40, 49, 44, 32, 41] := by decide +kernel
theorem k9 : Str.ofString "(1 2)" = tx [40, 49, 32, 50, 41] := by decide +kernel
theorem k10 : Str.ofString "(1)2" = tx [40, 49, 41, 50] := by decide +kernel
theorem k11 : Str.ofString "'a" = tx [39, 97] := by decide +kernel
theorem k12 : Str.ofString "a'" = tx [97, 39] := by decide +kernel
theorem k13 : Str.ofString "()()" = tx [40, 41, 40, 41] := by decide +kernel
theorem k14 : Str.ofString "(,)" = tx [40, 44, 41] := by decide +kernel
theorem k15 : Str.ofString "( 1)" = tx [40, 32, 49, 41] := by decide +kernel
theorem k16 : Str.ofString "'a''b'" = tx [39, 97, 39, 39, 98, 39] := by decide +kernel
theorem k17 : Str.ofString "(1,  2)" = tx [40, 49, 44, 32, 32, 50, 41] := by decide +kernel
theorem k18 : Str.ofString "1.0" = tx [49, 46, 48] := by decide +kernel
theorem k19 : Str.ofString "(-0)" = tx [40, 45, 48, 41] := by decide +kernel
theorem k20 : Str.ofString "None" = tx [78, 111, 110, 101] := by decide +kernel
theorem k21 : Str.ofString "(1,.2)" = tx [40, 49, 44, 46, 50, 41] := by decide +kernel
theorem k22 : Str.ofString "(1,-2)" = tx [40, 49, 44, 45, 50, 41] := by decide +kernel
theorem k23 : Str.ofString "(007)" = tx [40, 48, 48, 55, 41] := by decide +kernel
theorem k24 : Str.ofString "(01, 2)" = tx [40, 48, 49, 44, 32, 50, 41] := by decide +kernel
theorem k25 : Str.ofString "( )" = tx [40, 32, 41] := by decide +kernel
theorem k26 : Str.ofString "(1, 2 )" = tx [40, 49, 44, 32, 50, 32, 41] := by decide +kernel
theorem k27 : Str.ofString "(1, 2,)" = tx [40, 49, 44, 32, 50, 44, 41] := by decide +kernel
theorem k28 : Str.ofString "(1;2)" = tx [40, 49, 59, 50, 41] := by decide +kernel
theorem k29 : Str.ofString "integer" = tx [105, 110, 116, 101, 103, 101, 114] := by decide +kernel
theorem k30 : Str.ofString "data" = tx [100, 97, 116, 97] := by decide +kernel
theorem k31 : Str.ofString "\\" = tx [92] := by decide +kernel
theorem k32 : Str.ofString "\"" = tx [34] := by decide +kernel
theorem k33 : Str.ofString "a longer text, of (many) signs" = tx [97, 32, 108, 111, 110, 103, 101, 114, 32, 116, 101, 120, 116, 44, 32, 111, 102, 32, 40, 109, 97, 110, 121, 41, 32, 115, 105, 103, 110, 115] := by decide +kernel
theorem k34 : Str.ofString "\\n" = tx [92, 110] := by decide +kernel
theorem k35 : Str.ofString ", 1" = tx [44, 32, 49] := by decide +kernel
theorem k36 : Str.ofString ",)" = tx [44, 41] := by decide +kernel
def isBad (r : R T) : Bool := match r with
  | .ex c => decide (c.tag = Str.ofString "BadText") && c.fl.isNone
  | _ => false
theorem isBad_eq {r : R T} (h : isBad r = true) : r = .ex bad := by
  unfold isBad at h
  split at h
  · rename_i c
    rw [Bool.and_eq_true, decide_eq_true_iff] at h
    obtain ⟨t, f⟩ := c
    obtain ⟨h1, h2⟩ := h
    cases f with
    | none => rw [show t = Str.ofString "BadText" from h1]
    | some _ => cases h2
  · cases h
theorem try_bad {f : En → SR} {en en' : En} (h : f en = .ex bad en') (hl : 2 < en'.length) : fTry 2 (catB [((Str.ofString "BadText"), true)]) (suIsi (Str.ofString "BadText") true) f en = .ret (.d (.bl true)) en' := by
  unfold fTry
  rw [h]
  have e1 : catB [((Str.ofString "BadText"), true)] bad = some true := by decide +kernel
  have e2 : suIsi (Str.ofString "BadText") true bad = .ok (.d (.bl true)) := by
    unfold suIsi
    rw [if_pos ⟨rfl, rfl⟩]
  simp only [e1, e2, if_pos hl]
abbrev KI : T := S [105, 110, 116, 101, 103, 101, 114]
abbrev KD : T := S [100, 97, 116, 97]
theorem refuses_int {t : List Nat} (h : F_read_integer [S t] = .ex bad) : F__law_refuses_text [KI, S t] = .ok (.d (.bl true)) := by
  refine runP_ret rfl ?_
  show ∃ e, d__law_refuses_text [.v KI, .v (S t), .n] = _
  unfold d__law_refuses_text
  refine ⟨[.v KI, .v (S t), .n], ?_⟩
  rw [fSeq_ev, try_bad (en' := [.v KI, .v (S t), .n]) ?_ (by show 2 < 3; decide)]
  · rfl
  · have e := fEq_S (a := [105, 110, 116, 101, 103, 101, 114]) (b := [105, 110, 116, 101, 103, 101, 114]) (by decide) (by decide)
    rw [fIf_t (by simp only [gPur_ev, gAndV_ev, gOrV_ev, gNotV_ev, gIsi_ev, gAnd_ev, gOr_ev, gNot_ev, gTru_ev, gT_ev, g2_ev, g1_ev, gIf_ev, gCall_ev, gFn_ev, gTup_ev, gLst_ev, gSl_ev, gCh_ev, gYes_ev, oN_ev, oS_ev, asI_ev, aCons_ev, aNil_ev, vN_ev, kI_ev, kB_ev, kS_ev, kD'_ev, at_succ, at_zero, get_v, get_w, get_b, get_n, Z.R.of_some, Z.R.bind_ok, Z.R.pur_d, fAdd_i, fSub_i, fNeg_i, fLt_i, fLe_i, fGt_i, fGe_i, fEq_i, fNe_i, fInt_i, fInt_b, fAbs_i, fMin2_i, fMax2_i, fLen_l, fLen_t, fLen_r, tst_b, tru_b, tru_i, tru_t, tru_l, tru_r, tru_n, List.length_map, wipeE_cons, wipeE_nil, List.set_cons_succ, List.set_cons_zero, setE_cons, setE_nil, mkS_d, mkS_l, mkTup_nil, mkTup_ev, mkLst_ev, allD_cons, allD_nil, allD_map, Option.map_some, Option.bind_some, if_true, Bool.false_eq_true, if_false, ite_true, ite_false, Bool.not_true, Bool.not_false, decide_true, decide_false, isInt_i, isInt_b, isInt_t, isBl_i, isBl_b, isBl_t, fTuple_ev, fList_ev, dataOf_t, dataOf_l, dataOf_r, lft_ev, Z.RM.of_ok, Z.RM.bind_ok, mCons_ev, mNil_ev, m2_ev, mOf_ev, mT_ev, mTru_ev, mNot_ev, List.cons_append, List.nil_append, k29, e]), fExpr_ev, lft_ev]
    have : gFn F_read_integer (aCons (vN 1) aNil) [.v KI, .v (S t), .n] = .ex bad := by simp only [gPur_ev, gAndV_ev, gOrV_ev, gNotV_ev, gIsi_ev, gAnd_ev, gOr_ev, gNot_ev, gTru_ev, gT_ev, g2_ev, g1_ev, gIf_ev, gCall_ev, gFn_ev, gTup_ev, gLst_ev, gSl_ev, gCh_ev, gYes_ev, oN_ev, oS_ev, asI_ev, aCons_ev, aNil_ev, vN_ev, kI_ev, kB_ev, kS_ev, kD'_ev, at_succ, at_zero, get_v, get_w, get_b, get_n, Z.R.of_some, Z.R.bind_ok, Z.R.pur_d, fAdd_i, fSub_i, fNeg_i, fLt_i, fLe_i, fGt_i, fGe_i, fEq_i, fNe_i, fInt_i, fInt_b, fAbs_i, fMin2_i, fMax2_i, fLen_l, fLen_t, fLen_r, tst_b, tru_b, tru_i, tru_t, tru_l, tru_r, tru_n, List.length_map, wipeE_cons, wipeE_nil, List.set_cons_succ, List.set_cons_zero, setE_cons, setE_nil, mkS_d, mkS_l, mkTup_nil, mkTup_ev, mkLst_ev, allD_cons, allD_nil, allD_map, Option.map_some, Option.bind_some, if_true, Bool.false_eq_true, if_false, ite_true, ite_false, Bool.not_true, Bool.not_false, decide_true, decide_false, isInt_i, isInt_b, isInt_t, isBl_i, isBl_b, isBl_t, fTuple_ev, fList_ev, dataOf_t, dataOf_l, dataOf_r, lft_ev, Z.RM.of_ok, Z.RM.bind_ok, mCons_ev, mNil_ev, m2_ev, mOf_ev, mT_ev, mTru_ev, mNot_ev, List.cons_append, List.nil_append, h]
    rw [this]; rfl
theorem refuses_data {t : List Nat} (h : F_read_data [S t] = .ex bad) : F__law_refuses_text [KD, S t] = .ok (.d (.bl true)) := by
  refine runP_ret rfl ?_
  show ∃ e, d__law_refuses_text [.v KD, .v (S t), .n] = _
  unfold d__law_refuses_text
  refine ⟨[.v KD, .v (S t), .n], ?_⟩
  rw [fSeq_ev, try_bad (en' := [.v KD, .v (S t), .n]) ?_ (by show 2 < 3; decide)]
  · rfl
  · have e := fEq_S (a := [100, 97, 116, 97]) (b := [105, 110, 116, 101, 103, 101, 114]) (by decide) (by decide)
    rw [fIf_f (by simp only [gPur_ev, gAndV_ev, gOrV_ev, gNotV_ev, gIsi_ev, gAnd_ev, gOr_ev, gNot_ev, gTru_ev, gT_ev, g2_ev, g1_ev, gIf_ev, gCall_ev, gFn_ev, gTup_ev, gLst_ev, gSl_ev, gCh_ev, gYes_ev, oN_ev, oS_ev, asI_ev, aCons_ev, aNil_ev, vN_ev, kI_ev, kB_ev, kS_ev, kD'_ev, at_succ, at_zero, get_v, get_w, get_b, get_n, Z.R.of_some, Z.R.bind_ok, Z.R.pur_d, fAdd_i, fSub_i, fNeg_i, fLt_i, fLe_i, fGt_i, fGe_i, fEq_i, fNe_i, fInt_i, fInt_b, fAbs_i, fMin2_i, fMax2_i, fLen_l, fLen_t, fLen_r, tst_b, tru_b, tru_i, tru_t, tru_l, tru_r, tru_n, List.length_map, wipeE_cons, wipeE_nil, List.set_cons_succ, List.set_cons_zero, setE_cons, setE_nil, mkS_d, mkS_l, mkTup_nil, mkTup_ev, mkLst_ev, allD_cons, allD_nil, allD_map, Option.map_some, Option.bind_some, if_true, Bool.false_eq_true, if_false, ite_true, ite_false, Bool.not_true, Bool.not_false, decide_true, decide_false, isInt_i, isInt_b, isInt_t, isBl_i, isBl_b, isBl_t, fTuple_ev, fList_ev, dataOf_t, dataOf_l, dataOf_r, lft_ev, Z.RM.of_ok, Z.RM.bind_ok, mCons_ev, mNil_ev, m2_ev, mOf_ev, mT_ev, mTru_ev, mNot_ev, List.cons_append, List.nil_append, k30, k29, e]; rfl), fExpr_ev, lft_ev]
    have : gFn F_read_data (aCons (vN 1) aNil) [.v KD, .v (S t), .n] = .ex bad := by simp only [gPur_ev, gAndV_ev, gOrV_ev, gNotV_ev, gIsi_ev, gAnd_ev, gOr_ev, gNot_ev, gTru_ev, gT_ev, g2_ev, g1_ev, gIf_ev, gCall_ev, gFn_ev, gTup_ev, gLst_ev, gSl_ev, gCh_ev, gYes_ev, oN_ev, oS_ev, asI_ev, aCons_ev, aNil_ev, vN_ev, kI_ev, kB_ev, kS_ev, kD'_ev, at_succ, at_zero, get_v, get_w, get_b, get_n, Z.R.of_some, Z.R.bind_ok, Z.R.pur_d, fAdd_i, fSub_i, fNeg_i, fLt_i, fLe_i, fGt_i, fGe_i, fEq_i, fNe_i, fInt_i, fInt_b, fAbs_i, fMin2_i, fMax2_i, fLen_l, fLen_t, fLen_r, tst_b, tru_b, tru_i, tru_t, tru_l, tru_r, tru_n, List.length_map, wipeE_cons, wipeE_nil, List.set_cons_succ, List.set_cons_zero, setE_cons, setE_nil, mkS_d, mkS_l, mkTup_nil, mkTup_ev, mkLst_ev, allD_cons, allD_nil, allD_map, Option.map_some, Option.bind_some, if_true, Bool.false_eq_true, if_false, ite_true, ite_false, Bool.not_true, Bool.not_false, decide_true, decide_false, isInt_i, isInt_b, isInt_t, isBl_i, isBl_b, isBl_t, fTuple_ev, fList_ev, dataOf_t, dataOf_l, dataOf_r, lft_ev, Z.RM.of_ok, Z.RM.bind_ok, mCons_ev, mNil_ev, m2_ev, mOf_ev, mT_ev, mTru_ev, mNot_ev, List.cons_append, List.nil_append, h]
    rw [this]; rfl
def intBad (t : List Nat) : List (List Nat) := [[], [45], [45, 48], [43, 49], [48, 48], 48 :: t, t ++ [32], 32 :: t, t ++ [45], [45, 45, 49], [49, 32, 50], [49, 95, 48], [120]]
def clsBad : List (List Nat) := [[], [40], [41], [40, 49, 44, 50, 41], [40, 49, 44, 32, 41], [40, 49, 32, 50, 41], [40, 49, 41, 50], [39, 97], [97, 39], [40, 41, 40, 41], [40, 44, 41], [40, 32, 49, 41], [39, 97, 39, 39, 98, 39], [40, 49, 44, 32, 32, 50, 41]]
def txtBad : List (List Nat) := [[40, 49, 44, 46, 50, 41], [40, 49, 44, 45, 50, 41], [40, 48, 48, 55, 41], [40, 48, 49, 44, 32, 50, 41], [40, 32, 41], [40, 49, 44, 32, 50, 32, 41], List.replicate 41 40 ++ List.replicate 41 41, [40, 49, 44, 32, 50, 44, 41], [40, 49, 59, 50, 41]]
def datBad (t : List Nat) : List (List Nat) := [t ++ [32], 40 :: t, t ++ [41], t ++ [44, 32, 49], (40 :: t) ++ [44, 41], [49, 46, 48], [40, 45, 48, 41], [78, 111, 110, 101]]
theorem cls_bad : ∀ t ∈ clsBad, isBad (F_read_data [S t]) = true := by decide +kernel
theorem txt_bad : ∀ t ∈ txtBad, isBad (F_read_data [S t]) = true := by decide +kernel
theorem dat3_bad : ∀ t ∈ [[49, 46, 48], [40, 45, 48, 41], [78, 111, 110, 101]], isBad (F_read_data [S t]) = true := by decide +kernel
/-! integers -/
def badI (t : List Nat) : Bool := decide (rdig t = []) || (decide ((rdig t).head? = some 48) && !decide (t = [48])) || (rdig t).any fun c => !isD c
theorem badI_ok {t : List Nat} (h : okc t = true) (hl : t.length ≤ 200000) (hb : badI t = true) : F_read_integer [S t] = .ex bad := by
  refine read_bad h hl ?_
  unfold badI at hb
  simp only [Bool.or_eq_true, Bool.and_eq_true, decide_eq_true_eq, Bool.not_eq_true', decide_eq_false_iff_not, List.any_eq_true] at hb
  rcases hb with (hb | hb) | ⟨c, h1, h2⟩
  · exact .inl (.inl hb)
  · exact .inl (.inr hb)
  · exact .inr ⟨c, h1, h2⟩
theorem mem_rdig_snoc {t : List Nat} {c : Nat} (h : t ≠ []) : c ∈ rdig (t ++ [c]) := by
  unfold rdig
  cases t with
  | nil => exact absurd rfl h
  | cons a r =>
    split
    · show c ∈ r ++ [c]; simp
    · simp
theorem sI_ne (z : Int) : sI z ≠ [] := by
  unfold sI; split
  · exact fun h => by cases h
  · exact dec_ne _
theorem int_bad (z : Int) : ∀ t ∈ intBad (sI z), badI t = true := by
  have hn := sI_ne z
  intro t m
  unfold intBad at m
  simp only [List.mem_cons, List.not_mem_nil, or_false] at m
  rcases m with rfl | rfl | rfl | rfl | rfl | rfl | rfl | rfl | rfl | rfl | rfl | rfl | rfl
  · decide
  · decide
  · decide
  · decide
  · decide
  · unfold badI
    rw [show rdig (48 :: sI z) = 48 :: sI z by unfold rdig; rw [if_neg (by simp)]]
    have : ¬ (48 :: sI z = [48]) := by simp [hn]
    rw [decide_eq_false this]; simp
  · unfold badI
    rw [show ((rdig (sI z ++ [32])).any fun c => !isD c) = true from List.any_eq_true.mpr ⟨32, mem_rdig_snoc hn, by decide⟩]; simp
  · unfold badI
    rw [show rdig (32 :: sI z) = 32 :: sI z by unfold rdig; rw [if_neg (by simp)]]
    rw [show ((32 :: sI z).any fun c => !isD c) = true from List.any_eq_true.mpr ⟨32, List.mem_cons_self .., by decide⟩]; simp
  · unfold badI
    rw [show ((rdig (sI z ++ [45])).any fun c => !isD c) = true from List.any_eq_true.mpr ⟨45, mem_rdig_snoc hn, by decide⟩]; simp
  · decide
  · decide
  · decide
  · decide
theorem okc_app {a b : List Nat} (ha : okc a = true) (hb : okc b = true) : okc (a ++ b) = true := by
  unfold okc at *
  rw [List.all_append, ha, hb]; rfl
theorem int_okc (z : Int) : ∀ t ∈ intBad (sI z), okc t = true ∧ t.length ≤ (sI z).length + 5 := by
  have hk := okc_sI z
  intro t m
  unfold intBad at m
  simp only [List.mem_cons, List.not_mem_nil, or_false] at m
  rcases m with rfl | rfl | rfl | rfl | rfl | rfl | rfl | rfl | rfl | rfl | rfl | rfl | rfl
  case _ => exact ⟨by decide, by simp⟩
  case _ => exact ⟨by decide, by simp⟩
  case _ => exact ⟨by decide, by simp⟩
  case _ => exact ⟨by decide, by simp⟩
  case _ => exact ⟨by decide, by simp⟩
  case _ => exact ⟨okc_app (a := [48]) (by decide) hk, by simp⟩
  case _ => exact ⟨okc_app hk (by decide), by simp⟩
  case _ => exact ⟨okc_app (a := [32]) (by decide) hk, by simp⟩
  case _ => exact ⟨okc_app hk (by decide), by simp⟩
  case _ => exact ⟨by decide, by simp⟩
  case _ => exact ⟨by decide, by simp⟩
  case _ => exact ⟨by decide, by simp⟩
  case _ => exact ⟨by decide, by simp⟩
theorem int_refused {z : Int} (h : (sI z).length ≤ 100000) : ∀ t ∈ intBad (sI z), F__law_refuses_text [KI, S t] = .ok (.d (.bl true)) := fun t m =>
  refuses_int (badI_ok (int_okc z t m).1 (by have := (int_okc z t m).2; omega) (int_bad z t m))
/-! data -/
theorem okc_jn {sep : List Nat} (hs : okc sep = true) : ∀ {xs : List (List Nat)}, (∀ x ∈ xs, okc x = true) → okc (jn sep xs) = true
  | [], _ => rfl
  | [a], h => h a (List.mem_cons_self ..)
  | a :: b :: r, h => okc_app (okc_app (h a (List.mem_cons_self ..)) hs) (okc_jn hs (xs := b :: r) fun x m => h x (List.mem_cons_of_mem _ m))
theorem GD.okc {n : Nat} {d : D} (h : GD n d) : okc (dtx d) = true := by
  induction h with
  | @int n z h => rw [dtx]; exact okc_sI z
  | @str n s h => rw [dtx, List.toList_toArray]; exact okc_app (a := [39]) (by decide) (okc_app (okS_lt h) (by decide))
  | @tup n ds h ih =>
    rw [dtx_tup]
    exact okc_app (a := [40]) (by decide) (okc_app (okc_jn (by decide) fun x m => by
      obtain ⟨d, hd, rfl⟩ := List.mem_map.mp m
      exact ih d hd) (by decide))
theorem dat_bad {n : Nat} {d : D} (h : GD n d) (hn : n ≤ 39) (hw : (dtx d).length ≤ 80000) : ∀ t ∈ datBad (dtx d), F_read_data [S t] = .ex bad := by
  have hk := h.okc
  intro t m
  unfold datBad at m
  simp only [List.mem_cons, List.not_mem_nil, or_false] at m
  have tail : ∀ (w : List Nat) (c : Nat) (r : List Nat), w = c :: r → okc w = true → w.length ≤ 10 → isG c = false → F_read_data [S (dtx d ++ w)] = .ex bad := by
    intro w c r hw2 hkw hwl hG
    have hl : (dtx d ++ w).length ≤ 1000000 := by rw [List.length_append]; omega
    have hkz := okc_app hk hkw
    obtain ⟨j, a4, a5, hj, n4, n5, g⟩ := reads hl hkz h (by omega) [] w [] [] .n .n (by simp) (by simpa using (by omega : n ≤ 40)) (by decide) NB.n NB.n (fun x hx => by rw [hw2] at hx; injection hx with hx; rw [← hx]; exact hG)
    rw [List.length_nil, Nat.zero_add] at g
    have gc : (dtx d ++ w)[(dtx d).length]? = some c := by rw [List.getElem?_append_right (Nat.le_refl _), Nat.sub_self, hw2]; rfl
    refine read_data_bad (en := p6 (dtx d ++ w) ([] ++ [[] ++ [d]]) (dtx d).length false a4 a5) (by omega) g fun k hk0 => ?_
    obtain ⟨k, rfl⟩ : ∃ k', k = k' + 1 := ⟨k - 1, by omega⟩
    exact whE_ex (lft_n (pC_t hl (lt_of_get gc))) (pB_x hl hkz gc (.inr (Nat.le_refl _)) (.inl (Nat.le_refl _)))
  have headG : ∀ (w : List Nat), okc w = true → w.length ≤ 10 → (∀ c, w[0]? = some c → isG c = false) → ∃ j a4 a5, j ≤ 99000 ∧ Go j (p6 (40 :: (dtx d ++ w)) [[]] 0 true .n .n) (p6 (40 :: (dtx d ++ w)) [[], [d]] (1 + (dtx d).length) false a4 a5) ∧ (40 :: (dtx d ++ w)).length ≤ 1000000 ∧ okc (40 :: (dtx d ++ w)) = true := by
    intro w hkw hwl hG
    have hl : (40 :: (dtx d ++ w)).length ≤ 1000000 := by rw [List.length_cons, List.length_append]; omega
    have hkz : okc (40 :: (dtx d ++ w)) = true := okc_app (a := [40]) (by decide) (okc_app hk hkw)
    have k0 : (40 :: (dtx d ++ w))[0]? = some 40 := rfl
    have g0 : Go 1 (p6 (40 :: (dtx d ++ w)) [[]] 0 true .n .n) (p6 (40 :: (dtx d ++ w)) [[], []] 1 true .n .n) := Go.one hl (lt_of_get k0) (pB_1 hl hkz k0 (by decide))
    obtain ⟨j, a4, a5, hj, n4, n5, g⟩ := reads hl hkz h (by omega) [40] w [[]] [] .n .n rfl (by show 1 + n ≤ 40; omega) (by decide) NB.n NB.n hG
    exact ⟨j + 1, a4, a5, by omega, g0.trans g, hl, hkz⟩
  rcases m with rfl | rfl | rfl | rfl | rfl | rfl | rfl | rfl
  · exact tail [32] 32 [] rfl (by decide) (by decide) (by decide)
  · obtain ⟨j, a4, a5, hj, g, hl, hkz⟩ := headG [] rfl (by decide) (fun c hc => by cases hc)
    rw [List.append_nil] at g hl
    exact read_data_open hl hj g (by rw [List.length_cons]; omega) (by show 2 ≠ 1; decide)
  · exact tail [41] 41 [] rfl (by decide) (by decide) (by decide)
  · exact tail [44, 32, 49] 44 [32, 49] rfl (by decide) (by decide) (by decide)
  · obtain ⟨j, a4, a5, hj, g, hl, hkz⟩ := headG [44, 41] (by decide) (by decide) (fun c hc => by injection hc with hc; rw [← hc]; rfl)
    have gc : (40 :: (dtx d ++ [44, 41]))[1 + (dtx d).length]? = some 44 := by
      rw [Nat.add_comm, List.getElem?_cons_succ, List.getElem?_append_right (Nat.le_refl _), Nat.sub_self]; rfl
    have hdrop : ((40 :: (dtx d ++ [44, 41])).drop (1 + (dtx d).length)).take 2 ≠ [44, 32] := by
      rw [Nat.add_comm, List.drop_succ_cons, List.drop_left]; decide
    refine read_data_bad (en := p6 (40 :: (dtx d ++ [44, 41])) [[], [d]] (1 + (dtx d).length) false a4 a5) hj g fun k hk0 => ?_
    obtain ⟨k, rfl⟩ : ∃ k', k = k' + 1 := ⟨k - 1, by omega⟩
    exact whE_ex (lft_n (pC_t hl (lt_of_get gc))) (pB_x hl hkz gc (.inl (by decide)) (.inr hdrop))
  · exact isBad_eq (dat3_bad _ (by simp))
  · exact isBad_eq (dat3_bad _ (by simp))
  · exact isBad_eq (dat3_bad _ (by simp))
theorem data_refused {n : Nat} {d : D} (h : GD n d) (hn : n ≤ 39) (hw : (dtx d).length ≤ 80000) : ∀ t ∈ clsBad ++ datBad (dtx d), F__law_refuses_text [KD, S t] = .ok (.d (.bl true)) := fun t m => by
  rcases List.mem_append.mp m with m | m
  · exact refuses_data (isBad_eq (cls_bad t m))
  · exact refuses_data (dat_bad h hn hw t m)
theorem txt_refused : ∀ t ∈ txtBad, F__law_refuses_text [KD, S t] = .ok (.d (.bl true)) := fun t m => refuses_data (isBad_eq (txt_bad t m))
end K00
namespace K00
open PySem PySem.Spec L2 Z
open PyProof.Rows hiding St
open PySem.NumText
/-! the parts of the law -/
def e11 (x0 : T) (s : T) (o2 o3 o4 o5 o6 : Sl) : En := [.v x0, .v s, o2, o3, o4, o5, o6, .n, .n, .n, .n]
def q1 : En → SR := (fSet 3 (mIx (mOf mkLst (mCons (m2 fSub (mCallM 1 F__law_draw (hO (lft (kI 41)) hNil)) (lft (kI 20))) (mCons (mCallM 1 F__law_long_number (hO (lft (kI 30)) hNil)) mNil))) (mCallM 1 F__law_draw (hO (lft (kI 2)) hNil))))
def gBad1 : En → R T := gLst (aCons (kS (Str.ofString "")) (aCons (kS (Str.ofString "-")) (aCons (kS (Str.ofString "-0")) (aCons (kS (Str.ofString "+1")) (aCons (kS (Str.ofString "00")) (aCons (g2 fAdd (kS (Str.ofString "0")) (vN 4)) (aCons (g2 fAdd (vN 4) (kS (Str.ofString " "))) (aCons (g2 fAdd (kS (Str.ofString " ")) (vN 4)) (aCons (g2 fAdd (vN 4) (kS (Str.ofString "-"))) (aCons (kS (Str.ofString "--1")) (aCons (kS (Str.ofString "1 2")) (aCons (kS (Str.ofString "1_0")) (aCons (kS (Str.ofString "x")) aNil)))))))))))))
def gBad2 : En → R T := (gLst (aCons (kS (Str.ofString "")) (aCons (kS (Str.ofString "(")) (aCons (kS (Str.ofString ")")) (aCons (kS (Str.ofString "(1,2)")) (aCons (kS (Str.ofString "(1, )")) (aCons (kS (Str.ofString "(1 2)")) (aCons (kS (Str.ofString "(1)2")) (aCons (kS (Str.ofString "'a")) (aCons (kS (Str.ofString "a'")) (aCons (kS (Str.ofString "()()")) (aCons (kS (Str.ofString "(,)")) (aCons (kS (Str.ofString "( 1)")) (aCons (kS (Str.ofString "'a''b'")) (aCons (kS (Str.ofString "(1,  2)")) aNil)))))))))))))))
def gBad3 : En → R T := (gLst (aCons (g2 fAdd (vN 4) (kS (Str.ofString " "))) (aCons (g2 fAdd (kS (Str.ofString "(")) (vN 4)) (aCons (g2 fAdd (vN 4) (kS (Str.ofString ")"))) (aCons (g2 fAdd (vN 4) (kS (Str.ofString ", 1"))) (aCons (g2 fAdd (g2 fAdd (kS (Str.ofString "(")) (vN 4)) (kS (Str.ofString ",)"))) (aCons (kS (Str.ofString "1.0")) (aCons (kS (Str.ofString "(-0)")) (aCons (kS (Str.ofString "None")) aNil)))))))))
def gTxt : En → R T := (gLst (aCons (kS (Str.ofString "(1,.2)")) (aCons (kS (Str.ofString "(1,-2)")) (aCons (kS (Str.ofString "(007)")) (aCons (kS (Str.ofString "(01, 2)")) (aCons (kS (Str.ofString "( )")) (aCons (kS (Str.ofString "(1, 2 )")) (aCons (g2 fAdd (g2 fMulS (kS (Str.ofString "(")) (kI 41)) (g2 fMulS (kS (Str.ofString ")")) (kI 41))) (aCons (kS (Str.ofString "(1, 2,)")) (aCons (kS (Str.ofString "(1;2)")) aNil))))))))))
theorem lst_S (ts : List (List Nat)) : T.l (ts.map S) = .l ((ts.map fun t => D.str (tx t)).map T.d) := by rw [List.map_map]; rfl
theorem gBad1_ok {en : En} {t : List Nat} (h4 : at_ en 4 = some (S t)) (hl : t.length ≤ 1000000) : gBad1 en = .ok (.l ((intBad t).map S)) := by
  unfold gBad1
  have a1 := fAdd_S (a := [48]) (b := t) (by rw [List.length_singleton]; show _ ≤ 16777216; omega)
  have a2 := fAdd_S (a := t) (b := [32]) (by rw [List.length_singleton]; show _ ≤ 16777216; omega)
  have a3 := fAdd_S (a := [32]) (b := t) (by rw [List.length_singleton]; show _ ≤ 16777216; omega)
  have a4 := fAdd_S (a := t) (b := [45]) (by rw [List.length_singleton]; show _ ≤ 16777216; omega)
  simp only [gPur_ev, gAndV_ev, gOrV_ev, gNotV_ev, gIsi_ev, gAnd_ev, gOr_ev, gNot_ev, gTru_ev, gT_ev, g2_ev, g1_ev, gIf_ev, gCall_ev, gFn_ev, gTup_ev, gLst_ev, gSl_ev, gCh_ev, gYes_ev, oN_ev, oS_ev, asI_ev, aCons_ev, aNil_ev, vN_ev, kI_ev, kB_ev, kS_ev, kD'_ev, at_succ, at_zero, get_v, get_w, get_b, get_n, Z.R.of_some, Z.R.bind_ok, Z.R.pur_d, fAdd_i, fSub_i, fNeg_i, fLt_i, fLe_i, fGt_i, fGe_i, fEq_i, fNe_i, fInt_i, fInt_b, fAbs_i, fMin2_i, fMax2_i, fLen_l, fLen_t, fLen_r, tst_b, tru_b, tru_i, tru_t, tru_l, tru_r, tru_n, List.length_map, wipeE_cons, wipeE_nil, List.set_cons_succ, List.set_cons_zero, setE_cons, setE_nil, mkS_d, mkS_l, mkTup_nil, mkTup_ev, mkLst_ev, allD_cons, allD_nil, allD_map, Option.map_some, Option.bind_some, if_true, Bool.false_eq_true, if_false, ite_true, ite_false, Bool.not_true, Bool.not_false, decide_true, decide_false, isInt_i, isInt_b, isInt_t, isBl_i, isBl_b, isBl_t, fTuple_ev, fList_ev, dataOf_t, dataOf_l, dataOf_r, lft_ev, Z.RM.of_ok, Z.RM.bind_ok, mCons_ev, mNil_ev, m2_ev, mOf_ev, mT_ev, mTru_ev, mNot_ev, List.cons_append, List.nil_append, sNone, sMinus, sZero, sOpen, sClose, sComma, sQuote, sSpace, k0, k1, k2, k3, k4, k5, k6, k7, k8, k9, k10, k11, k12, k13, k14, k15, k16, k17, k18, k19, k20, k21, k22, k23, k24, k25, k26, k27, k28, k29, k30, k31, k32, k33, k34, k35, k36, h4, a1, a2, a3, a4]
  rfl
theorem gBad2_ok (en : En) : gBad2 en = .ok (.l (clsBad.map S)) := by
  unfold gBad2
  simp only [gPur_ev, gAndV_ev, gOrV_ev, gNotV_ev, gIsi_ev, gAnd_ev, gOr_ev, gNot_ev, gTru_ev, gT_ev, g2_ev, g1_ev, gIf_ev, gCall_ev, gFn_ev, gTup_ev, gLst_ev, gSl_ev, gCh_ev, gYes_ev, oN_ev, oS_ev, asI_ev, aCons_ev, aNil_ev, vN_ev, kI_ev, kB_ev, kS_ev, kD'_ev, at_succ, at_zero, get_v, get_w, get_b, get_n, Z.R.of_some, Z.R.bind_ok, Z.R.pur_d, fAdd_i, fSub_i, fNeg_i, fLt_i, fLe_i, fGt_i, fGe_i, fEq_i, fNe_i, fInt_i, fInt_b, fAbs_i, fMin2_i, fMax2_i, fLen_l, fLen_t, fLen_r, tst_b, tru_b, tru_i, tru_t, tru_l, tru_r, tru_n, List.length_map, wipeE_cons, wipeE_nil, List.set_cons_succ, List.set_cons_zero, setE_cons, setE_nil, mkS_d, mkS_l, mkTup_nil, mkTup_ev, mkLst_ev, allD_cons, allD_nil, allD_map, Option.map_some, Option.bind_some, if_true, Bool.false_eq_true, if_false, ite_true, ite_false, Bool.not_true, Bool.not_false, decide_true, decide_false, isInt_i, isInt_b, isInt_t, isBl_i, isBl_b, isBl_t, fTuple_ev, fList_ev, dataOf_t, dataOf_l, dataOf_r, lft_ev, Z.RM.of_ok, Z.RM.bind_ok, mCons_ev, mNil_ev, m2_ev, mOf_ev, mT_ev, mTru_ev, mNot_ev, List.cons_append, List.nil_append, sNone, sMinus, sZero, sOpen, sClose, sComma, sQuote, sSpace, k0, k1, k2, k3, k4, k5, k6, k7, k8, k9, k10, k11, k12, k13, k14, k15, k16, k17, k18, k19, k20, k21, k22, k23, k24, k25, k26, k27, k28, k29, k30, k31, k32, k33, k34, k35, k36]
  rfl
theorem gBad3_ok {en : En} {t : List Nat} (h4 : at_ en 4 = some (S t)) (hl : t.length ≤ 1000000) : gBad3 en = .ok (.l ((datBad t).map S)) := by
  unfold gBad3
  have a1 := fAdd_S (a := t) (b := [32]) (by rw [List.length_singleton]; show _ ≤ 16777216; omega)
  have a2 := fAdd_S (a := [40]) (b := t) (by rw [List.length_singleton]; show _ ≤ 16777216; omega)
  have a3 := fAdd_S (a := t) (b := [41]) (by rw [List.length_singleton]; show _ ≤ 16777216; omega)
  have a4 := fAdd_S (a := t) (b := [44, 32, 49]) (by simp only [List.length_cons, List.length_nil]; show _ ≤ 16777216; omega)
  have a5 := fAdd_S (a := 40 :: t) (b := [44, 41]) (by simp only [List.length_cons, List.length_nil]; show _ ≤ 16777216; omega)
  simp only [gPur_ev, gAndV_ev, gOrV_ev, gNotV_ev, gIsi_ev, gAnd_ev, gOr_ev, gNot_ev, gTru_ev, gT_ev, g2_ev, g1_ev, gIf_ev, gCall_ev, gFn_ev, gTup_ev, gLst_ev, gSl_ev, gCh_ev, gYes_ev, oN_ev, oS_ev, asI_ev, aCons_ev, aNil_ev, vN_ev, kI_ev, kB_ev, kS_ev, kD'_ev, at_succ, at_zero, get_v, get_w, get_b, get_n, Z.R.of_some, Z.R.bind_ok, Z.R.pur_d, fAdd_i, fSub_i, fNeg_i, fLt_i, fLe_i, fGt_i, fGe_i, fEq_i, fNe_i, fInt_i, fInt_b, fAbs_i, fMin2_i, fMax2_i, fLen_l, fLen_t, fLen_r, tst_b, tru_b, tru_i, tru_t, tru_l, tru_r, tru_n, List.length_map, wipeE_cons, wipeE_nil, List.set_cons_succ, List.set_cons_zero, setE_cons, setE_nil, mkS_d, mkS_l, mkTup_nil, mkTup_ev, mkLst_ev, allD_cons, allD_nil, allD_map, Option.map_some, Option.bind_some, if_true, Bool.false_eq_true, if_false, ite_true, ite_false, Bool.not_true, Bool.not_false, decide_true, decide_false, isInt_i, isInt_b, isInt_t, isBl_i, isBl_b, isBl_t, fTuple_ev, fList_ev, dataOf_t, dataOf_l, dataOf_r, lft_ev, Z.RM.of_ok, Z.RM.bind_ok, mCons_ev, mNil_ev, m2_ev, mOf_ev, mT_ev, mTru_ev, mNot_ev, List.cons_append, List.nil_append, sNone, sMinus, sZero, sOpen, sClose, sComma, sQuote, sSpace, k0, k1, k2, k3, k4, k5, k6, k7, k8, k9, k10, k11, k12, k13, k14, k15, k16, k17, k18, k19, k20, k21, k22, k23, k24, k25, k26, k27, k28, k29, k30, k31, k32, k33, k34, k35, k36, h4, a1, a2, a3, a4, a5]
  rfl
theorem mulS_ok {z : List Nat} {n : Int} (h1 : 1 ≤ n) (h2 : n ≤ 1000000) (h3 : z.length ≤ 16) : fMulS (S z) (.d (.int n)) = some (.d (.str (Txt.mul (tx z) n))) := by
  show (if 1 ≤ n ∧ n ≤ 1000000 ∧ (tx z).length ≤ 16 then some (T.d (.str (Txt.mul (tx z) n))) else none) = _
  exact if_pos ⟨h1, h2, h3⟩
theorem gTxt_ok (en : En) : gTxt en = .ok (.l (txtBad.map S)) := by
  unfold gTxt
  have m1 : fMulS (S [40]) (.d (.int 41)) = some (S (List.replicate 41 40)) := by rw [mulS_ok (by decide) (by decide) (by show 1 ≤ 16; decide), show Txt.mul (tx [40]) 41 = tx (List.replicate 41 40) from by decide +kernel]
  have m2 : fMulS (S [41]) (.d (.int 41)) = some (S (List.replicate 41 41)) := by rw [mulS_ok (by decide) (by decide) (by show 1 ≤ 16; decide), show Txt.mul (tx [41]) 41 = tx (List.replicate 41 41) from by decide +kernel]
  have a1 := fAdd_S (a := List.replicate 41 40) (b := List.replicate 41 41) (by decide)
  simp only [gPur_ev, gAndV_ev, gOrV_ev, gNotV_ev, gIsi_ev, gAnd_ev, gOr_ev, gNot_ev, gTru_ev, gT_ev, g2_ev, g1_ev, gIf_ev, gCall_ev, gFn_ev, gTup_ev, gLst_ev, gSl_ev, gCh_ev, gYes_ev, oN_ev, oS_ev, asI_ev, aCons_ev, aNil_ev, vN_ev, kI_ev, kB_ev, kS_ev, kD'_ev, at_succ, at_zero, get_v, get_w, get_b, get_n, Z.R.of_some, Z.R.bind_ok, Z.R.pur_d, fAdd_i, fSub_i, fNeg_i, fLt_i, fLe_i, fGt_i, fGe_i, fEq_i, fNe_i, fInt_i, fInt_b, fAbs_i, fMin2_i, fMax2_i, fLen_l, fLen_t, fLen_r, tst_b, tru_b, tru_i, tru_t, tru_l, tru_r, tru_n, List.length_map, wipeE_cons, wipeE_nil, List.set_cons_succ, List.set_cons_zero, setE_cons, setE_nil, mkS_d, mkS_l, mkTup_nil, mkTup_ev, mkLst_ev, allD_cons, allD_nil, allD_map, Option.map_some, Option.bind_some, if_true, Bool.false_eq_true, if_false, ite_true, ite_false, Bool.not_true, Bool.not_false, decide_true, decide_false, isInt_i, isInt_b, isInt_t, isBl_i, isBl_b, isBl_t, fTuple_ev, fList_ev, dataOf_t, dataOf_l, dataOf_r, lft_ev, Z.RM.of_ok, Z.RM.bind_ok, mCons_ev, mNil_ev, m2_ev, mOf_ev, mT_ev, mTru_ev, mNot_ev, List.cons_append, List.nil_append, sNone, sMinus, sZero, sOpen, sClose, sComma, sQuote, sSpace, k0, k1, k2, k3, k4, k5, k6, k7, k8, k9, k10, k11, k12, k13, k14, k15, k16, k17, k18, k19, k20, k21, k22, k23, k24, k25, k26, k27, k28, k29, k30, k31, k32, k33, k34, k35, k36, m1, m2, a1]
  rfl
theorem same_T {x : T} {en : En} {ga gb : En → R T} (h1 : ga en = .ok x) (h2 : gb en = .ok x) (hs : F__law_same 46 [x, x] = .ok (.d (.bl true))) : (gNot (gTru (gFn (F__law_same 46) (aCons ga (aCons gb aNil))))) en = .ok false := by
  simp only [gPur_ev, gAndV_ev, gOrV_ev, gNotV_ev, gIsi_ev, gAnd_ev, gOr_ev, gNot_ev, gTru_ev, gT_ev, g2_ev, g1_ev, gIf_ev, gCall_ev, gFn_ev, gTup_ev, gLst_ev, gSl_ev, gCh_ev, gYes_ev, oN_ev, oS_ev, asI_ev, aCons_ev, aNil_ev, vN_ev, kI_ev, kB_ev, kS_ev, kD'_ev, at_succ, at_zero, get_v, get_w, get_b, get_n, Z.R.of_some, Z.R.bind_ok, Z.R.pur_d, fAdd_i, fSub_i, fNeg_i, fLt_i, fLe_i, fGt_i, fGe_i, fEq_i, fNe_i, fInt_i, fInt_b, fAbs_i, fMin2_i, fMax2_i, fLen_l, fLen_t, fLen_r, tst_b, tru_b, tru_i, tru_t, tru_l, tru_r, tru_n, List.length_map, wipeE_cons, wipeE_nil, List.set_cons_succ, List.set_cons_zero, setE_cons, setE_nil, mkS_d, mkS_l, mkTup_nil, mkTup_ev, mkLst_ev, allD_cons, allD_nil, allD_map, Option.map_some, Option.bind_some, if_true, Bool.false_eq_true, if_false, ite_true, ite_false, Bool.not_true, Bool.not_false, decide_true, decide_false, isInt_i, isInt_b, isInt_t, isBl_i, isBl_b, isBl_t, fTuple_ev, fList_ev, dataOf_t, dataOf_l, dataOf_r, lft_ev, Z.RM.of_ok, Z.RM.bind_ok, mCons_ev, mNil_ev, m2_ev, mOf_ev, mT_ev, mTru_ev, mNot_ev, List.cons_append, List.nil_append, h1, h2, hs]
theorem okS_I {z : Int} {m : Nat} (h : z.natAbs < 10 ^ m) (h1 : 1 ≤ m) (hm : m ≤ 160000) : F__law_same 46 [S (sI z), S (sI z)] = .ok (.d (.bl true)) := same_S (okc_sI z)
/-- the checks of an integer -/
def ckI (i : Nat) : En → R Bool := (gOr (gNot (gTru (gFn (F__law_same 46) (aCons (gFn (F_write_integer 2) (aCons (vN i) aNil)) (aCons (vN 4) aNil))))) (gNot (gTru (gFn (F__law_same 46) (aCons (gFn F_read_integer (aCons (vN 4) aNil)) (aCons (vN i) aNil))))))
theorem ckI_ok {i : Nat} {en : En} {z : Int} {m : Nat} (hi : at_ en i = some (I z)) (h4 : at_ en 4 = some (S (sI z))) (h : z.natAbs < 10 ^ m) (h1 : 1 ≤ m) (hm : m ≤ 160000) : ckI i en = .ok false := by
  unfold ckI
  have w := write_integer_ok h h1 hm
  have r := read_integer_ok h h1 hm
  have e1 := same_T (en := en) (x := S (sI z)) (ga := gFn (F_write_integer 2) (aCons (vN i) aNil)) (gb := vN 4) (by rw [gFn_ev, aCons_ev, vN_ev, hi]; exact w) (by rw [vN_ev, h4]; rfl) (same_S (okc_sI z))
  have e2 := same_T (en := en) (x := I z) (ga := gFn F_read_integer (aCons (vN 4) aNil)) (gb := vN i) (by rw [gFn_ev, aCons_ev, vN_ev, h4]; exact r) (by rw [vN_ev, hi]; rfl) (same_I z)
  rw [gOr_ev, e1, R.bind_ok, if_neg (by decide), e2]
/-- the checks of a datum -/
theorem ckD_ok {en : En} {n : Nat} {d : D} {gw gt gr gx : En → R T} (h : GD n d) (hn : n ≤ 40) (hw : (dtx d).length ≤ 90000) (h1 : gw en = .ok (.d d)) (h2 : gt en = .ok (S (dtx d))) :
    (gNot (gTru (gFn (F__law_same 46) (aCons (gFn (F_write_data 46) (aCons gw aNil)) (aCons gt aNil))))) en = .ok false ∧ (gNot (gTru (gFn (F__law_same 46) (aCons (gFn F_read_data (aCons gt aNil)) (aCons gw aNil))))) en = .ok false := by
  have w := write_data_ok (n := 45) (h.mono (by omega)) (by omega)
  have r := read_data_ok h hn hw h.okc
  exact ⟨same_T (x := S (dtx d)) (by rw [gFn_ev, aCons_ev, h1]; exact w) h2 (same_S h.okc), same_T (x := .d d) (by rw [gFn_ev, aCons_ev, h2]; exact r) h1 (same_self h (by omega) (by omega))⟩
section
variable {ns : List Int} (hl : ns.length ≤ 63)
include hl
theorem one_n {en : En} {s : T} {ds : List D} (h0 : ownAt en 1 = some s) (hs : Stt ns s) (h5 : at_ en 5 = some (.l (ds.map T.d))) (hn : 0 < ds.length) (hn2 : ds.length < 1000000000) : ∃ d s', d ∈ ds ∧ mCallM 1 F_oneof (hN 5 hNil) en = .ok (.d d) (setO en 1 s') ∧ Stt ns s' := by
  obtain ⟨d, s', hd, e, hs'⟩ := oneof_ok hl hs hn hn2
  refine ⟨d, s', hd, ?_, hs'⟩
  exact callM (hs := [.n 5]) (x0 := s) (en1 := en) (x1 := s) (xs := [.l (ds.map T.d)]) h0 (by rw [hN_ev, h5, hNil_ev]; rfl) h0 (by rw [hds_n, if_neg (by decide), h5]; rfl) e
theorem q1_ok {x0 s : T} {o2 o3 o4 o5 o6 : Sl} (hs : Stt ns s) (h3 : NB o3) : ∃ z s', q1 (e11 x0 s o2 o3 o4 o5 o6) = .nx (e11 x0 s' o2 (.v (I z)) o4 o5 o6) ∧ Stt ns s' ∧ z.natAbs < 10 ^ 540 := by
  unfold q1
  obtain ⟨v, s2, hv, e2, hs2⟩ := draw_b hl (en := e11 x0 s o2 o3 o4 o5 o6) (i := 1) (m := 41) (g := lft (kI 41)) rfl hs rfl (by decide) (by decide)
  have w2 : setO (e11 x0 s o2 o3 o4 o5 o6) 1 s2 = e11 x0 s2 o2 o3 o4 o5 o6 := rfl
  rw [w2] at e2
  obtain ⟨z, s3, e3, hs3, hz⟩ := long_ok hl hs2 (m := 30) (by decide) (by decide)
  have e3' : mCallM 1 F__law_long_number (hO (lft (kI 30)) hNil) (e11 x0 s2 o2 o3 o4 o5 o6) = .ok (I z) (e11 x0 s3 o2 o3 o4 o5 o6) := callM (hs := [.o (I 30)]) (x0 := s2) (en1 := e11 x0 s2 o2 o3 o4 o5 o6) (x1 := s2) (xs := [I 30]) rfl rfl rfl rfl e3
  obtain ⟨u, s4, hu, e4, hs4⟩ := draw_b hl (en := e11 x0 s3 o2 o3 o4 o5 o6) (i := 1) (m := 2) (g := lft (kI 2)) rfl hs3 rfl (by decide) (by decide)
  have w4 : setO (e11 x0 s3 o2 o3 o4 o5 o6) 1 s4 = e11 x0 s4 o2 o3 o4 o5 o6 := rfl
  rw [w4] at e4
  have el : mOf mkLst (mCons (m2 fSub (mCallM 1 F__law_draw (hO (lft (kI 41)) hNil)) (lft (kI 20))) (mCons (mCallM 1 F__law_long_number (hO (lft (kI 30)) hNil)) mNil)) (e11 x0 s o2 o3 o4 o5 o6) = .ok (.l [I (v - 20), I z]) (e11 x0 s3 o2 o3 o4 o5 o6) := by
    rw [mOf_ev, mCons_ev, m2_ev, draw_eq, e2, RM.bind_ok]
    show ((RM.bind (RM.bind (RM.ok (I 20) (e11 x0 s2 o2 o3 o4 o5 o6)) _) _).bind _) = _
    rw [RM.bind_ok, fSub_i, R.of_some, RM.of_ok, RM.bind_ok, mCons_ev, e3', RM.bind_ok, mNil_ev, RM.bind_ok, RM.bind_ok, RM.bind_ok]
    rfl
  have hc : u = 0 ∨ u = 1 := by have := hu.1; have := hu.2; omega
  have hx : ∃ x : Int, (x = v - 20 ∨ x = z) ∧ (mIx (mOf mkLst (mCons (m2 fSub (mCallM 1 F__law_draw (hO (lft (kI 41)) hNil)) (lft (kI 20))) (mCons (mCallM 1 F__law_long_number (hO (lft (kI 30)) hNil)) mNil))) (mCallM 1 F__law_draw (hO (lft (kI 2)) hNil))) (e11 x0 s o2 o3 o4 o5 o6) = .ok (I x) (e11 x0 s4 o2 o3 o4 o5 o6) := by
    unfold mIx
    rw [el, RM.bind_ok, draw_eq, e4, RM.bind_ok]
    rcases hc with rfl | rfl
    · exact ⟨_, .inl rfl, rfl⟩
    · exact ⟨_, .inr rfl, rfl⟩
  obtain ⟨x, hx, e5⟩ := hx
  refine ⟨x, s4, ?_, hs4, ?_⟩
  · rw [fSet_ev, e5, RM.s_ok]
    unfold e11
    simp only [stow_succ, h3.s, Option.map_some, toS_some]
  · rcases hx with rfl | rfl
    · have := hv.1; have := hv.2
      have : (v - 20).natAbs < 10 ^ 2 := by omega
      exact Nat.lt_of_lt_of_le this (Nat.pow_le_pow_right (by decide) (by decide))
    · exact hz
/-- a bad text of a list, refused -/
def qBad (k : Str) : En → SR := (fIf (mNot (mTru (mOf F__law_refuses_text (mCons (lft (kS k)) (mCons (mCallM 1 F__law_one_of (hN 5 hNil)) mNil))))) (fRet (lft (kB false))) fNil)
theorem qBad_ok {k : Str} {x0 s : T} {o2 o3 o4 o6 : Sl} {ts : List (List Nat)} (hs : Stt ns s) (h0 : 0 < ts.length) (h1 : ts.length < 1000) (h : ∀ t ∈ ts, F__law_refuses_text [.d (.str k), S t] = .ok (.d (.bl true))) : ∃ s', qBad k (e11 x0 s o2 o3 o4 (.v (.l (ts.map S))) o6) = .nx (e11 x0 s' o2 o3 o4 (.v (.l (ts.map S))) o6) ∧ Stt ns s' := by
  obtain ⟨d, s', hd, e, hs'⟩ := one_n hl (en := e11 x0 s o2 o3 o4 (.v (.l (ts.map S))) o6) (ds := ts.map fun t => D.str (tx t)) rfl hs (by rw [← lst_S]; rfl) (by rw [List.length_map]; exact h0) (by rw [List.length_map]; omega)
  obtain ⟨t, ht, rfl⟩ := List.mem_map.mp hd
  refine ⟨s', ?_, hs'⟩
  have w : setO (e11 x0 s o2 o3 o4 (.v (.l (ts.map S))) o6) 1 s' = e11 x0 s' o2 o3 o4 (.v (.l (ts.map S))) o6 := rfl
  rw [w] at e
  unfold qBad
  have hr := h t ht
  rw [fIf_ev, mNot_ev, mTru_ev, mOf_ev, mCons_ev, lft_n (x := T.d (.str k)) rfl, RM.bind_ok, mCons_ev, oneof_eq, e, RM.bind_ok, mNil_ev, RM.bind_ok, RM.bind_ok, RM.bind_ok, hr]
  rfl
end
end K00
namespace K00
open PySem PySem.Spec L2 Z
open PyProof.Rows hiding St
open PySem.NumText
/-! the law -/
def LB : En → SR := fSeq q1 (fSeq (fSet 4 (lft (gFn F__law_figures_of (aCons (vN 3) aNil)))) (fSeq (fIf (lft (ckI 3)) (fRet (lft (kB false))) fNil) (fSeq (fSet 5 (lft gBad1)) (fSeq (qBad (Str.ofString "integer")) (fSeq (fSet 6 (mCallM 1 (F__law_some_datum 6) (hO (lft (kI 4)) hNil))) (fSeq (fSet 4 (lft (gFn (F__law_datum_text 46) (aCons (vN 6) aNil))))
  (fSeq (fIf (lft (gOr (gNot (gTru (gFn (F__law_same 46) (aCons (gFn (F_write_data 46) (aCons (vN 6) aNil)) (aCons (vN 4) aNil))))) (gNot (gTru (gFn (F__law_same 46) (aCons (gFn F_read_data (aCons (vN 4) aNil)) (aCons (vN 6) aNil))))))) (fRet (lft (kB false))) fNil)
  (fSeq (fSet 5 (lft gBad2)) (fSeq (fSet 5 (lft (g2 fAdd (vN 5) gBad3))) (qBad (Str.ofString "data")))))))))))
def gWide : En → R T := (gCall fTuple (aCons (gLc [10] (gR1 (kI 60)) (kName 10) gYes (gTup (aCons (vN 10) (aCons (gTup aNil) aNil)))) aNil))
def gFive : En → R T := (gLst (aCons (kS (Str.ofString "\\")) (aCons (kS (Str.ofString "\"")) (aCons (kS (Str.ofString "a longer text, of (many) signs")) (aCons (gTup (aCons (kS (Str.ofString "\\n")) (aCons (kI 1) (aCons (g1 fNeg (kI 1)) aNil)))) (aCons (gFn F__law_nested (aCons (gTup aNil) (aCons (kI 39) aNil))) aNil))))))
def fB6 : En → SR := (fSeq (fIf (lft (gNot (gTru (gFn (F__law_same 46) (aCons (gFn (F_write_data 46) (aCons (vN 6) aNil)) (aCons (gFn (F__law_datum_text 46) (aCons (vN 6) aNil)) aNil)))))) (fRet (lft (kB false))) fNil)
  (fIf (lft (gNot (gTru (gFn (F__law_same 46) (aCons (gFn F_read_data (aCons (gFn (F__law_datum_text 46) (aCons (vN 6) aNil)) aNil)) (aCons (vN 6) aNil)))))) (fRet (lft (kB false))) fNil))
def fB4 : En → SR := (fIf (lft (gNot (gTru (gFn F__law_refuses_text (aCons (kS (Str.ofString "data")) (aCons (vN 4) aNil)))))) (fRet (lft (kB false))) fNil)
def rB (i : Nat) : En → R Bool := (gNot (gTru (gFn (F__law_same 46) (aCons (gFn F_read_data (aCons (gFn (F_write_data 46) (aCons (vN i) aNil)) aNil)) (aCons (vN i) aNil)))))
def gLast : En → R T := (gFn F__law_refuses_text (aCons (kS (Str.ofString "data")) (aCons (gFn (F__law_datum_text 46) (aCons (gFn F__law_nested (aCons (kI 7) (aCons (kI 41) aNil))) aNil)) aNil)))
theorem d_law_eq : d_law = (fSeq (fSet 1 (lft (gFn F__law_start (aCons (vN 0) aNil))))
  (fSeq (fFor (kName 2) (lft (gR1 (kI 4))) LB)
  (fSeq (fSet 7 (lft (g2 fAdd (kI 1) (gCall fAbs (aCons (vN 3) aNil)))))
  (fSeq (fFor (kName 2) (lft (gR1 (kI 280))) (fSet 7 (lft (g2 fAdd (g2 fMul (vN 7) (g2 fPow (kI 10) (kI 18))) (vN 2)))))
  (fSeq (fSet 4 (lft (gFn F__law_figures_of (aCons (vN 7) aNil))))
  (fSeq (fIf (lft (ckI 7)) (fRet (lft (kB false))) fNil)
  (fSeq (fSet 8 (lft gWide))
  (fSeq (fIf (lft (rB 8)) (fRet (lft (kB false))) fNil)
  (fSeq (fFor (kName 6) (lft (gIt gFive)) fB6)
  (fSeq (fFor (kName 4) (lft (gIt gTxt)) fB4)
  (fSeq (fSet 9 (lft (gFn F__law_nested (aCons (kI 7) (aCons (kI 40) aNil)))))
  (fSeq (fIf (lft (rB 9)) (fRet (lft (kB false))) fNil)
  (fRet (lft gLast)))))))))))))) := rfl
theorem sInt : Str.ofString "integer" = tx [105, 110, 116, 101, 103, 101, 114] := by decide +kernel
theorem sDat : Str.ofString "data" = tx [100, 97, 116, 97] := by decide +kernel
theorem f5 {x0 s : T} {o2 o3 o4 o5 o6 : Sl} {x : T} (h : NB o5) : stow (e11 x0 s o2 o3 o4 o5 o6) 5 (.v x) = some (e11 x0 s o2 o3 o4 (.v x) o6) := by unfold e11; simp only [stow_succ, h.s, Option.map_some]
theorem f4 {x0 s : T} {o2 o3 o4 o5 o6 : Sl} {x : T} (h : NB o4) : stow (e11 x0 s o2 o3 o4 o5 o6) 4 (.v x) = some (e11 x0 s o2 o3 (.v x) o5 o6) := by unfold e11; simp only [stow_succ, h.s, Option.map_some]
theorem f6 {x0 s : T} {o2 o3 o4 o5 o6 : Sl} {x : T} (h : NB o6) : stow (e11 x0 s o2 o3 o4 o5 o6) 6 (.v x) = some (e11 x0 s o2 o3 o4 o5 (.v x)) := by unfold e11; simp only [stow_succ, h.s, Option.map_some]
theorem f2 {x0 s : T} {o2 o3 o4 o5 o6 : Sl} {x : T} (h : NB o2) : stow (e11 x0 s o2 o3 o4 o5 o6) 2 (.v x) = some (e11 x0 s (.v x) o3 o4 o5 o6) := by unfold e11; simp only [stow_succ, h.s, Option.map_some]
section
variable {ns : List Int} (hl : ns.length ≤ 63)
include hl
theorem LB_ok {x0 s : T} {o2 o3 o4 o5 o6 : Sl} (hs : Stt ns s) (h3 : NB o3) (h4 : NB o4) (h5 : NB o5) (h6 : NB o6) : ∃ z s' p4 p5 p6, LB (e11 x0 s o2 o3 o4 o5 o6) = .nx (e11 x0 s' o2 (.v (I z)) p4 p5 p6) ∧ Stt ns s' ∧ z.natAbs < 10 ^ 540 ∧ NB p4 ∧ NB p5 ∧ NB p6 := by
  obtain ⟨z, s1, e1, hs1, hz⟩ := q1_ok hl (x0 := x0) (o2 := o2) (o4 := o4) (o5 := o5) (o6 := o6) hs h3
  have hsl := sI_len hz (by decide)
  obtain ⟨s2, e2, hs2⟩ := qBad_ok hl (k := Str.ofString "integer") (x0 := x0) (o2 := o2) (o3 := .v (I z)) (o4 := .v (S (sI z))) (o6 := o6) (ts := intBad (sI z)) hs1 (show 0 < 13 by decide) (show 13 < 1000 by decide) (fun t m => by rw [sInt]; exact int_refused (by omega) t m)
  obtain ⟨x, s3, e3, hs3, hx⟩ := datum_ok hl 4 6 (by decide) (by decide) hs2
  have hlen : (dtx x).length ≤ 17410 := hx.len
  have e3' : mCallM 1 (F__law_some_datum 6) (hO (lft (kI 4)) hNil) (e11 x0 s2 o2 (.v (I z)) (.v (S (sI z))) (.v (.l ((intBad (sI z)).map S))) o6) = .ok (.d x) (e11 x0 s3 o2 (.v (I z)) (.v (S (sI z))) (.v (.l ((intBad (sI z)).map S))) o6) :=
    callM (hs := [.o (I 4)]) (x0 := s2) (en1 := e11 x0 s2 o2 (.v (I z)) (.v (S (sI z))) (.v (.l ((intBad (sI z)).map S))) o6) (x1 := s2) (xs := [I 4]) rfl rfl rfl rfl e3
  obtain ⟨s4, e4, hs4⟩ := qBad_ok hl (k := Str.ofString "data") (x0 := x0) (o2 := o2) (o3 := .v (I z)) (o4 := .v (S (dtx x))) (o6 := .v (.d x)) (ts := clsBad ++ datBad (dtx x)) hs3 (show 0 < 22 by decide) (show 22 < 1000 by decide) (fun t m => by rw [sDat]; exact data_refused hx.gd (by decide) (by omega) t m)
  refine ⟨z, s4, .v (S (dtx x)), .v (.l ((clsBad ++ datBad (dtx x)).map S)), .v (.d x), ?_, hs4, hz, NB.v, NB.v, NB.v⟩
  unfold LB
  have fg := figures_ok hz (by decide) (by decide)
  have dt := datum_text_ok (n := 45) (hx.gd.mono (by decide)) (by omega)
  have ck := ckD_ok (en := e11 x0 s3 o2 (.v (I z)) (.v (S (dtx x))) (.v (.l ((intBad (sI z)).map S))) (.v (.d x))) (gw := vN 6) (gt := vN 4) (gr := vN 6) (gx := vN 6) hx.gd (by decide) (by omega) rfl rfl
  rw [fSeq_ev, e1, sq_nx, fSeq_ev, fSet_ev, lft_n (x := S (sI z)) (show gFn F__law_figures_of (aCons (vN 3) aNil) (e11 x0 s1 o2 (.v (I z)) o4 o5 o6) = _ from fg), RM.s_ok, f4 h4, toS_some, sq_nx]
  rw [fSeq_ev, fIf_f (ckI_ok (z := z) (m := 540) rfl rfl hz (by decide) (by decide)), fNil_ev, sq_nx]
  rw [fSeq_ev, fSet_ev, lft_n (gBad1_ok (t := sI z) rfl (by omega)), RM.s_ok, f5 h5, toS_some, sq_nx, fSeq_ev, e2, sq_nx]
  rw [fSeq_ev, fSet_ev, e3', RM.s_ok, f6 h6, toS_some, sq_nx]
  rw [fSeq_ev, fSet_ev, lft_n (x := S (dtx x)) (show gFn (F__law_datum_text 46) (aCons (vN 6) aNil) (e11 x0 s3 o2 (.v (I z)) (.v (S (sI z))) (.v (.l ((intBad (sI z)).map S))) (.v (.d x))) = _ from dt), RM.s_ok, f4 NB.v, toS_some, sq_nx]
  rw [fSeq_ev, fIf_f (by rw [gOr_ev, ck.1, R.bind_ok, if_neg (by decide), ck.2]), fNil_ev, sq_nx]
  rw [fSeq_ev, fSet_ev, lft_n (gBad2_ok _), RM.s_ok, f5 NB.v, toS_some, sq_nx]
  rw [fSeq_ev, fSet_ev, lft_n (x := .l ((clsBad ++ datBad (dtx x)).map S)), RM.s_ok, f5 NB.v, toS_some, sq_nx, e4]
  rw [g2_ev, show vN 5 (e11 x0 s3 o2 (.v (I z)) (.v (S (dtx x))) (.v (.l (clsBad.map S))) (.v (.d x))) = .ok (.l (clsBad.map S)) from rfl, R.bind_ok, gBad3_ok (t := dtx x) rfl (by omega), R.bind_ok, lst_S, lst_S, fAdd_l (by rw [List.length_map, List.length_map]; show 14 + 8 ≤ 16777216; decide), R.of_some, ← List.map_append, ← lst_S]
end
/-! the rest -/
def nest : Nat → D → D
  | 0, d => d
  | n + 1, d => .tup [nest n d]
theorem nest_GD {d : D} {k : Nat} (h : GD k d) : ∀ n, GD (n + k) (nest n d)
  | 0 => by rw [Nat.zero_add]; exact h
  | n + 1 => by
    rw [show n + 1 + k = n + k + 1 by omega]
    exact .tup fun x m => by rw [List.mem_singleton.mp m]; exact nest_GD h n
theorem nested_1 : F__law_nested [.d (.tup []), I 39] = .ok (.d (nest 39 (.tup []))) := okIs_eq (by decide +kernel)
theorem nested_2 : F__law_nested [I 7, I 40] = .ok (.d (nest 40 (.int 7))) := okIs_eq (by decide +kernel)
theorem nested_3 : F__law_nested [I 7, I 41] = .ok (.d (nest 41 (.int 7))) := okIs_eq (by decide +kernel)
theorem int_small {n : Nat} {z : Int} (h : z.natAbs < 10 ^ 2) : GD n (.int z) := .int (Nat.lt_of_lt_of_le h (Nat.pow_le_pow_right (by decide) (by decide)))
def wideD : List D := (List.range 60).map fun (k : Nat) => D.tup [.int (k : Int), .tup []]
theorem wide_GD : GD 3 (.tup wideD) := .tup fun x m => by
  obtain ⟨k, hk, rfl⟩ := List.mem_map.mp m
  have := List.mem_range.mp hk
  refine .tup fun y hy => ?_
  simp only [List.mem_cons, List.not_mem_nil, or_false] at hy
  rcases hy with rfl | rfl
  · exact .int (Nat.lt_of_lt_of_le (show _ < 10 ^ 2 by omega) (Nat.pow_le_pow_right (by decide) (by decide)))
  · exact .tup fun z hz => absurd hz List.not_mem_nil
def five : List D := [.str (tx [92]), .str (tx [34]), .str (tx [97, 32, 108, 111, 110, 103, 101, 114, 32, 116, 101, 120, 116, 44, 32, 111, 102, 32, 40, 109, 97, 110, 121, 41, 32, 115, 105, 103, 110, 115]), .tup [.str (tx [92, 110]), .int 1, .int (-1)], nest 39 (.tup [])]
theorem l1 : Str.ofString "\\" = tx [92] := by decide +kernel
theorem l2 : Str.ofString "\"" = tx [34] := by decide +kernel
theorem l3 : Str.ofString "a longer text, of (many) signs" = tx [97, 32, 108, 111, 110, 103, 101, 114, 32, 116, 101, 120, 116, 44, 32, 111, 102, 32, 40, 109, 97, 110, 121, 41, 32, 115, 105, 103, 110, 115] := by decide +kernel
theorem l4 : Str.ofString "\\n" = tx [92, 110] := by decide +kernel
theorem gFive_ok (en : En) : gFive en = .ok (.l (five.map T.d)) := by
  unfold gFive
  simp only [gPur_ev, gAndV_ev, gOrV_ev, gNotV_ev, gIsi_ev, gAnd_ev, gOr_ev, gNot_ev, gTru_ev, gT_ev, g2_ev, g1_ev, gIf_ev, gCall_ev, gFn_ev, gTup_ev, gLst_ev, gSl_ev, gCh_ev, gYes_ev, oN_ev, oS_ev, asI_ev, aCons_ev, aNil_ev, vN_ev, kI_ev, kB_ev, kS_ev, kD'_ev, at_succ, at_zero, get_v, get_w, get_b, get_n, Z.R.of_some, Z.R.bind_ok, Z.R.pur_d, fAdd_i, fSub_i, fNeg_i, fLt_i, fLe_i, fGt_i, fGe_i, fEq_i, fNe_i, fInt_i, fInt_b, fAbs_i, fMin2_i, fMax2_i, fLen_l, fLen_t, fLen_r, tst_b, tru_b, tru_i, tru_t, tru_l, tru_r, tru_n, List.length_map, wipeE_cons, wipeE_nil, List.set_cons_succ, List.set_cons_zero, setE_cons, setE_nil, mkS_d, mkS_l, mkTup_nil, mkTup_ev, mkLst_ev, allD_cons, allD_nil, allD_map, Option.map_some, Option.bind_some, if_true, Bool.false_eq_true, if_false, ite_true, ite_false, Bool.not_true, Bool.not_false, decide_true, decide_false, isInt_i, isInt_b, isInt_t, isBl_i, isBl_b, isBl_t, fTuple_ev, fList_ev, dataOf_t, dataOf_l, dataOf_r, lft_ev, Z.RM.of_ok, Z.RM.bind_ok, mCons_ev, mNil_ev, m2_ev, mOf_ev, mT_ev, mTru_ev, mNot_ev, List.cons_append, List.nil_append, l1, l2, l3, l4, nested_1]
  rfl
theorem five_ok : ∀ d ∈ five, GD 40 d ∧ (dtx d).length ≤ 90000 := by
  have hlen : ∀ d ∈ five, (dtx d).length ≤ 90000 := by decide +kernel
  intro d m
  refine ⟨?_, hlen d m⟩
  unfold five at m
  simp only [List.mem_cons, List.not_mem_nil, or_false] at m
  rcases m with rfl | rfl | rfl | rfl | rfl
  · exact .str (by decide)
  · exact .str (by decide)
  · exact .str (by decide)
  · refine .tup fun x m => ?_
    simp only [List.mem_cons, List.not_mem_nil, or_false] at m
    rcases m with rfl | rfl | rfl
    · exact .str (by decide)
    · exact int_small (by decide)
    · exact int_small (by decide)
  · exact nest_GD (k := 1) (.tup fun x m => absurd m List.not_mem_nil) 39
abbrev E (x0 s : T) (o2 o3 o4 o5 o6 o7 o8 o9 : Sl) : En := [.v x0, .v s, o2, o3, o4, o5, o6, o7, o8, o9, .n]
theorem rB_ok {i n : Nat} {d : D} {en : En} (h : GD n d) (hn : n ≤ 40) (hw : (dtx d).length ≤ 90000) (hi : at_ en i = some (.d d)) : rB i en = .ok false := by
  unfold rB
  have w := write_data_ok (n := 45) (h.mono (by omega)) (by omega)
  have r := read_data_ok h hn hw h.okc
  have h1 : gFn (F_write_data 46) (aCons (vN i) aNil) en = .ok (S (dtx d)) := by rw [gFn_ev, aCons_ev, vN_ev, hi]; exact w
  exact same_T (x := .d d) (by rw [gFn_ev, aCons_ev, h1]; exact r) (by rw [vN_ev, hi]; rfl) (same_self h (by omega) (by omega))
theorem gWide_ok (en : En) (h : en.length = 11) : gWide en = .ok (.d (.tup wideD)) := by
  unfold gWide
  have el := gLc_all (vs := [10]) (gs := gR1 (kI 60)) (k := kName 10) (te := gTup (aCons (vN 10) (aCons (gTup aNil) aNil))) (en := en) (List.range 60) _ (fun (k : Nat) => D.tup [.int (k : Int), .tup []]) (gR1_of (n := 60) rfl (by decide)) (by rw [List.length_range]; decide) (fun k hk => by
    refine ⟨[(10, I k)], rfl, ?_⟩
    match en, h with
    | [_, _, _, _, _, _, _, _, _, _, _], _ => rfl)
  rw [gCall_ev, aCons_ev, el]
  show R.of (fTuple [.l (wideD.map T.d)]) = _
  rw [fTuple_ev, dataOf_l, allD_map]; rfl
theorem fB6_ok {d : D} {en : En} (h : GD 40 d) (hw : (dtx d).length ≤ 90000) (hi : at_ en 6 = some (.d d)) : fB6 en = .nx en := by
  unfold fB6
  have dt := datum_text_ok (n := 45) (h.mono (by decide)) (by omega)
  have hg : gFn (F__law_datum_text 46) (aCons (vN 6) aNil) en = .ok (S (dtx d)) := by rw [gFn_ev, aCons_ev, vN_ev, hi]; exact dt
  have ck := ckD_ok (en := en) (gw := vN 6) (gt := gFn (F__law_datum_text 46) (aCons (vN 6) aNil)) (gr := vN 6) (gx := vN 6) h (by decide) hw (by rw [vN_ev, hi]; rfl) hg
  rw [fSeq_ev, fIf_f ck.1, fNil_ev, sq_nx, fIf_f ck.2, fNil_ev]
theorem fB4_ok {t : List Nat} {en : En} (h : F__law_refuses_text [KD, S t] = .ok (.d (.bl true))) (hi : at_ en 4 = some (S t)) : fB4 en = .nx en := by
  unfold fB4
  rw [fIf_f (by
    rw [gNot_ev, gTru_ev, gFn_ev, aCons_ev, sDat, kS_ev, R.bind_ok, aCons_ev, vN_ev, hi]
    show R.bind (R.bind (F__law_refuses_text [KD, S t]) _) _ = _
    rw [h]; rfl), fNil_ev]
theorem gLast_of (en : En) {nd : D} (hn : F__law_nested [I 7, I 41] = .ok (.d nd)) (dt : F__law_datum_text 46 [.d nd] = .ok (S (dtx nd))) (hb : F_read_data [S (dtx nd)] = .ex bad) : gLast en = .ok (.d (.bl true)) := by
  unfold gLast
  have h1 : gFn F__law_nested (aCons (kI 7) (aCons (kI 41) aNil)) en = .ok (.d nd) := by simp only [gPur_ev, gAndV_ev, gOrV_ev, gNotV_ev, gIsi_ev, gAnd_ev, gOr_ev, gNot_ev, gTru_ev, gT_ev, g2_ev, g1_ev, gIf_ev, gCall_ev, gFn_ev, gTup_ev, gLst_ev, gSl_ev, gCh_ev, gYes_ev, oN_ev, oS_ev, asI_ev, aCons_ev, aNil_ev, vN_ev, kI_ev, kB_ev, kS_ev, kD'_ev, at_succ, at_zero, get_v, get_w, get_b, get_n, Z.R.of_some, Z.R.bind_ok, Z.R.pur_d, fAdd_i, fSub_i, fNeg_i, fLt_i, fLe_i, fGt_i, fGe_i, fEq_i, fNe_i, fInt_i, fInt_b, fAbs_i, fMin2_i, fMax2_i, fLen_l, fLen_t, fLen_r, tst_b, tru_b, tru_i, tru_t, tru_l, tru_r, tru_n, List.length_map, wipeE_cons, wipeE_nil, List.set_cons_succ, List.set_cons_zero, setE_cons, setE_nil, mkS_d, mkS_l, mkTup_nil, mkTup_ev, mkLst_ev, allD_cons, allD_nil, allD_map, Option.map_some, Option.bind_some, if_true, Bool.false_eq_true, if_false, ite_true, ite_false, Bool.not_true, Bool.not_false, decide_true, decide_false, isInt_i, isInt_b, isInt_t, isBl_i, isBl_b, isBl_t, fTuple_ev, fList_ev, dataOf_t, dataOf_l, dataOf_r, lft_ev, Z.RM.of_ok, Z.RM.bind_ok, mCons_ev, mNil_ev, m2_ev, mOf_ev, mT_ev, mTru_ev, mNot_ev, List.cons_append, List.nil_append, hn]
  have h2 : gFn (F__law_datum_text 46) (aCons (gFn F__law_nested (aCons (kI 7) (aCons (kI 41) aNil))) aNil) en = .ok (S (dtx nd)) := by rw [gFn_ev, aCons_ev, h1, R.bind_ok, aNil_ev, R.bind_ok, R.bind_ok, dt]
  have h3 := refuses_data hb
  rw [gFn_ev, aCons_ev, sDat, kS_ev, R.bind_ok, aCons_ev, h2, R.bind_ok, aNil_ev, R.bind_ok, R.bind_ok, R.bind_ok, h3]
theorem len41 : (dtx (nest 41 (.int 7))).length ≤ 90000 := by decide +kernel
theorem bad41 : isBad (F_read_data [S (dtx (nest 41 (.int 7)))]) = true := by decide +kernel
theorem gLast_ok (en : En) : gLast en = .ok (.d (.bl true)) :=
  gLast_of en nested_3 (datum_text_ok (n := 45) ((nest_GD (k := 0) (int_small (by decide)) 41).mono (by decide)) (Nat.le_trans len41 (by decide))) (isBad_eq bad41)
theorem law_true (ns : List Int) (hl : ns.length ≤ 63) (hb : ∀ z ∈ ns, Builtin.Int.intBits z ≤ 1048576) : F_law [.d (.rol (ns.map D.int))] = .ok (.d (.bl true)) := by
  refine runP_ret rfl ?_
  show ∃ e, d_law [.v (.d (.rol (ns.map D.int))), .n, .n, .n, .n, .n, .n, .n, .n, .n, .n] = _
  rw [d_law_eq]
  have es : F__law_start [.d (.rol (ns.map D.int))] = .ok (St ns 0 0 0) := start_St ns
  generalize T.d (.rol (ns.map D.int)) = x0 at es
  refine ret_seq (en1 := e11 x0 (St ns 0 0 0) .n .n .n .n .n) (by
    rw [fSet_ev, lft_n (x := St ns 0 0 0) (show gFn F__law_start (aCons (vN 0) aNil) [.v x0, .n, .n, .n, .n, .n, .n, .n, .n, .n, .n] = _ from es)]
    rfl) ?_
  obtain ⟨en', e1, q⟩ := for_ix (v := 2) (mi := lft (gR1 (kI 4))) (f := LB) (fun (i : Nat) en => ∃ s o2 o3 o4 o5 o6, Stt ns s ∧ NB o2 ∧ NB o3 ∧ NB o4 ∧ NB o5 ∧ NB o6 ∧ (0 < i → ∃ z : Int, o3 = .v (I z) ∧ z.natAbs < 10 ^ 540) ∧ en = e11 x0 s o2 o3 o4 o5 o6) (e11 x0 (St ns 0 0 0) .n .n .n .n .n) (lft_n (gR1_of (n := 4) rfl (by decide))) ⟨_, .n, .n, .n, .n, .n, ⟨_, _, _, rfl⟩, NB.n, NB.n, NB.n, NB.n, NB.n, fun h => absurd h (Nat.lt_irrefl _), rfl⟩ (fun i hi en ⟨s, o2, o3, o4, o5, o6, hs, h2, h3, h4, h5, h6, _, e⟩ => by
    subst e
    rw [List.getElem_map]
    obtain ⟨z, s', p4, p5, p6, e2, hs', hz, n4, n5, n6⟩ := LB_ok hl (x0 := x0) (o2 := .v (I ((List.range 4)[i] : Nat))) hs h3 h4 h5 h6
    exact ⟨_, _, f2 h2, .inl e2, s', _, _, p4, p5, p6, hs', NB.v, NB.v, n4, n5, n6, fun _ => ⟨z, rfl, hz⟩, rfl⟩)
  rw [List.length_map, List.length_range] at q
  obtain ⟨s, o2, o3, o4, o5, o6, hs, h2, h3, h4, h5, h6, hz, rfl⟩ := q
  have hz' := hz (by decide)
  clear hz
  obtain ⟨z, rfl, hz⟩ := hz'
  refine ret_seq e1 ?_
  have ea : (if z < 0 then -z else z) = (z.natAbs : Int) := by split <;> omega
  refine ret_seq (en1 := E x0 s o2 (.v (I z)) o4 o5 o6 (.v (I (1 + z.natAbs : Nat))) .n .n) (by
    rw [fSet_ev, lft_n (x := I (1 + z.natAbs : Nat))]
    · rfl
    · unfold e11
      simp only [gPur_ev, gAndV_ev, gOrV_ev, gNotV_ev, gIsi_ev, gAnd_ev, gOr_ev, gNot_ev, gTru_ev, gT_ev, g2_ev, g1_ev, gIf_ev, gCall_ev, gFn_ev, gTup_ev, gLst_ev, gSl_ev, gCh_ev, gYes_ev, oN_ev, oS_ev, asI_ev, aCons_ev, aNil_ev, vN_ev, kI_ev, kB_ev, kS_ev, kD'_ev, at_succ, at_zero, get_v, get_w, get_b, get_n, Z.R.of_some, Z.R.bind_ok, Z.R.pur_d, fAdd_i, fSub_i, fNeg_i, fLt_i, fLe_i, fGt_i, fGe_i, fEq_i, fNe_i, fInt_i, fInt_b, fAbs_i, fMin2_i, fMax2_i, fLen_l, fLen_t, fLen_r, tst_b, tru_b, tru_i, tru_t, tru_l, tru_r, tru_n, List.length_map, wipeE_cons, wipeE_nil, List.set_cons_succ, List.set_cons_zero, setE_cons, setE_nil, mkS_d, mkS_l, mkTup_nil, mkTup_ev, mkLst_ev, allD_cons, allD_nil, allD_map, Option.map_some, Option.bind_some, if_true, Bool.false_eq_true, if_false, ite_true, ite_false, Bool.not_true, Bool.not_false, decide_true, decide_false, isInt_i, isInt_b, isInt_t, isBl_i, isBl_b, isBl_t, fTuple_ev, fList_ev, dataOf_t, dataOf_l, dataOf_r, lft_ev, Z.RM.of_ok, Z.RM.bind_ok, mCons_ev, mNil_ev, m2_ev, mOf_ev, mT_ev, mTru_ev, mNot_ev, List.cons_append, List.nil_append, ea]
      rw [show (1 : Int) + (z.natAbs : Int) = ((1 + z.natAbs : Nat) : Int) by omega]) ?_
  obtain ⟨en', e2, q⟩ := for_ix (v := 2) (mi := lft (gR1 (kI 280))) (f := (fSet 7 (lft (g2 fAdd (g2 fMul (vN 7) (g2 fPow (kI 10) (kI 18))) (vN 2))))) (fun (i : Nat) en => ∃ (n : Nat) (o2 : Sl), NB o2 ∧ n < 10 ^ (541 + 18 * i) ∧ en = E x0 s o2 (.v (I z)) o4 o5 o6 (.v (I n)) .n .n) (E x0 s o2 (.v (I z)) o4 o5 o6 (.v (I (1 + z.natAbs : Nat))) .n .n) (lft_n (gR1_of (n := 280) rfl (by decide))) ⟨1 + z.natAbs, o2, h2, by
      have h1 : (0 : Nat) < 10 ^ 540 := Nat.pow_pos (by decide)
      rw [Nat.mul_zero, Nat.add_zero, show 541 = 540 + 1 from rfl, Nat.pow_succ]; generalize 10 ^ 540 = b at *; omega, rfl⟩ (fun i hi en ⟨n, p2, hb2, hn, e⟩ => by
    subst e
    rw [List.length_map, List.length_range] at hi
    rw [List.getElem_map, List.getElem_range]
    refine ⟨E x0 s (.v (I i)) (.v (I z)) o4 o5 o6 (.v (I n)) .n .n, E x0 s (.v (I i)) (.v (I z)) o4 o5 o6 (.v (I (n * 1000000000000000000 + i : Nat))) .n .n, by simp only [stow_succ, hb2.s, Option.map_some, mkS_d], .inl ?_, n * 1000000000000000000 + i, .v (I i), NB.v, ?_, rfl⟩
    · rw [fSet_ev, lft_n (x := I (n * 1000000000000000000 + i : Nat))]
      · rw [RM.s_ok]
        simp only [stow_succ, stow_v0, Option.map_some, toS_some]
      · simp only [gPur_ev, gAndV_ev, gOrV_ev, gNotV_ev, gIsi_ev, gAnd_ev, gOr_ev, gNot_ev, gTru_ev, gT_ev, g2_ev, g1_ev, gIf_ev, gCall_ev, gFn_ev, gTup_ev, gLst_ev, gSl_ev, gCh_ev, gYes_ev, oN_ev, oS_ev, asI_ev, aCons_ev, aNil_ev, vN_ev, kI_ev, kB_ev, kS_ev, kD'_ev, at_succ, at_zero, get_v, get_w, get_b, get_n, Z.R.of_some, Z.R.bind_ok, Z.R.pur_d, fAdd_i, fSub_i, fNeg_i, fLt_i, fLe_i, fGt_i, fGe_i, fEq_i, fNe_i, fInt_i, fInt_b, fAbs_i, fMin2_i, fMax2_i, fLen_l, fLen_t, fLen_r, tst_b, tru_b, tru_i, tru_t, tru_l, tru_r, tru_n, List.length_map, wipeE_cons, wipeE_nil, List.set_cons_succ, List.set_cons_zero, setE_cons, setE_nil, mkS_d, mkS_l, mkTup_nil, mkTup_ev, mkLst_ev, allD_cons, allD_nil, allD_map, Option.map_some, Option.bind_some, if_true, Bool.false_eq_true, if_false, ite_true, ite_false, Bool.not_true, Bool.not_false, decide_true, decide_false, isInt_i, isInt_b, isInt_t, isBl_i, isBl_b, isBl_t, fTuple_ev, fList_ev, dataOf_t, dataOf_l, dataOf_r, lft_ev, Z.RM.of_ok, Z.RM.bind_ok, mCons_ev, mNil_ev, m2_ev, mOf_ev, mT_ev, mTru_ev, mNot_ev, List.cons_append, List.nil_append, pow18, fMul_i]
        rw [if_pos (mulOk18 _), R.of_some, R.bind_ok, fAdd_i, R.of_some, show (n : Int) * 1000000000000000000 + (i : Int) = ((n * 1000000000000000000 + i : Nat) : Int) by omega]
    · rw [show 541 + 18 * (i + 1) = 541 + 18 * i + 18 by omega, Nat.pow_add, ten18]
      have : (n + 1) * 1000000000000000000 ≤ 10 ^ (541 + 18 * i) * 1000000000000000000 := Nat.mul_le_mul_right _ hn
      omega)
  rw [List.length_map, List.length_range] at q
  obtain ⟨g, p2, hp2, hg, rfl⟩ := q
  refine ret_seq e2 ?_
  obtain ⟨m, hm1, hm2, hgm⟩ : ∃ m, 1 ≤ m ∧ m ≤ 160000 ∧ g < 10 ^ m := ⟨541 + 18 * 280, by decide, by decide, hg⟩
  have hgz : (g : Int).natAbs < 10 ^ m := by rw [Int.natAbs_natCast]; exact hgm
  have fg := figures_ok hgz hm1 hm2
  refine ret_seq (en1 := E x0 s p2 (.v (I z)) (.v (S (sI g))) o5 o6 (.v (I g)) .n .n) (by
    rw [fSet_ev, lft_n (x := S (sI g)) (by simp only [gPur_ev, gAndV_ev, gOrV_ev, gNotV_ev, gIsi_ev, gAnd_ev, gOr_ev, gNot_ev, gTru_ev, gT_ev, g2_ev, g1_ev, gIf_ev, gCall_ev, gFn_ev, gTup_ev, gLst_ev, gSl_ev, gCh_ev, gYes_ev, oN_ev, oS_ev, asI_ev, aCons_ev, aNil_ev, vN_ev, kI_ev, kB_ev, kS_ev, kD'_ev, at_succ, at_zero, get_v, get_w, get_b, get_n, Z.R.of_some, Z.R.bind_ok, Z.R.pur_d, fAdd_i, fSub_i, fNeg_i, fLt_i, fLe_i, fGt_i, fGe_i, fEq_i, fNe_i, fInt_i, fInt_b, fAbs_i, fMin2_i, fMax2_i, fLen_l, fLen_t, fLen_r, tst_b, tru_b, tru_i, tru_t, tru_l, tru_r, tru_n, List.length_map, wipeE_cons, wipeE_nil, List.set_cons_succ, List.set_cons_zero, setE_cons, setE_nil, mkS_d, mkS_l, mkTup_nil, mkTup_ev, mkLst_ev, allD_cons, allD_nil, allD_map, Option.map_some, Option.bind_some, if_true, Bool.false_eq_true, if_false, ite_true, ite_false, Bool.not_true, Bool.not_false, decide_true, decide_false, isInt_i, isInt_b, isInt_t, isBl_i, isBl_b, isBl_t, fTuple_ev, fList_ev, dataOf_t, dataOf_l, dataOf_r, lft_ev, Z.RM.of_ok, Z.RM.bind_ok, mCons_ev, mNil_ev, m2_ev, mOf_ev, mT_ev, mTru_ev, mNot_ev, List.cons_append, List.nil_append, fg]), RM.s_ok]
    simp only [stow_succ, h4.s, Option.map_some, toS_some]) ?_
  refine ret_if_f (ckI_ok (z := (g : Int)) (m := m) rfl rfl hgz hm1 hm2) ?_
  refine ret_seq (en1 := E x0 s p2 (.v (I z)) (.v (S (sI g))) o5 o6 (.v (I g)) (.v (.d (.tup wideD))) .n) (by
    rw [fSet_ev, lft_n (gWide_ok _ rfl)]; rfl) ?_
  refine ret_if_f (rB_ok wide_GD (by decide) (by decide +kernel) rfl) ?_
  obtain ⟨en', e3, p6, hp6, rfl⟩ := for_ix (v := 6) (mi := lft (gIt gFive)) (f := fB6) (xs := five.map T.d) (fun (i : Nat) en => ∃ p6, NB p6 ∧ en = E x0 s p2 (.v (I z)) (.v (S (sI g))) o5 p6 (.v (I g)) (.v (.d (.tup wideD))) .n) (E x0 s p2 (.v (I z)) (.v (S (sI g))) o5 o6 (.v (I g)) (.v (.d (.tup wideD))) .n) (lft_n (by rw [gIt_ev, gFive_ok]; rfl)) ⟨o6, h6, rfl⟩ (fun i hi en ⟨p6, hb6, e⟩ => by
    subst e
    rw [List.length_map] at hi
    rw [List.getElem_map]
    have hf := five_ok _ (List.getElem_mem hi)
    exact ⟨E x0 s p2 (.v (I z)) (.v (S (sI g))) o5 (.v (.d five[i])) (.v (I g)) (.v (.d (.tup wideD))) .n, _, by simp only [stow_succ, hb6.s, Option.map_some, mkS_d], .inl (fB6_ok hf.1 hf.2 rfl), _, NB.v, rfl⟩)
  refine ret_seq e3 ?_
  obtain ⟨en', e4, p4, hp4, rfl⟩ := for_ix (v := 4) (mi := lft (gIt gTxt)) (f := fB4) (xs := txtBad.map S) (fun (i : Nat) en => ∃ p4, NB p4 ∧ en = E x0 s p2 (.v (I z)) p4 o5 p6 (.v (I g)) (.v (.d (.tup wideD))) .n) (E x0 s p2 (.v (I z)) (.v (S (sI g))) o5 p6 (.v (I g)) (.v (.d (.tup wideD))) .n) (lft_n (by rw [gIt_ev, gTxt_ok]; rfl)) ⟨_, NB.v, rfl⟩ (fun i hi en ⟨p4, hb4, e⟩ => by
    subst e
    rw [List.length_map] at hi
    rw [List.getElem_map]
    have hf := txt_refused _ (List.getElem_mem hi)
    exact ⟨E x0 s p2 (.v (I z)) (.v (S txtBad[i])) o5 p6 (.v (I g)) (.v (.d (.tup wideD))) .n, _, by simp only [stow_succ, hb4.s, Option.map_some, mkS_d], .inl (fB4_ok hf rfl), _, NB.v, rfl⟩)
  refine ret_seq e4 ?_
  refine ret_seq (en1 := E x0 s p2 (.v (I z)) p4 o5 p6 (.v (I g)) (.v (.d (.tup wideD))) (.v (.d (nest 40 (.int 7))))) (by
    rw [fSet_ev, lft_n (x := T.d (nest 40 (.int 7))) (by simp only [gPur_ev, gAndV_ev, gOrV_ev, gNotV_ev, gIsi_ev, gAnd_ev, gOr_ev, gNot_ev, gTru_ev, gT_ev, g2_ev, g1_ev, gIf_ev, gCall_ev, gFn_ev, gTup_ev, gLst_ev, gSl_ev, gCh_ev, gYes_ev, oN_ev, oS_ev, asI_ev, aCons_ev, aNil_ev, vN_ev, kI_ev, kB_ev, kS_ev, kD'_ev, at_succ, at_zero, get_v, get_w, get_b, get_n, Z.R.of_some, Z.R.bind_ok, Z.R.pur_d, fAdd_i, fSub_i, fNeg_i, fLt_i, fLe_i, fGt_i, fGe_i, fEq_i, fNe_i, fInt_i, fInt_b, fAbs_i, fMin2_i, fMax2_i, fLen_l, fLen_t, fLen_r, tst_b, tru_b, tru_i, tru_t, tru_l, tru_r, tru_n, List.length_map, wipeE_cons, wipeE_nil, List.set_cons_succ, List.set_cons_zero, setE_cons, setE_nil, mkS_d, mkS_l, mkTup_nil, mkTup_ev, mkLst_ev, allD_cons, allD_nil, allD_map, Option.map_some, Option.bind_some, if_true, Bool.false_eq_true, if_false, ite_true, ite_false, Bool.not_true, Bool.not_false, decide_true, decide_false, isInt_i, isInt_b, isInt_t, isBl_i, isBl_b, isBl_t, fTuple_ev, fList_ev, dataOf_t, dataOf_l, dataOf_r, lft_ev, Z.RM.of_ok, Z.RM.bind_ok, mCons_ev, mNil_ev, m2_ev, mOf_ev, mT_ev, mTru_ev, mNot_ev, List.cons_append, List.nil_append, nested_2])]; rfl) ?_
  refine ret_if_f (rB_ok (nest_GD (k := 0) (int_small (by decide)) 40) (by decide) (by decide +kernel) rfl) ?_
  exact ret_lft (gLast_ok _)
end K00
open PySem PySem.W PyProof.Rows
set_option maxHeartbeats 0 in
theorem PySem.Challenge.cw_countunseen_k00_integers_and_data_holds : PySem.Challenge.rw_countunseen_k00_integers_and_data.Holds := by
  w_on; o_law; k_head; (case hw => w_witness2)
  k_fill
  refine L2.walk_ofB (l := PySem.Challenge.rw_countunseen_k00_integers_and_data) (n := 63) (k := 49) (x := "script") (CX := fun w => L2.CX PySem.Challenge.rw_countunseen_k00_integers_and_data.prog w) (sp := fun w => Z.spL _ K00.F_law) rfl (by decide) rfl ⟨rfl, by decide, by decide⟩ (fun w h Y => PySem.W.kIn_of Y) ?F (fun w H a ns hl hb hO hS => Z.law_spL hO hS (K00.law_true ns hl hb)) (fun w H s e s2 h => Z.cx_false h)
  case F =>
    intro w mg fa h KX G hmg
    refine' K00.all_mk KX G hmg ?a0 ?l0 ?c0 ?k0 ?a1 ?l1 ?c1 ?k1 ?a2 ?l2 ?c2 ?k2 ?a3 ?l3 ?c3 ?k3 ?a4 ?l4 ?c4 ?k4 ?a5 ?l5 ?c5 ?k5 ?a6 ?l6 ?c6 ?k6 ?a7 ?l7 ?c7 ?k7 ?a8 ?l8 ?c8 ?k8 ?a9 ?l9 ?c9 ?k9 ?a10 ?l10 ?c10 ?k10 ?a11 ?l11 ?c11 ?k11 ?a12 ?l12 ?c12 ?k12 ?a13 ?l13 ?c13 ?k13 ?a14 ?l14 ?c14 ?k14 ?a15 ?l15 ?c15 ?k15 ?a16 ?l16 ?c16 ?k16 ?a17 ?l17 ?c17 ?k17 ?y_abs ?y_all ?y_bool ?y_divmod ?y_int ?y_isinstance ?y_len ?y_list ?y_ord ?y_range ?y_str ?y_tuple ?x_BASE ?x_DEPTH ?x_DIGITS ?x_SIGNS ?xa_BadText ?xa_CountunseenError ?xs_BadText ?xt_BadText ?xd_BadText ?xg_BadText ?xh_BadText ?xc_BadText ?xn ?xq ?xm_BadText ?xx_BadText ?xk_BadText ?xs_CountunseenError ?xt_CountunseenError ?xi_CountunseenError ?xu_BadText_CountunseenError ?xu_BadText_BadText
    (case a0 => k_is); (case l0 => k_is); (case c0 => k_is); (case k0 => k_is); (case a1 => k_is); (case l1 => k_is); (case c1 => k_is); (case k1 => k_is); (case a2 => k_is); (case l2 => k_is); (case c2 => k_is); (case k2 => k_is); (case a3 => k_is); (case l3 => k_is); (case c3 => k_is); (case k3 => k_is); (case a4 => k_is); (case l4 => k_is); (case c4 => k_is); (case k4 => k_is); (case a5 => k_is); (case l5 => k_is); (case c5 => k_is); (case k5 => k_is); (case a6 => k_is); (case l6 => k_is); (case c6 => k_is); (case k6 => k_is); (case a7 => k_is); (case l7 => k_is); (case c7 => k_is); (case k7 => k_is); (case a8 => k_is); (case l8 => k_is); (case c8 => k_is); (case k8 => k_is); (case a9 => k_is); (case l9 => k_is); (case c9 => k_is); (case k9 => k_is); (case a10 => k_is); (case l10 => k_is); (case c10 => k_is); (case k10 => k_is); (case a11 => k_is); (case l11 => k_is); (case c11 => k_is); (case k11 => k_is); (case a12 => k_is); (case l12 => k_is); (case c12 => k_is); (case k12 => k_is); (case a13 => k_is); (case l13 => k_is); (case c13 => k_is); (case k13 => k_is); (case a14 => k_is); (case l14 => k_is); (case c14 => k_is); (case k14 => k_is); (case a15 => k_is); (case l15 => k_is); (case c15 => k_is); (case k15 => k_is); (case a16 => k_is); (case l16 => k_is); (case c16 => k_is); (case k16 => k_is); (case a17 => k_is); (case l17 => k_is); (case c17 => k_is); (case k17 => k_is); (case y_abs => k_is); (case y_all => k_is); (case y_bool => k_is); (case y_divmod => k_is); (case y_int => k_is); (case y_isinstance => k_is); (case y_len => k_is); (case y_list => k_is); (case y_ord => k_is); (case y_range => k_is); (case y_str => k_is); (case y_tuple => k_is); (case x_BASE => k_is); (case x_DEPTH => k_is); (case x_DIGITS => k_is); (case x_SIGNS => k_is); (case xa_BadText => k_is); (case xa_CountunseenError => k_is); (case xs_BadText => k_is); (case xt_BadText => k_is); (case xd_BadText => k_is); (case xg_BadText => k_is); (case xh_BadText => k_is); (case xc_BadText => k_is); (case xn => k_is); (case xq => k_is); (case xm_BadText => k_is); (case xx_BadText => k_exc); (case xk_BadText => k_is); (case xs_CountunseenError => k_is); (case xt_CountunseenError => k_is); (case xi_CountunseenError => k_is); (case xu_BadText_CountunseenError => k_is); (case xu_BadText_BadText => k_is)
