import PyProof.Rows.All
import PySem.Challenge.RW_countunseen_k01_polynomials
import HandS.ForMost
import HandS.ForExc
import HandS.TupAny
import HandS.Flow
import HandS.IsInst
import HandS.EndBits
import HandS.Wide
import HandS.Style
import HandS.Conv
import HandS.RevRange
import HandS.Walk
import HandS.CallSlots
import HandS.Zip
import PyProof.Draws
import HandS.Rev
set_option Elab.async false
set_option linter.all false
set_option maxRecDepth 100000
set_option maxHeartbeats 4000000
/-! Z: what a def of the program computes, as a plain function. Data, things, views, ownership. -/
namespace Z
open PySem PySem.Spec L2
open PyProof.Rows hiding St

/-- data that never change -/
inductive D where
  | non | bl (b : Bool) | int (i : Int) | str (s : Str) | tup (ds : List D) | rol (ds : List D)
/-- a datum, or a list that may change -/
inductive T where
  | d (d : D) | l (xs : List T)
/-- tuples and frozen things stay -/
def Pst (H H' : Hp) : Prop := (∀ a vs, H a = some (.tup vs) → H' a = some (.tup vs)) ∧ ∀ a o u, H a = some (.frz o u) → H' a = some (.frz o u)
theorem Pst.refl (H : Hp) : Pst H H := ⟨fun _ _ h => h, fun _ _ _ h => h⟩
theorem Pst.trans {H H1 H2 : Hp} (a : Pst H H1) (b : Pst H1 H2) : Pst H H2 := ⟨fun c o h => b.1 c o (a.1 c o h), fun c o u h => b.2 c o u (a.2 c o u h)⟩
theorem Pst.of {H H' : Hp} (s : Same H H') : Pst H H' := ⟨fun a vs h => s a _ h, fun a o u h => s a _ h⟩
theorem sqT_pst {K : PySem.W.Frag} {H H' : Hp} {a : Addr} {xs : List V} (p : Pst H H') (h : SqT K H a xs) : SqT K H' a xs := by
  rcases h with (h | ⟨o, h⟩) | h
  · exact .inl (.inl (p.1 _ _ h))
  · exact .inl (.inr ⟨o, p.2 _ _ _ h⟩)
  · exact .inr h
/-- a list that nobody writes -/
def RO (K : PySem.W.Frag) (H : Hp) (a : Addr) (vs : List V) : Prop := ∀ H', Pst H H' → SqL K H' a vs
theorem RO.mono {K : PySem.W.Frag} {H H' : Hp} {a : Addr} {xs : List V} (p : Pst H H') (h : RO K H a xs) : RO K H' a xs := fun H2 q => h H2 (p.trans q)
mutual
inductive RepD (K : PySem.W.Frag) (H : Hp) : V → D → Prop
  | non : RepD K H .non .non
  | bl (b : Bool) : RepD K H (.bl b) (.bl b)
  | int (i : Int) : RepD K H (.int i) (.int i)
  | str (s : Str) : RepD K H (.str s) (.str s)
  | tup {a : Addr} {vs : List V} {ds : List D} : SqT K H a vs → RepDs K H vs ds → RepD K H (.ref a) (.tup ds)
  | rol {a : Addr} {vs : List V} {ds : List D} : RO K H a vs → RepDs K H vs ds → RepD K H (.ref a) (.rol ds)
inductive RepDs (K : PySem.W.Frag) (H : Hp) : List V → List D → Prop
  | nil : RepDs K H [] []
  | cons {v : V} {vs : List V} {d : D} {ds : List D} : RepD K H v d → RepDs K H vs ds → RepDs K H (v :: vs) (d :: ds)
end
mutual
theorem RepD.mono {K : PySem.W.Frag} {H H' : Hp} (p : Pst H H') : ∀ {v : V} {d : D}, RepD K H v d → RepD K H' v d
  | _, _, .non => .non
  | _, _, .bl b => .bl b
  | _, _, .int i => .int i
  | _, _, .str s => .str s
  | _, _, .tup h r => .tup (sqT_pst p h) (RepDs.mono p r)
  | _, _, .rol h r => .rol (h.mono p) (RepDs.mono p r)
theorem RepDs.mono {K : PySem.W.Frag} {H H' : Hp} (p : Pst H H') : ∀ {vs : List V} {ds : List D}, RepDs K H vs ds → RepDs K H' vs ds
  | _, _, .nil => .nil
  | _, _, .cons r t => .cons (RepD.mono p r) (RepDs.mono p t)
end
/-! a thing, and the addresses of its lists -/
mutual
inductive Own (K : PySem.W.Frag) (H : Hp) : V → T → List Addr → Prop
  | d {v : V} {d : D} : RepD K H v d → Own K H v (.d d) []
  | l {a : Addr} {vs : List V} {xs : List T} {F : List Addr} : H a = some (.lst vs) → Owns K H vs xs F → Own K H (.ref a) (.l xs) (a :: F)
inductive Owns (K : PySem.W.Frag) (H : Hp) : List V → List T → List Addr → Prop
  | nil : Owns K H [] [] []
  | cons {v : V} {vs : List V} {x : T} {xs : List T} {F G : List Addr} : Own K H v x F → Owns K H vs xs G → Owns K H (v :: vs) (x :: xs) (F ++ G)
end
mutual
theorem Own.frame {K : PySem.W.Frag} {H H' : Hp} (p : Pst H H') : ∀ {v : V} {x : T} {F : List Addr}, Own K H v x F → (∀ a ∈ F, ∀ o, H a = some o → H' a = some o) → Own K H' v x F
  | _, _, _, .d r, _ => .d (r.mono p)
  | _, _, _, .l h r, k => .l (k _ List.mem_cons_self _ h) (Owns.frame p r fun a m => k a (List.mem_cons_of_mem _ m))
theorem Owns.frame {K : PySem.W.Frag} {H H' : Hp} (p : Pst H H') : ∀ {vs : List V} {xs : List T} {F : List Addr}, Owns K H vs xs F → (∀ a ∈ F, ∀ o, H a = some o → H' a = some o) → Owns K H' vs xs F
  | _, _, _, .nil, _ => .nil
  | _, _, _, .cons r t, k => .cons (Own.frame p r fun a m => k a (List.mem_append_left _ m)) (Owns.frame p t fun a m => k a (List.mem_append_right _ m))
end
mutual
theorem Own.dom {K : PySem.W.Frag} {H : Hp} : ∀ {v : V} {x : T} {F : List Addr}, Own K H v x F → ∀ a ∈ F, ∃ vs, H a = some (.lst vs)
  | _, _, _, .d _, a, m => absurd m List.not_mem_nil
  | _, _, _, .l h r, a, m => (List.mem_cons.mp m).elim (fun e => ⟨_, e ▸ h⟩) (Owns.dom r a)
theorem Owns.dom {K : PySem.W.Frag} {H : Hp} : ∀ {vs : List V} {xs : List T} {F : List Addr}, Owns K H vs xs F → ∀ a ∈ F, ∃ vs, H a = some (.lst vs)
  | _, _, _, .nil, a, m => absurd m List.not_mem_nil
  | _, _, _, .cons r t, a, m => (List.mem_append.mp m).elim (Own.dom r a) (Owns.dom t a)
end
theorem Own.mono {K : PySem.W.Frag} {H H' : Hp} (s : Same H H') {v : V} {x : T} {F : List Addr} (h : Own K H v x F) : Own K H' v x F := h.frame (.of s) fun a _ o e => s a o e
theorem Owns.mono {K : PySem.W.Frag} {H H' : Hp} (s : Same H H') {vs : List V} {xs : List T} {F : List Addr} (h : Owns K H vs xs F) : Owns K H' vs xs F := h.frame (.of s) fun a _ o e => s a o e
theorem Owns.append {K : PySem.W.Frag} {H : Hp} : ∀ {vs us : List V} {xs ys : List T} {F G : List Addr}, Owns K H vs xs F → Owns K H us ys G → Owns K H (vs ++ us) (xs ++ ys) (F ++ G)
  | _, _, _, _, _, _, .nil, h => h
  | _, _, _, _, _, _, .cons r t, h => by
    rw [List.append_assoc]
    exact .cons r (Owns.append t h)
theorem Owns.length {K : PySem.W.Frag} {H : Hp} : ∀ {vs : List V} {xs : List T} {F : List Addr}, Owns K H vs xs F → vs.length = xs.length
  | _, _, _, .nil => rfl
  | _, _, _, .cons _ t => congrArg Nat.succ (Owns.length t)
theorem RepDs.length {K : PySem.W.Frag} {H : Hp} : ∀ {vs : List V} {ds : List D}, RepDs K H vs ds → vs.length = ds.length
  | _, _, .nil => rfl
  | _, _, .cons _ t => congrArg Nat.succ (RepDs.length t)
theorem RepDs.owns {K : PySem.W.Frag} {H : Hp} : ∀ {vs : List V} {ds : List D}, RepDs K H vs ds → Owns K H vs (ds.map T.d) []
  | _, _, .nil => .nil
  | _, _, .cons r t => .cons (.d r) (RepDs.owns t)
theorem RepDs.append {K : PySem.W.Frag} {H : Hp} : ∀ {vs us : List V} {ds es : List D}, RepDs K H vs ds → RepDs K H us es → RepDs K H (vs ++ us) (ds ++ es)
  | _, _, _, _, .nil, h => h
  | _, _, _, _, .cons r t, h => .cons r (RepDs.append t h)
theorem RepDs.get {K : PySem.W.Frag} {H : Hp} : ∀ {vs : List V} {ds : List D} {i : Nat} {d : D}, RepDs K H vs ds → ds[i]? = some d → ∃ v, vs[i]? = some v ∧ RepD K H v d
  | _, _, _, _, .nil, e => by simp at e
  | _, _, 0, _, .cons r _, e => by simp at e; subst e; exact ⟨_, rfl, r⟩
  | _, _, i + 1, d, .cons _ t, e => by
    obtain ⟨v, h1, h2⟩ := RepDs.get (i := i) (d := d) t (by simpa using e)
    exact ⟨v, by simpa using h1, h2⟩
theorem RepDs.take {K : PySem.W.Frag} {H : Hp} : ∀ {vs : List V} {ds : List D} (n : Nat), RepDs K H vs ds → RepDs K H (vs.take n) (ds.take n)
  | _, _, 0, _ => .nil
  | _, _, _ + 1, .nil => .nil
  | _, _, n + 1, .cons r t => .cons r (RepDs.take n t)
theorem RepDs.drop {K : PySem.W.Frag} {H : Hp} : ∀ {vs : List V} {ds : List D} (n : Nat), RepDs K H vs ds → RepDs K H (vs.drop n) (ds.drop n)
  | _, _, 0, r => r
  | _, _, _ + 1, .nil => .nil
  | _, _, n + 1, .cons _ t => RepDs.drop n t
theorem Owns.get {K : PySem.W.Frag} {H : Hp} : ∀ {vs : List V} {xs : List T} {F : List Addr} {i : Nat} {x : T}, Owns K H vs xs F → xs[i]? = some x → ∃ v G, vs[i]? = some v ∧ Own K H v x G ∧ ∀ a ∈ G, a ∈ F
  | _, _, _, _, _, .nil, e => by simp at e
  | _, _, _, 0, _, .cons r _, e => by simp at e; subst e; exact ⟨_, _, rfl, r, fun a m => List.mem_append_left _ m⟩
  | _, _, _, i + 1, x, .cons _ t, e => by
    obtain ⟨v, G, h1, h2, h3⟩ := Owns.get (i := i) (x := x) t (by simpa using e)
    exact ⟨v, G, by simpa using h1, h2, fun a m => List.mem_append_right _ (h3 a m)⟩
/-- a list of things that are all data -/
def allD : List T → Option (List D)
  | [] => some []
  | .d d :: r => (allD r).map (d :: ·)
  | .l _ :: _ => none
@[simp] theorem allD_map : ∀ ds : List D, allD (ds.map T.d) = some ds
  | [] => rfl
  | d :: r => by rw [List.map_cons, allD, allD_map r]; rfl
theorem allD_eq : ∀ {xs : List T} {ds : List D}, allD xs = some ds → xs = ds.map T.d
  | [], ds, h => by cases h; rfl
  | .d d :: r, ds, h => by
    unfold allD at h
    cases e : allD r with
    | none => rw [e] at h; cases h
    | some es => rw [e] at h; cases h; rw [allD_eq e]; rfl
  | .l _ :: _, ds, h => by cases h
theorem Owns.data {K : PySem.W.Frag} {H : Hp} : ∀ {vs : List V} {ds : List D} {F : List Addr}, Owns K H vs (ds.map T.d) F → RepDs K H vs ds ∧ F = []
  | _, [], _, .nil => ⟨.nil, rfl⟩
  | _, d :: ds, _, .cons (.d r) t => let ⟨a, b⟩ := Owns.data t; ⟨.cons r a, by rw [b]; rfl⟩

/-! ### the frame's things -/
inductive Sl where
  /-- nothing; our own; seen, not ours; lent to us, to be given back -/
  | n | v (x : T) | w (x : T) | b (x : T)
abbrev En := List Sl
def Sl.get : Sl → Option T
  | .n => none
  | .v x => some x
  | .w x => some x
  | .b x => some x
def at_ (en : En) (i : Nat) : Option T := match en[i]? with
  | some s => s.get
  | none => none
/-- an error: its class's name, its fields -/
structure Exc where
  tag : Str
  fl : Option (List (Str × D))
inductive R (α : Type) where
  | ok (a : α) | ex (c : Exc) | no
def R.bind {α β : Type} (r : R α) (f : α → R β) : R β := match r with
  | .ok a => f a
  | .ex c => .ex c
  | .no => .no
def R.of {α : Type} : Option α → R α
  | some a => .ok a
  | none => .no
/-- a datum alone -/
def R.pur : R T → R T
  | .ok (.d d) => .ok (.d d)
  | .ok (.l _) => .no
  | .ex c => .ex c
  | .no => .no
@[simp] theorem R.bind_ok {α β : Type} (a : α) (f : α → R β) : (R.ok a).bind f = f a := Eq.trans (b := f a) (Eq.refl _) (Eq.refl _)
@[simp] theorem R.bind_ex {α β : Type} (c : Exc) (f : α → R β) : (R.ex c).bind f = .ex c := rfl
@[simp] theorem R.bind_no {α β : Type} (f : α → R β) : (R.no).bind f = .no := rfl
@[simp] theorem R.of_some {α : Type} (a : α) : R.of (some a) = .ok a := rfl
@[simp] theorem R.of_none {α : Type} : R.of (none : Option α) = .no := rfl
@[simp] theorem R.pur_d (d : D) : R.pur (.ok (.d d)) = .ok (.d d) := rfl
@[simp] theorem R.pur_ex (c : Exc) : R.pur (.ex c) = .ex c := rfl

/-- each name's thing is seen -/
structure VEn (K : PySem.W.Frag) (H : Hp) (σ : St) (en : En) : Prop where
  len : en.length ≤ σ.length
  see : ∀ i x, at_ en i = some x → ∃ v G, σ[i]? = some (some v) ∧ Own K H v x G
theorem VEn.mono {K : PySem.W.Frag} {H H' : Hp} {σ : St} {en : En} (s : Same H H') (h : VEn K H σ en) : VEn K H' σ en := ⟨h.len, fun i x e =>
  let ⟨v, G, h1, h2⟩ := h.see i x e
  ⟨v, G, h1, h2.mono s⟩⟩
/-- how an error stands -/
def ExIs (K : PySem.W.Frag) (mg : Str → Option Value) (H : Hp) (c : Exc) (cls : Value) (dx : Option Addr) : Prop := mg c.tag = some cls ∧ match c.fl with
  | none => dx = none
  | some fs => ∃ a vs, dx = some a ∧ H a = some (.xd ((fs.map (·.1)).zip vs)) ∧ RepDs K H vs (fs.map (·.2))
theorem ExIs.mono {K : PySem.W.Frag} {mg : Str → Option Value} {H H' : Hp} {c : Exc} {cls : Value} {dx : Option Addr} (s : Same H H') (h : ExIs K mg H c cls dx) : ExIs K mg H' c cls dx := by
  obtain ⟨h1, h2⟩ := h
  refine ⟨h1, ?_⟩
  revert h2
  cases c.fl with
  | none => exact id
  | some fs => exact fun ⟨a, vs, e, h, r⟩ => ⟨a, vs, e, s a _ h, r.mono (.of s)⟩
/-- all new -/
def Fresh (H : Hp) (G : List Addr) : Prop := G.Nodup ∧ ∀ a ∈ G, H a = none
theorem Fresh.nil {H : Hp} : Fresh H [] := ⟨List.nodup_nil, fun _ h => absurd h List.not_mem_nil⟩

section
variable (X : Cx) (W : WX)
def XQ (σ : St) (H : Hp) (c : Exc) : Prop := ∀ cls dx H', Same H H' → ExIs X.K X.mg H' c cls dx → W cls dx σ H'
def VQ (σ : St) (H : Hp) (Q : VK) : R T → Prop
  | .ok x => ∀ v H' G, Same H H' → Own X.K H' v x G → Q v H'
  | .ex c => XQ X W σ H c
  | .no => False
def NQ (σ : St) (H : Hp) (Q : VK) : R T → Prop
  | .ok x => ∀ v H' G, Same H H' → Own X.K H' v x G → Fresh H G → Q v H'
  | .ex c => XQ X W σ H c
  | .no => False
def TQ (σ : St) (H : Hp) (Q : Bool → Hp → Prop) : R Bool → Prop
  | .ok b => ∀ H', Same H H' → Q b H'
  | .ex c => XQ X W σ H c
  | .no => False
/-- many things, seen -/
inductive Vws (K : PySem.W.Frag) (H : Hp) : List V → List T → Prop
  | nil : Vws K H [] []
  | cons {v : V} {vs : List V} {x : T} {xs : List T} {G : List Addr} : Own K H v x G → Vws K H vs xs → Vws K H (v :: vs) (x :: xs)
def AQ (σ : St) (H : Hp) (Q : List V → Hp → Prop) : R (List T) → Prop
  | .ok xs => ∀ vs H', Same H H' → Vws X.K H' vs xs → Q vs H'
  | .ex c => XQ X W σ H c
  | .no => False
def BQ (σ : St) (H : Hp) (Q : List V → Hp → Prop) : R (List T) → Prop
  | .ok xs => ∀ vs H' F, Same H H' → Owns X.K H' vs xs F → Fresh H F → Q vs H'
  | .ex c => XQ X W σ H c
  | .no => False
def SpV (g : En → R T) (t : TE) : Prop := ∀ σ H en Q, VEn X.K H σ en → VQ X W σ H Q (g en) → t σ H Q
def SpN (g : En → R T) (t : TE) : Prop := ∀ σ H en Q, VEn X.K H σ en → NQ X W σ H Q (g en) → t σ H Q
def SpT (g : En → R Bool) (t : TT) : Prop := ∀ σ H en Q, VEn X.K H σ en → TQ X W σ H Q (g en) → t σ H Q
def SpA (g : En → R (List T)) (t : TA) : Prop := ∀ σ H en Q, VEn X.K H σ en → AQ X W σ H Q (g en) → t σ H Q
def SpB (g : En → R (List T)) (t : TA) : Prop := ∀ σ H en Q, VEn X.K H σ en → BQ X W σ H Q (g en) → t σ H Q
/-- an expression that is seen; that is new (or a datum); a test; arguments seen; arguments new -/
def PV (e : Expr) (g : En → R T) : Prop := ∃ t, PE X e t ∧ SpV X W g t
def PN (e : Expr) (g : En → R T) : Prop := ∃ t, PE X e t ∧ SpN X W g t
def PC (e : Expr) (g : En → R Bool) : Prop := ∃ t, PT X e t ∧ SpT X W g t
def PWc (e : Expr) (g : En → R Bool) : Prop := ∃ t, PW X e t ∧ SpT X W g t
def PAv (es : List Expr) (g : En → R (List T)) : Prop := ∃ t, PA X es t ∧ SpA X W g t
def PAn (es : List Expr) (g : En → R (List T)) : Prop := ∃ t, PA X es t ∧ SpB X W g t
end
theorem Vws.mono {K : PySem.W.Frag} {H H' : Hp} (s : Same H H') : ∀ {vs : List V} {xs : List T}, Vws K H vs xs → Vws K H' vs xs
  | _, _, .nil => .nil
  | _, _, .cons h t => .cons (h.mono s) (Vws.mono s t)
theorem Vws.length {K : PySem.W.Frag} {H : Hp} : ∀ {vs : List V} {xs : List T}, Vws K H vs xs → vs.length = xs.length
  | _, _, .nil => rfl
  | _, _, .cons _ t => congrArg Nat.succ (Vws.length t)
theorem Owns.vws {K : PySem.W.Frag} {H : Hp} : ∀ {vs : List V} {xs : List T} {F : List Addr}, Owns K H vs xs F → Vws K H vs xs
  | _, _, _, .nil => .nil
  | _, _, _, .cons h t => .cons h (Owns.vws t)
theorem XQ.mono {X : Cx} {W : WX} {σ : St} {H H' : Hp} {c : Exc} (s : Same H H') (h : XQ X W σ H c) : XQ X W σ H' c := fun cls dx H2 s2 e => h cls dx H2 (s.trans s2) e
section
variable {X : Cx} {W : WX} {e : Expr} {g : En → R T}
theorem VQ.nq {σ : St} {H : Hp} {Q : VK} {r : R T} (h : VQ X W σ H Q r) : NQ X W σ H Q r := by
  cases r with
  | ok x => exact fun v H' G s o _ => h v H' G s o
  | ex c => exact h
  | no => exact h
theorem PN.v (h : PN X W e g) : PV X W e g := let ⟨t, p, s⟩ := h; ⟨t, p, fun σ H en Q v q => s σ H en Q v q.nq⟩
theorem PV.pur (h : PV X W e g) : PN X W e (fun en => (g en).pur) := by
  obtain ⟨t, p, s⟩ := h
  refine ⟨t, p, fun σ H en Q v q => s σ H en Q v ?_⟩
  have q : NQ X W σ H Q (g en).pur := q
  revert q
  cases g en with
  | ok x =>
    cases x with
    | d d => exact fun q v H' G sm o => q v H' G sm o (by cases o; exact Fresh.nil)
    | l xs => exact fun q => q.elim
  | ex c => exact id
  | no => exact id
/-! ### names, constants -/
theorem v_name (i : Nat) {x : Str} {pos : Pos} (hN : X.N[i]? = some x := by rfl) (hv : Vis X.env.scope x := by first | exact Or.inl rfl | exact Or.inr (Or.inl rfl) | exact Or.inr (Or.inr rfl)) (hd : (x == ("__debug__" : Str)) = false := by decide)
    (hcd : (x == ("__classdict__" : Str)) = false := by decide) : PV X W (.Name x pos) (fun en => R.of (at_ en i)) := by
  refine ⟨_, pe_var hN hv hd hcd, fun σ H en Q ve q => ?_⟩
  have q : VQ X W σ H Q (R.of (at_ en i)) := q
  revert q
  cases h : at_ en i with
  | none => exact fun q => q.elim
  | some x =>
    obtain ⟨v, G, h1, h2⟩ := ve.see i x h
    exact fun q => ⟨v, h1, q v H G (Same.refl H) h2⟩
theorem n_int {i : Int} {j pos} : PN X W (.Constant (.int i) j pos) (fun _ => .ok (.d (.int i))) := ⟨_, pe_int, fun _ H _ _ _ q => q _ H _ (Same.refl H) (.d (.int i)) Fresh.nil⟩
theorem n_bl {i : Bool} {j pos} : PN X W (.Constant (.bool i) j pos) (fun _ => .ok (.d (.bl i))) := ⟨_, pe_bl, fun _ H _ _ _ q => q _ H _ (Same.refl H) (.d (.bl i)) Fresh.nil⟩
theorem n_non {j pos} : PN X W (.Constant .none j pos) (fun _ => .ok (.d .non)) := ⟨_, pe_non, fun _ H _ _ _ q => q _ H _ (Same.refl H) (.d .non) Fresh.nil⟩
theorem n_str {x : Str} {j pos} : PN X W (.Constant (.str x) j pos) (fun _ => .ok (.d (.str x))) := ⟨_, pe_str, fun _ H _ _ _ q => q _ H _ (Same.refl H) (.d (.str x)) Fresh.nil⟩
/-- a module's constant -/
theorem n_glob {x : Str} {v : V} {u : Value} {d : D} {pos : Pos} (hg : Gl X x) (hm : X.mg x = some u) (r : RelV v u) (hr : ∀ H, RepD X.K H v d) (hd : (x == ("__debug__" : Str)) = false := by decide) : PN X W (.Name x pos) (fun _ => .ok (.d d)) :=
  ⟨_, pe_glob hg hm r hd, fun _ H _ _ _ q => q _ H _ (Same.refl H) (.d (hr H)) Fresh.nil⟩
/-! ### operations of two -/
/-- what an operation does with things that are seen -/
def Q2 (K : PySem.W.Frag) (r : R2) (f : T → T → Option T) : Prop := ∀ (H : Hp) (x y z : T) (vx vy : V) (Gx Gy : List Addr) (Q : VK), Own K H vx x Gx → Own K H vy y Gy → f x y = some z →
  (∀ v H' G, Same H H' → Own K H' v z G → Fresh H G → Q v H') → r vx vy H Q
/-- .. what it gives is seen in them -/
def Q2v (K : PySem.W.Frag) (r : R2) (f : T → T → Option T) : Prop := ∀ (H : Hp) (x y z : T) (vx vy : V) (Gx Gy : List Addr) (Q : VK), Own K H vx x Gx → Own K H vy y Gy → f x y = some z →
  (∀ v H' G, Same H H' → Own K H' v z G → Q v H') → r vx vy H Q
def g2 (f : T → T → Option T) (ga gb : En → R T) : En → R T := fun en => (ga en).bind fun x => (gb en).bind fun y => .of (f x y)
theorem Q2.v {K : PySem.W.Frag} {r : R2} {f : T → T → Option T} (h : Q2 K r f) : Q2v K r f := fun H x y z vx vy Gx Gy Q a b e q => h H x y z vx vy Gx Gy Q a b e fun v H' G s o _ => q v H' G s o
theorem sp2 {r : R2} {f : T → T → Option T} {ga gb : En → R T} {ta tb : TE} (q : Q2 X.K r f) (a : SpV X W ga ta) (b : SpV X W gb tb) : SpN X W (g2 f ga gb) (tOp r ta tb) := by
  intro σ H en Q ve h
  refine a σ H en _ ve ?_
  unfold g2 at h
  cases ea : ga en with
  | ok x =>
    rw [ea] at h
    intro v1 H1 G1 s1 o1
    refine b σ H1 en _ (ve.mono s1) ?_
    cases eb : gb en with
    | ok y =>
      rw [eb] at h
      intro v2 H2 G2 s2 o2
      cases ef : f x y with
      | none => simp only [R.bind_ok, ef, R.of_none] at h; exact h.elim
      | some z =>
        simp only [R.bind_ok, ef, R.of_some] at h
        refine q H2 x y z v1 v2 G1 G2 Q (o1.mono s2) o2 ef fun v H' G s o fr => h v H' G ((s1.trans s2).trans s) o ⟨fr.1, fun c m => ?_⟩
        exact (s1.trans s2).free (fr.2 c m)
    | ex c => rw [eb] at h; exact XQ.mono (W := W) s1 h
    | no => rw [eb] at h; exact h
  | ex c => rw [ea] at h; exact h
  | no => rw [ea] at h; exact h
theorem sp2v {r : R2} {f : T → T → Option T} {ga gb : En → R T} {ta tb : TE} (q : Q2v X.K r f) (a : SpV X W ga ta) (b : SpV X W gb tb) : SpV X W (g2 f ga gb) (tOp r ta tb) := by
  intro σ H en Q ve h
  refine a σ H en _ ve ?_
  unfold g2 at h
  cases ea : ga en with
  | ok x =>
    rw [ea] at h
    intro v1 H1 G1 s1 o1
    refine b σ H1 en _ (ve.mono s1) ?_
    cases eb : gb en with
    | ok y =>
      rw [eb] at h
      intro v2 H2 G2 s2 o2
      cases ef : f x y with
      | none => simp only [R.bind_ok, ef, R.of_none] at h; exact h.elim
      | some z =>
        simp only [R.bind_ok, ef, R.of_some] at h
        exact q H2 x y z v1 v2 G1 G2 Q (o1.mono s2) o2 ef fun v H' G s o => h v H' G ((s1.trans s2).trans s) o
    | ex c => rw [eb] at h; exact XQ.mono (W := W) s1 h
    | no => rw [eb] at h; exact h
  | ex c => rw [ea] at h; exact h
  | no => rw [ea] at h; exact h
variable {a b : Expr} {ga gb : En → R T} {pos : Pos}
/-- a rule of the layer beside what it computes -/
structure Bn (X : Cx) (op : Operator) (f : T → T → Option T) : Prop where
  p : ∃ r, OpR X (binaryOp op) r ∧ Q2 X.K r f
structure Cm (X : Cx) (op : CmpOp) (f : T → T → Option T) : Prop where
  p : ∃ r, OpR X (compareOp op) r ∧ Q2 X.K r f
theorem n_bin {op : Operator} {f : T → T → Option T} (o : Bn X op f) (ha : PV X W a ga) (hb : PV X W b gb) : PN X W (.BinOp a op b pos) (g2 f ga gb) := by
  obtain ⟨r, ho, q⟩ := o.p
  obtain ⟨ta, pa, sa⟩ := ha
  obtain ⟨tb, pb, sb⟩ := hb
  exact ⟨_, pe_op ho pa pb, sp2 q sa sb⟩
theorem n_cmp {op : CmpOp} {f : T → T → Option T} (o : Cm X op f) (ha : PV X W a ga) (hb : PV X W b gb) (hm : behindInMarks op b = false := by first | exact nomark _ | with_unfolding_all rfl) : PN X W (.Compare a [op] [b] pos) (g2 f ga gb) := by
  obtain ⟨r, ho, q⟩ := o.p
  obtain ⟨ta, pa, sa⟩ := ha
  obtain ⟨tb, pb, sb⟩ := hb
  exact ⟨_, pe_cmpR ho pa pb hm, sp2 q sa sb⟩
/-- a value as a test -/
def tst : T → Option Bool
  | .d (.bl b) => some b
  | _ => none
def gT (g : En → R T) : En → R Bool := fun en => (g en).bind fun x => .of (tst x)
theorem spTest {t : TE} (a : SpV X W g t) : SpT X W (gT g) (tTest t) := by
  intro σ H en Q ve h
  refine a σ H en _ ve ?_
  unfold gT at h
  cases ea : g en with
  | ok x =>
    rw [ea] at h
    intro v H' G s o
    cases x with
    | d d =>
      cases o with
      | d r =>
        cases r with
        | bl k => exact ⟨k, rfl, h H' s⟩
        | _ => exact h.elim
    | l xs => exact h.elim
  | ex c => rw [ea] at h; exact h
  | no => rw [ea] at h; exact h
theorem c_cmp {op : CmpOp} {f : T → T → Option T} (o : Cm X op f) (ha : PV X W a ga) (hb : PV X W b gb) (hm : behindInMarks op b = false := by first | exact nomark _ | with_unfolding_all rfl) : PC X W (.Compare a [op] [b] pos) (gT (g2 f ga gb)) := by
  obtain ⟨r, ho, q⟩ := o.p
  obtain ⟨ta, pa, sa⟩ := ha
  obtain ⟨tb, pb, sb⟩ := hb
  exact ⟨_, pt_cmpR ho pa pb hm, spTest (sp2v q.v sa sb)⟩
end
end Z
/-! Z: operations on things. -/
namespace Z
open PySem PySem.Spec L2
open PyProof.Rows hiding St

theorem same_new {H : Hp} {p : Addr} {o : HO} (h : H p = none) : Same H (upd H p o) := fun b x e => by
  rw [upd_ne (ne_of_none e h)]
  exact e
/-- how big a list or a text may be -/
abbrev most : Nat := 16777216
theorem most_eq : sizeLine = most := sizeLine_eq
def MulOk (i j : Int) : Prop := (i.natAbs < 18446744073709551616 ∨ j.natAbs < 18446744073709551616) ∨ i.natAbs.log2 + j.natAbs.log2 < 1000000
instance {i j : Int} : Decidable (MulOk i j) := by unfold MulOk; infer_instance
theorem MulOk.l {i j : Int} (h : i.natAbs < 18446744073709551616) : MulOk i j := .inl (.inl h)
theorem MulOk.r {i j : Int} (h : j.natAbs < 18446744073709551616) : MulOk i j := .inl (.inr h)
def fAdd : T → T → Option T
  | .d (.int i), .d (.int j) => some (.d (.int (i + j)))
  | .d (.str a), .d (.str b) => if a.length + b.length ≤ most then some (.d (.str (a ++ b))) else none
  | .d (.tup a), .d (.tup b) => if a.length + b.length ≤ most then some (.d (.tup (a ++ b))) else none
  | .l a, .l b => match allD a, allD b with
    | some a, some b => if a.length + b.length ≤ most then some (.l ((a ++ b).map T.d)) else none
    | _, _ => none
  | _, _ => none
def fSub : T → T → Option T
  | .d (.int i), .d (.int j) => some (.d (.int (i - j)))
  | _, _ => none
def fMul : T → T → Option T
  | .d (.int i), .d (.int j) => if MulOk i j then some (.d (.int (i * j))) else none
  | .l a, .d (.int k) => match allD a with
    | some a => if -9223372036854775808 ≤ k ∧ k < 9223372036854775808 ∧ a.length * k.toNat ≤ most then some (.l ((List.replicate k.toNat a).flatten.map T.d)) else none
    | none => none
  | _, _ => none
def fMod : T → T → Option T
  | .d (.int i), .d (.int j) => if 0 < j then some (.d (.int (i % j))) else none
  | _, _ => none
def fDiv : T → T → Option T
  | .d (.int i), .d (.int j) => if 0 < j ∧ j.natAbs.log2 < 9000 then some (.d (.int (i / j))) else none
  | _, _ => none
def fPow : T → T → Option T
  | .d (.int i), .d (.int j) => if 0 ≤ j ∧ j ≤ 1000000 ∧ i.natAbs < 18446744073709551616 then some (.d (.int (i ^ j.toNat))) else none
  | _, _ => none
/-! a datum as the library's data -/
mutual
def D.py : D → PyData
  | .non => .none
  | .bl b => .bool b
  | .int i => .int i
  | .str s => .str s
  | .tup ds => .tuple (D.pys ds)
  | .rol ds => .list (D.pys ds)
def D.pys : List D → List PyData
  | [] => []
  | d :: ds => d.py :: D.pys ds
end
mutual
def T.py : T → PyData
  | .d e => D.py e
  | .l xs => .list (T.pys xs)
def T.pys : List T → List PyData
  | [] => []
  | x :: xs => x.py :: T.pys xs
end
theorem Pst.same {H : Hp} : Pst H H := Pst.refl H
mutual
theorem RepD.dp {K : PySem.W.Frag} {H : Hp} : ∀ {v : V} {d : D}, RepD K H v d → Dp K H v d.py
  | _, _, .non => .non
  | _, _, .bl b => .bl b
  | _, _, .int i => .int i
  | _, _, .str s => .str s
  | _, _, .tup h r => .tup h (RepDs.dp r)
  | _, _, .rol h r => .lst (h H (Pst.refl H)) (RepDs.dp r)
theorem RepDs.dp {K : PySem.W.Frag} {H : Hp} : ∀ {vs : List V} {ds : List D}, RepDs K H vs ds → DpAll K H vs (D.pys ds)
  | _, _, .nil => .nil
  | _, _, .cons r t => .cons (RepD.dp r) (RepDs.dp t)
end
mutual
theorem Own.dp {K : PySem.W.Frag} {H : Hp} : ∀ {v : V} {x : T} {F : List Addr}, Own K H v x F → Dp K H v x.py
  | _, _, _, .d r => r.dp
  | _, _, _, .l h r => .lst (SqL.of h) (Owns.dp r)
theorem Owns.dp {K : PySem.W.Frag} {H : Hp} : ∀ {vs : List V} {xs : List T} {F : List Addr}, Owns K H vs xs F → DpAll K H vs (T.pys xs)
  | _, _, _, .nil => .nil
  | _, _, _, .cons r t => .cons (Own.dp r) (Owns.dp t)
end
def shp (d : PyData) : Bool := SeqAt.shaped d
def fEq (x y : T) : Option T := if shp x.py && shp y.py then some (.d (.bl (PyData.eqv x.py y.py))) else none
def fNe (x y : T) : Option T := if shp x.py && shp y.py then some (.d (.bl (!PyData.eqv x.py y.py))) else none
def fLt : T → T → Option T
  | .d (.int i), .d (.int j) => some (.d (.bl (decide (i < j))))
  | .d (.str i), .d (.str j) => some (.d (.bl (decide (i.cps.toList < j.cps.toList))))
  | _, _ => none
def fLe : T → T → Option T
  | .d (.int i), .d (.int j) => some (.d (.bl (decide (i ≤ j))))
  | _, _ => none
def fGt : T → T → Option T
  | .d (.int i), .d (.int j) => some (.d (.bl (decide (j < i))))
  | _, _ => none
def fGe : T → T → Option T
  | .d (.int i), .d (.int j) => some (.d (.bl (decide (j ≤ i))))
  | _, _ => none
/-- data that are no tuples, no lists -/
def flt : D → Bool
  | .tup _ => false
  | .rol _ => false
  | _ => true
def fv : D → V
  | .non => .non
  | .bl b => .bl b
  | .int i => .int i
  | .str s => .str s
  | _ => .non
theorem RepD.flat {K : PySem.W.Frag} {H : Hp} {v : V} {d : D} (r : RepD K H v d) (h : flt d = true) : v = fv d ∧ flatV v = true := by
  cases r with
  | tup _ _ => cases h
  | rol _ _ => cases h
  | _ => exact ⟨rfl, rfl⟩
theorem RepDs.flat {K : PySem.W.Frag} {H : Hp} : ∀ {vs : List V} {ds : List D}, RepDs K H vs ds → ds.all flt = true → vs = ds.map fv ∧ vs.all flatV = true
  | _, _, .nil, _ => ⟨rfl, rfl⟩
  | _, _, .cons r t, h => by
    rw [List.all_cons, Bool.and_eq_true] at h
    obtain ⟨e1, f1⟩ := r.flat h.1
    obtain ⟨e2, f2⟩ := RepDs.flat t h.2
    exact ⟨by rw [e1, e2]; rfl, by rw [List.all_cons, f1, f2]; rfl⟩
/-- the items of a list or tuple that are data -/
def dataOf : T → Option (List D)
  | .d (.tup ds) => some ds
  | .d (.rol ds) => some ds
  | .l xs => allD xs
  | _ => none
theorem dataOf_ok {K : PySem.W.Frag} {H : Hp} {v : V} {x : T} {G : List Addr} {ds : List D} (o : Own K H v x G) (h : dataOf x = some ds) : ∃ a vs, v = .ref a ∧ (SqL K H a vs ∨ SqT K H a vs) ∧ RepDs K H vs ds := by
  cases o with
  | d r =>
    cases r with
    | tup s r => cases h; exact ⟨_, _, rfl, .inr s, r⟩
    | rol s r => cases h; exact ⟨_, _, rfl, .inl (s H (Pst.refl H)), r⟩
    | _ => cases h
  | l s r =>
    have e := allD_eq h
    subst e
    exact ⟨_, _, rfl, .inl (SqL.of s), r.data.1⟩
def isIn (d : D) (ds : List D) : Bool := inV (fv d) (ds.map fv)
def strIn (a b : Str) : Bool := !(Builtin.Str.occurrences b a 0 b.length 1).isEmpty
def fIn : T → T → Option T
  | .d (.str a), .d (.str b) => some (.d (.bl (strIn a b)))
  | .d d, y => match dataOf y with
    | some ds => if flt d && ds.all flt then some (.d (.bl (isIn d ds))) else none
    | none => none
  | _, _ => none
def fNotIn : T → T → Option T
  | .d (.str a), .d (.str b) => some (.d (.bl (!strIn a b)))
  | .d d, y => match dataOf y with
    | some ds => if flt d && ds.all flt then some (.d (.bl (!isIn d ds))) else none
    | none => none
  | _, _ => none
def fIs : T → T → Option T
  | .d .non, .d .non => some (.d (.bl true))
  | .d (.bl a), .d (.bl b) => some (.d (.bl (decide (a = b))))
  | .d (.bl _), .d .non => some (.d (.bl false))
  | .d (.int _), .d .non => some (.d (.bl false))
  | .d (.str _), .d .non => some (.d (.bl false))
  | .d (.tup _), .d .non => some (.d (.bl false))
  | _, _ => none
def fIsNot : T → T → Option T
  | .d .non, .d .non => some (.d (.bl false))
  | .d (.bl a), .d (.bl b) => some (.d (.bl (!decide (a = b))))
  | .d (.bl _), .d .non => some (.d (.bl true))
  | .d (.int _), .d .non => some (.d (.bl true))
  | .d (.str _), .d .non => some (.d (.bl true))
  | .d (.tup _), .d .non => some (.d (.bl true))
  | _, _ => none
section
variable {X : Cx}
theorem fin_d {K : PySem.W.Frag} {H : Hp} {v : V} {d : D} {Q : VK} (r : RepD K H v d) (q : ∀ v H' G, Same H H' → Own K H' v (.d d) G → Fresh H G → Q v H') : Q v H := q v H [] (Same.refl H) (.d r) Fresh.nil
theorem b_sub : Bn X .Sub fSub := ⟨_, op_sub, fun H x y z vx vy Gx Gy Q ox oy e q => by
  unfold fSub at e
  split at e <;> cases e
  cases ox with | d r1 => cases oy with | d r2 => cases r1; cases r2; exact ⟨_, _, rfl, rfl, fin_d (.int _) q⟩⟩
theorem b_mod : Bn X .Mod fMod := ⟨_, op_mod, fun H x y z vx vy Gx Gy Q ox oy e q => by
  unfold fMod at e
  split at e
  · split at e <;> cases e
    rename_i h
    cases ox with | d r1 => cases oy with | d r2 => cases r1; cases r2; exact ⟨_, _, rfl, rfl, h, fin_d (.int _) q⟩
  · cases e⟩
theorem b_div : Bn X .FloorDiv fDiv := ⟨_, op_fdivW, fun H x y z vx vy Gx Gy Q ox oy e q => by
  unfold fDiv at e
  split at e
  · split at e <;> cases e
    rename_i h
    cases ox with | d r1 => cases oy with | d r2 => cases r1; cases r2; exact ⟨_, _, rfl, rfl, h, fin_d (.int _) q⟩
  · cases e⟩
theorem b_pow : Bn X .Pow fPow := ⟨_, op_pow, fun H x y z vx vy Gx Gy Q ox oy e q => by
  unfold fPow at e
  split at e
  · split at e <;> cases e
    rename_i h
    cases ox with | d r1 => cases oy with | d r2 => cases r1; cases r2; exact ⟨_, _, rfl, rfl, h, fin_d (.int _) q⟩
  · cases e⟩
theorem b_add : Bn X .Add fAdd := ⟨_, op_add.or (op_add_str.or (op_catA.or op_cat)), fun H x y z vx vy Gx Gy Q ox oy e q => by
  unfold fAdd at e
  split at e
  · cases e
    cases ox with | d r1 => cases oy with | d r2 => cases r1; cases r2; exact .inl ⟨_, _, rfl, rfl, fin_d (.int _) q⟩
  · split at e <;> cases e
    rename_i h
    cases ox with | d r1 => cases oy with | d r2 => cases r1; cases r2; exact .inr (.inl ⟨_, _, rfl, rfl, by rw [most_eq]; exact h, fin_d (.str _) q⟩)
  · split at e <;> cases e
    rename_i h
    cases ox with
    | d r1 => cases oy with
      | d r2 =>
        cases r1 with
        | tup s1 p1 => cases r2 with
          | tup s2 p2 =>
            refine .inr (.inr (.inl ⟨_, _, _, _, rfl, rfl, s1, s2, by rw [most_eq, p1.length, p2.length]; exact h, fun e => ?_, fun e1 e2 => ?_, fun _ _ p np => ?_⟩))
            · subst e; cases p1; exact fin_d (.tup s2 p2) q
            · subst e2; cases p2; rw [List.append_nil] at q; exact fin_d (.tup s1 p1) q
            · exact q _ _ [] (same_new np) (.d (.tup (SqT.of upd_same) ((p1.mono (.of (same_new np))).append (p2.mono (.of (same_new np)))))) Fresh.nil
  · rename_i a b
    split at e
    · rename_i a' b' e1 e2
      split at e <;> cases e
      rename_i h
      have e1 := allD_eq e1
      have e2 := allD_eq e2
      subst e1 e2
      cases ox with
      | l h1 o1 => cases oy with
        | l h2 o2 =>
          have d1 := o1.data.1
          have d2 := o2.data.1
          refine .inr (.inr (.inr ⟨_, _, _, _, rfl, rfl, h1, h2, by rw [most_eq, d1.length, d2.length]; exact h, fun p np => ?_⟩))
          refine q _ _ [p] (same_new np) (.l upd_same ((d1.mono (.of (same_new np))).append (d2.mono (.of (same_new np)))).owns) ⟨by simp, fun c m => ?_⟩
          have e : c = p := by simpa using m
          rw [e]; exact np
    · cases e
  · cases e⟩
theorem b_mul : Bn X .Mult fMul := ⟨_, op_mul.or (op_mulW.or op_rep), fun H x y z vx vy Gx Gy Q ox oy e q => by
  unfold fMul at e
  split at e
  · split at e <;> cases e
    rename_i h
    cases ox with
    | d r1 => cases oy with
      | d r2 =>
        cases r1; cases r2
        rcases h with (h | h) | h
        · exact .inl ⟨_, _, rfl, rfl, .inl (by omega), fin_d (.int _) q⟩
        · exact .inl ⟨_, _, rfl, rfl, .inr (by omega), fin_d (.int _) q⟩
        · exact .inr (.inl ⟨_, _, rfl, rfl, h, fin_d (.int _) q⟩)
  · split at e
    · rename_i a' e1
      split at e <;> cases e
      rename_i h
      have e1 := allD_eq e1
      subst e1
      cases ox with
      | l h1 o1 => cases oy with
        | d r2 =>
          cases r2
          have d1 := o1.data.1
          refine .inr (.inr ⟨_, _, _, rfl, rfl, h1, by omega, by omega, by rw [most_eq, d1.length]; exact h.2.2, fun p np => ?_⟩)
          have rr : ∀ k : Nat, RepDs X.K H (List.replicate k _).flatten (List.replicate k _).flatten := fun k => by
            induction k with
            | zero => exact .nil
            | succ k ih => rw [List.replicate_succ, List.replicate_succ, List.flatten_cons, List.flatten_cons]; exact d1.append ih
          refine q _ _ [p] (same_new np) (.l upd_same ((rr _).mono (.of (same_new np))).owns) ⟨by simp, fun c m => ?_⟩
          have e : c = p := by simpa using m
          rw [e]; exact np
    · cases e
  · cases e⟩
theorem m_lt : Cm X .Lt fLt := ⟨_, op_lt.or op_lt_str, fun H x y z vx vy Gx Gy Q ox oy e q => by
  unfold fLt at e
  split at e <;> cases e
  · cases ox with | d r1 => cases oy with | d r2 => cases r1; cases r2; exact .inl ⟨_, _, rfl, rfl, fin_d (.bl _) q⟩
  · cases ox with | d r1 => cases oy with | d r2 => cases r1; cases r2; exact .inr ⟨_, _, rfl, rfl, fin_d (.bl _) q⟩⟩
theorem m_le : Cm X .LtE fLe := ⟨_, op_le, fun H x y z vx vy Gx Gy Q ox oy e q => by
  unfold fLe at e
  split at e <;> cases e
  cases ox with | d r1 => cases oy with | d r2 => cases r1; cases r2; exact ⟨_, _, rfl, rfl, fin_d (.bl _) q⟩⟩
theorem m_gt : Cm X .Gt fGt := ⟨_, op_gt, fun H x y z vx vy Gx Gy Q ox oy e q => by
  unfold fGt at e
  split at e <;> cases e
  cases ox with | d r1 => cases oy with | d r2 => cases r1; cases r2; exact ⟨_, _, rfl, rfl, fin_d (.bl _) q⟩⟩
theorem m_ge : Cm X .GtE fGe := ⟨_, op_ge, fun H x y z vx vy Gx Gy Q ox oy e q => by
  unfold fGe at e
  split at e <;> cases e
  cases ox with | d r1 => cases oy with | d r2 => cases r1; cases r2; exact ⟨_, _, rfl, rfl, fin_d (.bl _) q⟩⟩
theorem m_eq (hu : X.A.units + 64 < cLine) : Cm X .Eq fEq := ⟨_, op_eqD hu, fun H x y z vx vy Gx Gy Q ox oy e q => by
  unfold fEq at e
  split at e <;> cases e
  rename_i h
  rw [Bool.and_eq_true] at h
  exact ⟨_, _, ox.dp, oy.dp, h.1, h.2, fin_d (.bl _) q⟩⟩
theorem m_ne (hu : X.A.units + 64 < cLine) : Cm X .NotEq fNe := ⟨_, op_neD hu, fun H x y z vx vy Gx Gy Q ox oy e q => by
  unfold fNe at e
  split at e <;> cases e
  rename_i h
  rw [Bool.and_eq_true] at h
  exact ⟨_, _, ox.dp, oy.dp, h.1, h.2, fin_d (.bl _) q⟩⟩
theorem m_in : Cm X .In fIn := ⟨_, op_in_str.or op_in_seq, fun H x y z vx vy Gx Gy Q ox oy e q => by
  unfold fIn at e
  split at e
  · cases e
    cases ox with | d r1 => cases oy with | d r2 => cases r1; cases r2; exact .inl ⟨_, _, rfl, rfl, fin_d (.bl _) q⟩
  · split at e
    · rename_i ds e1
      split at e <;> cases e
      rename_i h
      rw [Bool.and_eq_true] at h
      obtain ⟨a, vs, rfl, sq, rr⟩ := dataOf_ok oy e1
      cases ox with
      | d r1 =>
        obtain ⟨e2, f2⟩ := r1.flat h.1
        obtain ⟨e3, f3⟩ := rr.flat h.2
        refine .inr ⟨a, vs, rfl, sq, f2, f3, ?_⟩
        rw [e2, e3]
        exact fin_d (.bl _) q
    · cases e
  · cases e⟩
theorem m_notIn : Cm X .NotIn fNotIn := ⟨_, L2.op_notIn_str.or op_notIn_seq, fun H x y z vx vy Gx Gy Q ox oy e q => by
  unfold fNotIn at e
  split at e
  · cases e
    cases ox with | d r1 => cases oy with | d r2 => cases r1; cases r2; exact .inl ⟨_, _, rfl, rfl, fin_d (.bl _) q⟩
  · split at e
    · rename_i ds e1
      split at e <;> cases e
      rename_i h
      rw [Bool.and_eq_true] at h
      obtain ⟨a, vs, rfl, sq, rr⟩ := dataOf_ok oy e1
      cases ox with
      | d r1 =>
        obtain ⟨e2, f2⟩ := r1.flat h.1
        obtain ⟨e3, f3⟩ := rr.flat h.2
        refine .inr ⟨a, vs, rfl, sq, f2, f3, ?_⟩
        rw [e2, e3]
        exact fin_d (.bl _) q
    · cases e
  · cases e⟩
theorem m_is : Cm X .Is fIs := ⟨_, op_isN.or op_isBl, fun H x y z vx vy Gx Gy Q ox oy e q => by
  unfold fIs at e
  split at e <;> cases e
  · cases ox with | d r1 => cases oy with | d r2 => cases r1; cases r2; exact .inl ⟨rfl, fin_d (.bl _) q⟩
  · cases ox with | d r1 => cases oy with | d r2 => cases r1; cases r2; exact .inr ⟨_, _, rfl, rfl, fin_d (.bl _) q⟩
  · cases ox with | d r1 => cases oy with | d r2 => cases r1; cases r2; exact .inl ⟨rfl, fin_d (.bl _) q⟩
  · cases ox with | d r1 => cases oy with | d r2 => cases r1; cases r2; exact .inl ⟨rfl, fin_d (.bl _) q⟩
  · cases ox with | d r1 => cases oy with | d r2 => cases r1; cases r2; exact .inl ⟨rfl, fin_d (.bl _) q⟩
  · cases ox with | d r1 => cases oy with | d r2 => cases r1; cases r2; exact .inl ⟨rfl, fin_d (.bl _) q⟩⟩
theorem m_isNot : Cm X .IsNot fIsNot := ⟨_, op_notN.or op_notBl, fun H x y z vx vy Gx Gy Q ox oy e q => by
  unfold fIsNot at e
  split at e <;> cases e
  · cases ox with | d r1 => cases oy with | d r2 => cases r1; cases r2; exact .inl ⟨rfl, fin_d (.bl _) q⟩
  · cases ox with | d r1 => cases oy with | d r2 => cases r1; cases r2; exact .inr ⟨_, _, rfl, rfl, fin_d (.bl _) q⟩
  · cases ox with | d r1 => cases oy with | d r2 => cases r1; cases r2; exact .inl ⟨rfl, fin_d (.bl _) q⟩
  · cases ox with | d r1 => cases oy with | d r2 => cases r1; cases r2; exact .inl ⟨rfl, fin_d (.bl _) q⟩
  · cases ox with | d r1 => cases oy with | d r2 => cases r1; cases r2; exact .inl ⟨rfl, fin_d (.bl _) q⟩
  · cases ox with | d r1 => cases oy with | d r2 => cases r1; cases r2; exact .inl ⟨rfl, fin_d (.bl _) q⟩⟩
end
end Z
/-! Z: tests, chains, items, slices, displays, calls of built-ins. -/
namespace Z
open PySem PySem.Spec L2
open PyProof.Rows hiding St

/-- the truth of a thing -/
def tru : T → Option Bool
  | .d .non => some false
  | .d (.bl b) => some b
  | .d (.int i) => some (i != 0)
  | .d (.str y) => if y.length ≤ most then some ((y.length : Int) != 0) else none
  | .d (.tup ds) => some (!ds.isEmpty)
  | .d (.rol ds) => some (!ds.isEmpty)
  | .l xs => some (!xs.isEmpty)
theorem empty_len {α β : Type} {xs : List α} {ys : List β} (h : xs.length = ys.length) : xs.isEmpty = ys.isEmpty := by
  cases xs with
  | nil => cases ys with
    | nil => rfl
    | cons y r => cases h
  | cons x r => cases ys with
    | nil => cases h
    | cons y r => rfl
theorem tru_is {K : PySem.W.Frag} {H : Hp} {v : V} {x : T} {G : List Addr} {k : Bool} (o : Own K H v x G) (h : tru x = some k) : TruV K v H k := by
  cases o with
  | d r =>
    cases r with
    | non => cases h; exact rfl
    | bl b => cases h; exact rfl
    | int i => cases h; exact rfl
    | str y =>
      have h' : (if y.length ≤ most then some ((y.length : Int) != 0) else none) = some k := h
      by_cases hz : y.length ≤ most
      · rw [if_pos hz] at h'
        cases h'
        exact ⟨by rw [most_eq]; exact hz, rfl⟩
      · rw [if_neg hz] at h'
        cases h'
    | tup s r => cases h; exact .inr (.inl ⟨_, s, by rw [empty_len r.length]⟩)
    | rol s r => cases h; exact .inl ⟨_, s H (Pst.refl H), by rw [empty_len r.length]⟩
  | l s r => cases h; exact .inl ⟨_, SqL.of s, by rw [empty_len r.length]⟩
def gTru (g : En → R T) : En → R Bool := fun en => (g en).bind fun x => .of (tru x)
def gNot (g : En → R Bool) : En → R Bool := fun en => (g en).bind fun b => .ok (!b)
def gAnd (g h : En → R Bool) : En → R Bool := fun en => (g en).bind fun b => if b = true then h en else .ok false
def gOr (g h : En → R Bool) : En → R Bool := fun en => (g en).bind fun b => if b = true then .ok true else h en
def gNotV (g : En → R T) : En → R T := fun en => (g en).bind fun x => (R.of (tru x)).bind fun b => .ok (.d (.bl (!b)))
def gAndV (g h : En → R T) : En → R T := fun en => (g en).bind fun x => (R.of (tru x)).bind fun b => if b = true then h en else .ok x
def gOrV (g h : En → R T) : En → R T := fun en => (g en).bind fun x => (R.of (tru x)).bind fun b => if b = true then .ok x else h en
def gIf {α : Type} (c : En → R Bool) (g h : En → R α) : En → R α := fun en => (c en).bind fun b => if b = true then g en else h en
section
variable {X : Cx} {W : WX} {a b c : Expr} {rest : List Expr} {pos : Pos} {g h ga gb : En → R T} {tc td : En → R Bool}
theorem TQ.same {σ : St} {H H' : Hp} {Q : Bool → Hp → Prop} {r : R Bool} (s : Same H H') (h : TQ X W σ H Q r) : TQ X W σ H' Q r := by
  cases r with
  | ok b => exact fun H2 s2 => h H2 (s.trans s2)
  | ex c => exact XQ.mono (W := W) s h
  | no => exact h
theorem VQ.same {σ : St} {H H' : Hp} {Q : VK} {r : R T} (s : Same H H') (h : VQ X W σ H Q r) : VQ X W σ H' Q r := by
  cases r with
  | ok b => exact fun v H2 G s2 o => h v H2 G (s.trans s2) o
  | ex c => exact XQ.mono (W := W) s h
  | no => exact h
theorem Fresh.back {H H' : Hp} {G : List Addr} (s : Same H H') (f : Fresh H' G) : Fresh H G := ⟨f.1, fun c m => s.free (f.2 c m)⟩
theorem NQ.same {σ : St} {H H' : Hp} {Q : VK} {r : R T} (s : Same H H') (h : NQ X W σ H Q r) : NQ X W σ H' Q r := by
  cases r with
  | ok b => exact fun v H2 G s2 o f => h v H2 G (s.trans s2) o (f.back s)
  | ex c => exact XQ.mono (W := W) s h
  | no => exact h
theorem c_truth (ha : PV X W a g) (he : ∀ whole, isTrue a X.env whole = (do let v ← whole; standAt a.pos; holding [v] (truthy v)) := by intro _; rfl) : PC X W a (gTru g) := by
  obtain ⟨t, p, s⟩ := ha
  refine ⟨_, pt_truth p he, fun σ H en Q ve q => s σ H en _ ve ?_⟩
  unfold gTru at q
  cases e : g en with
  | ok x =>
    rw [e] at q
    intro v H' G sm o
    cases ek : tru x with
    | none => simp only [R.bind_ok, ek, R.of_none] at q; exact q.elim
    | some k =>
      simp only [R.bind_ok, ek, R.of_some] at q
      exact ⟨k, tru_is o ek, q H' sm⟩
  | ex c => rw [e] at q; exact q
  | no => rw [e] at q; exact q
theorem spNot {t : TT} (s : SpT X W tc t) : SpT X W (gNot tc) (tNot t) := fun σ H en Q ve q => s σ H en _ ve (by
  unfold gNot at q
  cases e : tc en with
  | ok x => rw [e] at q; exact q
  | ex c => rw [e] at q; exact q
  | no => rw [e] at q; exact q)
theorem c_not (ha : PC X W a tc) : PC X W (.UnaryOp .Not a pos) (gNot tc) := by
  obtain ⟨t, p, s⟩ := ha
  exact ⟨_, pt_not p, spNot s⟩
theorem n_not (ha : PV X W a g) : PN X W (.UnaryOp .Not a pos) (gNotV g) := by
  obtain ⟨t, p, s⟩ := ha
  refine ⟨_, pe_notT p, fun σ H en Q ve q => s σ H en _ ve ?_⟩
  unfold gNotV at q
  cases e : g en with
  | ok x =>
    rw [e] at q
    intro v H' G sm o
    cases ek : tru x with
    | none => simp only [R.bind_ok, ek, R.of_none] at q; exact q.elim
    | some k =>
      simp only [R.bind_ok, ek, R.of_some] at q
      exact ⟨k, tru_is o ek, q _ H' _ sm (.d (.bl _)) Fresh.nil⟩
  | ex c => rw [e] at q; exact q
  | no => rw [e] at q; exact q
theorem w_and1 (ha : PC X W a tc) : PWc X W (.BoolOp .And [a] pos) tc := let ⟨t, p, s⟩ := ha; ⟨t, pw_and1 p, s⟩
theorem w_or1 (ha : PC X W a tc) : PWc X W (.BoolOp .Or [a] pos) tc := let ⟨t, p, s⟩ := ha; ⟨t, pw_or1 p, s⟩
theorem w_and (ha : PC X W a tc) (hb : PWc X W (.BoolOp .And (b :: rest) pos) td) : PWc X W (.BoolOp .And (a :: b :: rest) pos) (gAnd tc td) := by
  obtain ⟨t, p, s⟩ := ha
  obtain ⟨t2, p2, s2⟩ := hb
  refine ⟨_, pw_and p p2, fun σ H en Q ve q => s σ H en _ ve ?_⟩
  unfold gAnd at q
  cases e : tc en with
  | ok x =>
    rw [e] at q
    intro H' sm
    cases x with
    | true => exact iteT (s2 σ H' en Q (ve.mono sm) (TQ.same (X := X) (W := W) sm q))
    | false => exact iteF (q H' sm)
  | ex c => rw [e] at q; exact q
  | no => rw [e] at q; exact q
theorem w_or (ha : PC X W a tc) (hb : PWc X W (.BoolOp .Or (b :: rest) pos) td) : PWc X W (.BoolOp .Or (a :: b :: rest) pos) (gOr tc td) := by
  obtain ⟨t, p, s⟩ := ha
  obtain ⟨t2, p2, s2⟩ := hb
  refine ⟨_, pw_or p p2, fun σ H en Q ve q => s σ H en _ ve ?_⟩
  unfold gOr at q
  cases e : tc en with
  | ok x =>
    rw [e] at q
    intro H' sm
    cases x with
    | false => exact iteF (s2 σ H' en Q (ve.mono sm) (TQ.same (X := X) (W := W) sm q))
    | true => exact iteT (q H' sm)
  | ex c => rw [e] at q; exact q
  | no => rw [e] at q; exact q
theorem c_w (h : PWc X W a tc) : PC X W a tc := let ⟨t, p, s⟩ := h; ⟨t, p.pt, s⟩
theorem v_one {op} (ha : PV X W a g) : PV X W (.BoolOp op [a] pos) g := let ⟨t, p, s⟩ := ha; ⟨t, pe_one p, s⟩
theorem v_and (ha : PV X W a ga) (hb : PV X W (.BoolOp .And (b :: rest) pos) gb) : PV X W (.BoolOp .And (a :: b :: rest) pos) (gAndV ga gb) := by
  obtain ⟨t, p, s⟩ := ha
  obtain ⟨t2, p2, s2⟩ := hb
  refine ⟨_, pe_andT p p2, fun σ H en Q ve q => s σ H en _ ve ?_⟩
  unfold gAndV at q
  cases e : ga en with
  | ok x =>
    rw [e] at q
    intro v H' G sm o
    cases ek : tru x with
    | none => simp only [R.bind_ok, ek, R.of_none] at q; exact q.elim
    | some k =>
      simp only [R.bind_ok, ek, R.of_some] at q
      refine ⟨k, tru_is o ek, ?_⟩
      cases k with
      | true => exact iteT (s2 σ H' en Q (ve.mono sm) (VQ.same (X := X) (W := W) sm q))
      | false => exact iteF (q v H' G sm o)
  | ex c => rw [e] at q; exact q
  | no => rw [e] at q; exact q
theorem v_or (ha : PV X W a ga) (hb : PV X W (.BoolOp .Or (b :: rest) pos) gb) : PV X W (.BoolOp .Or (a :: b :: rest) pos) (gOrV ga gb) := by
  obtain ⟨t, p, s⟩ := ha
  obtain ⟨t2, p2, s2⟩ := hb
  refine ⟨_, pe_orT p p2, fun σ H en Q ve q => s σ H en _ ve ?_⟩
  unfold gOrV at q
  cases e : ga en with
  | ok x =>
    rw [e] at q
    intro v H' G sm o
    cases ek : tru x with
    | none => simp only [R.bind_ok, ek, R.of_none] at q; exact q.elim
    | some k =>
      simp only [R.bind_ok, ek, R.of_some] at q
      refine ⟨k, tru_is o ek, ?_⟩
      cases k with
      | false => exact iteF (s2 σ H' en Q (ve.mono sm) (VQ.same (X := X) (W := W) sm q))
      | true => exact iteT (q v H' G sm o)
  | ex c => rw [e] at q; exact q
  | no => rw [e] at q; exact q
theorem v_if (hc : PC X W c tc) (ha : PV X W a ga) (hb : PV X W b gb) : PV X W (.IfExp c a b pos) (gIf tc ga gb) := by
  obtain ⟨t, p, s⟩ := hc
  obtain ⟨t1, p1, s1⟩ := ha
  obtain ⟨t2, p2, s2⟩ := hb
  refine ⟨_, pe_ifExp p p1 p2, fun σ H en Q ve q => s σ H en _ ve ?_⟩
  unfold gIf at q
  cases e : tc en with
  | ok x =>
    rw [e] at q
    intro H' sm
    cases x with
    | true => exact iteT (s1 σ H' en Q (ve.mono sm) (VQ.same (X := X) (W := W) sm q))
    | false => exact iteF (s2 σ H' en Q (ve.mono sm) (VQ.same (X := X) (W := W) sm q))
  | ex c => rw [e] at q; exact q
  | no => rw [e] at q; exact q
theorem n_if (hc : PC X W c tc) (ha : PN X W a ga) (hb : PN X W b gb) : PN X W (.IfExp c a b pos) (gIf tc ga gb) := by
  obtain ⟨t, p, s⟩ := hc
  obtain ⟨t1, p1, s1⟩ := ha
  obtain ⟨t2, p2, s2⟩ := hb
  refine ⟨_, pe_ifExp p p1 p2, fun σ H en Q ve q => s σ H en _ ve ?_⟩
  unfold gIf at q
  cases e : tc en with
  | ok x =>
    rw [e] at q
    intro H' sm
    cases x with
    | true => exact iteT (s1 σ H' en Q (ve.mono sm) (NQ.same (X := X) (W := W) sm q))
    | false => exact iteF (s2 σ H' en Q (ve.mono sm) (NQ.same (X := X) (W := W) sm q))
  | ex c => rw [e] at q; exact q
  | no => rw [e] at q; exact q
/-! ### chains -/
def gCh (f f' : T → T → Option T) (ga gb gc : En → R T) : En → R T := fun en => (ga en).bind fun x => (gb en).bind fun y => (R.of (f x y)).bind fun z => (R.of (tst z)).bind fun k =>
  if k = true then (gc en).bind fun w => .of (f' y w) else .ok (.d (.bl false))
theorem spCh {r r' : R2} {f f' : T → T → Option T} {ga gb gc : En → R T} {ta tb tc : TE} (q : Q2 X.K r f) (q' : Q2 X.K r' f') (a : SpV X W ga ta) (b : SpV X W gb tb) (c : SpV X W gc tc) : SpV X W (gCh f f' ga gb gc) (tChain r r' ta tb tc) := by
  intro σ H en Q ve h
  refine a σ H en _ ve ?_
  unfold gCh at h
  cases ea : ga en with
  | ok x =>
    rw [ea] at h
    intro v1 H1 G1 s1 o1
    refine b σ H1 en _ (ve.mono s1) ?_
    cases eb : gb en with
    | ok y =>
      rw [eb] at h
      intro v2 H2 G2 s2 o2
      cases ef : f x y with
      | none => simp only [R.bind_ok, ef, R.of_none] at h; exact h.elim
      | some z =>
        simp only [R.bind_ok, ef, R.of_some] at h
        refine q H2 x y z v1 v2 G1 G2 _ (o1.mono s2) o2 ef fun v3 H3 G3 s3 o3 _ => ?_
        cases z with
        | l xs => exact h.elim
        | d d =>
          cases o3 with
          | d r3 =>
            cases r3 with
            | bl k =>
              refine ⟨k, rfl, ?_⟩
              have s13 := (s1.trans s2).trans s3
              cases k with
              | false => exact iteF (h _ H3 _ s13 (.d (.bl _)))
              | true =>
                refine iteT (c σ H3 en _ (ve.mono s13) ?_)
                simp only [tst, R.of_some, R.bind_ok, if_true] at h
                cases ec : gc en with
                | ok w =>
                  rw [ec] at h
                  intro v4 H4 G4 s4 o4
                  cases eg : f' y w with
                  | none => simp only [R.bind_ok, eg, R.of_none] at h; exact h.elim
                  | some z =>
                    simp only [R.bind_ok, eg, R.of_some] at h
                    exact q' H4 y w z v2 v4 G2 G4 Q (o2.mono (s3.trans s4)) o4 eg fun v H' G s o _ => h v H' G ((s13.trans s4).trans s) o
                | ex c => rw [ec] at h; exact XQ.mono (W := W) s13 h
                | no => rw [ec] at h; exact h
            | _ => exact h.elim
    | ex c => rw [eb] at h; exact XQ.mono (W := W) s1 h
    | no => rw [eb] at h; exact h
  | ex c => rw [ea] at h; exact h
  | no => rw [ea] at h; exact h
theorem v_chain {op op' : CmpOp} {f f' : T → T → Option T} {gc : En → R T} (o : Cm X op f) (o' : Cm X op' f') (ha : PV X W a ga) (hb : PV X W b gb) (hc : PV X W c gc)
    (hm : lastMarks [op, op'] [b, c] = false := by with_unfolding_all rfl) : PV X W (.Compare a [op, op'] [b, c] pos) (gCh f f' ga gb gc) := by
  obtain ⟨r, ho, q⟩ := o.p
  obtain ⟨r', ho', q'⟩ := o'.p
  obtain ⟨ta, pa, sa⟩ := ha
  obtain ⟨tb, pb, sb⟩ := hb
  obtain ⟨tc, pc, sc⟩ := hc
  exact ⟨_, pe_chain ho ho' pa pb pc hm, spCh q q' sa sb sc⟩
theorem c_chain {op op' : CmpOp} {f f' : T → T → Option T} {gc : En → R T} (o : Cm X op f) (o' : Cm X op' f') (ha : PV X W a ga) (hb : PV X W b gb) (hc : PV X W c gc)
    (hm : lastMarks [op, op'] [b, c] = false := by with_unfolding_all rfl) : PC X W (.Compare a [op, op'] [b, c] pos) (gT (gCh f f' ga gb gc)) := by
  obtain ⟨r, ho, q⟩ := o.p
  obtain ⟨r', ho', q'⟩ := o'.p
  obtain ⟨ta, pa, sa⟩ := ha
  obtain ⟨tb, pb, sb⟩ := hb
  obtain ⟨tc, pc, sc⟩ := hc
  exact ⟨_, pt_chain ho ho' pa pb pc hm, spTest (spCh q q' sa sb sc)⟩
/-! ### minus -/
def fNeg : T → Option T
  | .d (.int i) => some (.d (.int (-i)))
  | _ => none
def g1 (f : T → Option T) (g : En → R T) : En → R T := fun en => (g en).bind fun x => .of (f x)
theorem n_neg (ha : PV X W a g) : PN X W (.UnaryOp .USub a pos) (g1 fNeg g) := by
  obtain ⟨t, p, s⟩ := ha
  refine ⟨_, pe_un un_neg p, fun σ H en Q ve q => s σ H en _ ve ?_⟩
  unfold g1 at q
  cases e : g en with
  | ok x =>
    rw [e] at q
    intro v H' G sm o
    cases x with
    | l xs => exact q.elim
    | d d =>
      cases o with
      | d r =>
        cases r with
        | int i => exact ⟨i, rfl, q _ H' _ sm (.d (.int _)) Fresh.nil⟩
        | _ => exact q.elim
  | ex c => rw [e] at q; exact q
  | no => rw [e] at q; exact q
/-! ### items -/
def fIx : T → T → Option T
  | .d (.tup ds), .d (.int i) => (atI ds i).map T.d
  | .d (.rol ds), .d (.int i) => (atI ds i).map T.d
  | .l xs, .d (.int i) => atI xs i
  | .d (.str z), .d (.int i) => if z.length ≤ most then (atI z.cps.toList i).map fun c => T.d (.str ⟨#[c]⟩) else none
  | _, _ => none
theorem atI_rep {K : PySem.W.Frag} {H : Hp} {vs : List V} {ds : List D} {i : Int} {d : D} (r : RepDs K H vs ds) (h : atI ds i = some d) : ∃ v, atI vs i = some v ∧ RepD K H v d := by
  unfold atI at h ⊢
  rw [r.length]
  cases e : ixN ds.length i with
  | none => rw [e] at h; cases h
  | some j =>
    rw [e] at h
    obtain ⟨v, h1, h2⟩ := r.get h
    exact ⟨v, h1, h2⟩
theorem atI_own {K : PySem.W.Frag} {H : Hp} {vs : List V} {ds : List T} {F : List Addr} {i : Int} {d : T} (r : Owns K H vs ds F) (h : atI ds i = some d) : ∃ v G, atI vs i = some v ∧ Own K H v d G ∧ ∀ a ∈ G, a ∈ F := by
  unfold atI at h ⊢
  rw [r.length]
  cases e : ixN ds.length i with
  | none => rw [e] at h; cases h
  | some j =>
    rw [e] at h
    obtain ⟨v, G, h1, h2, h3⟩ := r.get h
    exact ⟨v, G, h1, h2, h3⟩
theorem q_ix : Q2v X.K (rIx X.K) fIx := fun H x y z vx vy Gx Gy Q ox oy e q => by
  unfold fIx at e
  split at e
  · obtain ⟨d, e1, rfl⟩ := Option.map_eq_some_iff.mp e
    cases ox with | d r1 => cases oy with
      | d r2 =>
        cases r2
        cases r1 with
        | tup s r =>
          obtain ⟨v, h1, h2⟩ := atI_rep r e1
          exact .inr (.inl ⟨_, _, _, v, rfl, rfl, s, h1, q v H [] (Same.refl H) (.d h2)⟩)
  · obtain ⟨d, e1, rfl⟩ := Option.map_eq_some_iff.mp e
    cases ox with | d r1 => cases oy with
      | d r2 =>
        cases r2
        cases r1 with
        | rol s r =>
          obtain ⟨v, h1, h2⟩ := atI_rep r e1
          exact .inl ⟨_, _, _, v, rfl, rfl, s H (Pst.refl H), h1, q v H [] (Same.refl H) (.d h2)⟩
  · cases oy with
    | d r2 =>
      cases r2
      cases ox with
      | l s r =>
        obtain ⟨v, G, h1, h2, _⟩ := atI_own r e
        exact .inl ⟨_, _, _, v, rfl, rfl, SqL.of s, h1, q v H G (Same.refl H) h2⟩
  · split at e
    · rename_i hz
      obtain ⟨c, e1, rfl⟩ := Option.map_eq_some_iff.mp e
      cases ox with | d r1 => cases oy with
        | d r2 =>
          cases r2
          cases r1
          exact .inr (.inr ⟨_, _, c, rfl, rfl, by rw [most_eq]; exact hz, e1, q _ H [] (Same.refl H) (.d (.str _))⟩)
    · cases e
  · cases e
theorem v_ix (ha : PV X W a ga) (hb : PV X W b gb) (hs : PlainIx b := by exact fun _ _ => rfl) : PV X W (.Subscript a b pos) (g2 fIx ga gb) := by
  obtain ⟨ta, pa, sa⟩ := ha
  obtain ⟨tb, pb, sb⟩ := hb
  exact ⟨_, pe_ix ix_seq pa pb hs, sp2v q_ix sa sb⟩
/-! ### slices -/
def cutG {α : Type} (xs : List α) (lo hi : Option Int) : List α := (xs.drop (HT.sIx xs.length 0 lo)).take (HT.sIx xs.length xs.length hi - HT.sIx xs.length 0 lo)
theorem cutG_rep {K : PySem.W.Frag} {H : Hp} {vs : List V} {ds : List D} (lo hi : Option Int) (r : RepDs K H vs ds) : RepDs K H (cutV vs lo hi) (cutG ds lo hi) := by
  unfold cutV cutG
  rw [r.length]
  exact (r.drop _).take _
theorem cutG_whole {α : Type} {xs : List α} {lo hi : Option Int} (h1 : HT.sIx xs.length 0 lo = 0) (h2 : HT.sIx xs.length xs.length hi = xs.length) : cutG xs lo hi = xs := by
  unfold cutG
  rw [h1, h2, List.drop_zero, Nat.sub_zero, List.take_length]
def fSl : T → Option Int → Option Int → Option T
  | .d (.tup ds), lo, hi => some (.d (.tup (cutG ds lo hi)))
  | .d (.rol ds), lo, hi => some (.l ((cutG ds lo hi).map T.d))
  | .l xs, lo, hi => (allD xs).map fun ds => .l ((cutG ds lo hi).map T.d)
  | .d (.str z), lo, hi => if z.length ≤ most then some (.d (.str (cutS z lo hi))) else none
  | _, _, _ => none
def asI : T → Option Int
  | .d (.int i) => some i
  | _ => none
def oN : En → R (Option Int) := fun _ => .ok none
def oS (g : En → R T) : En → R (Option Int) := fun en => (g en).bind fun x => (R.of (asI x)).bind fun i => .ok (some i)
def OQ (σ : St) (H : Hp) (Q : Option Int → Hp → Prop) : R (Option Int) → Prop
  | .ok i => ∀ H', Same H H' → Q i H'
  | .ex c => XQ X W σ H c
  | .no => False
def SpO (X : Cx) (W : WX) (g : En → R (Option Int)) (t : TO) : Prop := ∀ σ H en Q, VEn X.K H σ en → OQ (X := X) (W := W) σ H Q (g en) → t σ H Q
def POv (X : Cx) (W : WX) (e : Option Expr) (g : En → R (Option Int)) : Prop := ∃ t, PO X e t ∧ SpO X W g t
theorem o_none : POv X W none oN := ⟨_, po_none, fun σ H en Q ve q => q H (Same.refl H)⟩
theorem o_some (ha : PV X W a g) : POv X W (some a) (oS g) := by
  obtain ⟨t, p, s⟩ := ha
  refine ⟨_, po_some p, fun σ H en Q ve q => s σ H en _ ve ?_⟩
  unfold oS at q
  cases e : g en with
  | ok x =>
    rw [e] at q
    intro v H' G sm o
    cases x with
    | l xs => exact q.elim
    | d d =>
      cases o with
      | d r =>
        cases r with
        | int i => exact ⟨i, rfl, q H' sm⟩
        | _ => exact q.elim
  | ex c => rw [e] at q; exact q
  | no => rw [e] at q; exact q
def gSl (g : En → R T) (lo hi : En → R (Option Int)) : En → R T := fun en => (g en).bind fun x => (lo en).bind fun l => (hi en).bind fun h => .of (fSl x l h)
theorem n_slice {lo hi : Option Expr} {gl gh : En → R (Option Int)} {p2 : Pos} (ha : PV X W a g) (hl : POv X W lo gl) (hh : POv X W hi gh) : PN X W (.Subscript a (.Slice lo hi none p2) pos) (gSl g gl gh) := by
  obtain ⟨t, p, s⟩ := ha
  obtain ⟨tl, pl, sl⟩ := hl
  obtain ⟨th, ph, sh⟩ := hh
  refine ⟨_, pe_slice (sl_list.or (sl_tupA.or sl_str)) p pl ph, fun σ H en Q ve q => s σ H en _ ve ?_⟩
  unfold gSl at q
  cases e : g en with
  | ok x =>
    rw [e] at q
    intro v H' G sm o
    refine sl σ H' en _ (ve.mono sm) ?_
    cases e2 : gl en with
    | ok l =>
      rw [e2] at q
      intro H2 s2
      refine sh σ H2 en _ (ve.mono (sm.trans s2)) ?_
      cases e3 : gh en with
      | ok h =>
        rw [e3] at q
        intro H3 s3
        have sm3 := (sm.trans s2).trans s3
        replace o := o.mono (s2.trans s3)
        simp only [R.bind_ok] at q
        cases o with
        | d r =>
          cases r with
          | tup sq rr =>
            refine .inr (.inl ⟨_, _, rfl, sq, fun hw => ?_, fun hw p np => ?_⟩)
            · rw [rr.length] at hw
              simp only [fSl, R.of_some, cutG_whole hw.1 hw.2] at q
              exact q _ H3 [] sm3 (.d (.tup sq rr)) Fresh.nil
            · exact q _ _ [] (sm3.trans (same_new np)) (.d (.tup (SqT.of upd_same) ((cutG_rep l h rr).mono (.of (same_new np))))) Fresh.nil
          | rol sq rr =>
            refine .inl ⟨_, _, rfl, sq H3 (Pst.refl H3), fun p np => ?_⟩
            refine q _ _ [p] (sm3.trans (same_new np)) (.l upd_same ((cutG_rep l h rr).mono (.of (same_new np))).owns) ⟨by simp, fun c m => ?_⟩
            have e : c = p := by simpa using m
            rw [e]; exact sm3.free np
          | str z =>
            simp only [fSl] at q
            split at q
            · rename_i hz
              exact .inr (.inr ⟨z, rfl, by rw [most_eq]; exact hz, q _ H3 [] sm3 (.d (.str _)) Fresh.nil⟩)
            · exact q.elim
          | _ => exact q.elim
        | @l a' vs xs F hs rr =>
          cases ea : allD xs with
          | none => simp only [fSl, ea, Option.map_none, R.of_none] at q; exact q.elim
          | some ds =>
            simp only [fSl, ea, Option.map_some, R.of_some] at q
            have e1 := allD_eq ea
            subst e1
            refine .inl ⟨_, _, rfl, SqL.of hs, fun p np => ?_⟩
            refine q _ _ [p] (sm3.trans (same_new np)) (.l upd_same ((cutG_rep l h rr.data.1).mono (.of (same_new np))).owns) ⟨by simp, fun c m => ?_⟩
            have e : c = p := by simpa using m
            rw [e]; exact sm3.free np
      | ex c => rw [e3] at q; exact XQ.mono (W := W) (sm.trans s2) q
      | no => rw [e3] at q; exact q
    | ex c => rw [e2] at q; exact XQ.mono (W := W) sm q
    | no => rw [e2] at q; exact q
  | ex c => rw [e] at q; exact q
  | no => rw [e] at q; exact q
/-! ### displays, arguments -/
def aNil {α : Type} : En → R (List α) := fun _ => .ok []
def aCons {α : Type} (g : En → R α) (h : En → R (List α)) : En → R (List α) := fun en => (g en).bind fun x => (h en).bind fun xs => .ok (x :: xs)
variable {es : List Expr} {gs : En → R (List T)}
theorem av_nil : PAv X W [] aNil := ⟨_, pa_nil, fun σ H en Q ve q => q [] H (Same.refl H) .nil⟩
theorem av_cons (ha : PV X W a g) (hr : PAv X W es gs) (hs : starEach (a :: es) X.env = (false, eval a X.env) :: starEach es X.env := by rfl) : PAv X W (a :: es) (aCons g gs) := by
  obtain ⟨t, p, s⟩ := ha
  obtain ⟨t2, p2, s2⟩ := hr
  refine ⟨_, pa_cons p p2 hs, fun σ H en Q ve q => s σ H en _ ve ?_⟩
  unfold aCons at q
  cases e : g en with
  | ok x =>
    rw [e] at q
    intro v H' G sm o
    refine s2 σ H' en _ (ve.mono sm) ?_
    cases e2 : gs en with
    | ok xs =>
      rw [e2] at q
      exact fun vs H2 sm2 w => q (v :: vs) H2 (sm.trans sm2) (.cons (o.mono sm2) w)
    | ex c => rw [e2] at q; exact XQ.mono (W := W) sm q
    | no => rw [e2] at q; exact q
  | ex c => rw [e] at q; exact q
  | no => rw [e] at q; exact q
theorem an_nil : PAn X W [] aNil := ⟨_, pa_nil, fun σ H en Q ve q => q [] H [] (Same.refl H) .nil Fresh.nil⟩
theorem Fresh.app {H H' : Hp} {F G : List Addr} (s : Same H H') (f : Fresh H F) (d : ∀ a ∈ F, H' a ≠ none) (g : Fresh H' G) : Fresh H (F ++ G) := by
  refine ⟨List.nodup_append.mpr ⟨f.1, g.1, fun a ha b hb e => ?_⟩, fun a m => (List.mem_append.mp m).elim (f.2 a) fun z => s.free (g.2 a z)⟩
  subst e
  exact d a ha (g.2 a hb)
theorem Own.there {K : PySem.W.Frag} {H : Hp} {v : V} {x : T} {F : List Addr} (o : Own K H v x F) : ∀ a ∈ F, H a ≠ none := fun a m e => by
  obtain ⟨vs, h⟩ := o.dom a m
  rw [e] at h; cases h
theorem Owns.there {K : PySem.W.Frag} {H : Hp} {vs : List V} {xs : List T} {F : List Addr} (o : Owns K H vs xs F) : ∀ a ∈ F, H a ≠ none := fun a m e => by
  obtain ⟨vs, h⟩ := o.dom a m
  rw [e] at h; cases h
theorem an_cons (ha : PN X W a g) (hr : PAn X W es gs) (hs : starEach (a :: es) X.env = (false, eval a X.env) :: starEach es X.env := by rfl) : PAn X W (a :: es) (aCons g gs) := by
  obtain ⟨t, p, s⟩ := ha
  obtain ⟨t2, p2, s2⟩ := hr
  refine ⟨_, pa_cons p p2 hs, fun σ H en Q ve q => s σ H en _ ve ?_⟩
  unfold aCons at q
  cases e : g en with
  | ok x =>
    rw [e] at q
    intro v H' G sm o f
    refine s2 σ H' en _ (ve.mono sm) ?_
    cases e2 : gs en with
    | ok xs =>
      rw [e2] at q
      exact fun vs H2 F sm2 w f2 => q (v :: vs) H2 (G ++ F) (sm.trans sm2) (.cons (o.mono sm2) w) (f.app sm o.there f2)
    | ex c => rw [e2] at q; exact XQ.mono (W := W) sm q
    | no => rw [e2] at q; exact q
  | ex c => rw [e] at q; exact q
  | no => rw [e] at q; exact q
theorem Vws.data {K : PySem.W.Frag} {H : Hp} : ∀ {vs : List V} {ds : List D}, Vws K H vs (ds.map T.d) → RepDs K H vs ds
  | _, [], .nil => .nil
  | _, d :: ds, .cons (.d r) t => .cons r (Vws.data t)
def mkTup (xs : List T) : R T := match allD xs with
  | some ds => if ds.length ≤ most then .ok (.d (.tup ds)) else .no
  | none => .no
def mkLst (xs : List T) : R T := if xs.length ≤ most then .ok (.l xs) else .no
def gTup (g : En → R (List T)) : En → R T := fun en => (g en).bind mkTup
def gLst (g : En → R (List T)) : En → R T := fun en => (g en).bind mkLst
theorem n_tup {k} (ha : PAv X W es gs) : PN X W (.Tuple es k pos) (gTup gs) := by
  obtain ⟨t, p, s⟩ := ha
  refine ⟨_, pe_tup p, fun σ H en Q ve q => s σ H en _ ve ?_⟩
  unfold gTup at q
  cases e : gs en with
  | ok xs =>
    rw [e] at q
    intro vs H' sm w
    simp only [R.bind_ok, mkTup] at q
    cases ea : allD xs with
    | none => rw [ea] at q; exact q.elim
    | some ds =>
      rw [ea] at q
      have e1 := allD_eq ea
      subst e1
      have rr := w.data
      simp only at q
      split at q
      · rename_i hz
        refine ⟨by rw [most_eq, rr.length]; exact hz, fun p np => ?_⟩
        exact q _ _ [] (sm.trans (same_new np)) (.d (.tup (SqT.of upd_same) (rr.mono (.of (same_new np))))) Fresh.nil
      · exact q.elim
  | ex c => rw [e] at q; exact q
  | no => rw [e] at q; exact q
theorem n_lst (ha : PAn X W es gs) : PN X W (.List es pos) (gLst gs) := by
  obtain ⟨t, p, s⟩ := ha
  refine ⟨_, pe_lst p, fun σ H en Q ve q => s σ H en _ ve ?_⟩
  unfold gLst at q
  cases e : gs en with
  | ok xs =>
    rw [e] at q
    intro vs H' F sm w f
    simp only [R.bind_ok, mkLst] at q
    split at q
    · rename_i hz
      refine ⟨by rw [most_eq, w.length]; exact hz, fun p np => ?_⟩
      have np' : H p = none := sm.free np
      refine q _ _ (p :: F) (sm.trans (same_new np)) (.l upd_same (w.mono (same_new np))) ⟨List.nodup_cons.mpr ⟨fun m => w.there p m np, f.1⟩, fun c m => ?_⟩
      rcases List.mem_cons.mp m with rfl | m
      · exact np'
      · exact f.2 c m
    · exact q.elim
  | ex c => rw [e] at q; exact q
  | no => rw [e] at q; exact q
/-! ### built-ins -/
def QL (K : PySem.W.Frag) (r : List V → Hp → VK → Prop) (f : List T → Option T) : Prop := ∀ (H : Hp) (xs : List T) (vs : List V) (z : T) (Q : VK), Vws K H vs xs → f xs = some z → (∀ v H' G, Same H H' → Own K H' v z G → Fresh H G → Q v H') → r vs H Q
structure Bf (X : Cx) (u : Value) (f : List T → Option T) : Prop where
  p : ∃ r, CallR X u r ∧ QL X.K r f
def gCall (f : List T → Option T) (g : En → R (List T)) : En → R T := fun en => (g en).bind fun xs => .of (f xs)
theorem spCB {r : List V → Hp → VK → Prop} {f : List T → Option T} {t : TA} (q : QL X.K r f) (s : SpA X W gs t) : SpN X W (gCall f gs) (tCB r t) := by
  intro σ H en Q ve h
  refine s σ H en _ ve ?_
  unfold gCall at h
  cases e : gs en with
  | ok xs =>
    rw [e] at h
    intro vs H' sm w
    cases ef : f xs with
    | none => simp only [R.bind_ok, ef, R.of_none] at h; exact h.elim
    | some z =>
      simp only [R.bind_ok, ef, R.of_some] at h
      exact q H' xs vs z Q w ef fun v H2 G s2 o fr => h v H2 G (sm.trans s2) o (fr.back sm)
  | ex c => rw [e] at h; exact h
  | no => rw [e] at h; exact h
theorem n_callB {x id : String} {f : List T → Option T} {p : Pos} (o : Bf X (.builtin id) f) (hv : bootBuiltins x = some (.builtin id)) (hm : X.mg x = none) (ha : PAv X W (a :: es) gs) (hg : Gl X x := by rfl) (hn : (Str.ofString x) ≠ "__name__" := by decide) (hdb : ((Str.ofString x) == ("__debug__" : Str)) = false := by decide)
    (he : starEach (a :: es) X.env = (false, eval a X.env) :: starEach es X.env := by rfl) (hpl : (backTo pos (starEach es X.env)).any (·.1) = false := by rfl) : PN X W (.Call (.Name x p) (a :: es) [] pos) (gCall f gs) := by
  obtain ⟨r, hc, q⟩ := o.p
  obtain ⟨t, pa, s⟩ := ha
  exact ⟨_, pe_callB hc hg hm hv pa hn hdb he hpl, spCB q s⟩
theorem n_callT {x Ty : String} {f : List T → Option T} {p : Pos} (o : Bf X (.type Ty) f) (hv : bootBuiltins x = some (.type Ty)) (hm : X.mg x = none) (ha : PAv X W (a :: es) gs) (hg : Gl X x := by rfl) (hn : (Str.ofString x) ≠ "__name__" := by decide) (hdb : ((Str.ofString x) == ("__debug__" : Str)) = false := by decide)
    (he : starEach (a :: es) X.env = (false, eval a X.env) :: starEach es X.env := by rfl) (hpl : (backTo pos (starEach es X.env)).any (·.1) = false := by rfl) : PN X W (.Call (.Name x p) (a :: es) [] pos) (gCall f gs) := by
  obtain ⟨r, hc, q⟩ := o.p
  obtain ⟨t, pa, s⟩ := ha
  exact ⟨_, pe_callTy hc hg hm hv pa hn hdb he hpl, spCB q s⟩
def fLen : List T → Option T
  | [.d (.str y)] => if y.length ≤ most then some (.d (.int y.length)) else none
  | [.d (.tup ds)] => some (.d (.int ds.length))
  | [.d (.rol ds)] => some (.d (.int ds.length))
  | [.l xs] => some (.d (.int xs.length))
  | _ => none
theorem f_len : Bf X (.builtin "len") fLen := ⟨_, call_len, fun H xs vs z Q w e q => by
  unfold fLen at e
  split at e
  · split at e <;> cases e
    rename_i hz
    cases w with | cons o t => cases t; cases o with | d r => cases r; exact ⟨_, _, rfl, ⟨by rw [most_eq]; exact hz, rfl⟩, fin_d (.int _) q⟩
  · cases e
    cases w with | cons o t => cases t; cases o with | d r => cases r with | tup s r => exact ⟨_, _, rfl, .inr ⟨_, s, rfl⟩, by rw [r.length]; exact fin_d (.int _) q⟩
  · cases e
    cases w with | cons o t => cases t; cases o with | d r => cases r with | rol s r => exact ⟨_, _, rfl, .inl ⟨_, s H (Pst.refl H), rfl⟩, by rw [r.length]; exact fin_d (.int _) q⟩
  · cases e
    cases w with | cons o t => cases t; cases o with | l s r => exact ⟨_, _, rfl, .inl ⟨_, SqL.of s, rfl⟩, by rw [r.length]; exact fin_d (.int _) q⟩
  · cases e⟩
def fAbs : List T → Option T
  | [.d (.int i)] => some (.d (.int (if i < 0 then -i else i)))
  | _ => none
theorem f_abs : Bf X (.builtin "abs") fAbs := ⟨_, call_abs, fun H xs vs z Q w e q => by
  unfold fAbs at e
  split at e <;> cases e
  cases w with | cons o t => cases t; cases o with | d r => cases r; exact ⟨_, rfl, fin_d (.int _) q⟩⟩
def fInt : List T → Option T
  | [.d (.int i)] => some (.d (.int i))
  | [.d (.bl k)] => some (.d (.int (if k then 1 else 0)))
  | _ => none
theorem f_int : Bf X (.type "int") fInt := ⟨_, call_int1, fun H xs vs z Q w e q => by
  unfold fInt at e
  split at e <;> cases e
  · cases w with | cons o t => cases t; cases o with | d r => cases r; exact .inl ⟨_, rfl, fin_d (.int _) q⟩
  · cases w with | cons o t => cases t; cases o with | d r => cases r; exact .inr ⟨_, rfl, fin_d (.int _) q⟩⟩
def asInts : List D → Option (List Int)
  | [] => some []
  | .int i :: r => (asInts r).map (i :: ·)
  | _ :: _ => none
@[simp] theorem asInts_map : ∀ ns : List Int, asInts (ns.map D.int) = some ns
  | [] => rfl
  | n :: r => by rw [List.map_cons, asInts, asInts_map r]; rfl
theorem asInts_eq : ∀ {ds : List D} {ns : List Int}, asInts ds = some ns → ds = ns.map D.int
  | [], ns, h => by cases h; rfl
  | .int i :: r, ns, h => by
    unfold asInts at h
    cases e : asInts r with
    | none => rw [e] at h; cases h
    | some es => rw [e] at h; cases h; rw [asInts_eq e]; rfl
  | .non :: _, _, h => by cases h
  | .bl _ :: _, _, h => by cases h
  | .str _ :: _, _, h => by cases h
  | .tup _ :: _, _, h => by cases h
  | .rol _ :: _, _, h => by cases h
theorem RepDs.ints {K : PySem.W.Frag} {H : Hp} : ∀ {vs : List V} {ns : List Int}, RepDs K H vs (ns.map D.int) → vs = ns.map V.int
  | _, [], .nil => rfl
  | _, n :: r, .cons (.int _) t => by rw [RepDs.ints t]; rfl
def asBls : List D → Option (List Bool)
  | [] => some []
  | .bl i :: r => (asBls r).map (i :: ·)
  | _ :: _ => none
@[simp] theorem asBls_map : ∀ ns : List Bool, asBls (ns.map D.bl) = some ns
  | [] => rfl
  | n :: r => by rw [List.map_cons, asBls, asBls_map r]; rfl
theorem asBls_eq : ∀ {ds : List D} {ns : List Bool}, asBls ds = some ns → ds = ns.map D.bl
  | [], ns, h => by cases h; rfl
  | .bl i :: r, ns, h => by
    unfold asBls at h
    cases e : asBls r with
    | none => rw [e] at h; cases h
    | some es => rw [e] at h; cases h; rw [asBls_eq e]; rfl
  | .non :: _, _, h => by cases h
  | .int _ :: _, _, h => by cases h
  | .str _ :: _, _, h => by cases h
  | .tup _ :: _, _, h => by cases h
  | .rol _ :: _, _, h => by cases h
theorem RepDs.bls {K : PySem.W.Frag} {H : Hp} : ∀ {vs : List V} {ns : List Bool}, RepDs K H vs (ns.map D.bl) → vs = ns.map V.bl
  | _, [], .nil => rfl
  | _, n :: r, .cons (.bl _) t => by rw [RepDs.bls t]; rfl
/-- the items of a list that are data -/
def lstOf : T → Option (List D)
  | .d (.rol ds) => some ds
  | .l xs => allD xs
  | _ => none
theorem lstOf_ok {K : PySem.W.Frag} {H : Hp} {v : V} {x : T} {G : List Addr} {ds : List D} (o : Own K H v x G) (h : lstOf x = some ds) : ∃ a vs, v = .ref a ∧ SqL K H a vs ∧ RepDs K H vs ds := by
  cases o with
  | d r =>
    cases r with
    | rol s r => cases h; exact ⟨_, _, rfl, s H (Pst.refl H), r⟩
    | _ => cases h
  | l s r =>
    have e := allD_eq h
    subst e
    exact ⟨_, _, rfl, SqL.of s, r.data.1⟩
def fSum : List T → Option T
  | [x] => (lstOf x).bind fun ds => (asInts ds).map fun ns => .d (.int ns.sum)
  | _ => none
theorem f_sum (hc : X.calm = true) : Bf X (.builtin "sum") fSum := ⟨_, cr_sum hc, fun H xs vs z Q w e q => by
  unfold fSum at e
  split at e
  · obtain ⟨ds, e1, e⟩ := Option.bind_eq_some_iff.mp e
    obtain ⟨ns, e2, rfl⟩ := Option.map_eq_some_iff.mp e
    have e3 := asInts_eq e2
    subst e3
    cases w with
    | cons o t =>
      cases t
      obtain ⟨a, us, rfl, s, r⟩ := lstOf_ok o e1
      have e4 := r.ints
      subst e4
      exact ⟨a, ns, rfl, s, fin_d (.int _) q⟩
  · cases e⟩
def fAll : List T → Option T
  | [x] => (lstOf x).bind fun ds => (asBls ds).map fun ns => .d (.bl (ns.all id))
  | _ => none
theorem f_all (hc : X.calm = true) : Bf X (.builtin "all") fAll := ⟨_, cr_all hc, fun H xs vs z Q w e q => by
  unfold fAll at e
  split at e
  · obtain ⟨ds, e1, e⟩ := Option.bind_eq_some_iff.mp e
    obtain ⟨ns, e2, rfl⟩ := Option.map_eq_some_iff.mp e
    have e3 := asBls_eq e2
    subst e3
    cases w with
    | cons o t =>
      cases t
      obtain ⟨a, us, rfl, s, r⟩ := lstOf_ok o e1
      have e4 := r.bls
      subst e4
      exact ⟨a, ns, rfl, s, fin_d (.bl _) q⟩
  · cases e⟩
def truD (d : D) : Option Bool := tru (.d d)
def truDs : List D → Option (List Bool)
  | [] => some []
  | d :: r => (truD d).bind fun b => (truDs r).map (b :: ·)
def fMax2 : List T → Option T
  | [.d (.int i), .d (.int j)] => some (.d (.int (max i j)))
  | _ => none
theorem f_max2 (hc : X.calm = true) : Bf X (.builtin "max") fMax2 := ⟨_, call_max2 hc, fun H xs vs z Q w e q => by
  unfold fMax2 at e
  split at e <;> cases e
  cases w with | cons o t => cases o with | d r => cases r; cases t with | cons o2 t => cases t; cases o2 with | d r2 => cases r2; exact ⟨_, _, rfl, by
    have := fin_d (.int _) q
    rename_i i j
    rw [show (if j > i then j else i) = max i j by omega]
    exact this⟩⟩
def fMin2 : List T → Option T
  | [.d (.int i), .d (.int j)] => some (.d (.int (min i j)))
  | _ => none
theorem f_min2 (hc : X.calm = true) : Bf X (.builtin "min") fMin2 := ⟨_, call_min2 hc, fun H xs vs z Q w e q => by
  unfold fMin2 at e
  split at e <;> cases e
  cases w with | cons o t => cases o with | d r => cases r; cases t with | cons o2 t => cases t; cases o2 with | d r2 => cases r2; exact ⟨_, _, rfl, by
    have := fin_d (.int _) q
    rename_i i j
    rw [show (if j < i then j else i) = min i j by omega]
    exact this⟩⟩
def fList : List T → Option T
  | [x] => (dataOf x).map fun ds => .l (ds.map T.d)
  | _ => none
theorem f_list : Bf X (.type "list") fList := ⟨_, call_list_of, fun H xs vs z Q w e q => by
  unfold fList at e
  split at e
  · obtain ⟨ds, e1, rfl⟩ := Option.map_eq_some_iff.mp e
    cases w with
    | cons o t =>
      cases t
      obtain ⟨a, us, rfl, s, r⟩ := dataOf_ok o e1
      refine ⟨a, us, rfl, s, fun p np => ?_⟩
      refine q _ _ [p] (same_new np) (.l upd_same (r.mono (.of (same_new np))).owns) ⟨by simp, fun c m => ?_⟩
      have e : c = p := by simpa using m
      rw [e]; exact np
  · cases e⟩
def fTuple : List T → Option T
  | [x] => (dataOf x).map fun ds => .d (.tup ds)
  | _ => none
theorem f_tuple : Bf X (.type "tuple") fTuple := ⟨_, call_tuple_of, fun H xs vs z Q w e q => by
  unfold fTuple at e
  split at e
  · rename_i x
    obtain ⟨ds, e1, rfl⟩ := Option.map_eq_some_iff.mp e
    cases w with
    | cons o t =>
      cases t
      have viaL : ∀ {a us}, SqL X.K H a us → RepDs X.K H us ds → ∀ l, H l = none → Q (.ref l) (upd H l (.tup us)) := fun {a us} _ r p np =>
        q _ _ [] (same_new np) (.d (.tup (SqT.of upd_same) (r.mono (.of (same_new np))))) Fresh.nil
      cases o with
      | d r =>
        cases r with
        | tup s r => cases e1; exact ⟨_, _, rfl, .inr ⟨s, fin_d (.tup s r) q⟩⟩
        | rol s r => cases e1; exact ⟨_, _, rfl, .inl ⟨s H (Pst.refl H), viaL (s H (Pst.refl H)) r⟩⟩
        | _ => cases e1
      | l s r =>
        have e := allD_eq e1
        subst e
        exact ⟨_, _, rfl, .inl ⟨SqL.of s, viaL (SqL.of s) r.data.1⟩⟩
  · cases e⟩
/-! ### isinstance -/
def tyN : T → String
  | .d .non => "NoneType"
  | .d (.bl _) => "bool"
  | .d (.int _) => "int"
  | .d (.str _) => "str"
  | .d (.tup _) => "tuple"
  | .d (.rol _) => "list"
  | .l _ => "list"
theorem sqL_ty {K : PySem.W.Frag} {H : Hp} {a : Addr} {vs : List V} (h : SqL K H a vs) : TyX K H (.ref a) (.type "list") := by
  rcases h with (h | ⟨o, h⟩) | ⟨o, its, n, h, c, _⟩
  · exact .base (.lst h)
  · exact .base (.frz h)
  · exact .kList h c
theorem sqT_ty {K : PySem.W.Frag} {H : Hp} {a : Addr} {vs : List V} (h : SqT K H a vs) : TyX K H (.ref a) (.type "tuple") := by
  rcases h with (h | ⟨o, h⟩) | ⟨o, its, n, h, c, _⟩
  · exact .base (.tup h)
  · exact .fTuple h
  · exact .kTuple h c
theorem ty_of {K : PySem.W.Frag} {H : Hp} {v : V} {x : T} {G : List Addr} (o : Own K H v x G) : TyX K H v (.type (tyN x)) := by
  cases o with
  | d r =>
    cases r with
    | non => exact .base .non
    | bl b => exact .base (.bl b)
    | int b => exact .base (.int b)
    | str b => exact .base (.str b)
    | tup s r => exact sqT_ty s
    | rol s r => exact sqL_ty (s H (Pst.refl H))
  | l s r => exact sqL_ty (SqL.of s)
def isA (cls : String) (f : T → Bool) : Prop := ∀ x, kitB (tyN x) cls = some (f x)
def gIsi (f : T → Bool) (g : En → R T) : En → R T := fun en => (g en).bind fun x => .ok (.d (.bl (f x)))
theorem n_isi {cls : String} {f : T → Bool} {p p2 : Pos} (hf : isA cls f) (hm : X.mg "isinstance" = none) (hm2 : X.mg cls = none) (hv2 : bootBuiltins cls = some (.type cls)) (ha : PV X W a g) (hg : Gl X "isinstance" := by rfl) (hg2 : Gl X cls := by rfl)
    (hn2 : (Str.ofString cls) ≠ "__name__" := by decide) (hd2 : ((Str.ofString cls) == ("__debug__" : Str)) = false := by decide)
    (he : starEach [a, .Name cls p2] X.env = (false, eval a X.env) :: starEach [.Name cls p2] X.env := by rfl) (he2 : starEach [.Name cls p2] X.env = (false, eval (.Name cls p2) X.env) :: starEach [] X.env := by rfl) (hpl : (backTo pos (starEach [.Name cls p2] X.env)).any (·.1) = false := by rfl) :
    PN X W (.Call (.Name "isinstance" p) [a, .Name cls p2] [] pos) (gIsi f g) := by
  obtain ⟨t, pa, s⟩ := ha
  refine ⟨_, pe_callB call_isi hg hm boot_isinstance (pa_cons pa (pa_cons (pe_bltn hg2 hm2 hv2 (show RelV (.ty cls) (.type cls) from rfl) hn2 hd2) pa_nil he2) he) (by decide) (by decide) he hpl, fun σ H en Q ve q => s σ H en _ ve ?_⟩
  unfold gIsi at q
  cases e : g en with
  | ok x =>
    rw [e] at q
    intro v H' G sm o
    exact ⟨v, .ty cls, _, _, f x, rfl, .ty cls, ty_of o, kit_ty (hf x), q _ H' [] sm (.d (.bl _)) Fresh.nil⟩
  | ex c => rw [e] at q; exact q
  | no => rw [e] at q; exact q
def isInt : T → Bool
  | .d (.int _) => true
  | .d (.bl _) => true
  | _ => false
def isBl : T → Bool
  | .d (.bl _) => true
  | _ => false
def isStr : T → Bool
  | .d (.str _) => true
  | _ => false
def isTup : T → Bool
  | .d (.tup _) => true
  | _ => false
def isLst : T → Bool
  | .d (.rol _) => true
  | .l _ => true
  | _ => false
end
theorem kit_int : isA "int" isInt := fun x => match x with
  | .d .non => (by decide +kernel : kitB "NoneType" "int" = some false)
  | .d (.bl _) => (by decide +kernel : kitB "bool" "int" = some true)
  | .d (.int _) => (by decide +kernel : kitB "int" "int" = some true)
  | .d (.str _) => (by decide +kernel : kitB "str" "int" = some false)
  | .d (.tup _) => (by decide +kernel : kitB "tuple" "int" = some false)
  | .d (.rol _) => (by decide +kernel : kitB "list" "int" = some false)
  | .l _ => (by decide +kernel : kitB "list" "int" = some false)
theorem kit_bl : isA "bool" isBl := fun x => match x with
  | .d .non => (by decide +kernel : kitB "NoneType" "bool" = some false)
  | .d (.bl _) => (by decide +kernel : kitB "bool" "bool" = some true)
  | .d (.int _) => (by decide +kernel : kitB "int" "bool" = some false)
  | .d (.str _) => (by decide +kernel : kitB "str" "bool" = some false)
  | .d (.tup _) => (by decide +kernel : kitB "tuple" "bool" = some false)
  | .d (.rol _) => (by decide +kernel : kitB "list" "bool" = some false)
  | .l _ => (by decide +kernel : kitB "list" "bool" = some false)
theorem kit_str : isA "str" isStr := fun x => match x with
  | .d .non => (by decide +kernel : kitB "NoneType" "str" = some false)
  | .d (.bl _) => (by decide +kernel : kitB "bool" "str" = some false)
  | .d (.int _) => (by decide +kernel : kitB "int" "str" = some false)
  | .d (.str _) => (by decide +kernel : kitB "str" "str" = some true)
  | .d (.tup _) => (by decide +kernel : kitB "tuple" "str" = some false)
  | .d (.rol _) => (by decide +kernel : kitB "list" "str" = some false)
  | .l _ => (by decide +kernel : kitB "list" "str" = some false)
theorem kit_tup : isA "tuple" isTup := fun x => match x with
  | .d .non => (by decide +kernel : kitB "NoneType" "tuple" = some false)
  | .d (.bl _) => (by decide +kernel : kitB "bool" "tuple" = some false)
  | .d (.int _) => (by decide +kernel : kitB "int" "tuple" = some false)
  | .d (.str _) => (by decide +kernel : kitB "str" "tuple" = some false)
  | .d (.tup _) => (by decide +kernel : kitB "tuple" "tuple" = some true)
  | .d (.rol _) => (by decide +kernel : kitB "list" "tuple" = some false)
  | .l _ => (by decide +kernel : kitB "list" "tuple" = some false)
theorem kit_lst : isA "list" isLst := fun x => match x with
  | .d .non => (by decide +kernel : kitB "NoneType" "list" = some false)
  | .d (.bl _) => (by decide +kernel : kitB "bool" "list" = some false)
  | .d (.int _) => (by decide +kernel : kitB "int" "list" = some false)
  | .d (.str _) => (by decide +kernel : kitB "str" "list" = some false)
  | .d (.tup _) => (by decide +kernel : kitB "tuple" "list" = some false)
  | .d (.rol _) => (by decide +kernel : kitB "list" "list" = some true)
  | .l _ => (by decide +kernel : kitB "list" "list" = some true)
end Z
/-! Z: what is walked, targets, comprehensions, calls of the text's own defs. -/
namespace Z
open PySem PySem.Spec L2
open PyProof.Rows hiding St

/-! ### what is walked -/
def Kept (G : List Addr) (H H' : Hp) : Prop := Pst H H' ∧ ∀ a ∈ G, ∀ o, H a = some o → H' a = some o
theorem Kept.of {G : List Addr} {H H' : Hp} (s : Same H H') : Kept G H H' := ⟨.of s, fun a _ o e => s a o e⟩
theorem Kept.own {K : PySem.W.Frag} {G F : List Addr} {H H' : Hp} {v : V} {x : T} (k : Kept G H H') (o : Own K H v x F) (h : ∀ a ∈ F, a ∈ G) : Own K H' v x F := o.frame k.1 fun a m => k.2 a (h a m)
theorem Kept.trans {G : List Addr} {H H1 H2 : Hp} (a : Kept G H H1) (b : Kept G H1 H2) : Kept G H H2 := ⟨a.1.trans b.1, fun c m o e => b.2 c m o (a.2 c m o e)⟩
/-- it gives the things of xs, as long as the addresses of G are kept -/
def ItOk (K : PySem.W.Frag) (G : List Addr) (H0 : Hp) (J : It) (xs : List T) : Prop :=
  Walk J xs.length (Kept G H0) fun i H v H' => Same H H' ∧ ∃ x F, xs[i]? = some x ∧ Own K H' v x F ∧ ∀ a ∈ F, a ∈ G
section
variable (X : Cx) (W : WX)
def IQ (σ : St) (H : Hp) (Q : It → Hp → Prop) : R (List T) → Prop
  | .ok xs => ∀ J H' G, Same H H' → ItOk X.K G H' J xs → Q J H'
  | .ex c => XQ X W σ H c
  | .no => False
def JQ (σ : St) (H : Hp) (Q : It → Hp → Prop) : R (List T) → Prop
  | .ok xs => ∀ J H' G, Same H H' → ItOk X.K G H' J xs → Fresh H G → (∀ a ∈ G, H' a ≠ none) → Q J H'
  | .ex c => XQ X W σ H c
  | .no => False
def SpI (g : En → R (List T)) (t : TI) : Prop := ∀ σ H en Q, VEn X.K H σ en → IQ X W σ H Q (g en) → t σ H Q
def SpJ (g : En → R (List T)) (t : TI) : Prop := ∀ σ H en Q, VEn X.K H σ en → JQ X W σ H Q (g en) → t σ H Q
/-- what is walked, seen; .. new -/
def PIv (tg e : Expr) (g : En → R (List T)) : Prop := ∃ t, PI X tg e t ∧ SpI X W g t
def PIn (tg e : Expr) (g : En → R (List T)) : Prop := ∃ t, PI X tg e t ∧ SpJ X W g t
end
section
variable {X : Cx} {W : WX} {tg e : Expr} {g : En → R T} {gi : En → R (List T)}
theorem IQ.jq {σ : St} {H : Hp} {Q : It → Hp → Prop} {r : R (List T)} (h : IQ X W σ H Q r) : JQ X W σ H Q r := by
  cases r with
  | ok xs => exact fun J H' G s o _ _ => h J H' G s o
  | ex c => exact h
  | no => exact h
theorem PIn.v (h : PIn X W tg e gi) : PIv X W tg e gi := let ⟨t, p, s⟩ := h; ⟨t, p, fun σ H en Q v q => s σ H en Q v q.jq⟩
/-- a list, a tuple, a text, walked -/
def tSq (K : PySem.W.Frag) (tl : TE) : TI := fun σ H Q => tl σ H fun x H1 => (∃ a, x = .ref a ∧ (∃ xs, SqL K H1 a xs) ∧ Q (Itl K a) H1) ∨ (∃ a, x = .ref a ∧ (∃ xs, SqT K H1 a xs) ∧ Q (Itt K a) H1) ∨ ∃ z, x = .str z ∧ Q (Its z) H1
/-- an expression whose value is known to be one of three -/
theorem pe_cut {tl : TE} {P : V → Hp → Prop} (h : PE X e tl) : PE X e (fun σ H Q => tl σ H fun x H1 => P x H1 ∧ Q x H1) := ⟨fun pins s σ H Q I hw => thn (h.run pins s σ H _ I hw) fun u s1 ⟨x, H1, I1, r, q⟩ => ⟨x, H1, I1, r, q.2⟩⟩
theorem pi_sq {tl : TE} (hl : PE X e tl) : PI X tg e (tSq X.K tl) := by
  refine ⟨fun pins s σ H Q I h => thn (hl.run pins s σ H _ I h) fun u s1 q => ?_⟩
  obtain ⟨x, H1, I1, r1, q1⟩ := q
  rcases q1 with ⟨a, e1, ⟨xs, hq⟩, q⟩ | ⟨a, e1, ⟨xs, hq⟩, q⟩ | ⟨z, e1, q⟩
  · subst e1; cases r1
    obtain ⟨its, _, p, _⟩ := I1.list hq
    exact wpAny_pyIter_list p.isList (pi_one (tk := s1.toks) I1 _ (turn_list a _) ⟨_, Heap.get?_push_size _ rfl, rfl, rfl⟩ q)
  · subst e1; cases r1
    obtain ⟨its, _, p, _⟩ := I1.tuple hq
    exact wpAny_pyIter_tuple (show s1.heap.IsTuple a its.toArray from p) (pi_one (tk := s1.toks) I1 _ (turn_tuple a _) ⟨_, Heap.get?_push_size _ rfl, rfl, rfl⟩ q)
  · subst e1
    obtain ⟨t, rfl⟩ := r1
    cases ha : z.cps.all (· < 128)
    · exact wpAny_pyIter_wide ha (pi_one (tk := s1.toks) I1 _ (turn_str _ z t "str_iterator" (.inr rfl)) ⟨_, Heap.get?_push_size _ rfl, rfl, rfl⟩ q)
    · exact wpAny_pyIter_ascii ha (pi_one (tk := s1.toks) I1 _ (turn_str _ z t "str_ascii_iterator" (.inl rfl)) ⟨_, Heap.get?_push_size _ rfl, rfl, rfl⟩ q)
def signs (z : Str) : List T := z.cps.toList.map fun c => T.d (.str ⟨#[c]⟩)
/-- the things of a list, a tuple, a text -/
def items : T → Option (List T)
  | .d (.tup ds) => some (ds.map T.d)
  | .d (.rol ds) => some (ds.map T.d)
  | .d (.str z) => some (signs z)
  | .l xs => some xs
  | _ => none
def gIt (g : En → R T) : En → R (List T) := fun en => (g en).bind fun x => .of (items x)
theorem it_list {K : PySem.W.Frag} {H : Hp} {a : Addr} {vs : List V} {xs : List T} {F G : List Addr} (h : ∀ H', Kept G H H' → SqL K H' a vs) (o : Owns K H vs xs F) (s : ∀ c ∈ F, c ∈ G) : ItOk K G H (Itl K a) xs := by
  unfold ItOk
  rw [← o.length]
  refine walk_list.mono h fun i H1 v H2 hi k y => ?_
  obtain ⟨rfl, y⟩ := y
  refine ⟨Same.refl _, ?_⟩
  have hx : i < xs.length := by rw [← o.length]; exact hi
  obtain ⟨v', G', h1, h2, h3⟩ := o.get (List.getElem?_eq_getElem hx)
  rw [y] at h1; cases h1
  exact ⟨_, G', List.getElem?_eq_getElem hx, k.own h2 fun c m => s c (h3 c m), fun c m => s c (h3 c m)⟩
theorem it_tup {K : PySem.W.Frag} {H : Hp} {a : Addr} {vs : List V} {xs : List T} {F G : List Addr} (h : SqT K H a vs) (o : Owns K H vs xs F) (s : ∀ c ∈ F, c ∈ G) : ItOk K G H (Itt K a) xs := by
  unfold ItOk
  rw [← o.length]
  refine walk_tup.mono (fun H' k => sqT_pst k.1 h) fun i H1 v H2 hi k y => ?_
  obtain ⟨rfl, y⟩ := y
  refine ⟨Same.refl _, ?_⟩
  have hx : i < xs.length := by rw [← o.length]; exact hi
  obtain ⟨v', G', h1, h2, h3⟩ := o.get (List.getElem?_eq_getElem hx)
  rw [y] at h1; cases h1
  exact ⟨_, G', List.getElem?_eq_getElem hx, k.own h2 fun c m => s c (h3 c m), fun c m => s c (h3 c m)⟩
theorem it_str {K : PySem.W.Frag} {H : Hp} {z : Str} {G : List Addr} : ItOk K G H (Its z) (signs z) := by
  unfold ItOk
  have e : (signs z).length = z.cps.size := by unfold signs; rw [List.length_map, Array.length_toList]
  rw [e]
  refine walk_str.mono (fun _ _ => trivial) fun i H1 v H2 hi k y => ?_
  obtain ⟨rfl, c, hc, rfl⟩ := y
  refine ⟨Same.refl _, T.d (.str ⟨#[c]⟩), [], ?_, .d (.str _), fun _ m => absurd m List.not_mem_nil⟩
  unfold signs
  rw [List.getElem?_map, Array.getElem?_toList, hc]
  rfl
theorem it_own {K : PySem.W.Frag} {H : Hp} {v : V} {x : T} {G : List Addr} {xs : List T} {Q : It → Hp → Prop} (o : Own K H v x G) (h : items x = some xs) (q : ∀ J, ItOk K G H J xs → Q J H) :
    (∃ a, v = .ref a ∧ (∃ xs, SqL K H a xs) ∧ Q (Itl K a) H) ∨ (∃ a, v = .ref a ∧ (∃ xs, SqT K H a xs) ∧ Q (Itt K a) H) ∨ ∃ z, v = .str z ∧ Q (Its z) H := by
  cases o with
  | d r =>
    cases r with
    | tup s r => cases h; exact .inr (.inl ⟨_, rfl, ⟨_, s⟩, q _ (it_tup s r.owns fun _ m => m)⟩)
    | rol s r => cases h; exact .inl ⟨_, rfl, ⟨_, s H (Pst.refl H)⟩, q _ (it_list (fun H' k => s H' k.1) r.owns fun _ m => m)⟩
    | str z => cases h; exact .inr (.inr ⟨_, rfl, q _ it_str⟩)
    | _ => cases h
  | l s r => cases h; exact .inl ⟨_, rfl, ⟨_, SqL.of s⟩, q _ (it_list (fun H' k => SqL.of (k.2 _ List.mem_cons_self _ s)) r fun c m => List.mem_cons_of_mem _ m)⟩
theorem i_sq (h : PV X W e g) : PIv X W tg e (gIt g) := by
  obtain ⟨t, p, s⟩ := h
  refine ⟨_, pi_sq p, fun σ H en Q ve q => s σ H en _ ve ?_⟩
  unfold gIt at q
  cases e : g en with
  | ok x =>
    rw [e] at q
    intro v H' G sm o
    cases ef : items x with
    | none => simp only [R.bind_ok, ef, R.of_none] at q; exact q.elim
    | some xs =>
      simp only [R.bind_ok, ef, R.of_some] at q
      exact it_own o ef fun J j => q J H' G sm j
  | ex c => rw [e] at q; exact q
  | no => rw [e] at q; exact q
theorem j_sq (h : PN X W e g) : PIn X W tg e (gIt g) := by
  obtain ⟨t, p, s⟩ := h
  refine ⟨_, pi_sq p, fun σ H en Q ve q => s σ H en _ ve ?_⟩
  unfold gIt at q
  cases e : g en with
  | ok x =>
    rw [e] at q
    intro v H' G sm o fr
    cases ef : items x with
    | none => simp only [R.bind_ok, ef, R.of_none] at q; exact q.elim
    | some xs =>
      simp only [R.bind_ok, ef, R.of_some] at q
      exact it_own o ef fun J j => q J H' G sm j fr o.there
  | ex c => rw [e] at q; exact q
  | no => rw [e] at q; exact q
/-! ranges -/
def rng (a c : Int) (n : Nat) : List T := (List.range n).map fun i => T.d (.int (a + (i : Nat) * c))
theorem rng_get {a c : Int} {n i : Nat} (h : i < n) : (rng a c n)[i]? = some (T.d (.int (a + (i : Nat) * c))) := by
  unfold rng
  rw [List.getElem?_map, List.getElem?_range h]
  rfl
theorem rng_len {a c : Int} {n : Nat} : (rng a c n).length = n := by unfold rng; rw [List.length_map, List.length_range]
theorem it_rng {K : PySem.W.Frag} {H : Hp} {a : Int} {n : Nat} {G : List Addr} : ItOk K G H (Itr a n) (rng a 1 n) := by
  unfold ItOk
  rw [rng_len]
  refine walk_range.mono (fun _ _ => trivial) fun i H1 v H2 hi k y => ?_
  obtain ⟨rfl, rfl⟩ := y
  refine ⟨Same.refl _, _, [], rng_get hi, ?_, fun _ m => absurd m List.not_mem_nil⟩
  rw [Int.mul_one]
  exact .d (.int _)
theorem it_rngC {K : PySem.W.Frag} {H : Hp} {a c : Int} {n : Nat} {G : List Addr} : ItOk K G H (Itc a c n) (rng a c n) := by
  unfold ItOk
  rw [rng_len]
  refine walk_rangeC.mono (fun _ _ => trivial) fun i H1 v H2 hi k y => ?_
  obtain ⟨rfl, rfl⟩ := y
  exact ⟨Same.refl _, _, [], rng_get hi, .d (.int _), fun _ m => absurd m List.not_mem_nil⟩
abbrev far : Int := 4611686018427387904
def fR1 : T → R (List T)
  | .d (.int j) => if -far ≤ j ∧ j < far then .ok (rng 0 1 j.toNat) else .no
  | _ => .no
def fR2 : T → T → R (List T)
  | .d (.int i), .d (.int j) => if -far ≤ i ∧ i < far ∧ -far ≤ j ∧ j < far then .ok (rng i 1 (j - i).toNat) else .no
  | _, _ => .no
def fR3 : T → T → T → R (List T)
  | .d (.int i), .d (.int j), .d (.int c) => if c ≠ 0 ∧ c.natAbs < 1073741824 ∧ Builtin.Range.small i j c = true ∧ 0 ≤ Builtin.Range.rangeSize i j c then .ok (rng i c (Builtin.Range.rangeSize i j c).toNat) else .no
  | _, _, _ => .no
def gR1 (g : En → R T) : En → R (List T) := fun en => (g en).bind fR1
def gR2 (ga gb : En → R T) : En → R (List T) := fun en => (ga en).bind fun x => (gb en).bind fun y => fR2 x y
def gR3 (ga gb gc : En → R T) : En → R (List T) := fun en => (ga en).bind fun x => (gb en).bind fun y => (gc en).bind fun z => fR3 x y z
variable {a b c : Expr} {ga gb gc : En → R T} {gs : En → R (List T)} {p pos : Pos}
/-- the reading of arguments, told by what they are -/
theorem JQ.same {σ : St} {H H' : Hp} {Q : It → Hp → Prop} {r : R (List T)} (s : Same H H') (h : JQ X W σ H Q r) : JQ X W σ H' Q r := by
  cases r with
  | ok b => exact fun J H2 G s2 o f t => h J H2 G (s.trans s2) o (f.back s) t
  | ex c => exact XQ.mono (W := W) s h
  | no => exact h
theorem j_rng1 (hm : X.mg "range" = none) (h : PV X W a ga) (hg : Gl X "range" := by rfl) (hs : starEach [a] X.env = [(false, eval a X.env)] := by rfl) : PIn X W tg (.Call (.Name "range" p) [a] [] pos) (gR1 ga) := by
  obtain ⟨t, pp, s⟩ := h
  refine ⟨_, pi_range1 hg hm (pa_cons pp pa_nil (by rw [hs]; rfl)) hs, fun σ H en Q ve q => s σ H en _ ve ?_⟩
  unfold gR1 at q
  cases e : ga en with
  | ok x =>
    rw [e] at q
    intro v H' G sm o
    simp only [R.bind_ok] at q
    unfold fR1 at q
    split at q
    · split at q
      · rename_i hj
        cases o with | d r => cases r; exact ⟨_, rfl, hj.1, hj.2, q _ H' [] sm it_rng Fresh.nil fun _ m => absurd m List.not_mem_nil⟩
      · exact q.elim
    · exact q.elim
  | ex c => rw [e] at q; exact q
  | no => rw [e] at q; exact q
theorem j_rng2 (hm : X.mg "range" = none) (ha : PV X W a ga) (hb : PV X W b gb) (hg : Gl X "range" := by rfl) (hs : starEach [a, b] X.env = [(false, eval a X.env), (false, eval b X.env)] := by rfl) (hs2 : starEach [b] X.env = [(false, eval b X.env)] := by rfl) : PIn X W tg (.Call (.Name "range" p) [a, b] [] pos) (gR2 ga gb) := by
  obtain ⟨t, pp, s⟩ := ha
  obtain ⟨t2, pp2, s2⟩ := hb
  refine ⟨_, pi_range2 hg hm (pa_cons pp (pa_cons pp2 pa_nil (by rw [hs2]; rfl)) (by rw [hs, hs2])) hs hs2, fun σ H en Q ve q => s σ H en _ ve ?_⟩
  unfold gR2 at q
  cases e : ga en with
  | ok x =>
    rw [e] at q
    intro v H' G sm o
    refine s2 σ H' en _ (ve.mono sm) ?_
    cases e2 : gb en with
    | ok y =>
      rw [e2] at q
      intro v2 H2 G2 sm2 o2
      simp only [R.bind_ok] at q
      unfold fR2 at q
      split at q
      · split at q
        · rename_i hj
          cases o with | d r => cases r; cases o2 with | d r2 => cases r2; exact ⟨_, _, rfl, hj, q _ H2 [] (sm.trans sm2) it_rng Fresh.nil fun _ m => absurd m List.not_mem_nil⟩
        · exact q.elim
      · exact q.elim
    | ex c => rw [e2] at q; exact XQ.mono (W := W) sm q
    | no => rw [e2] at q; exact q
  | ex c => rw [e] at q; exact q
  | no => rw [e] at q; exact q
theorem j_rng3 (hm : X.mg "range" = none) (ha : PV X W a ga) (hb : PV X W b gb) (hc : PV X W c gc) (hg : Gl X "range" := by rfl) (hs : starEach [a, b, c] X.env = (false, eval a X.env) :: starEach [b, c] X.env := by rfl) (hs2 : starEach [b, c] X.env = (false, eval b X.env) :: starEach [c] X.env := by rfl) (hs3 : starEach [c] X.env = (false, eval c X.env) :: starEach [] X.env := by rfl)
    (hpl : (backTo pos (starEach [b, c] X.env)).any (·.1) = false := by rfl) : PIn X W tg (.Call (.Name "range" p) [a, b, c] [] pos) (gR3 ga gb gc) := by
  obtain ⟨t, pp, s⟩ := ha
  obtain ⟨t2, pp2, s2⟩ := hb
  obtain ⟨t3, pp3, s3⟩ := hc
  refine ⟨_, pi_range3 hg hm (pa_cons pp (pa_cons pp2 (pa_cons pp3 pa_nil hs3) hs2) hs) hs hpl, fun σ H en Q ve q => s σ H en _ ve ?_⟩
  unfold gR3 at q
  cases e : ga en with
  | ok x =>
    rw [e] at q
    intro v H' G sm o
    refine s2 σ H' en _ (ve.mono sm) ?_
    cases e2 : gb en with
    | ok y =>
      rw [e2] at q
      intro v2 H2 G2 sm2 o2
      refine s3 σ H2 en _ (ve.mono (sm.trans sm2)) ?_
      cases e3 : gc en with
      | ok z =>
        rw [e3] at q
        intro v3 H3 G3 sm3 o3
        simp only [R.bind_ok] at q
        unfold fR3 at q
        split at q
        · split at q
          · rename_i hj
            cases o with | d r => cases r; cases o2 with | d r2 => cases r2; cases o3 with | d r3 => cases r3; exact ⟨_, _, _, _, rfl, ⟨hj.1, hj.2.1, hj.2.2.1, (Int.toNat_of_nonneg hj.2.2.2).symm⟩, q _ H3 [] ((sm.trans sm2).trans sm3) it_rngC Fresh.nil fun _ m => absurd m List.not_mem_nil⟩
          · exact q.elim
        · exact q.elim
      | ex c => rw [e3] at q; exact XQ.mono (W := W) (sm.trans sm2) q
      | no => rw [e3] at q; exact q
    | ex c => rw [e2] at q; exact XQ.mono (W := W) sm q
    | no => rw [e2] at q; exact q
  | ex c => rw [e] at q; exact q
  | no => rw [e] at q; exact q
/-- list(range(..)) -/
def gLR1 (g : En → R T) : En → R T := fun en => (g en).bind fun x => match x with
  | .d (.int n) => if 0 ≤ n ∧ n ≤ 16777216 then .ok (.l (rng 0 1 n.toNat)) else .no
  | _ => .no
def gLR2 (ga gb : En → R T) : En → R T := fun en => (ga en).bind fun x => (gb en).bind fun y => match x, y with
  | .d (.int m), .d (.int n) => if 0 ≤ m ∧ m ≤ 16777216 ∧ 0 ≤ n ∧ n ≤ 16777216 then .ok (.l (rng m 1 (n - m).toNat)) else .no
  | _, _ => .no
theorem rg_rng {K : PySem.W.Frag} {H : Hp} (a b : Int) : RepDs K H (rgV a b) ((List.range (b - a).toNat).map fun i => D.int (a + (i : Nat) * 1)) := by
  unfold rgV
  generalize List.range (b - a).toNat = l
  induction l with
  | nil => exact .nil
  | cons x r ih => exact .cons (by show RepD K H (.int (a + (x : Nat))) (.int (a + (x : Nat) * 1)); rw [Int.mul_one]; exact .int _) ih
theorem rng_own {K : PySem.W.Frag} {H : Hp} (a b : Int) : Owns K H (rgV a b) (rng a 1 (b - a).toNat) [] := by
  have := (rg_rng (K := K) (H := H) a b).owns
  rw [List.map_map] at this
  exact this
theorem new_lst {K : PySem.W.Frag} {H : Hp} {p : Addr} {vs : List V} {xs : List T} (np : H p = none) (o : Owns K H vs xs []) : Own K (upd H p (.lst vs)) (.ref p) (.l xs) [p] := .l upd_same (o.mono (same_new np))
theorem fresh1 {H : Hp} {p : Addr} (np : H p = none) : Fresh H [p] := ⟨by simp, fun c m => by
  have e : c = p := by simpa using m
  rw [e]; exact np⟩
theorem n_lrng1 {p2 pos2 : Pos} (hc : X.calm = true) (hm : X.mg "range" = none) (hm2 : X.mg "list" = none) (ha : PV X W a ga) (hg : Gl X "range" := by rfl) (hg2 : Gl X "list" := by rfl) (hs : starEach [a] X.env = (false, eval a X.env) :: starEach [] X.env := by rfl)
    (hs2 : starEach [.Call (.Name "range" p) [a] [] pos] X.env = (false, eval (.Call (.Name "range" p) [a] [] pos) X.env) :: starEach [] X.env := by rfl) : PN X W (.Call (.Name "list" p2) [.Call (.Name "range" p) [a] [] pos] [] pos2) (gLR1 ga) := by
  obtain ⟨t, pp, s⟩ := ha
  refine ⟨_, pe_listRg hc hg2 hm2 (prg_1 hg hm pp hs) hs2, fun σ H en Q ve q => s σ H en _ ve ?_⟩
  unfold gLR1 at q
  cases e : ga en with
  | ok x =>
    rw [e] at q
    intro v H' G sm o
    simp only [R.bind_ok] at q
    split at q
    · split at q
      · rename_i n hn
        cases o with
        | d r =>
          cases r
          refine ⟨n, rfl, .of_le (by omega) (by omega) (by omega) (by omega), fun p np => ?_⟩
          have ow := rng_own (K := X.K) (H := H') 0 n
          rw [Int.sub_zero] at ow
          exact q _ _ [p] (sm.trans (same_new np)) (new_lst np ow) ((fresh1 np).back sm)
      · exact q.elim
    · exact q.elim
  | ex c => rw [e] at q; exact q
  | no => rw [e] at q; exact q
theorem n_lrng2 {p2 pos2 : Pos} (hc : X.calm = true) (hm : X.mg "range" = none) (hm2 : X.mg "list" = none) (ha : PV X W a ga) (hb : PV X W b gb) (hg : Gl X "range" := by rfl) (hg2 : Gl X "list" := by rfl) (hs : starEach [a, b] X.env = (false, eval a X.env) :: starEach [b] X.env := by rfl) (hsb : starEach [b] X.env = (false, eval b X.env) :: starEach [] X.env := by rfl)
    (hpl : (backTo pos (starEach [b] X.env)).any (·.1) = false := by rfl)
    (hs2 : starEach [.Call (.Name "range" p) [a, b] [] pos] X.env = (false, eval (.Call (.Name "range" p) [a, b] [] pos) X.env) :: starEach [] X.env := by rfl) : PN X W (.Call (.Name "list" p2) [.Call (.Name "range" p) [a, b] [] pos] [] pos2) (gLR2 ga gb) := by
  obtain ⟨t, pp, s⟩ := ha
  obtain ⟨t2, pp2, s2⟩ := hb
  refine ⟨_, pe_listRg hc hg2 hm2 (prg_2 hg hm pp pp2 hs hsb hpl) hs2, fun σ H en Q ve q => s σ H en _ ve ?_⟩
  unfold gLR2 at q
  cases e : ga en with
  | ok x =>
    rw [e] at q
    intro v H' G sm o
    refine s2 σ H' en _ (ve.mono sm) ?_
    cases e2 : gb en with
    | ok y =>
      rw [e2] at q
      intro v2 H2 G2 sm2 o2
      simp only [R.bind_ok] at q
      split at q
      · split at q
        · rename_i n hn
          cases o with
          | d r =>
            cases r
            cases o2 with
            | d r =>
              cases r
              refine ⟨_, _, rfl, rfl, .of_le (by omega) (by omega) (by omega) (by omega), fun p np => ?_⟩
              exact q _ _ [p] ((sm.trans sm2).trans (same_new np)) (new_lst np (rng_own _ _)) ((fresh1 np).back (sm.trans sm2))
        · exact q.elim
      · exact q.elim
    | ex c => rw [e2] at q; exact XQ.mono (W := W) sm q
    | no => rw [e2] at q; exact q
  | ex c => rw [e] at q; exact q
  | no => rw [e] at q; exact q
end
/-! ### targets -/
abbrev Ass := List (Nat × T)
def setS : St → List (Nat × V) → St
  | σ, [] => σ
  | σ, (i, v) :: r => setS (σ.set i (some v)) r
/-- a thing that is seen, or a datum -/
def mkS : T → Sl
  | .d d => .v (.d d)
  | .l xs => .w (.l xs)
theorem mkS_get (x : T) : (mkS x).get = some x := by cases x <;> rfl
def setE : En → Ass → En
  | en, [] => en
  | en, (i, x) :: r => setE (en.set i (mkS x)) r
inductive AsOk (K : PySem.W.Frag) (H : Hp) (G : List Addr) : List (Nat × V) → Ass → Prop
  | nil : AsOk K H G [] []
  | cons {i : Nat} {v : V} {x : T} {F : List Addr} {r : List (Nat × V)} {s : Ass} : Own K H v x F → (∀ a ∈ F, a ∈ G) → AsOk K H G r s → AsOk K H G ((i, v) :: r) ((i, x) :: s)
theorem AsOk.app {K : PySem.W.Frag} {H : Hp} {G : List Addr} : ∀ {r r2 : List (Nat × V)} {s s2 : Ass}, AsOk K H G r s → AsOk K H G r2 s2 → AsOk K H G (r ++ r2) (s ++ s2)
  | _, _, _, _, .nil, h => h
  | _, _, _, _, .cons o m t, h => .cons o m (AsOk.app t h)
theorem setS_app : ∀ (σ : St) (r r2 : List (Nat × V)), setS σ (r ++ r2) = setS (setS σ r) r2
  | _, [], _ => rfl
  | _, (i, v) :: r, r2 => setS_app _ r r2
def tgt (K : PySem.W.Frag) (k : T → Option Ass) : TG := fun v σ H Q => ∃ x G as, Own K H v x G ∧ k x = some as ∧ ∀ vs, AsOk K H G vs as → Q (setS σ vs) H
def PTg (X : Cx) (tg : Expr) (k : T → Option Ass) : Prop := PG X tg (tgt X.K k)
def kName (i : Nat) : T → Option Ass := fun x => some [(i, x)]
theorem t_name (i : Nat) {X : Cx} {x : Str} {pos : Pos} (hN : X.N.Nodup) (hi : X.N[i]? = some x := by rfl) (hx : Loc X.env.scope x := by first | exact .inl rfl | exact .inr rfl) (hf : X.fn x = true ∨ X.env.scope.names.lookup x = some .local := by first | exact .inl rfl | exact .inr rfl) : PTg X (.Name x pos) (kName i) := by
  refine ⟨fun pins s σ H v u Q I r h => (pg_name hN hi hx hf).run pins s σ H v u Q I r ?_⟩
  obtain ⟨x, G, as, o, e, q⟩ := h
  cases e
  exact q [(i, v)] (.cons o (fun _ m => m) .nil)
/-- the parts of a tuple's target -/
def kNil : List D → Option Ass
  | [] => some []
  | _ => none
def kCons (k : T → Option Ass) (r : List D → Option Ass) : List D → Option Ass
  | d :: ds => (k (.d d)).bind fun a => (r ds).map fun b => a ++ b
  | [] => none
def tgts (K : PySem.W.Frag) (k : List D → Option Ass) : TGs := fun vs σ H Q => ∃ ds as, RepDs K H vs ds ∧ k ds = some as ∧ ∀ ws, AsOk K H [] ws as → Q (setS σ ws) H
def PTgs (X : Cx) (ts : List Expr) (k : List D → Option Ass) : Prop := PGs X ts (tgts X.K k)
theorem ts_nil {X : Cx} : PTgs X [] kNil := by
  refine ⟨fun pins s σ H vs us Q I r h => pgs_nil.run pins s σ H vs us Q I r ?_⟩
  obtain ⟨ds, as, rr, e, q⟩ := h
  cases rr with
  | nil => cases e; exact ⟨rfl, q [] .nil⟩
  | cons _ _ => cases e
theorem ts_cons {X : Cx} {e : Expr} {es : List Expr} {k : T → Option Ass} {r : List D → Option Ass} (h1 : PTg X e k) (h2 : PTgs X es r) (hs : (assignEach (e :: es) X.env).map (·.2) = assign e X.env :: (assignEach es X.env).map (·.2) := by rfl) : PTgs X (e :: es) (kCons k r) := by
  refine ⟨fun pins s σ H vs us Q I r h => (pgs_cons h1 h2 hs).run pins s σ H vs us Q I r ?_⟩
  obtain ⟨ds, as, rr, e, q⟩ := h
  cases rr with
  | nil => cases e
  | @cons v vs d ds r1 r2 =>
    obtain ⟨a1, e1, e⟩ := Option.bind_eq_some_iff.mp e
    obtain ⟨a2, e2, rfl⟩ := Option.map_eq_some_iff.mp e
    exact ⟨v, vs, rfl, _, [], a1, .d r1, e1, fun ws w => ⟨ds, a2, r2, e2, fun ws2 w2 => by rw [← setS_app]; exact q _ (w.app w2)⟩⟩
def kTup (n : Nat) (k : List D → Option Ass) : T → Option Ass
  | .d (.tup ds) => if ds.length = n then k ds else none
  | _ => none
theorem t_tup {X : Cx} {es : List Expr} {j : Nat} {n : Nat} {k : List D → Option Ass} {pos : Pos} (hc : X.calm = true) (h : PTgs X es k) (hn : (assignEach es X.env).length = n := by rfl) (hst : (assignEach es X.env).findIdx? (·.1) = none := by rfl) : PTg X (.Tuple es j pos) (kTup n k) := by
  refine ⟨fun pins s σ H v u Q I r hh => (pg_tup hc h hn hst).run pins s σ H v u Q I r ?_⟩
  obtain ⟨x, G, as, o, e, q⟩ := hh
  unfold kTup at e
  split at e
  · split at e
    · rename_i hl
      cases o with
      | d r =>
        cases r with
        | tup s r =>
          refine ⟨_, _, rfl, s, by rw [r.length]; exact hl, _, _, r, e, fun ws w => q ws ?_⟩
          clear q e
          induction w with
          | nil => exact .nil
          | cons o m _ ih => exact .cons o (fun a z => absurd (m a z) List.not_mem_nil) ih
    · cases e
  · cases e
/-! ### the frame behind stores -/
theorem set_at {en : En} {i j : Nat} {s : Sl} {x : T} (h : at_ (en.set i s) j = some x) : (j = i ∧ i < en.length ∧ s.get = some x) ∨ (j ≠ i ∧ at_ en j = some x) := by
  unfold at_ at h
  by_cases e : j = i
  · subst e
    by_cases hl : j < en.length
    · rw [List.getElem?_set_self hl] at h
      exact .inl ⟨rfl, hl, h⟩
    · rw [List.getElem?_eq_none (by rw [List.length_set]; omega)] at h
      cases h
  · rw [List.getElem?_set_ne (Ne.symm e)] at h
    exact .inr ⟨e, h⟩
theorem VEn.set {K : PySem.W.Frag} {H : Hp} {σ : St} {en : En} {i : Nat} {v : V} {x : T} {G : List Addr} {s : Sl} (h : VEn K H σ en) (o : Own K H v x G) (hs : s.get = some x) : VEn K H (σ.set i (some v)) (en.set i s) := by
  refine ⟨by rw [List.length_set, List.length_set]; exact h.len, fun j y e => ?_⟩
  rcases set_at e with ⟨rfl, hl, e1⟩ | ⟨hj, e1⟩
  · rw [hs] at e1; cases e1
    have hz := h.len
    exact ⟨v, G, List.getElem?_set_self (by omega), o⟩
  · obtain ⟨w, F, h1, h2⟩ := h.see j y e1
    exact ⟨w, F, by rw [List.getElem?_set_ne (Ne.symm hj)]; exact h1, h2⟩
theorem VEn.sets {K : PySem.W.Frag} {H : Hp} {G : List Addr} : ∀ {vs : List (Nat × V)} {as : Ass} {σ : St} {en : En}, VEn K H σ en → AsOk K H G vs as → VEn K H (setS σ vs) (setE en as)
  | _, _, _, _, h, .nil => h
  | _, _, σ, en, h, .cons (i := i) (v := v) (x := x) o _ t => by
    show VEn K H (setS (σ.set i (some v)) _) (setE (en.set i (mkS x)) _)
    exact VEn.sets (h.set o (mkS_get x)) t
def wipeE (en : En) : List Nat → En
  | [] => en
  | v :: vs => (wipeE en vs).set v .n
theorem wipeE_len (en : En) : ∀ vs, (wipeE en vs).length = en.length
  | [] => rfl
  | v :: vs => by unfold wipeE; rw [List.length_set, wipeE_len en vs]
theorem VEn.wipe {K : PySem.W.Frag} {H : Hp} {σ : St} {en : En} (h : VEn K H σ en) : ∀ vs : List Nat, VEn K H (wipe σ vs) (wipeE en vs)
  | [] => h
  | v :: vs => by
    have ih := VEn.wipe h vs
    refine ⟨by unfold L2.wipe wipeE; rw [List.length_set, List.length_set]; exact ih.len, fun j y e => ?_⟩
    unfold wipeE at e
    rcases set_at e with ⟨rfl, hl, e1⟩ | ⟨hj, e1⟩
    · cases e1
    · obtain ⟨w, F, h1, h2⟩ := ih.see j y e1
      refine ⟨w, F, ?_, h2⟩
      unfold L2.wipe
      rw [List.getElem?_set_ne (Ne.symm hj)]
      exact h1
theorem wipe_get (σ : St) (i : Nat) : ∀ vs : List Nat, (wipe σ vs)[i]? = if i ∈ vs then (σ[i]?).map fun _ => none else σ[i]?
  | [] => by simp [L2.wipe]
  | v :: vs => by
    unfold L2.wipe
    by_cases e : v = i
    · subst e
      rw [if_pos List.mem_cons_self]
      by_cases hl : v < σ.length
      · rw [List.getElem?_set_self (by rw [wipe_length]; exact hl), List.getElem?_eq_getElem hl]; rfl
      · rw [List.getElem?_eq_none (by rw [List.length_set, wipe_length]; omega), List.getElem?_eq_none (by omega)]; rfl
    · rw [List.getElem?_set_ne e, wipe_get σ i vs]
      have : (i ∈ v :: vs) ↔ i ∈ vs := by simp only [List.mem_cons]; exact ⟨fun h => h.elim (fun z => absurd z.symm e) id, .inr⟩
      by_cases hm : i ∈ vs
      · rw [if_pos hm, if_pos (this.mpr hm)]
      · rw [if_neg hm, if_neg fun z => hm (this.mp z)]
theorem wipe_set {σ : St} {i : Nat} {o : Option V} {vs : List Nat} (h : i ∈ vs) : wipe (σ.set i o) vs = wipe σ vs := by
  apply List.ext_getElem?
  intro j
  rw [wipe_get, wipe_get]
  by_cases e : i = j
  · subst e
    rw [if_pos h, if_pos h]
    by_cases hl : i < σ.length
    · rw [List.getElem?_set_self hl, List.getElem?_eq_getElem hl]; rfl
    · rw [List.getElem?_eq_none (by rw [List.length_set]; omega), List.getElem?_eq_none (by omega)]
  · rw [List.getElem?_set_ne e]
theorem wipe_sets {K : PySem.W.Frag} {H : Hp} {G : List Addr} {ix : List Nat} : ∀ {vs : List (Nat × V)} {as : Ass} {σ : St}, AsOk K H G vs as → (∀ p ∈ as, p.1 ∈ ix) → wipe (setS σ vs) ix = wipe σ ix
  | _, _, _, .nil, _ => rfl
  | _, _, σ, .cons (i := i) (v := v) o _ t, h => by
    show wipe (setS (σ.set i (some v)) _) ix = _
    rw [wipe_sets t fun p m => h p (List.mem_cons_of_mem _ m)]
    exact wipe_set (h _ List.mem_cons_self)
theorem wipe_wipe (σ : St) (vs : List Nat) : wipe (wipe σ vs) vs = wipe σ vs := by
  apply List.ext_getElem?
  intro j
  rw [wipe_get, wipe_get]
  by_cases h : j ∈ vs
  · rw [if_pos h, if_pos h]; cases σ[j]? <;> rfl
  · rw [if_neg h, if_neg h]
end Z
/-! Z: comprehensions, calls of the text's own defs. -/
namespace Z
open PySem PySem.Spec L2
open PyProof.Rows hiding St

/-- nothing leaves a comprehension's block -/
abbrev W0 : WX := fun _ _ _ _ => False
/-! readings by what is computed alone -/
section
variable (X : Cx) (W : WX)
def cN (g : En → R T) : TE := fun σ H Q => ∃ en, VEn X.K H σ en ∧ NQ X W σ H Q (g en)
def cV (g : En → R T) : TE := fun σ H Q => ∃ en, VEn X.K H σ en ∧ VQ X W σ H Q (g en)
def cT (g : En → R Bool) : TT := fun σ H Q => ∃ en, VEn X.K H σ en ∧ TQ X W σ H Q (g en)
def cI (g : En → R (List T)) : TI := fun σ H Q => ∃ en, VEn X.K H σ en ∧ IQ X W σ H Q (g en)
end
section
variable {X : Cx} {W : WX} {e c : Expr} {tg : Expr} {g : En → R T} {gc : En → R Bool} {gi : En → R (List T)}
theorem PN.can (h : PN X W e g) : PE X e (cN X W g) := by
  obtain ⟨t, p, s⟩ := h
  exact ⟨fun pins st σ H Q I ⟨en, ve, q⟩ => p.run pins st σ H Q I (s σ H en Q ve q)⟩
theorem PV.can (h : PV X W e g) : PE X e (cV X W g) := by
  obtain ⟨t, p, s⟩ := h
  exact ⟨fun pins st σ H Q I ⟨en, ve, q⟩ => p.run pins st σ H Q I (s σ H en Q ve q)⟩
theorem PC.can (h : PC X W c gc) : PT X c (cT X W gc) := by
  obtain ⟨t, p, s⟩ := h
  exact ⟨fun pins st σ H Q I ⟨en, ve, q⟩ => p.run pins st σ H Q I (s σ H en Q ve q)⟩
theorem PIv.can (h : PIv X W tg e gi) : PI X tg e (cI X W gi) := by
  obtain ⟨t, p, s⟩ := h
  exact ⟨fun pins st σ H Q I ⟨en, ve, q⟩ => p.run pins st σ H Q I (s σ H en Q ve q)⟩
/-- a clause's tests -/
def PCs (X : Cx) (W : WX) (ifs : List Expr) (g : En → R Bool) : Prop := PTs X ifs (cT X W g)
def gYes : En → R Bool := fun _ => .ok true
theorem cs_nil : PCs X W [] gYes := ⟨fun pins s σ H Q I ⟨en, ve, q⟩ => pts_nil.run pins s σ H Q I (q H (Same.refl H))⟩
theorem cs_one (h : PC X W c gc) : PCs X W [c] gc := pts_one h.can
end
/-! ### [elt for tg in it if ..] -/
def lcL (k : T → Option Ass) (tt : En → R Bool) (te : En → R T) (en : En) : List T → R (List T)
  | [] => .ok []
  | x :: xs => (R.of (k x)).bind fun as => (tt (setE en as)).bind fun b => if b = true then (te (setE en as)).bind fun y => (lcL k tt te en xs).bind fun ys => .ok (y :: ys) else lcL k tt te en xs
/-- a comprehension lets no error out -/
def R.calm {α : Type} : R α → R α
  | .ok a => .ok a
  | _ => .no
def gLc (vs : List Nat) (gi : En → R (List T)) (k : T → Option Ass) (tt : En → R Bool) (te : En → R T) : En → R T := fun en => (gi en).bind fun xs =>
  if xs.length < most then (lcL k tt te (wipeE en vs) xs).calm.bind fun ys => .ok (.l ys) else .no
theorem lcL_len {k : T → Option Ass} {tt : En → R Bool} {te : En → R T} {en : En} : ∀ {xs ys : List T}, lcL k tt te en xs = .ok ys → ys.length ≤ xs.length
  | [], _, h => by cases h; exact Nat.le_refl _
  | x :: xs, ys, h => by
    unfold lcL at h
    cases e1 : k x with
    | none => rw [e1] at h; cases h
    | some as =>
      rw [e1] at h
      simp only [R.of_some, R.bind_ok] at h
      cases e2 : tt (setE en as) with
      | ok b =>
        rw [e2] at h
        simp only [R.bind_ok] at h
        cases b with
        | true =>
          simp only [if_true] at h
          cases e3 : te (setE en as) with
          | ok y =>
            rw [e3] at h
            simp only [R.bind_ok] at h
            cases e4 : lcL k tt te en xs with
            | ok zs => rw [e4] at h; cases h; exact Nat.succ_le_succ (lcL_len e4)
            | ex c => rw [e4] at h; cases h
            | no => rw [e4] at h; cases h
          | ex c => rw [e3] at h; cases h
          | no => rw [e3] at h; cases h
        | false =>
          simp only [Bool.false_eq_true, if_false] at h
          exact Nat.le_succ_of_le (lcL_len h)
      | ex c => rw [e2] at h; cases h
      | no => rw [e2] at h; cases h
theorem Owns.snoc {K : PySem.W.Frag} {H : Hp} {vs : List V} {xs : List T} {F G : List Addr} {v : V} {x : T} (o : Owns K H vs xs F) (p : Own K H v x G) : Owns K H (vs ++ [v]) (xs ++ [x]) (F ++ G) := by
  have := o.append (.cons p .nil)
  rwa [List.append_nil] at this
/-- the new list so far -/
structure Grown (K : PySem.W.Frag) (H0 H1 : Hp) (D : Addr) (ts : List T) (H : Hp) : Prop where
  same : Same H1 H
  own : ∃ vs F, H D = some (.lst vs) ∧ Owns K H vs ts F ∧ Fresh H0 (D :: F)
theorem Grown.more {K : PySem.W.Frag} {H0 H1 H2 H3 H4 : Hp} {D : Addr} {ts : List T} {v : V} {x : T} {G : List Addr} (nD : H1 D = none) (g : Grown K H0 H1 D ts H2) (s : Same H2 H3) (s2 : Same H3 H4) (o : Own K H4 v x G) (f : Fresh H3 G) (s01 : Same H0 H1) (hz : ts.length < most) :
    ∃ acc, H4 D = some (.lst acc) ∧ acc.length < sizeLine ∧ Grown K H0 H1 D (ts ++ [x]) (upd H4 D (.lst (acc ++ [v]))) := by
  obtain ⟨sm, vs, F, hD, ow, fr⟩ := g
  have s24 := s.trans s2
  have hD4 := s24 _ _ hD
  refine ⟨vs, hD4, by rw [most_eq, ow.length]; exact hz, ⟨?_, ?_⟩⟩
  · intro a o' e
    have e4 := s24 _ _ (sm _ _ e)
    rw [upd_ne (ne_of_none e nD)]
    exact e4
  · have nF : ∀ a ∈ F, a ≠ D := fun a m e => (List.nodup_cons.mp fr.1).1 (e ▸ m)
    have tF : ∀ a ∈ F, H2 a ≠ none := fun a m => ow.there a m
    have nG : ∀ a ∈ G, a ≠ D := fun a m e => by
      have := f.2 a m
      rw [e, s _ _ hD] at this; cases this
    have pst : Pst H4 (upd H4 D (.lst (vs ++ [v]))) := ⟨fun a us e => by
      by_cases h : a = D
      · rw [h, hD4] at e; cases e
      · rw [upd_ne h]; exact e, fun a ob u e => by
      by_cases h : a = D
      · rw [h, hD4] at e; cases e
      · rw [upd_ne h]; exact e⟩
    have ow4 : Owns K (upd H4 D (.lst (vs ++ [v]))) vs ts F := (ow.mono s24).frame pst fun a m o' e => by rw [upd_ne (nF a m)]; exact e
    have o4 : Own K (upd H4 D (.lst (vs ++ [v]))) v x G := o.frame pst fun a m o' e => by rw [upd_ne (nG a m)]; exact e
    have fr2 : Fresh H0 (D :: F ++ G) := by
      refine ⟨List.nodup_append.mpr ⟨fr.1, f.1, fun a ha b hb e => ?_⟩, fun a m => (List.mem_append.mp m).elim (fr.2 a) fun m => ((s01.trans sm).trans s).free (f.2 a m)⟩
      subst e
      rcases List.mem_cons.mp ha with rfl | ha
      · exact nG _ hb rfl
      · exact tF a ha (s.free (f.2 a hb))
    exact ⟨vs ++ [v], F ++ G, upd_same, ow4.snoc o4, by rw [List.cons_append] at fr2; exact fr2⟩
section
variable {X : Cx} {W : WX} {elt tg it : Expr} {ifs : List Expr} {scope : Scope} {pos : Pos} {gi : En → R (List T)} {k : T → Option Ass} {tt : En → R Bool} {te : En → R T}
/-- the reading -/
theorem sp_lc {own : List (Str × Nat)} (hk : ∀ x as, k x = some as → ∀ p ∈ as, p.1 ∈ own.map (·.2)) : ∀ σ H en Q, VEn X.K H σ en → NQ X W σ H Q (gLc (own.map (·.2)) gi k tt te en) → tLc (cI X W gi) (tgt X.K k) (cT X W0 tt) (cN X W0 te) (own.map (·.2)) σ H Q := by
  intro σ H en Q ve q
  refine ⟨en, ve, ?_⟩
  unfold gLc at q
  cases e : gi en with
  | ex c => rw [e] at q; exact q
  | no => rw [e] at q; exact q
  | ok xs =>
    rw [e] at q
    intro J H1 G s1 iok D nD
    simp only [R.bind_ok] at q
    split at q
    · rename_i hz
      cases el : lcL k tt te (wipeE en (own.map (·.2))) xs with
      | ex c => rw [el] at q; exact q.elim
      | no => rw [el] at q; exact q.elim
      | ok ys =>
        rw [el] at q
        simp only [R.calm, R.bind_ok] at q
        have yz : ys.length < most := Nat.lt_of_le_of_lt (lcL_len el) hz
        refine lc_it iok (fun i H2 => ∃ ts rest, Grown X.K H H1 D ts H2 ∧ lcL k tt te (wipeE en (own.map (·.2))) (xs.drop i) = .ok rest ∧ ts ++ rest = ys) ⟨[], ys, ⟨same_new nD, [], [], upd_same, .nil, (fresh1 nD).back s1⟩, by rw [List.drop_zero]; exact el, rfl⟩ (fun i H2 _ h => ?_) (fun i v H2 H3 hi h y => ?_) (fun H2 h => ?_)
        · obtain ⟨ts, rest, g, _, _⟩ := h
          exact .of g.same
        · obtain ⟨ts, rest, g, er, eq⟩ := h
          obtain ⟨s3, x, F, hx, ox, hF⟩ := y
          have hd : xs.drop i = x :: xs.drop (i + 1) := by
            rw [List.drop_eq_getElem_cons hi]
            rw [List.getElem?_eq_getElem hi] at hx
            rw [Option.some.inj hx]
          rw [hd] at er
          unfold lcL at er
          cases ek : k x with
          | none => rw [ek] at er; cases er
          | some as =>
            rw [ek] at er
            simp only [R.of_some, R.bind_ok] at er
            refine ⟨x, F, as, ox, ek, fun ws aok => ⟨by rw [wipe_sets aok (hk x as ek), wipe_wipe], ?_⟩⟩
            have s13 : Same H H3 := (s1.trans g.same).trans s3
            have ve3 : VEn X.K H3 (setS (wipe σ (own.map (·.2))) ws) (setE (wipeE en (own.map (·.2))) as) := ((ve.mono s13).wipe _).sets aok
            refine ⟨_, ve3, ?_⟩
            cases et : tt (setE (wipeE en (own.map (·.2))) as) with
            | ex c => rw [et] at er; cases er
            | no => rw [et] at er; cases er
            | ok b =>
              rw [et] at er
              simp only [R.bind_ok] at er
              intro H4 s4
              cases b with
              | false =>
                simp only [Bool.false_eq_true, if_false] at er ⊢
                obtain ⟨sm, vs, F', hD, ow, fr⟩ := g
                exact ⟨ts, rest, ⟨(sm.trans s3).trans s4, vs, F', s4 _ _ (s3 _ _ hD), ow.mono (s3.trans s4), fr⟩, er, eq⟩
              | true =>
                simp only [if_true] at er ⊢
                refine ⟨_, ve3.mono s4, ?_⟩
                cases ee : te (setE (wipeE en (own.map (·.2))) as) with
                | ex c => rw [ee] at er; cases er
                | no => rw [ee] at er; cases er
                | ok y =>
                  rw [ee] at er
                  simp only [R.bind_ok] at er
                  cases e2 : lcL k tt te (wipeE en (own.map (·.2))) (xs.drop (i + 1)) with
                  | ex c => rw [e2] at er; cases er
                  | no => rw [e2] at er; cases er
                  | ok rs =>
                    rw [e2] at er
                    simp only [R.bind_ok] at er
                    cases er
                    intro v2 H5 G2 s5 o5 f5
                    have tz : ts.length < most := by rw [← eq, List.length_append] at yz; omega
                    obtain ⟨acc, h1, h2, h3⟩ := g.more nD (s3.trans s4) s5 o5 f5 s1 tz
                    exact ⟨acc, h1, h2, ts ++ [y], rs, h3, rfl, by rw [← eq, List.append_assoc]; rfl⟩
        · obtain ⟨ts, rest, g, er, eq⟩ := h
          rw [List.drop_length] at er
          cases er
          rw [List.append_nil] at eq
          subst eq
          obtain ⟨sm, vs, F', hD, ow, fr⟩ := g
          exact q _ H2 (D :: F') (s1.trans sm) (.l hD ow) fr
    · exact q.elim
variable (own : List (Str × Nat))
theorem n_lc (hc : X.calm = true) (hN : X.N.Nodup) (hi : PIv X W tg it gi) (ok : blkC X.N X.env.scope scope own = true) (hk : ∀ x as, k x = some as → ∀ p ∈ as, p.1 ∈ own.map (·.2))
    (hg : ∀ (s : Shared) (H : Hp) (C : Addr) (cl : List (Str × Addr)) (fp : List Addr), PTg (X.blk s H scope (compEnvC scope cl C X.env) fp) tg k) (ht : ∀ (s : Shared) (H : Hp) (C : Addr) (cl : List (Str × Addr)) (fp : List Addr), PCs (X.blk s H scope (compEnvC scope cl C X.env) fp) W0 ifs tt)
    (he : ∀ (s : Shared) (H : Hp) (C : Addr) (cl : List (Str × Addr)) (fp : List Addr), PN (X.blk s H scope (compEnvC scope cl C X.env) fp) W0 elt te) (hs : ∀ x, foldedSetIterable it X.env x = pure x := by intro _; rfl) :
    PN X W (.ListComp elt [⟨tg, it, ifs, 0⟩] scope pos) (gLc (own.map (·.2)) gi k tt te) :=
  ⟨_, pe_lc (own := own) (g := tgt X.K k) (tt := cT X W0 tt) (te := cN X W0 te) hc hN hi.can (blkOk_by ok) hg ht (fun s H C cl fp => (he s H C cl fp).can) hs, sp_lc hk⟩
end
end Z
/-! Z: comprehensions of two clauses; calls of the text's own defs that change nothing. -/
namespace Z
open PySem PySem.Spec L2
open PyProof.Rows hiding St

section
variable (X : Cx) (W : WX)
def cJ (g : En → R (List T)) : TI := fun σ H Q => ∃ en, VEn X.K H σ en ∧ JQ X W σ H Q (g en)
end
theorem PIn.can {X : Cx} {W : WX} {tg e : Expr} {gi : En → R (List T)} (h : PIn X W tg e gi) : PI X tg e (cJ X W gi) := by
  obtain ⟨t, p, s⟩ := h
  exact ⟨fun pins st σ H Q I ⟨en, ve, q⟩ => p.run pins st σ H Q I (s σ H en Q ve q)⟩
/-- of data alone -/
def kD (k : T → Option Ass) : T → Option Ass
  | .d d => k (.d d)
  | .l _ => none
theorem AsOk.pst {K : PySem.W.Frag} {H H' : Hp} (p : Pst H H') : ∀ {vs : List (Nat × V)} {as : Ass}, AsOk K H [] vs as → AsOk K H' [] vs as
  | _, _, .nil => .nil
  | _, _, .cons o m t => .cons (o.frame p fun a z => absurd (m a z) List.not_mem_nil) m (AsOk.pst p t)
def lcL2 (k : T → Option Ass) (tt : En → R Bool) (gi1 : En → R (List T)) (vs1 : List Nat) (k1 : T → Option Ass) (tt1 : En → R Bool) (te : En → R T) (en : En) : List T → R (List T)
  | [] => .ok []
  | x :: xs => (R.of (kD k x)).bind fun as => (tt (setE en as)).bind fun b => if b = true then (gi1 (setE en as)).bind fun zs => (lcL k1 tt1 te (wipeE (setE en as) vs1) zs).bind fun ys => (lcL2 k tt gi1 vs1 k1 tt1 te en xs).bind fun r => .ok (ys ++ r)
    else lcL2 k tt gi1 vs1 k1 tt1 te en xs
def gLc2 (vs : List Nat) (gi : En → R (List T)) (k : T → Option Ass) (tt : En → R Bool) (gi1 : En → R (List T)) (vs1 : List Nat) (k1 : T → Option Ass) (tt1 : En → R Bool) (te : En → R T) : En → R T := fun en => (gi en).bind fun xs =>
  (lcL2 k tt gi1 vs1 k1 tt1 te (wipeE en vs) xs).calm.bind fun ys => if ys.length < most then .ok (.l ys) else .no
section
variable {X : Cx} {W : WX} {elt tg it tg1 it1 : Expr} {ifs ifs1 : List Expr} {scope : Scope} {pos : Pos} {gi gi1 : En → R (List T)} {k k1 : T → Option Ass} {tt tt1 : En → R Bool} {te : En → R T}
theorem Grown.stay {K : PySem.W.Frag} {H0 H1 H2 H3 : Hp} {D : Addr} {ts : List T} (g : Grown K H0 H1 D ts H2) (s : Same H2 H3) : Grown K H0 H1 D ts H3 := by
  obtain ⟨sm, vs, F, hD, ow, fr⟩ := g
  exact ⟨sm.trans s, vs, F, s _ _ hD, ow.mono s, fr⟩
/-- a list that others are not in has grown: what was there besides is there -/
theorem kept_grow {K : PySem.W.Frag} {H0 H1 H2 H3 : Hp} {D : Addr} {acc vs : List V} {G : List Addr} (k : Kept G H1 H2) (hD : H2 D = some (.lst acc)) (nD : D ∉ G) : Kept G H1 (upd H2 D (.lst vs)) := by
  refine ⟨k.1.trans ⟨fun a us e => ?_, fun a ob u e => ?_⟩, fun a m o e => ?_⟩
  · by_cases h : a = D
    · rw [h, hD] at e; cases e
    · rw [upd_ne h]; exact e
  · by_cases h : a = D
    · rw [h, hD] at e; cases e
    · rw [upd_ne h]; exact e
  · rw [upd_ne (fun z => nD (by rw [← z]; exact m))]
    exact k.2 a m o e
/-- the inner loop -/
theorem sp_in {σ2 : L2.St} {en2 : En} {vs1 : List Nat} {H0 H1 H3 H4 : Hp} {D : Addr} {J1 : It} {zs ys pre : List T} {G : List Addr} {Nx : Hp → Prop} (hk1 : ∀ x as, k1 x = some as → ∀ p ∈ as, p.1 ∈ vs1) (nD : H1 D = none) (s01 : Same H0 H1)
    (g : Grown X.K H0 H1 D pre H3) (s34 : Same H3 H4) (ve : ∀ H, Same H1 H → Pst H4 H → VEn X.K H σ2 en2) (iok : ItOk X.K G H4 J1 zs) (nDG : D ∉ G) (el : lcL k1 tt1 te (wipeE en2 vs1) zs = .ok ys) (hz : pre.length + ys.length < most) (nx : ∀ H, Grown X.K H0 H1 D (pre ++ ys) H → Nx H) :
    ∃ W1 : Nat → Nat → Hp → Prop, (∃ m, W1 0 m H4) ∧ ∀ j n H, W1 j n H → (J1.stop j H ∧ Nx H) ∨ (J1.go j H ∧ ∃ Nx1 : Hp → Prop, (∀ H', Nx1 H' → ∃ n', n' < n ∧ W1 (j + 1) n' H') ∧ ∀ x H', J1.yld j H x H' → tgt X.K k1 x (wipe σ2 vs1) H' fun σ3 H5 => wipe σ3 vs1 = wipe σ2 vs1 ∧ cT X W0 tt1 σ3 H5 fun b H6 =>
      if b = true then cN X W0 te σ3 H6 fun y H7 => ∃ acc, H7 D = some (.lst acc) ∧ acc.length < sizeLine ∧ Nx1 (upd H7 D (.lst (acc ++ [y]))) else Nx1 H6) := by
  refine ⟨fun j n H => n = zs.length - j ∧ j ≤ zs.length ∧ Kept G H4 H ∧ ∃ ts rest, Grown X.K H0 H1 D (pre ++ ts) H ∧ lcL k1 tt1 te (wipeE en2 vs1) (zs.drop j) = .ok rest ∧ ts ++ rest = ys,
    ⟨zs.length, by simp, Nat.zero_le _, .of (Same.refl _), [], ys, by rw [List.append_nil]; exact g.stay s34, by rw [List.drop_zero]; exact el, rfl⟩, ?_⟩
  rintro j n H ⟨rfl, hj, kp, ts, rest, gr, er, eq⟩
  by_cases hlt : j < zs.length
  · refine .inr ⟨iok.goes j H hlt kp, fun H' => Kept G H4 H' ∧ ∃ ts rest, Grown X.K H0 H1 D (pre ++ ts) H' ∧ lcL k1 tt1 te (wipeE en2 vs1) (zs.drop (j + 1)) = .ok rest ∧ ts ++ rest = ys, fun H' h => ⟨zs.length - (j + 1), by omega, rfl, hlt, h⟩, fun v H' y => ?_⟩
    obtain ⟨s5, x, F, hx, ox, hF⟩ := iok.yields j H v H' hlt kp y
    have hd : zs.drop j = x :: zs.drop (j + 1) := by
      rw [List.drop_eq_getElem_cons hlt]
      rw [List.getElem?_eq_getElem hlt] at hx
      rw [Option.some.inj hx]
    rw [hd] at er
    unfold lcL at er
    cases ek : k1 x with
    | none => rw [ek] at er; cases er
    | some as =>
      rw [ek] at er
      simp only [R.of_some, R.bind_ok] at er
      refine ⟨x, F, as, ox, ek, fun ws aok => ⟨by rw [wipe_sets aok (hk1 x as ek), wipe_wipe], ?_⟩⟩
      have s15 : Same H1 H' := gr.same.trans s5
      have ve3 : VEn X.K H' (setS (wipe σ2 vs1) ws) (setE (wipeE en2 vs1) as) := ((ve H' s15 (kp.1.trans (.of s5))).wipe _).sets aok
      refine ⟨_, ve3, ?_⟩
      cases et : tt1 (setE (wipeE en2 vs1) as) with
      | ex c => rw [et] at er; cases er
      | no => rw [et] at er; cases er
      | ok b =>
        rw [et] at er
        simp only [R.bind_ok] at er
        intro H6 s6
        cases b with
        | false =>
          simp only [Bool.false_eq_true, if_false] at er ⊢
          exact ⟨kp.trans (.of (s5.trans s6)), ts, rest, gr.stay (s5.trans s6), er, eq⟩
        | true =>
          simp only [if_true] at er ⊢
          refine ⟨_, ve3.mono s6, ?_⟩
          cases ee : te (setE (wipeE en2 vs1) as) with
          | ex c => rw [ee] at er; cases er
          | no => rw [ee] at er; cases er
          | ok y =>
            rw [ee] at er
            simp only [R.bind_ok] at er
            cases e2 : lcL k1 tt1 te (wipeE en2 vs1) (zs.drop (j + 1)) with
            | ex c => rw [e2] at er; cases er
            | no => rw [e2] at er; cases er
            | ok rs =>
              rw [e2] at er
              simp only [R.bind_ok] at er
              cases er
              intro v2 H7 G2 s7 o7 f7
              have tz : (pre ++ ts).length < most := by rw [← eq, List.length_append] at hz; rw [List.length_append]; omega
              obtain ⟨acc, h1, h2, h3⟩ := gr.more nD (s5.trans s6) s7 o7 f7 s01 tz
              refine ⟨acc, h1, h2, kept_grow (K := X.K) (H0 := H0) (H3 := H3) (kp.trans (.of ((s5.trans s6).trans s7))) h1 nDG, ts ++ [y], rs, by rw [← List.append_assoc]; exact h3, rfl, by rw [← eq, List.append_assoc]; rfl⟩
  · have e : j = zs.length := by omega
    subst e
    rw [List.drop_length] at er
    cases er
    rw [List.append_nil] at eq
    subst eq
    exact .inl ⟨iok.stops H kp, nx H gr⟩
theorem sp_lc2 {own : List (Str × Nat)} {vs1 : List Nat} (hk : ∀ x as, k x = some as → ∀ p ∈ as, p.1 ∈ own.map (·.2)) (hk1 : ∀ x as, k1 x = some as → ∀ p ∈ as, p.1 ∈ vs1) : ∀ σ H en Q, VEn X.K H σ en → NQ X W σ H Q (gLc2 (own.map (·.2)) gi k tt gi1 vs1 k1 tt1 te en) →
    tLc2 (cI X W gi) (tgt X.K k) (cT X W0 tt) (cJ X W0 gi1) (tgt X.K k1) (cT X W0 tt1) (cN X W0 te) (own.map (·.2)) vs1 σ H Q := by
  intro σ H en Q ve q
  refine ⟨en, ve, ?_⟩
  unfold gLc2 at q
  cases e : gi en with
  | ex c => rw [e] at q; exact q
  | no => rw [e] at q; exact q
  | ok xs =>
    rw [e] at q
    intro J H1 G s1 iok D nD
    simp only [R.bind_ok] at q
    cases el : lcL2 k tt gi1 vs1 k1 tt1 te (wipeE en (own.map (·.2))) xs with
    | ex c => rw [el] at q; exact q.elim
    | no => rw [el] at q; exact q.elim
    | ok ys =>
      rw [el] at q
      simp only [R.calm, R.bind_ok] at q
      split at q
      · rename_i yz
        refine ⟨fun i n H2 => n = xs.length - i ∧ i ≤ xs.length ∧ ∃ ts rest, Grown X.K H H1 D ts H2 ∧ lcL2 k tt gi1 vs1 k1 tt1 te (wipeE en (own.map (·.2))) (xs.drop i) = .ok rest ∧ ts ++ rest = ys,
          ⟨xs.length, by simp, Nat.zero_le _, [], ys, ⟨same_new nD, [], [], upd_same, .nil, (fresh1 nD).back s1⟩, by rw [List.drop_zero]; exact el, rfl⟩, ?_⟩
        rintro i n H2 ⟨rfl, hi, ts, rest, g, er, eq⟩
        by_cases hlt : i < xs.length
        · refine .inr ⟨iok.goes i H2 hlt (.of g.same), fun H' => ∃ ts rest, Grown X.K H H1 D ts H' ∧ lcL2 k tt gi1 vs1 k1 tt1 te (wipeE en (own.map (·.2))) (xs.drop (i + 1)) = .ok rest ∧ ts ++ rest = ys, fun H' h => ⟨xs.length - (i + 1), by omega, rfl, hlt, h⟩, fun v H3 y => ?_⟩
          obtain ⟨s3, x, F, hx, ox, hF⟩ := iok.yields i H2 v H3 hlt (.of g.same) y
          have hd : xs.drop i = x :: xs.drop (i + 1) := by
            rw [List.drop_eq_getElem_cons hlt]
            rw [List.getElem?_eq_getElem hlt] at hx
            rw [Option.some.inj hx]
          rw [hd] at er
          unfold lcL2 at er
          cases ek : kD k x with
          | none => rw [ek] at er; cases er
          | some as =>
            rw [ek] at er
            simp only [R.of_some, R.bind_ok] at er
            have ek : ∃ d, x = .d d ∧ k x = some as := by
              cases x with
              | d d => exact ⟨d, rfl, ek⟩
              | l _ => cases ek
            obtain ⟨d, rfl, ek⟩ := ek
            obtain ⟨ox, rfl⟩ : Own X.K H3 v (.d d) [] ∧ F = [] := by cases ox with | d r => exact ⟨.d r, rfl⟩
            refine ⟨_, [], as, ox, ek, fun ws aok => ⟨by rw [wipe_sets aok (hk _ as ek), wipe_wipe], ?_⟩⟩
            have s13 : Same H H3 := (s1.trans g.same).trans s3
            have ve3 : VEn X.K H3 (setS (wipe σ (own.map (·.2))) ws) (setE (wipeE en (own.map (·.2))) as) := ((ve.mono s13).wipe _).sets aok
            refine ⟨_, ve3, ?_⟩
            cases et : tt (setE (wipeE en (own.map (·.2))) as) with
            | ex c => rw [et] at er; cases er
            | no => rw [et] at er; cases er
            | ok b =>
              rw [et] at er
              simp only [R.bind_ok] at er
              intro H4 s4
              cases b with
              | false =>
                simp only [Bool.false_eq_true, if_false] at er ⊢
                exact ⟨ts, rest, g.stay (s3.trans s4), er, eq⟩
              | true =>
                simp only [if_true] at er ⊢
                refine ⟨_, ve3.mono s4, ?_⟩
                cases ej : gi1 (setE (wipeE en (own.map (·.2))) as) with
                | ex c => rw [ej] at er; cases er
                | no => rw [ej] at er; cases er
                | ok zs =>
                  rw [ej] at er
                  simp only [R.bind_ok] at er
                  intro J1 H5 G1 s5 iok1 f1 _
                  cases e1 : lcL k1 tt1 te (wipeE (setE (wipeE en (own.map (·.2))) as) vs1) zs with
                  | ex c => rw [e1] at er; cases er
                  | no => rw [e1] at er; cases er
                  | ok us =>
                    rw [e1] at er
                    simp only [R.bind_ok] at er
                    cases e2 : lcL2 k tt gi1 vs1 k1 tt1 te (wipeE en (own.map (·.2))) (xs.drop (i + 1)) with
                    | ex c => rw [e2] at er; cases er
                    | no => rw [e2] at er; cases er
                    | ok rs =>
                      rw [e2] at er
                      simp only [R.bind_ok] at er
                      cases er
                      have nDG : D ∉ G1 := fun m => by
                        have z := f1.2 D m
                        obtain ⟨_, vs, F', hD, _, _⟩ := g
                        rw [s4 _ _ (s3 _ _ hD)] at z; cases z
                      obtain ⟨_, vs, F', hD, _, _⟩ := id g
                      -- the inner frame is seen in the heap of the outer turn
                      have hz : ts.length + us.length < most := by rw [← eq, List.length_append, List.length_append] at yz; omega
                      exact sp_in (X := X) (H1 := H1) (pre := ts) hk1 nD s1 (g.stay (s3.trans s4)) s5 (fun H' a b => ((ve.mono (s1.trans a)).wipe _).sets (aok.pst ((Pst.of (s4.trans s5)).trans b))) iok1 nDG e1 hz fun H' g' => ⟨ts ++ us, rs, g', rfl, by rw [← eq, List.append_assoc]⟩
        · have e : i = xs.length := by omega
          subst e
          rw [List.drop_length] at er
          cases er
          rw [List.append_nil] at eq
          subst eq
          obtain ⟨sm, vs, F', hD, ow, fr⟩ := g
          exact .inl ⟨iok.stops H2 (.of sm), q _ H2 (D :: F') (s1.trans sm) (.l hD ow) fr⟩
      · exact q.elim
theorem n_lc2 (own : List (Str × Nat)) (vs1 : List Nat) (hc : X.calm = true) (hN : X.N.Nodup) (hi : PIv X W tg it gi) (ok : blkC X.N X.env.scope scope own = true) (hv : ∀ i ∈ vs1, i ∈ own.map (·.2)) (hk : ∀ x as, k x = some as → ∀ p ∈ as, p.1 ∈ own.map (·.2)) (hk1 : ∀ x as, k1 x = some as → ∀ p ∈ as, p.1 ∈ vs1)
    (hg : ∀ (s : Shared) (H : Hp) (C : Addr) (cl : List (Str × Addr)) (fp : List Addr), PTg (X.blk s H scope (compEnvC scope cl C X.env) fp) tg k) (ht : ∀ (s : Shared) (H : Hp) (C : Addr) (cl : List (Str × Addr)) (fp : List Addr), PCs (X.blk s H scope (compEnvC scope cl C X.env) fp) W0 ifs tt)
    (hi1 : ∀ (s : Shared) (H : Hp) (C : Addr) (cl : List (Str × Addr)) (fp : List Addr), PIn (X.blk s H scope (compEnvC scope cl C X.env) fp) W0 tg1 it1 gi1)
    (hg1 : ∀ (s : Shared) (H : Hp) (C : Addr) (cl : List (Str × Addr)) (fp : List Addr), PTg (X.blk s H scope (compEnvC scope cl C X.env) fp) tg1 k1) (ht1 : ∀ (s : Shared) (H : Hp) (C : Addr) (cl : List (Str × Addr)) (fp : List Addr), PCs (X.blk s H scope (compEnvC scope cl C X.env) fp) W0 ifs1 tt1)
    (he : ∀ (s : Shared) (H : Hp) (C : Addr) (cl : List (Str × Addr)) (fp : List Addr), PN (X.blk s H scope (compEnvC scope cl C X.env) fp) W0 elt te) (hs : ∀ x, foldedSetIterable it X.env x = pure x := by intro _; rfl) (hs1 : ∀ env x, foldedSetIterable it1 env x = pure x := by intro _ _; rfl) :
    PN X W (.ListComp elt [⟨tg, it, ifs, 0⟩, ⟨tg1, it1, ifs1, 0⟩] scope pos) (gLc2 (own.map (·.2)) gi k tt gi1 vs1 k1 tt1 te) :=
  ⟨_, pe_lc2 (own := own) (vs1 := vs1) (g := tgt X.K k) (tt := cT X W0 tt) (te := cN X W0 te) (wi1 := cJ X W0 gi1) (g1 := tgt X.K k1) (tt1 := cT X W0 tt1) hc hN hi.can (blkOk_by ok) hv hg ht (fun s H C cl fp => (hi1 s H C cl fp).can) hg1 ht1 (fun s H C cl fp => (he s H C cl fp).can) hs hs1, sp_lc2 hk hk1⟩
end
/-! ### a def that changes nothing -/
/-- its promise, by what it computes -/
def spP (K : PySem.W.Frag) (mg : Str → Option Value) (F : List T → R T) : Sp := fun vs H Q E => ∃ xs, Vws K H vs xs ∧ match F xs with
  | .ok r => ∀ v H' G, Same H H' → Own K H' v r G → Fresh H G → Q v H'
  | .ex c => ∀ cls dx H', Same H H' → ExIs K mg H' c cls dx → E cls dx H'
  | .no => False
/-- the def of this name keeps it -/
structure FnP (P : Program) (w : World) (K : PySem.W.Frag) (mg : Str → Option Value) (base : Heap) (x : Str) (k : Nat) (F : List T → R T) : Prop where
  ex : ∃ (f : Addr) (fd : FuncData) (ps : List Str), FnOk P w K mg base (L2.CX P w) k f fd ps (spP K mg F) ∧ mg x = some (.ref f) ∧ PySem.W.keepIn K (.ref f) = true ∧ Binds K fd ps []
def gFn (F : List T → R T) (g : En → R (List T)) : En → R T := fun en => (g en).bind F
theorem n_call {X : Cx} {W : WX} {x : Str} {k : Nat} {F : List T → R T} {p pos : Pos} {a : Expr} {es : List Expr} {gs : En → R (List T)} (f : FnP X.prog X.w X.K X.mg X.base x k F) (tk : Takes X W) (hr : Room k X.A) (ha : PAv X W (a :: es) gs) (hg : Gl X x := by rfl)
    (hdb : (x == ("__debug__" : Str)) = false := by decide) (he : starEach (a :: es) X.env = (false, eval a X.env) :: starEach es X.env := by rfl) (hpl : (backTo pos (starEach es X.env)).any (·.1) = false := by rfl) : PN X W (.Call (.Name x p) (a :: es) [] pos) (gFn F gs) := by
  obtain ⟨f, fd, ps, ok, hm, hk, hb⟩ := f.ex
  obtain ⟨t, pa, s⟩ := ha
  refine ⟨_, pe_callS (E := WE W) ok hr hg hm hk hb (fun σ => passAt tk σ) pa hdb he hpl, fun σ H en Q ve q => s σ H en _ ve ?_⟩
  unfold gFn at q
  cases e : gs en with
  | ok xs =>
    rw [e] at q
    intro vs H' sm w
    refine ⟨xs, w, ?_⟩
    simp only [R.bind_ok] at q
    cases ef : F xs with
    | ok r => rw [ef] at q; exact fun v H2 G s2 o fr => q v H2 G (sm.trans s2) o (fr.back sm)
    | ex c => rw [ef] at q; exact fun cls dx H2 s2 i => q cls dx H2 (sm.trans s2) i
    | no => rw [ef] at q; exact q
  | ex c => rw [e] at q; exact q
  | no => rw [e] at q; exact q
end Z
/-! Z: what is owned; expressions that change the frame's lists; statements. -/
namespace Z
open PySem PySem.Spec L2
open PyProof.Rows hiding St

abbrev Ft := Nat → List Addr
def InF (Fs : Ft) (a : Addr) : Prop := ∃ i, a ∈ Fs i
def ownAt (en : En) (i : Nat) : Option T := match en[i]? with
  | some (.v x) => some x
  | some (.b x) => some x
  | _ => none
def seeAt (en : En) (i : Nat) : Option T := match en[i]? with
  | some (.w x) => some x
  | _ => none
theorem at_split {en : En} {i : Nat} {x : T} (h : at_ en i = some x) : ownAt en i = some x ∨ seeAt en i = some x := by
  unfold at_ at h
  unfold ownAt seeAt
  cases e : en[i]? with
  | none => rw [e] at h; cases h
  | some s => rw [e] at h; cases s <;> first | (cases h; done) | exact .inl h | exact .inr h
/-- the things of the names, where their lists lie: what is ours lies apart from all else -/
structure EOk (K : PySem.W.Frag) (H : Hp) (σ : L2.St) (en : En) (Fs : Ft) : Prop where
  len : en.length ≤ σ.length
  has : ∀ i x, at_ en i = some x → ∃ v, σ[i]? = some (some v) ∧ Own K H v x (Fs i)
  nod : ∀ i, ownAt en i ≠ none → (Fs i).Nodup
  dis : ∀ i j a, i ≠ j → ownAt en i ≠ none → a ∈ Fs i → a ∉ Fs j
  emp : ∀ i, at_ en i = none → Fs i = []
def InO (en : En) (Fs : Ft) (a : Addr) : Prop := ∃ i, ownAt en i ≠ none ∧ a ∈ Fs i
theorem InO.a {en : En} {Fs : Ft} {a : Addr} (h : InO en Fs a) : InF Fs a := let ⟨i, _, m⟩ := h; ⟨i, m⟩
theorem EOk.ven {K : PySem.W.Frag} {H : Hp} {σ : L2.St} {en : En} {Fs : Ft} (h : EOk K H σ en Fs) : VEn K H σ en := ⟨h.len, fun i x e => let ⟨v, h1, h2⟩ := h.has i x e; ⟨v, _, h1, h2⟩⟩
theorem EOk.there {K : PySem.W.Frag} {H : Hp} {σ : L2.St} {en : En} {Fs : Ft} (h : EOk K H σ en Fs) {a : Addr} (m : InF Fs a) : ∃ vs, H a = some (.lst vs) := by
  obtain ⟨i, m⟩ := m
  cases e : at_ en i with
  | none => rw [h.emp i e] at m; cases m
  | some x =>
    obtain ⟨v, _, o⟩ := h.has i x e
    exact o.dom a m
/-- how a step changes the heap: what lies in P is ours before, what lies in P' behind; what lies in A is known before, what lies in A' behind -/
structure Stp (H : Hp) (P A : Addr → Prop) (H' : Hp) (P' A' : Addr → Prop) : Prop where
  pst : Pst H H'
  keep : ∀ a o, H a = some o → ¬ P a → H' a = some o
  dom : ∀ a, H' a = none → H a = none
  subO : ∀ a, P' a → P a ∨ H a = none
  subA : ∀ a, A' a → A a ∨ H a = none
theorem Stp.refl (H : Hp) (P A : Addr → Prop) : Stp H P A H P A := ⟨Pst.refl H, fun _ _ e _ => e, fun _ e => e, fun _ m => .inl m, fun _ m => .inl m⟩
theorem Stp.trans {H H1 H2 : Hp} {P P1 P2 A A1 A2 : Addr → Prop} (a : Stp H P A H1 P1 A1) (b : Stp H1 P1 A1 H2 P2 A2) : Stp H P A H2 P2 A2 where
  pst := a.pst.trans b.pst
  keep := fun c o e n => b.keep c o (a.keep c o e n) fun m => (a.subO c m).elim n fun z => by rw [e] at z; cases z
  dom := fun c e => a.dom c (b.dom c e)
  subO := fun c m => (b.subO c m).elim (a.subO c) fun z => .inr (a.dom c z)
  subA := fun c m => (b.subA c m).elim (a.subA c) fun z => .inr (a.dom c z)
theorem Stp.imp {H H1 : Hp} {P P1 P2 A A1 A2 : Addr → Prop} (a : Stp H P A H1 P1 A1) (h : ∀ c, P2 c → P1 c) (h' : ∀ c, A2 c → A1 c) : Stp H P A H1 P2 A2 := ⟨a.pst, a.keep, a.dom, fun c m => a.subO c (h c m), fun c m => a.subA c (h' c m)⟩
theorem Stp.of {H H' : Hp} {P A : Addr → Prop} {G : List Addr} (s : Same H H') (f : ∀ a ∈ G, H a = none) : Stp H P A H' (fun a => P a ∨ a ∈ G) (fun a => A a ∨ a ∈ G) :=
  ⟨.of s, fun a o e _ => s a o e, fun a e => s.free e, fun a m => m.elim .inl fun z => .inr (f a z), fun a m => m.elim .inl fun z => .inr (f a z)⟩
/-- what is held aside stays -/
theorem Stp.frame {K : PySem.W.Frag} {H H' : Hp} {P P' A A' : Addr → Prop} {v : V} {x : T} {G : List Addr} (s : Stp H P A H' P' A') (pa : ∀ a, P a → A a) (o : Own K H v x G) (d : ∀ a ∈ G, ¬ A a) : Own K H' v x G ∧ ∀ a ∈ G, ¬ A' a :=
  ⟨o.frame s.pst fun a m o' e => s.keep a o' e fun z => d a m (pa a z), fun a m z => (s.subA a z).elim (d a m) (o.there a m)⟩
theorem Stp.frames {K : PySem.W.Frag} {H H' : Hp} {P P' A A' : Addr → Prop} {vs : List V} {xs : List T} {G : List Addr} (s : Stp H P A H' P' A') (pa : ∀ a, P a → A a) (o : Owns K H vs xs G) (d : ∀ a ∈ G, ¬ A a) : Owns K H' vs xs G ∧ ∀ a ∈ G, ¬ A' a :=
  ⟨o.frame s.pst fun a m o' e => s.keep a o' e fun z => d a m (pa a z), fun a m z => (s.subA a z).elim (d a m) (o.there a m)⟩
/-- what is lent stays where it is -/
def BK (σ : L2.St) (en : En) (σ' : L2.St) (en' : En) : Prop := ∀ (i : Nat) (x' : T), en'[i]? = some (Sl.b x') → (∃ x, en[i]? = some (Sl.b x)) ∧ σ'[i]? = σ[i]?
structure Aft (K : PySem.W.Frag) (H : Hp) (Fs : Ft) (σ : L2.St) (en : En) (H' : Hp) (Fs' : Ft) (σ' : L2.St) (en' : En) (G : List Addr) : Prop where
  ok : EOk K H' σ' en' Fs'
  nod : G.Nodup
  dis : ∀ a ∈ G, ¬ InF Fs' a
  stp : Stp H (InO en Fs) (InF Fs) H' (fun a => InO en' Fs' a ∨ a ∈ G) (fun a => InF Fs' a ∨ a ∈ G)
  bk : BK σ en σ' en'
theorem BK.refl (σ : L2.St) (en : En) : BK σ en σ en := fun i x e => ⟨⟨x, e⟩, rfl⟩
theorem BK.trans {σ σ1 σ2 : L2.St} {en en1 en2 : En} (a : BK σ en σ1 en1) (b : BK σ1 en1 σ2 en2) : BK σ en σ2 en2 := fun i x e =>
  let ⟨⟨y, e1⟩, h1⟩ := b i x e
  let ⟨z, h2⟩ := a i y e1
  ⟨z, h1.trans h2⟩
theorem Aft.trans {K : PySem.W.Frag} {H H1 H2 : Hp} {Fs Fs1 Fs2 : Ft} {σ σ1 σ2 : L2.St} {en en1 en2 : En} {G : List Addr} (a : Aft K H Fs σ en H1 Fs1 σ1 en1 []) (b : Aft K H1 Fs1 σ1 en1 H2 Fs2 σ2 en2 G) : Aft K H Fs σ en H2 Fs2 σ2 en2 G :=
  ⟨b.ok, b.nod, b.dis, (a.stp.imp (fun _ m => .inl m) (fun _ m => .inl m)).trans b.stp, a.bk.trans b.bk⟩
theorem EOk.same {K : PySem.W.Frag} {H H' : Hp} {σ : L2.St} {en : En} {Fs : Ft} (h : EOk K H σ en Fs) (s : Same H H') : EOk K H' σ en Fs :=
  ⟨h.len, fun i x e => let ⟨v, a, b⟩ := h.has i x e; ⟨v, a, b.mono s⟩, h.nod, h.dis, h.emp⟩
/-- behind a quiet step -/
theorem Aft.quiet {K : PySem.W.Frag} {H H' : Hp} {Fs : Ft} {σ : L2.St} {en : En} {G : List Addr} (h : EOk K H σ en Fs) (s : Same H H') (f : Fresh H G) : Aft K H Fs σ en H' Fs σ en G :=
  ⟨h.same s, f.1, fun a m z => (by obtain ⟨vs, e⟩ := h.there z; rw [f.2 a m] at e; cases e), .of s f.2, BK.refl σ en⟩
theorem Aft.refl {K : PySem.W.Frag} {H : Hp} {Fs : Ft} {σ : L2.St} {en : En} (h : EOk K H σ en Fs) : Aft K H Fs σ en H Fs σ en [] := .quiet h (Same.refl H) Fresh.nil
/-- a second step, what the first one left held aside -/
theorem Aft.held {K : PySem.W.Frag} {H H1 H2 : Hp} {Fs Fs1 Fs2 : Ft} {σ σ1 σ2 : L2.St} {en en1 en2 : En} {F G : List Addr} (a : Aft K H Fs σ en H1 Fs1 σ1 en1 F) (tF : ∀ c ∈ F, H1 c ≠ none) (b : Aft K H1 Fs1 σ1 en1 H2 Fs2 σ2 en2 G) : Aft K H Fs σ en H2 Fs2 σ2 en2 (F ++ G) := by
  have nF : ∀ c ∈ F, ¬ (InF Fs2 c ∨ c ∈ G) := fun c m z => (b.stp.subA c z).elim (a.dis c m) (tF c m)
  refine ⟨b.ok, List.nodup_append.mpr ⟨a.nod, b.nod, fun c hc d hd e => nF c hc (.inr (e ▸ hd))⟩, fun c m => (List.mem_append.mp m).elim (fun z y => nF c z (.inl y)) (b.dis c), ⟨a.stp.pst.trans b.stp.pst, fun c o e n => ?_, fun c e => a.stp.dom c (b.stp.dom c e), fun c m => ?_, fun c m => ?_⟩, a.bk.trans b.bk⟩
  · exact b.stp.keep c o (a.stp.keep c o e n) fun z => (a.stp.subO c (.inl z)).elim n fun y => by rw [e] at y; cases y
  · rcases m with m | m
    · exact (b.stp.subO c (.inl m)).elim (fun z => a.stp.subO c (.inl z)) fun z => .inr (a.stp.dom c z)
    · rcases List.mem_append.mp m with m | m
      · exact a.stp.subO c (.inr m)
      · exact (b.stp.subO c (.inr m)).elim (fun z => a.stp.subO c (.inl z)) fun z => .inr (a.stp.dom c z)
  · rcases m with m | m
    · exact (b.stp.subA c (.inl m)).elim (fun z => a.stp.subA c (.inl z)) fun z => .inr (a.stp.dom c z)
    · rcases List.mem_append.mp m with m | m
      · exact a.stp.subA c (.inr m)
      · exact (b.stp.subA c (.inr m)).elim (fun z => a.stp.subA c (.inl z)) fun z => .inr (a.stp.dom c z)
/-- what a statement ends in -/
inductive SR where
  | nx (en : En) | ret (x : T) (en : En) | brk (en : En) | ct (en : En) | ex (c : Exc) (en : En) | no
inductive RM (α : Type) where
  | ok (a : α) (en : En) | ex (c : Exc) (en : En) | no
def RM.bind {α β : Type} (r : RM α) (f : α → En → RM β) : RM β := match r with
  | .ok a en => f a en
  | .ex c en => .ex c en
  | .no => .no
def RM.of {α : Type} (r : R α) (en : En) : RM α := match r with
  | .ok a => .ok a en
  | .ex c => .ex c en
  | .no => .no
def RM.s {α : Type} (r : RM α) (f : α → En → SR) : SR := match r with
  | .ok a en => f a en
  | .ex c en => .ex c en
  | .no => .no
@[simp] theorem RM.bind_ok {α β : Type} (a : α) (en : En) (f : α → En → RM β) : (RM.ok a en).bind f = f a en := Eq.trans (b := f a en) (Eq.refl _) (Eq.refl _)
@[simp] theorem RM.bind_no {α β : Type} (f : α → En → RM β) : (RM.no).bind f = .no := rfl
@[simp] theorem RM.bind_ex {α β : Type} (c : Exc) (en : En) (f : α → En → RM β) : (RM.ex c en).bind f = .ex c en := rfl
@[simp] theorem RM.s_ok {α : Type} (a : α) (en : En) (f : α → En → SR) : (RM.ok a en).s f = f a en := Eq.trans (b := f a en) (Eq.refl _) (Eq.refl _)
@[simp] theorem RM.s_no {α : Type} (f : α → En → SR) : (RM.no).s f = .no := rfl
@[simp] theorem RM.s_ex {α : Type} (c : Exc) (en : En) (f : α → En → SR) : (RM.ex c en).s f = .ex c en := rfl
@[simp] theorem RM.of_ok {α : Type} (a : α) (en : En) : RM.of (.ok a) en = .ok a en := rfl
@[simp] theorem RM.of_no {α : Type} (en : En) : RM.of (.no : R α) en = .no := rfl
@[simp] theorem RM.of_ex {α : Type} (c : Exc) (en : En) : RM.of (.ex c : R α) en = .ex c en := rfl
section
variable (X : Cx) (W : WX)
def XM (H : Hp) (Fs : Ft) (σ : L2.St) (en : En) (c : Exc) (en' : En) : Prop := ∀ cls dx H' Fs' σ', Aft X.K H Fs σ en H' Fs' σ' en' [] → ExIs X.K X.mg H' c cls dx → W cls dx σ' H'
def MQ (H : Hp) (Fs : Ft) (σ : L2.St) (en : En) (Q : VK) : RM T → Prop
  | .ok x en' => ∀ v H' Fs' G, Aft X.K H Fs σ en H' Fs' σ en' G → Own X.K H' v x G → Q v H'
  | .ex c en' => XM X W H Fs σ en c en'
  | .no => False
def MT (H : Hp) (Fs : Ft) (σ : L2.St) (en : En) (Q : Bool → Hp → Prop) : RM Bool → Prop
  | .ok b en' => ∀ H' Fs', Aft X.K H Fs σ en H' Fs' σ en' [] → Q b H'
  | .ex c en' => XM X W H Fs σ en c en'
  | .no => False
def MA (H : Hp) (Fs : Ft) (σ : L2.St) (en : En) (Q : List V → Hp → Prop) : RM (List T) → Prop
  | .ok xs en' => ∀ vs H' Fs' G, Aft X.K H Fs σ en H' Fs' σ en' G → Owns X.K H' vs xs G → Q vs H'
  | .ex c en' => XM X W H Fs σ en c en'
  | .no => False
def MI (H : Hp) (Fs : Ft) (σ : L2.St) (en : En) (Q : It → Hp → Prop) : RM (List T) → Prop
  | .ok xs en' => ∀ J H' Fs' G, Aft X.K H Fs σ en H' Fs' σ en' G → ItOk X.K G H' J xs → (∀ a ∈ G, H' a ≠ none) → Q J H'
  | .ex c en' => XM X W H Fs σ en c en'
  | .no => False
def SQ (H : Hp) (Fs : Ft) (σ : L2.St) (en : En) (D : Ends) : SR → Prop
  | .nx en' => ∀ H' Fs' σ', Aft X.K H Fs σ en H' Fs' σ' en' [] → D.nx σ' H'
  | .ret x en' => ∀ v H' Fs' σ' G, Aft X.K H Fs σ en H' Fs' σ' en' G → Own X.K H' v x G → D.rt v H'
  | .brk en' => ∀ H' Fs' σ', Aft X.K H Fs σ en H' Fs' σ' en' [] → D.bk σ' H'
  | .ct en' => ∀ H' Fs' σ', Aft X.K H Fs σ en H' Fs' σ' en' [] → D.ct σ' H'
  | .ex c en' => XM X W H Fs σ en c en'
  | .no => False
def SpM (m : En → RM T) (t : TE) : Prop := ∀ σ H en Fs Q, EOk X.K H σ en Fs → MQ X W H Fs σ en Q (m en) → t σ H Q
def SpMT (m : En → RM Bool) (t : TT) : Prop := ∀ σ H en Fs Q, EOk X.K H σ en Fs → MT X W H Fs σ en Q (m en) → t σ H Q
def SpMA (m : En → RM (List T)) (t : TA) : Prop := ∀ σ H en Fs Q, EOk X.K H σ en Fs → MA X W H Fs σ en Q (m en) → t σ H Q
def SpMI (m : En → RM (List T)) (t : TI) : Prop := ∀ σ H en Fs Q, EOk X.K H σ en Fs → MI X W H Fs σ en Q (m en) → t σ H Q
def SpS (f : En → SR) (t : TS) : Prop := ∀ σ H en Fs D, EOk X.K H σ en Fs → SQ X W H Fs σ en D (f en) → t D σ H
/-- an expression that may change the frame's lists: a value of our own; a test; arguments; what is walked; a statement; a block -/
def PM (e : Expr) (m : En → RM T) : Prop := ∃ t, PE X e t ∧ SpM X W m t
def PMT (e : Expr) (m : En → RM Bool) : Prop := ∃ t, PT X e t ∧ SpMT X W m t
def PMA (es : List Expr) (m : En → RM (List T)) : Prop := ∃ t, PA X es t ∧ SpMA X W m t
def PMI (tg e : Expr) (m : En → RM (List T)) : Prop := ∃ t, PI X tg e t ∧ SpMI X W m t
def PSt (st : Stmt) (f : En → SR) : Prop := ∃ t, PS X st t ∧ SpS X W f t
def PBl (st : List Stmt) (f : En → SR) : Prop := ∃ t, PSs X st t ∧ SpS X W f t
end
section
variable {X : Cx} {W : WX} {e c : Expr} {st : Stmt} {sts : List Stmt} {pos : Pos} {g : En → R T} {gc : En → R Bool} {m : En → RM T} {f h : En → SR} {mc : En → RM Bool}
theorem XQ.xm {H : Hp} {Fs : Ft} {σ : L2.St} {en : En} {c : Exc} (ok : EOk X.K H σ en Fs) (h : XM X W H Fs σ en c en) : XQ X W σ H c := fun cls dx H' s i => h cls dx H' Fs σ (.quiet ok s Fresh.nil) i
def lft {α : Type} (g : En → R α) : En → RM α := fun en => RM.of (g en) en
theorem PN.up (h : PN X W e g) : PM X W e (lft g) := by
  obtain ⟨t, p, s⟩ := h
  refine ⟨t, p, fun σ H en Fs Q ok q => s σ H en Q ok.ven ?_⟩
  unfold lft at q
  cases e : g en with
  | ok x => rw [e] at q; exact fun v H' G sm o fr => q v H' Fs G (.quiet ok sm fr) o
  | ex c => rw [e] at q; exact XQ.xm (W := W) ok q
  | no => rw [e] at q; exact q
theorem PC.up (h : PC X W c gc) : PMT X W c (lft gc) := by
  obtain ⟨t, p, s⟩ := h
  refine ⟨t, p, fun σ H en Fs Q ok q => s σ H en Q ok.ven ?_⟩
  unfold lft at q
  cases e : gc en with
  | ok x => rw [e] at q; exact fun H' sm => q H' Fs (.quiet ok sm Fresh.nil)
  | ex c => rw [e] at q; exact XQ.xm (W := W) ok q
  | no => rw [e] at q; exact q
theorem PIn.up {tg : Expr} {gi : En → R (List T)} (h : PIn X W tg e gi) : PMI X W tg e (lft gi) := by
  obtain ⟨t, p, s⟩ := h
  refine ⟨t, p, fun σ H en Fs Q ok q => s σ H en Q ok.ven ?_⟩
  unfold lft at q
  cases e : gi en with
  | ok x => rw [e] at q; exact fun J H' G sm o fr th => q J H' Fs G (.quiet ok sm fr) o th
  | ex c => rw [e] at q; exact XQ.xm (W := W) ok q
  | no => rw [e] at q; exact q
/-! ### blocks -/
def fNil : En → SR := fun en => .nx en
def fSeq (f h : En → SR) : En → SR := fun en => match f en with
  | .nx en' => h en'
  | r => r
theorem SQ.after {H H1 : Hp} {Fs Fs1 : Ft} {σ σ1 : L2.St} {en en1 : En} {D : Ends} {r : SR} (a : Aft X.K H Fs σ en H1 Fs1 σ1 en1 []) (q : SQ X W H Fs σ en D r) : SQ X W H1 Fs1 σ1 en1 D r := by
  cases r with
  | nx en' => exact fun H' Fs' σ' b => q H' Fs' σ' (a.trans b)
  | ret x en' => exact fun v H' Fs' σ' G b o => q v H' Fs' σ' G (a.trans b) o
  | brk en' => exact fun H' Fs' σ' b => q H' Fs' σ' (a.trans b)
  | ct en' => exact fun H' Fs' σ' b => q H' Fs' σ' (a.trans b)
  | ex c en' => exact fun cls dx H' Fs' σ' b i => q cls dx H' Fs' σ' (a.trans b) i
  | no => exact q
theorem b_nil : PBl X W [] fNil := ⟨_, pss_nil, fun σ H en Fs D ok q => q H Fs σ (.refl ok)⟩
theorem b_cons (h1 : PSt X W st f) (h2 : PBl X W sts h) : PBl X W (st :: sts) (fSeq f h) := by
  obtain ⟨t, p, s⟩ := h1
  obtain ⟨t2, p2, s2⟩ := h2
  refine ⟨_, pss_cons p p2, fun σ H en Fs D ok q => s σ H en Fs _ ok ?_⟩
  unfold fSeq at q
  cases e : f en with
  | nx en' => rw [e] at q; exact fun H' Fs' σ' a => s2 σ' H' en' Fs' D a.ok (SQ.after (X := X) (W := W) a q)
  | ret x en' => rw [e] at q; exact q
  | brk en' => rw [e] at q; exact q
  | ct en' => rw [e] at q; exact q
  | ex c en' => rw [e] at q; exact q
  | no => rw [e] at q; exact q
theorem b_one (h1 : PSt X W st f) : PBl X W [st] f := let ⟨t, p, s⟩ := h1; ⟨t, pss_one p, s⟩
theorem s_pass : PSt X W (.Pass pos) fNil := ⟨_, ps_pass, fun σ H en Fs D ok q => q H Fs σ (.refl ok)⟩
theorem s_break : PSt X W (.Break pos) (fun en => .brk en) := ⟨_, ps_break, fun σ H en Fs D ok q => q H Fs σ (.refl ok)⟩
theorem s_cont : PSt X W (.Continue pos) (fun en => .ct en) := ⟨_, ps_continue, fun σ H en Fs D ok q => q H Fs σ (.refl ok)⟩
def fExpr (m : En → RM T) : En → SR := fun en => (m en).s fun _ en' => .nx en'
def fRet (m : En → RM T) : En → SR := fun en => (m en).s fun x en' => .ret x en'
/-- what is left aside is forgotten -/
theorem Aft.drop {K : PySem.W.Frag} {H H1 : Hp} {Fs Fs1 : Ft} {σ σ1 : L2.St} {en en1 : En} {G : List Addr} (a : Aft K H Fs σ en H1 Fs1 σ1 en1 G) : Aft K H Fs σ en H1 Fs1 σ1 en1 [] :=
  ⟨a.ok, List.nodup_nil, fun _ m => absurd m List.not_mem_nil, a.stp.imp (fun _ z => z.elim .inl fun y => absurd y List.not_mem_nil) (fun _ z => z.elim .inl fun y => absurd y List.not_mem_nil), a.bk⟩
theorem s_expr (h : PM X W e m) (hs : swapsWith e none pos.line X.env = pure false := by rfl) : PSt X W (.Expr e pos) (fExpr m) := by
  obtain ⟨t, p, s⟩ := h
  refine ⟨_, ps_expr p hs, fun σ H en Fs D ok q => s σ H en Fs _ ok ?_⟩
  unfold fExpr at q
  cases e : m en with
  | ok x en' => rw [e] at q; exact fun v H' Fs' G a _ => q H' Fs' σ a.drop
  | ex c en' => rw [e] at q; exact q
  | no => rw [e] at q; exact q
theorem s_ret (h : PM X W e m) : PSt X W (.Return (some e) pos) (fRet m) := by
  obtain ⟨t, p, s⟩ := h
  refine ⟨_, ps_ret p, fun σ H en Fs D ok q => s σ H en Fs _ ok ?_⟩
  unfold fRet at q
  cases e : m en with
  | ok x en' => rw [e] at q; exact fun v H' Fs' G a o => q v H' Fs' σ G a o
  | ex c en' => rw [e] at q; exact q
  | no => rw [e] at q; exact q
theorem s_retN : PSt X W (.Return none pos) (fun en => .ret (.d .non) en) := ⟨_, ps_retN, fun σ H en Fs D ok q => q .non H Fs σ [] (.refl ok) (.d .non)⟩
def fIf (c : En → RM Bool) (f h : En → SR) : En → SR := fun en => (c en).s fun b en' => if b = true then f en' else h en'
theorem s_if {a b : List Stmt} (hc : PMT X W c mc) (ha : PBl X W a f) (hb : PBl X W b h) : PSt X W (.If c a b pos) (fIf mc f h) := by
  obtain ⟨t, p, s⟩ := hc
  obtain ⟨t1, p1, s1⟩ := ha
  obtain ⟨t2, p2, s2⟩ := hb
  refine ⟨_, ps_if p p1 p2, fun σ H en Fs D ok q => s σ H en Fs _ ok ?_⟩
  unfold fIf at q
  cases e : mc en with
  | ok k en' =>
    rw [e] at q
    intro H' Fs' a
    simp only [RM.s_ok] at q
    cases k with
    | true => exact iteT (s1 σ H' en' Fs' D a.ok (SQ.after (X := X) (W := W) a q))
    | false => exact iteF (s2 σ H' en' Fs' D a.ok (SQ.after (X := X) (W := W) a q))
  | ex c en' => rw [e] at q; exact q
  | no => rw [e] at q; exact q
end
end Z
/-! Z: stores, loops. -/
namespace Z
open PySem PySem.Spec L2
open PyProof.Rows hiding St

/-- what the rules of a body ask of where they stand -/
structure Cz (X : Cx) (W : WX) : Prop where
  tk : Takes X W
  hp : PassesOwn (model X.prog X.w) X.A X.env X.xe
  calm : X.calm = true
  nd : X.N.Nodup
def stow (en : En) (i : Nat) (s : Sl) : Option En := match en[i]? with
  | some (.b _) => none
  | some _ => some (en.set i s)
  | none => none
theorem stow_ok {en en' : En} {i : Nat} {s : Sl} (h : stow en i s = some en') : i < en.length ∧ en' = en.set i s ∧ ∀ x, en[i]? ≠ some (.b x) := by
  unfold stow at h
  cases e : en[i]? with
  | none => rw [e] at h; cases h
  | some y =>
    rw [e] at h
    obtain ⟨hl, _⟩ := List.getElem?_eq_some_iff.mp e
    cases y <;> first | (cases h; done) | (cases h; exact ⟨hl, rfl, fun x z => by cases z⟩)
def updF (Fs : Ft) (i : Nat) (G : List Addr) : Ft := fun j => if j = i then G else Fs j
theorem updF_same {Fs : Ft} {i : Nat} {G : List Addr} : updF Fs i G i = G := if_pos rfl
theorem updF_ne {Fs : Ft} {i j : Nat} {G : List Addr} (h : j ≠ i) : updF Fs i G j = Fs j := if_neg h
theorem ownAt_set {en : En} {i j : Nat} {s : Sl} (h : j ≠ i) : ownAt (en.set i s) j = ownAt en j := by unfold ownAt; rw [List.getElem?_set_ne (Ne.symm h)]
theorem at_set {en : En} {i j : Nat} {s : Sl} (h : j ≠ i) : at_ (en.set i s) j = at_ en j := by unfold at_; rw [List.getElem?_set_ne (Ne.symm h)]
theorem at_set_same {en : En} {i : Nat} {s : Sl} (h : i < en.length) : at_ (en.set i s) i = s.get := by unfold at_; rw [List.getElem?_set_self h]
theorem own_at {en : En} {i : Nat} {x : T} (h : ownAt en i = some x) : at_ en i = some x := by
  unfold ownAt at h
  unfold at_
  cases e : en[i]? with
  | none => rw [e] at h; cases h
  | some s => rw [e] at h; cases s <;> first | (cases h; done) | exact h
theorem Own.rep {K : PySem.W.Frag} {H : Hp} {v : V} {d : D} {F : List Addr} (h : Own K H v (.d d) F) : RepD K H v d := by cases h with | d r => exact r
theorem Own.dnil {K : PySem.W.Frag} {H : Hp} {v : V} {d : D} {F : List Addr} (h : Own K H v (.d d) F) : F = [] := by cases h with | d r => rfl
/-- a thing of our own, or one that is seen, put at a name -/
theorem Aft.put {K : PySem.W.Frag} {H H1 : Hp} {Fs Fs1 : Ft} {σ σ1 : L2.St} {en en1 en2 : En} {F G : List Addr} {i : Nat} {v : V} {x : T} {s : Sl} (a : Aft K H Fs σ en H1 Fs1 σ1 en1 G) (o : Own K H1 v x F) (hp : stow en1 i s = some en2) (hs : s.get = some x)
    (hs2 : ∀ y, s ≠ .b y) (hF : (F.Nodup ∧ (∀ c ∈ F, ¬ InF Fs1 c) ∧ ∀ c ∈ F, H c = none ∨ InO en Fs c) ∨ ((∀ y, s ≠ .v y) ∧ (∀ c ∈ F, ¬ InO en1 Fs1 c) ∧ ∀ c ∈ F, InF Fs c ∨ H c = none)) (hG : ∀ c ∈ F, c ∉ G) : Aft K H Fs σ en H1 (updF Fs1 i F) (σ1.set i (some v)) en2 G := by
  obtain ⟨hl, rfl, hb⟩ := stow_ok hp
  have hσ := a.ok.len
  have sub : ∀ {c j}, c ∈ updF Fs1 i F j → (j = i ∧ c ∈ F) ∨ (j ≠ i ∧ c ∈ Fs1 j) := fun {c j} m => by
    by_cases e : j = i
    · subst e; rw [updF_same] at m; exact .inl ⟨rfl, m⟩
    · rw [updF_ne e] at m; exact .inr ⟨e, m⟩
  have own_i : ownAt (en1.set i s) i ≠ none → ∃ y, s = .v y := fun h => by
    unfold ownAt at h
    rw [List.getElem?_set_self hl] at h
    cases s with
    | v y => exact ⟨y, rfl⟩
    | b y => exact absurd rfl (hs2 y)
    | n => exact absurd rfl h
    | w y => exact absurd rfl h
  refine ⟨⟨by rw [List.length_set, List.length_set]; exact hσ, fun j y e => ?_, fun j h => ?_, fun j l c ne h m => ?_, fun j e => ?_⟩, a.nod, fun c m z => ?_, ⟨a.stp.pst, a.stp.keep, a.stp.dom, fun c m => ?_, fun c m => ?_⟩, fun j y e => ?_⟩
  · by_cases hj : j = i
    · subst hj
      rw [at_set_same hl, hs] at e; cases e
      exact ⟨v, List.getElem?_set_self (by omega), by rw [updF_same]; exact o⟩
    · rw [at_set hj] at e
      obtain ⟨w, h1, h2⟩ := a.ok.has j y e
      exact ⟨w, by rw [List.getElem?_set_ne (Ne.symm hj)]; exact h1, by rw [updF_ne hj]; exact h2⟩
  · by_cases hj : j = i
    · subst hj
      rw [updF_same]
      rcases hF with hF | hF
      · exact hF.1
      · obtain ⟨y, e⟩ := own_i h; exact absurd e (hF.1 y)
    · rw [updF_ne hj]; rw [ownAt_set hj] at h; exact a.ok.nod j h
  · by_cases hj : j = i
    · subst hj
      rw [updF_same] at m
      rw [updF_ne (Ne.symm ne)]
      rcases hF with hF | hF
      · exact fun z => hF.2.1 c m ⟨l, z⟩
      · obtain ⟨y, e⟩ := own_i h; exact absurd e (hF.1 y)
    · rw [updF_ne hj] at m
      rw [ownAt_set hj] at h
      by_cases hl' : l = i
      · subst hl'
        rw [updF_same]
        rcases hF with hF | hF
        · exact fun z => hF.2.1 c z ⟨j, m⟩
        · exact fun z => hF.2.1 c z ⟨j, h, m⟩
      · rw [updF_ne hl']
        exact a.ok.dis j l c ne h m
  · by_cases hj : j = i
    · subst hj
      rw [at_set_same hl, hs] at e; cases e
    · rw [updF_ne hj]; rw [at_set hj] at e; exact a.ok.emp j e
  · obtain ⟨j, z⟩ := z
    rcases sub z with ⟨_, z⟩ | ⟨_, z⟩
    · exact hG c z m
    · exact a.dis c m ⟨j, z⟩
  · rcases m with ⟨j, h, m⟩ | m
    · rcases sub m with ⟨e, m2⟩ | ⟨e, m2⟩
      · rw [e] at h
        rcases hF with hF | hF
        · exact (hF.2.2 c m2).symm
        · obtain ⟨y, e⟩ := own_i h; exact absurd e (hF.1 y)
      · rw [ownAt_set e] at h
        exact a.stp.subO c (.inl ⟨j, h, m2⟩)
    · exact a.stp.subO c (.inr m)
  · rcases m with ⟨j, m⟩ | m
    · rcases sub m with ⟨e, m⟩ | ⟨e, m⟩
      · rcases hF with hF | hF
        · exact (hF.2.2 c m).elim .inr fun z => .inl z.a
        · exact hF.2.2 c m
      · exact a.stp.subA c (.inl ⟨j, m⟩)
    · exact a.stp.subA c (.inr m)
  · by_cases hj : j = i
    · subst hj
      rw [List.getElem?_set_self hl] at e
      exact absurd (Option.some.inj e) (hs2 y)
    · rw [List.getElem?_set_ne (Ne.symm hj)] at e
      obtain ⟨h1, h2⟩ := a.bk j y e
      exact ⟨h1, by rw [List.getElem?_set_ne (Ne.symm hj)]; exact h2⟩
/-- .. of what a step left aside -/
theorem Aft.keep {K : PySem.W.Frag} {H H1 : Hp} {Fs Fs1 : Ft} {σ σ1 : L2.St} {en en1 en2 : En} {F : List Addr} {i : Nat} {v : V} {x : T} (a : Aft K H Fs σ en H1 Fs1 σ1 en1 F) (o : Own K H1 v x F) (hp : stow en1 i (.v x) = some en2) : Aft K H Fs σ en H1 (updF Fs1 i F) (σ1.set i (some v)) en2 [] :=
  a.drop.put o hp rfl (fun _ z => by cases z) (.inl ⟨a.nod, a.dis, fun c m => (a.stp.subO c (.inr m)).symm⟩) fun _ _ m => absurd m List.not_mem_nil
section
variable {X : Cx} {W : WX} {e c : Expr} {st : Stmt} {sts : List Stmt} {pos : Pos} {m : En → RM T} {f h : En → SR} {mc : En → RM Bool}
def toS : Option En → SR
  | some en => .nx en
  | none => .no
def fSet (i : Nat) (m : En → RM T) : En → SR := fun en => (m en).s fun x en' => toS (stow en' i (.v x))
theorem sp_set {i : Nat} {t : TE} (s : SpM X W m t) : SpS X W (fSet i m) (tAsg t (gName i)) := by
  intro σ H en Fs D ok q
  refine s σ H en Fs _ ok ?_
  unfold fSet at q
  cases e : m en with
  | ok x en' =>
    rw [e] at q
    simp only [RM.s_ok] at q
    intro v H' Fs' G a o
    cases ep : stow en' i (.v x) with
    | none => rw [ep] at q; exact q.elim
    | some en2 => rw [ep] at q; exact q H' _ _ (a.keep o ep)
  | ex c en' => rw [e] at q; exact q
  | no => rw [e] at q; exact q
theorem s_set (i : Nat) {x : Str} {p : Pos} (cz : Cz X W) (h : PM X W e m) (hi : X.N[i]? = some x := by rfl) (hx : Loc X.env.scope x := by first | exact .inl rfl | exact .inr rfl) (hs : swapsWith e (some (.Name x p)) pos.line X.env = pure false := by rfl) (hf : X.fn x = true ∨ X.env.scope.names.lookup x = some .local := by first | exact .inl rfl | exact .inr rfl) :
    PSt X W (.Assign [.Name x p] e pos) (fSet i m) := by
  obtain ⟨t, pp, s⟩ := h
  exact ⟨_, ps_set cz.nd hi hx pp hs hf, sp_set s⟩
/-- many names -/
def stowD (en : En) : Ass → Option En
  | [] => some en
  | (i, .d d) :: r => (stow en i (.v (.d d))).bind fun en' => stowD en' r
  | (_, .l _) :: _ => none
theorem Aft.putD {K : PySem.W.Frag} {H H1 : Hp} {Fs : Ft} {σ : L2.St} {en : En} {G F : List Addr} : ∀ {as : Ass} {vs : List (Nat × V)} {Fs1 : Ft} {σ1 : L2.St} {en1 en2 : En}, Aft K H Fs σ en H1 Fs1 σ1 en1 G → AsOk K H1 F vs as → stowD en1 as = some en2 → ∃ Fs2, Aft K H Fs σ en H1 Fs2 (setS σ1 vs) en2 G
  | [], _, _, _, _, _, a, .nil, h => by cases h; exact ⟨_, a⟩
  | (i, .d d) :: r, _, _, σ1, _, _, a, .cons (v := v) (r := r') o _ t, h => by
    obtain ⟨en', h1, h2⟩ := Option.bind_eq_some_iff.mp h
    cases o with
    | d r => exact Aft.putD (vs := r') (σ1 := σ1.set i (some v)) (a.put (.d r) h1 rfl (fun _ z => by cases z) (.inl ⟨List.nodup_nil, fun _ m => absurd m List.not_mem_nil, fun _ m => absurd m List.not_mem_nil⟩) fun _ m => absurd m List.not_mem_nil) t h2
  | (_, .l _) :: _, _, _, _, _, _, _, _, h => by cases h
def fAsg (k : T → Option Ass) (m : En → RM T) : En → SR := fun en => (m en).s fun x en' => toS ((k x).bind fun as => stowD en' as)
theorem s_asg {tg : Expr} {k : T → Option Ass} (h : PM X W e m) (hg : PTg X tg k) (hs : swapsWithSole [tg] e pos.line X.env = pure false := by rfl) (hw : swappedStores [tg] e X.env = pure none := by rfl)
    (h1 : (assignEach [tg] X.env).map (·.2) = [assign tg X.env] := by rfl) : PSt X W (.Assign [tg] e pos) (fAsg k m) := by
  obtain ⟨t, pp, s⟩ := h
  refine ⟨_, ps_asg pp hg hs hw h1, fun σ H en Fs D ok q => s σ H en Fs _ ok ?_⟩
  unfold fAsg at q
  cases e : m en with
  | ok x en' =>
    rw [e] at q
    simp only [RM.s_ok] at q
    intro v H' Fs' G a o
    cases ek : k x with
    | none => rw [ek] at q; exact q.elim
    | some as =>
      rw [ek] at q
      simp only [Option.bind_some] at q
      cases ep : stowD en' as with
      | none => rw [ep] at q; exact q.elim
      | some en2 =>
        rw [ep] at q
        refine ⟨x, G, as, o, ek, fun vs aok => ?_⟩
        obtain ⟨Fs2, a2⟩ := a.drop.putD aok ep
        exact q H' Fs2 _ a2
  | ex c en' => rw [e] at q; exact q
  | no => rw [e] at q; exact q
/-- a, b = x, y -/
def fPar (i j : Nat) (m : En → RM (List T)) : En → SR := fun en => (m en).s fun xs en' => match xs with
  | [.d a, .d b] => toS (stowD en' [(i, .d a), (j, .d b)])
  | _ => .no
theorem s_par (i j : Nat) {x y : Str} {a b : Expr} {px py pt : Pos} {kt k2 pt2} {ma : En → RM (List T)} (cz : Cz X W) (h : PMA X W [a, b] ma) (hi : X.N[i]? = some x := by rfl) (hj : X.N[j]? = some y := by rfl) (hij : i ≠ j := by decide) (hx : X.env.scope.names.lookup x = some .local := by rfl) (hy : X.env.scope.names.lookup y = some .local := by rfl)
    (hw : swappedStores [.Tuple [.Name x px, .Name y py] kt pt] (.Tuple [a, b] k2 pt2) X.env = pure (some [x, y]) := by rfl) (hs : swapsWithSole [.Tuple [.Name x px, .Name y py] kt pt] (.Tuple [a, b] k2 pt2) pos.line X.env = pure false := by rfl) :
    PSt X W (.Assign [.Tuple [.Name x px, .Name y py] kt pt] (.Tuple [a, b] k2 pt2) pos) (fPar i j ma) := by
  obtain ⟨t, pp, s⟩ := h
  refine ⟨_, ps_par cz.calm cz.nd hi hj hij hx hy pp hw hs, fun σ H en Fs D ok q => s σ H en Fs _ ok ?_⟩
  unfold fPar at q
  cases e : ma en with
  | ok xs en' =>
    rw [e] at q
    simp only [RM.s_ok] at q
    intro vs H' Fs' G a o
    split at q
    · rename_i a' b'
      cases ep : stowD en' [(i, .d a'), (j, .d b')] with
      | none => rw [ep] at q; exact q.elim
      | some en2 =>
        rw [ep] at q
        cases o with
        | cons o1 o =>
          cases o with
          | cons o2 o =>
            cases o
            cases o1 with
            | d r1 =>
              cases o2 with
              | d r2 =>
                obtain ⟨Fs2, a2⟩ := a.drop.putD (F := []) (.cons (.d r1) (fun _ m => m) (.cons (.d r2) (fun _ m => m) .nil)) ep
                exact ⟨_, _, rfl, q H' Fs2 _ a2⟩
    · exact q.elim
  | ex c en' => rw [e] at q; exact q
  | no => rw [e] at q; exact q
/-! ### name op= e -/
structure Ib (X : Cx) (op : Operator) (f : T → T → Option T) : Prop where
  p : ∃ r, OpR X (inplaceOp op) r ∧ Q2 X.K r f
def datAt (en : En) (i : Nat) : R T := (R.of (at_ en i)).pur
def fAug (i : Nat) (op : T → T → Option T) (m : En → RM T) : En → SR := fun en => match datAt en i with
  | .ok x => (m en).s fun y en' => match op x y with
    | some z => toS (stow en' i (.v z))
    | none => .no
  | _ => .no
theorem datAt_ok {en : En} {i : Nat} {x : T} (h : datAt en i = .ok x) : ∃ d, x = .d d ∧ at_ en i = some (.d d) := by
  unfold datAt at h
  cases e : at_ en i with
  | none => rw [e] at h; cases h
  | some y =>
    rw [e] at h
    cases y with
    | d d => cases h; exact ⟨d, rfl, rfl⟩
    | l xs => cases h
/-- behind a step that left something aside, a quiet one -/
theorem Aft.fin {K : PySem.W.Frag} {H H1 H2 : Hp} {Fs Fs1 : Ft} {σ σ1 : L2.St} {en en1 : En} {F G : List Addr} (a : Aft K H Fs σ en H1 Fs1 σ1 en1 F) (s : Same H1 H2) (f : Fresh H1 G) : Aft K H Fs σ en H2 Fs1 σ1 en1 G := a.drop.trans (.quiet a.ok s f)
theorem s_aug (i : Nat) {x : Str} {p : Pos} {op : Operator} {fo : T → T → Option T} (cz : Cz X W) (ob : Ib X op fo) (h : PM X W e m) (hi : X.N[i]? = some x := by rfl) (hx : Loc X.env.scope x := by first | exact .inl rfl | exact .inr rfl) (hf : X.fn x = true ∨ X.env.scope.names.lookup x = some .local := by first | exact .inl rfl | exact .inr rfl) :
    PSt X W (.AugAssign (.Name x p) op e pos) (fAug i fo m) := by
  obtain ⟨t, pp, s⟩ := h
  obtain ⟨r, ho, qq⟩ := ob.p
  refine ⟨_, ps_aug (ti := r) cz.nd hi hx pp ho hf, fun σ H en Fs D ok q => ?_⟩
  unfold fAug at q
  cases ed : datAt en i with
  | ex c => rw [ed] at q; exact q.elim
  | no => rw [ed] at q; exact q.elim
  | ok x0 =>
    rw [ed] at q
    obtain ⟨d, rfl, hd⟩ := datAt_ok ed
    obtain ⟨v, h1, h2⟩ := ok.has i _ hd
    have h2 : RepD X.K H v d := h2.rep
    refine ⟨v, h1, s σ H en Fs _ ok ?_⟩
    cases e : m en with
    | ok y en' =>
      rw [e] at q
      simp only [RM.s_ok] at q
      intro v2 H' Fs' G a o
      cases ef : fo (.d d) y with
      | none => rw [ef] at q; exact q.elim
      | some z =>
        rw [ef] at q
        simp only at q
        cases ep : stow en' i (.v z) with
        | none => rw [ep] at q; exact q.elim
        | some en2 =>
          rw [ep] at q
          exact qq H' (.d d) y z v v2 [] G _ (.d (h2.mono a.stp.pst)) o ef fun v3 H3 G3 s3 o3 f3 => q H3 _ _ ((a.fin s3 f3).keep o3 ep)
    | ex c en' => rw [e] at q; exact q
    | no => rw [e] at q; exact q
/-! ### for -/
/-- a thing of what is walked, put at a name -/
def stows (en : En) : Ass → Option En
  | [] => some en
  | (i, x) :: r => (stow en i (mkS x)).bind fun en' => stows en' r
theorem mkS_b (x y : T) : mkS x ≠ .b y := by cases x <;> exact fun z => by cases z
theorem Aft.puts {K : PySem.W.Frag} {H H1 : Hp} {Fs : Ft} {σ : L2.St} {en : En} {G : List Addr} : ∀ {as : Ass} {vs : List (Nat × V)} {Fs1 : Ft} {σ1 : L2.St} {en1 en2 : En}, Aft K H Fs σ en H1 Fs1 σ1 en1 [] → AsOk K H1 G vs as → (∀ c ∈ G, ¬ InO en1 Fs1 c) → (∀ c ∈ G, InF Fs c ∨ H c = none) → stows en1 as = some en2 →
    ∃ Fs2, Aft K H Fs σ en H1 Fs2 (setS σ1 vs) en2 [] ∧ ∀ c, InO en2 Fs2 c → InO en1 Fs1 c
  | [], _, _, _, _, _, a, .nil, hG, _, h => by cases h; exact ⟨_, a, fun _ z => z⟩
  | (i, x) :: r, _, Fs1, σ1, en1, _, a, .cons (v := v) (r := r') (F := F) o m t, hG, hG2, h => by
    obtain ⟨en', h1, h2⟩ := Option.bind_eq_some_iff.mp h
    have case : (F.Nodup ∧ (∀ c ∈ F, ¬ InF Fs1 c) ∧ ∀ c ∈ F, H c = none ∨ InO en Fs c) ∨ ((∀ y, mkS x ≠ .v y) ∧ (∀ c ∈ F, ¬ InO en1 Fs1 c) ∧ ∀ c ∈ F, InF Fs c ∨ H c = none) := by
      cases x with
      | d d => cases o with | d r => exact .inl ⟨List.nodup_nil, fun _ m => absurd m List.not_mem_nil, fun _ m => absurd m List.not_mem_nil⟩
      | l xs => exact .inr ⟨fun y z => (by cases z), fun c n => hG c (m c n), fun c n => hG2 c (m c n)⟩
    have a2 := a.put o h1 (mkS_get x) (mkS_b x) case fun _ _ m => absurd m List.not_mem_nil
    have back : ∀ c, InO en' (updF Fs1 i F) c → InO en1 Fs1 c := fun c z => by
      obtain ⟨j, z1, z2⟩ := z
      obtain ⟨hl, e2, _⟩ := stow_ok h1
      subst e2
      by_cases hj : j = i
      · subst hj
        rw [updF_same] at z2
        cases x with
        | d d => rw [o.dnil] at z2; cases z2
        | l xs =>
          unfold ownAt at z1
          rw [List.getElem?_set_self hl] at z1
          exact absurd rfl z1
      · rw [updF_ne hj] at z2
        rw [ownAt_set hj] at z1
        exact ⟨j, z1, z2⟩
    obtain ⟨Fs2, a3, b3⟩ := Aft.puts (vs := r') (σ1 := σ1.set i (some v)) a2 t (fun c n z => hG c n (back c z)) hG2 h2
    exact ⟨Fs2, a3, fun c z => back c (b3 c z)⟩
def forE (k : T → Option Ass) (f : En → SR) : List T → En → SR
  | [], en => .nx en
  | x :: xs, en => match (k x).bind fun as => stows en as with
    | none => .no
    | some en1 => match f en1 with
      | .nx en2 => forE k f xs en2
      | .ct en2 => forE k f xs en2
      | .brk en2 => .nx en2
      | r => r
def fFor (k : T → Option Ass) (mi : En → RM (List T)) (f : En → SR) : En → SR := fun en => (mi en).s fun xs en' => forE k f xs en'
/-- what is left of a loop -/
abbrev forQ (K : PySem.W.Frag) (k : T → Option Ass) (tb : TS) (D : Ends) (σ : L2.St) : It → Hp → Prop := fun J H1 => ∃ W' : Nat → Nat → L2.St → Hp → Prop, (∃ n, W' 0 n σ H1) ∧ ∀ i n σ H, W' i n σ H →
  (J.stop i H ∧ D.nx σ H) ∨ (J.go i H ∧ ∃ N : L2.St → Hp → Prop, (∀ σ' H', N σ' H' → ∃ n', n' < n ∧ W' (i + 1) n' σ' H') ∧ ∀ x H', J.yld i H x H' → tgt K k x σ H' fun σ2 H2 => tb { D with nx := N, ct := N, bk := D.nx } σ2 H2)
/-- the loop, from where what is walked has come -/
theorem sp_for {k : T → Option Ass} {tb : TS} (s : SpS X W f tb) {σ0 σ : L2.St} {H0 H1 : Hp} {en0 en : En} {Fs0 Fs : Ft} {D : Ends} {J : It} {xs : List T} {G : List Addr} (a : Aft X.K H0 Fs0 σ0 en0 H1 Fs σ en []) (iok : ItOk X.K G H1 J xs) (tG : ∀ c ∈ G, H1 c ≠ none) (hG : ∀ c ∈ G, ¬ InO en Fs c) (hG2 : ∀ c ∈ G, InF Fs0 c ∨ H0 c = none) (q : SQ X W H0 Fs0 σ0 en0 D (forE k f xs en)) :
    forQ X.K k tb D σ J H1 := by
  refine ⟨fun i n σ H => n = xs.length - i ∧ i ≤ xs.length ∧ ∃ en Fs, Aft X.K H0 Fs0 σ0 en0 H Fs σ en [] ∧ Kept G H1 H ∧ (∀ c ∈ G, ¬ InO en Fs c) ∧ SQ X W H0 Fs0 σ0 en0 D (forE k f (xs.drop i) en),
    ⟨xs.length, by simp, Nat.zero_le _, en, Fs, a, .of (Same.refl _), hG, by rw [List.drop_zero]; exact q⟩, ?_⟩
  rintro i n σ1 H ⟨rfl, hi, en1, Fs1, a1, kp, hG1, q1⟩
  by_cases hlt : i < xs.length
  · refine .inr ⟨iok.goes i H hlt kp, fun σ' H' => ∃ en' Fs', Aft X.K H0 Fs0 σ0 en0 H' Fs' σ' en' [] ∧ Kept G H1 H' ∧ (∀ c ∈ G, ¬ InO en' Fs' c) ∧ SQ X W H0 Fs0 σ0 en0 D (forE k f (xs.drop (i + 1)) en'), fun σ' H' h => ⟨xs.length - (i + 1), by omega, rfl, hlt, h⟩, fun v H' y => ?_⟩
    obtain ⟨s5, x, F, hx, ox, hF⟩ := iok.yields i H v H' hlt kp y
    have hd : xs.drop i = x :: xs.drop (i + 1) := by
      rw [List.drop_eq_getElem_cons hlt]
      rw [List.getElem?_eq_getElem hlt] at hx
      rw [Option.some.inj hx]
    rw [hd] at q1
    unfold forE at q1
    have a2 : Aft X.K H0 Fs0 σ0 en0 H' Fs1 σ1 en1 [] := a1.trans (.quiet a1.ok s5 Fresh.nil)
    have kp2 : Kept G H1 H' := kp.trans (.of s5)
    cases ek : k x with
    | none => rw [ek] at q1; exact q1.elim
    | some as =>
      rw [ek] at q1
      simp only [Option.bind_some] at q1
      cases ep : stows en1 as with
      | none => rw [ep] at q1; exact q1.elim
      | some en2 =>
        rw [ep] at q1
        simp only at q1
        refine ⟨x, F, as, ox, ek, fun ws aok => ?_⟩
        obtain ⟨Fs2, a3, hG3⟩ := a2.puts aok (fun c m => hG1 c (hF c m)) (fun c m => hG2 c (hF c m)) ep
        have hG4 : ∀ c ∈ G, ¬ InO en2 Fs2 c := fun c m z => hG1 c m (hG3 c z)
        have tG3 : ∀ c ∈ G, H' c ≠ none := fun c m z => by
          cases e1 : H1 c with
          | none => exact tG c m e1
          | some o => rw [kp2.2 c m o e1] at z; cases z
        -- behind the body
        have fin : ∀ {H4 : Hp} {Fs4 : Ft} {σ4 : L2.St} {en4 : En}, Aft X.K H' Fs2 (setS σ1 ws) en2 H4 Fs4 σ4 en4 [] → Aft X.K H0 Fs0 σ0 en0 H4 Fs4 σ4 en4 [] ∧ Kept G H1 H4 ∧ ∀ c ∈ G, ¬ InO en4 Fs4 c := fun {H4 Fs4 σ4 en4} b =>
          ⟨a3.trans b, kp2.trans ⟨b.stp.pst, fun c m o e => b.stp.keep c o e (hG4 c m)⟩, fun c m z => (b.stp.subO c (.inl z)).elim (hG4 c m) (tG3 c m)⟩
        refine s _ H' en2 Fs2 _ a3.ok ?_
        cases ef : f en2 with
        | nx en' =>
          rw [ef] at q1
          exact fun H4 Fs4 σ4 b => let ⟨b1, b2, b3⟩ := fin b; ⟨en', Fs4, b1, b2, b3, q1⟩
        | ct en' =>
          rw [ef] at q1
          exact fun H4 Fs4 σ4 b => let ⟨b1, b2, b3⟩ := fin b; ⟨en', Fs4, b1, b2, b3, q1⟩
        | brk en' =>
          rw [ef] at q1
          exact fun H4 Fs4 σ4 b => q1 H4 Fs4 σ4 (fin b).1
        | ret x en' =>
          rw [ef] at q1
          exact fun v H4 Fs4 σ4 G b o => q1 v H4 Fs4 σ4 G (a3.trans b) o
        | ex c en' =>
          rw [ef] at q1
          exact fun cls dx H4 Fs4 σ4 b i => q1 cls dx H4 Fs4 σ4 (a3.trans b) i
        | no => rw [ef] at q1; exact q1.elim
  · have e : i = xs.length := by omega
    subst e
    rw [List.drop_length] at q1
    exact .inl ⟨iok.stops H kp, q1 H Fs1 σ1 a1⟩
theorem s_for {tg it : Expr} {body : List Stmt} {k : T → Option Ass} {mi : En → RM (List T)} (cz : Cz X W) (hi : PMI X W tg it mi) (hg : PTg X tg k) (hb : PBl X W body f) (hs : ∀ x, foldedSetIterable it X.env x = pure x := by intro _; rfl) : PSt X W (.For tg it body [] pos) (fFor k mi f) := by
  obtain ⟨t, p, s⟩ := hi
  obtain ⟨t2, p2, s2⟩ := hb
  refine ⟨_, ps_for cz.hp cz.calm p hg p2 hs, fun σ H en Fs D ok q => s σ H en Fs _ ok ?_⟩
  unfold fFor at q
  cases e : mi en with
  | ok xs en' =>
    rw [e] at q
    simp only [RM.s_ok] at q
    exact fun J H' Fs' G a iok tG => sp_for s2 a.drop iok tG (fun c m z => a.dis c m z.a) (fun c m => a.stp.subA c (.inr m)) q
  | ex c en' => rw [e] at q; exact q
  | no => rw [e] at q; exact q
/-- over a name's list: it is seen from then on -/
def weak (en : En) (i : Nat) : En := match en[i]? with
  | some (.v (.l xs)) => en.set i (.w (.l xs))
  | _ => en
/-- what is ours is seen from now on -/
theorem Aft.weak {K : PySem.W.Frag} {H H1 : Hp} {Fs Fs1 : Ft} {σ σ1 : L2.St} {en en1 : En} {G : List Addr} (a : Aft K H Fs σ en H1 Fs1 σ1 en1 G) (i : Nat) : Aft K H Fs σ en H1 Fs1 σ1 (weak en1 i) G := by
  unfold Z.weak
  cases e : en1[i]? with
  | none => exact a
  | some y =>
    cases y with
    | v x =>
      cases x with
      | d d => exact a
      | l xs =>
        obtain ⟨hl, _⟩ := List.getElem?_eq_some_iff.mp e
        have same : ∀ j, at_ (en1.set i (.w (.l xs))) j = at_ en1 j := fun j => by
          by_cases hj : j = i
          · subst hj; rw [at_set_same hl]; unfold at_; rw [e]; rfl
          · exact at_set hj
        have own : ∀ j, ownAt (en1.set i (.w (.l xs))) j ≠ none → ownAt en1 j ≠ none := fun j h => by
          by_cases hj : j = i
          · subst hj; unfold ownAt at h; rw [List.getElem?_set_self hl] at h; exact absurd rfl h
          · rwa [ownAt_set hj] at h
        show Aft K H Fs σ en H1 Fs1 σ1 (en1.set i (.w (.l xs))) G
        refine ⟨⟨by rw [List.length_set]; exact a.ok.len, fun j y h => a.ok.has j y (by rw [← same j]; exact h), fun j h => a.ok.nod j (own j h), fun j l c ne h m => a.ok.dis j l c ne (own j h) m, fun j h => a.ok.emp j (by rw [← same j]; exact h)⟩, a.nod, a.dis, a.stp.imp (fun c z => z.elim (fun ⟨j, h, m⟩ => .inl ⟨j, own j h, m⟩) .inr) (fun _ z => z), fun j y h => a.bk j y ?_⟩
        by_cases hj : j = i
        · subst hj; rw [List.getElem?_set_self hl] at h; cases h
        · rwa [List.getElem?_set_ne (Ne.symm hj)] at h
    | _ => exact a
def notOwn (en : En) (i : Nat) : Bool := match en[i]? with
  | some (.w _) => true
  | some (.v (.d _)) => true
  | _ => false
def fForN (k : T → Option Ass) (i : Nat) (f : En → SR) : En → SR := fun en => let en' := weak en i
  if notOwn en' i = true then match (at_ en' i).bind items with
    | some xs => forE k f xs en'
    | none => .no
  else .no
theorem s_forN (i : Nat) {tg : Expr} {x : Str} {px : Pos} {body : List Stmt} {k : T → Option Ass} (cz : Cz X W) (hg : PTg X tg k) (hb : PBl X W body f) (hN : X.N[i]? = some x := by rfl) (hv : Vis X.env.scope x := by first | exact Or.inl rfl | exact Or.inr (Or.inl rfl) | exact Or.inr (Or.inr rfl)) (hs : ∀ y, foldedSetIterable (.Name x px) X.env y = pure y := by intro _; rfl) (hd : (x == ("__debug__" : Str)) = false := by decide)
    (hcd : (x == ("__classdict__" : Str)) = false := by decide) : PSt X W (.For tg (.Name x px) body [] pos) (fForN k i f) := by
  obtain ⟨t2, p2, s2⟩ := hb
  refine ⟨_, ps_for cz.hp cz.calm (pi_sq (pe_var hN hv hd hcd)) hg p2 hs, fun σ H en Fs D ok q => ?_⟩
  unfold fForN at q
  have a : Aft X.K H Fs σ en H Fs σ (Z.weak en i) [] := (Aft.refl ok).weak i
  simp only at q
  split at q
  · rename_i hw
    cases e : at_ (Z.weak en i) i with
    | none => rw [e] at q; exact q.elim
    | some x =>
      rw [e] at q
      simp only [Option.bind_some] at q
      cases ei : items x with
      | none => rw [ei] at q; exact q.elim
      | some xs =>
        rw [ei] at q
        obtain ⟨v, h1, h2⟩ := a.ok.has i x e
        refine ⟨v, h1, it_own (Q := forQ X.K k t2 D σ) h2 ei fun J iok => sp_for s2 a iok h2.there (fun c m z => ?_) (fun c m => .inl ?_) q⟩
        · obtain ⟨j, z1, z2⟩ := z
          by_cases hj : j = i
          · subst hj
            unfold notOwn at hw
            unfold ownAt at z1
            cases es : (Z.weak en j)[j]? with
            | none => rw [es] at hw; cases hw
            | some y =>
              rw [es] at hw z1
              cases y with
              | v y =>
                cases y with
                | d d =>
                  have : x = .d d := by unfold at_ at e; rw [es] at e; cases e; rfl
                  subst this
                  rw [h2.dnil] at m; cases m
                | l _ => cases hw
              | w y => exact absurd rfl z1
              | n => cases hw
              | b y => cases hw
          · exact a.ok.dis j i c hj z1 z2 m
        · exact (a.stp.subA c (.inl ⟨i, m⟩)).elim id fun z => absurd z (h2.there c m)
  · exact q.elim
/-! ### while -/
def whE (c : En → RM Bool) (f : En → SR) : Nat → En → SR
  | 0, _ => .no
  | n + 1, en => (c en).s fun b en1 => if b = true then match f en1 with
      | .nx en2 => whE c f n en2
      | .ct en2 => whE c f n en2
      | .brk en2 => .nx en2
      | r => r
    else .nx en1
def fWh (μ : En → Nat) (c : En → RM Bool) (f : En → SR) : En → SR := fun en => whE c f (μ en) en
theorem s_while (μ : En → Nat) {body : List Stmt} (cz : Cz X W) (hc : PMT X W c mc) (hb : PBl X W body f) : PSt X W (.While c body [] pos) (fWh μ mc f) := by
  obtain ⟨t, p, s⟩ := hc
  obtain ⟨t2, p2, s2⟩ := hb
  refine ⟨_, ps_while cz.hp p p2, fun σ H en Fs D ok q => ?_⟩
  refine ⟨fun n σ1 H1 => ∃ en1 Fs1, Aft X.K H Fs σ en H1 Fs1 σ1 en1 [] ∧ SQ X W H Fs σ en D (whE mc f n en1), ⟨μ en, en, Fs, .refl ok, q⟩, ?_⟩
  rintro n σ1 H1 ⟨en1, Fs1, a, q⟩
  refine s σ1 H1 en1 Fs1 _ a.ok ?_
  cases n with
  | zero => exact q.elim
  | succ n =>
    unfold whE at q
    cases e : mc en1 with
    | ok b en2 =>
      rw [e] at q
      simp only [RM.s_ok] at q
      intro H2 Fs2 a2
      have a12 := a.trans a2
      cases b with
      | false => exact iteF (q H2 Fs2 σ1 a12)
      | true =>
        refine iteT ⟨fun σ' H' => ∃ en' Fs', Aft X.K H Fs σ en H' Fs' σ' en' [] ∧ SQ X W H Fs σ en D (whE mc f n en'), fun σ' H' h => ⟨n, Nat.lt_succ_self n, h⟩, s2 σ1 H2 en2 Fs2 _ a2.ok ?_⟩
        simp only [if_true] at q
        cases ef : f en2 with
        | nx en' => rw [ef] at q; exact fun H4 Fs4 σ4 b => ⟨en', Fs4, a12.trans b, q⟩
        | ct en' => rw [ef] at q; exact fun H4 Fs4 σ4 b => ⟨en', Fs4, a12.trans b, q⟩
        | brk en' => rw [ef] at q; exact fun H4 Fs4 σ4 b => q H4 Fs4 σ4 (a12.trans b)
        | ret x en' => rw [ef] at q; exact fun v H4 Fs4 σ4 G b o => q v H4 Fs4 σ4 G (a12.trans b) o
        | ex c en' => rw [ef] at q; exact fun cls dx H4 Fs4 σ4 b i => q cls dx H4 Fs4 σ4 (a12.trans b) i
        | no => rw [ef] at q; exact q.elim
    | ex c en' => rw [e] at q; exact fun cls dx H' Fs' σ' b i => q cls dx H' Fs' σ' (a.trans b) i
    | no => rw [e] at q; exact q
end
end Z
/-! Z: expressions that change the frame's lists; lists changed by their methods. -/
namespace Z
open PySem PySem.Spec L2
open PyProof.Rows hiding St

section
variable {X : Cx} {W : WX} {e a b c : Expr} {es : List Expr} {pos : Pos} {m ma mb : En → RM T} {ms : En → RM (List T)} {mc : En → RM Bool}
/-- a name's thing is given away; a datum stays there too -/
def mName (i : Nat) : En → RM T := fun en => match en[i]? with
  | some (.v (.l xs)) => .ok (.l xs) (en.set i .n)
  | some s => match s.get with
    | some (.d d) => .ok (.d d) en
    | _ => .no
  | none => .no
theorem Aft.take {K : PySem.W.Frag} {H : Hp} {Fs : Ft} {σ : L2.St} {en : En} {i : Nat} {xs : List T} (ok : EOk K H σ en Fs) (e : en[i]? = some (.v (.l xs))) : Aft K H Fs σ en H (updF Fs i []) σ (en.set i .n) (Fs i) := by
  obtain ⟨hl, _⟩ := List.getElem?_eq_some_iff.mp e
  have oi : ownAt en i ≠ none := by unfold ownAt; rw [e]; exact fun z => by cases z
  have own : ∀ j, ownAt (en.set i .n) j ≠ none → j ≠ i ∧ ownAt en j ≠ none := fun j h => by
    by_cases hj : j = i
    · subst hj; unfold ownAt at h; rw [List.getElem?_set_self hl] at h; exact absurd rfl h
    · rw [ownAt_set hj] at h; exact ⟨hj, h⟩
  refine ⟨⟨by rw [List.length_set]; exact ok.len, fun j y h => ?_, fun j h => ?_, fun j l c ne h m => ?_, fun j h => ?_⟩, ok.nod i oi, fun c m z => ?_, ⟨Pst.refl H, fun _ _ e _ => e, fun _ e => e, fun c m => ?_, fun c m => ?_⟩, fun j y h => ?_⟩
  · by_cases hj : j = i
    · subst hj; rw [at_set_same hl] at h; cases h
    · rw [at_set hj] at h; rw [updF_ne hj]; exact ok.has j y h
  · obtain ⟨hj, h⟩ := own j h; rw [updF_ne hj]; exact ok.nod j h
  · obtain ⟨hj, h⟩ := own j h
    rw [updF_ne hj] at m
    by_cases hl : l = i
    · rw [hl, updF_same]; exact List.not_mem_nil
    · rw [updF_ne hl]; exact ok.dis j l c ne h m
  · by_cases hj : j = i
    · rw [hj, updF_same]
    · rw [at_set hj] at h; rw [updF_ne hj]; exact ok.emp j h
  · obtain ⟨j, z⟩ := z
    by_cases hj : j = i
    · rw [hj, updF_same] at z; cases z
    · rw [updF_ne hj] at z; exact ok.dis i j c (Ne.symm hj) oi m z
  · rcases m with ⟨j, h, m⟩ | m
    · obtain ⟨hj, h⟩ := own j h; rw [updF_ne hj] at m; exact .inl ⟨j, h, m⟩
    · exact .inl ⟨i, oi, m⟩
  · rcases m with ⟨j, m⟩ | m
    · by_cases hj : j = i
      · rw [hj, updF_same] at m; cases m
      · rw [updF_ne hj] at m; exact .inl ⟨j, m⟩
    · exact .inl ⟨i, m⟩
  · by_cases hj : j = i
    · subst hj; rw [List.getElem?_set_self hl] at h; cases h
    · rw [List.getElem?_set_ne (Ne.symm hj)] at h; exact ⟨⟨y, h⟩, rfl⟩
theorem m_name (i : Nat) {x : Str} {p : Pos} (hN : X.N[i]? = some x := by rfl) (hv : Vis X.env.scope x := by first | exact Or.inl rfl | exact Or.inr (Or.inl rfl) | exact Or.inr (Or.inr rfl)) (hd : (x == ("__debug__" : Str)) = false := by decide)
    (hcd : (x == ("__classdict__" : Str)) = false := by decide) : PM X W (.Name x p) (mName i) := by
  refine ⟨_, pe_var hN hv hd hcd, fun σ H en Fs Q ok q => ?_⟩
  have data : ∀ d, at_ en i = some (.d d) → (MQ X W H Fs σ en Q (.ok (.d d) en)) → tVar i σ H Q := fun d h q => by
    obtain ⟨v, h1, h2⟩ := ok.has i _ h
    exact ⟨v, h1, q v H Fs [] (.refl ok) (.d h2.rep)⟩
  unfold mName at q
  cases e : en[i]? with
  | none => rw [e] at q; exact q.elim
  | some s =>
    rw [e] at q
    cases s with
    | v x =>
      cases x with
      | d d => exact data d (by unfold at_; rw [e]; rfl) q
      | l xs =>
        obtain ⟨v, h1, h2⟩ := ok.has i (.l xs) (by unfold at_; rw [e]; rfl)
        exact ⟨v, h1, q v H _ _ (.take ok e) h2⟩
    | n => exact q.elim
    | w x => cases x with
      | d d => exact data d (by unfold at_; rw [e]; rfl) q
      | l xs => exact q.elim
    | b x => cases x with
      | d d => exact data d (by unfold at_; rw [e]; rfl) q
      | l xs => exact q.elim
/-! ### of two -/
def m2 (f : T → T → Option T) (ma mb : En → RM T) : En → RM T := fun en => (ma en).bind fun x en1 => (mb en1).bind fun y en2 => RM.of (R.of (f x y)) en2
theorem XM.after {H H1 : Hp} {Fs Fs1 : Ft} {σ σ1 : L2.St} {en en1 en' : En} {c : Exc} {G : List Addr} (a : Aft X.K H Fs σ en H1 Fs1 σ1 en1 G) (q : XM X W H Fs σ en c en') : XM X W H1 Fs1 σ1 en1 c en' := fun cls dx H' Fs' σ' b i => q cls dx H' Fs' σ' (a.drop.trans b) i
theorem Own.here {K : PySem.W.Frag} {H : Hp} {v : V} {x : T} {F : List Addr} (o : Own K H v x F) : ∀ c ∈ F, H c ≠ none := o.there
theorem spM2 {r : R2} {f : T → T → Option T} {ta tb : TE} (q2 : Q2 X.K r f) (sa : SpM X W ma ta) (sb : SpM X W mb tb) : SpM X W (m2 f ma mb) (tOp r ta tb) := by
  intro σ H en Fs Q ok q
  refine sa σ H en Fs _ ok ?_
  unfold m2 at q
  cases ea : ma en with
  | ok x en1 =>
    rw [ea] at q
    simp only [RM.bind_ok] at q
    intro v1 H1 Fs1 G1 a1 o1
    refine sb σ H1 en1 Fs1 _ a1.ok ?_
    cases eb : mb en1 with
    | ok y en2 =>
      rw [eb] at q
      simp only [RM.bind_ok] at q
      intro v2 H2 Fs2 G2 a2 o2
      cases ef : f x y with
      | none => rw [ef] at q; exact q.elim
      | some z =>
        rw [ef] at q
        have o1' := (a2.stp.frame (fun _ z => z.a) o1 a1.dis).1
        exact q2 H2 x y z v1 v2 G1 G2 Q o1' o2 ef fun v H' G s o fr => q v H' Fs2 G ((a1.drop.trans a2).fin s fr) o
    | ex c en2 => rw [eb] at q; exact XM.after (W := W) a1 q
    | no => rw [eb] at q; exact q
  | ex c en1 => rw [ea] at q; exact q
  | no => rw [ea] at q; exact q
theorem m_bin {op : Operator} {f : T → T → Option T} (o : Bn X op f) (ha : PM X W a ma) (hb : PM X W b mb) : PM X W (.BinOp a op b pos) (m2 f ma mb) := by
  obtain ⟨r, ho, q⟩ := o.p
  obtain ⟨ta, pa, sa⟩ := ha
  obtain ⟨tb, pb, sb⟩ := hb
  exact ⟨_, pe_op ho pa pb, spM2 q sa sb⟩
theorem m_cmp {op : CmpOp} {f : T → T → Option T} (o : Cm X op f) (ha : PM X W a ma) (hb : PM X W b mb) (hm : behindInMarks op b = false := by first | exact nomark _ | with_unfolding_all rfl) : PM X W (.Compare a [op] [b] pos) (m2 f ma mb) := by
  obtain ⟨r, ho, q⟩ := o.p
  obtain ⟨ta, pa, sa⟩ := ha
  obtain ⟨tb, pb, sb⟩ := hb
  exact ⟨_, pe_cmpR ho pa pb hm, spM2 q sa sb⟩
def mT (m : En → RM T) : En → RM Bool := fun en => (m en).bind fun x en' => RM.of (R.of (tst x)) en'
theorem mc_cmp {op : CmpOp} {f : T → T → Option T} (o : Cm X op f) (ha : PM X W a ma) (hb : PM X W b mb) (hm : behindInMarks op b = false := by first | exact nomark _ | with_unfolding_all rfl) : PMT X W (.Compare a [op] [b] pos) (mT (m2 f ma mb)) := by
  obtain ⟨r, ho, q⟩ := o.p
  obtain ⟨ta, pa, sa⟩ := ha
  obtain ⟨tb, pb, sb⟩ := hb
  refine ⟨_, pt_cmpR ho pa pb hm, fun σ H en Fs Q ok h => spM2 q sa sb σ H en Fs _ ok ?_⟩
  unfold mT at h
  cases e : m2 f ma mb en with
  | ok x en' =>
    rw [e] at h
    simp only [RM.bind_ok] at h
    intro v H' Fs' G a o
    cases x with
    | l xs => exact h.elim
    | d d =>
      cases d with
      | bl k => have r := o.rep; cases r; exact ⟨k, rfl, h H' Fs' a.drop⟩
      | _ => exact h.elim
  | ex c en' => rw [e] at h; exact h
  | no => rw [e] at h; exact h
def mTru (m : En → RM T) : En → RM Bool := fun en => (m en).bind fun x en' => RM.of (R.of (tru x)) en'
theorem mc_truth (ha : PM X W a m) (he : ∀ whole, isTrue a X.env whole = (do let v ← whole; standAt a.pos; holding [v] (truthy v)) := by intro _; rfl) : PMT X W a (mTru m) := by
  obtain ⟨t, p, s⟩ := ha
  refine ⟨_, pt_truth p he, fun σ H en Fs Q ok q => s σ H en Fs _ ok ?_⟩
  unfold mTru at q
  cases e : m en with
  | ok x en' =>
    rw [e] at q
    intro v H' Fs' G a o
    cases ek : tru x with
    | none => simp only [RM.bind_ok, ek, R.of_none] at q; exact q.elim
    | some k =>
      simp only [RM.bind_ok, ek, R.of_some] at q
      exact ⟨k, tru_is o ek, q H' Fs' a.drop⟩
  | ex c en' => rw [e] at q; exact q
  | no => rw [e] at q; exact q
def mNot (m : En → RM Bool) : En → RM Bool := fun en => (m en).bind fun b en' => .ok (!b) en'
theorem mc_not (ha : PMT X W a mc) : PMT X W (.UnaryOp .Not a pos) (mNot mc) := by
  obtain ⟨t, p, s⟩ := ha
  refine ⟨_, pt_not p, fun σ H en Fs Q ok q => s σ H en Fs _ ok ?_⟩
  unfold mNot at q
  cases e : mc en with
  | ok x en' => rw [e] at q; exact q
  | ex c en' => rw [e] at q; exact q
  | no => rw [e] at q; exact q
/-! ### items -/
def mIx (ma mb : En → RM T) : En → RM T := fun en => (ma en).bind fun x en1 => (mb en1).bind fun y en2 => RM.of (R.of (fIx x y)).pur en2
theorem pur_ok {r : R T} {x : T} (h : r.pur = .ok x) : ∃ d, x = .d d ∧ r = .ok (.d d) := by
  cases r with
  | ok y => cases y with
    | d d => cases h; exact ⟨d, rfl, rfl⟩
    | l _ => cases h
  | ex c => cases h
  | no => cases h
theorem m_ix (ha : PM X W a ma) (hb : PM X W b mb) (hs : PlainIx b := by exact fun _ _ => rfl) : PM X W (.Subscript a b pos) (mIx ma mb) := by
  obtain ⟨ta, pa, sa⟩ := ha
  obtain ⟨tb, pb, sb⟩ := hb
  refine ⟨_, pe_ix ix_seq pa pb hs, ?_⟩
  intro σ H en Fs Q ok q
  refine sa σ H en Fs _ ok ?_
  unfold mIx at q
  cases ea : ma en with
  | ok x en1 =>
    rw [ea] at q
    simp only [RM.bind_ok] at q
    intro v1 H1 Fs1 G1 a1 o1
    refine sb σ H1 en1 Fs1 _ a1.ok ?_
    cases eb : mb en1 with
    | ok y en2 =>
      rw [eb] at q
      simp only [RM.bind_ok] at q
      intro v2 H2 Fs2 G2 a2 o2
      cases ef : (R.of (fIx x y)).pur with
      | ok z =>
        rw [ef] at q
        obtain ⟨d, rfl, e2⟩ := pur_ok ef
        cases e3 : fIx x y with
        | none => rw [e3] at e2; cases e2
        | some z =>
          rw [e3] at e2; cases e2
          have o1' := (a2.stp.frame (fun _ z => z.a) o1 a1.dis).1
          exact q_ix H2 x y _ v1 v2 G1 G2 Q o1' o2 e3 fun v H' G s o => q v H' Fs2 [] ((a1.drop.trans a2).fin s Fresh.nil) (.d o.rep)
      | ex c => rw [ef] at q; exact False.elim (by
          cases e3 : fIx x y with
          | none => rw [e3] at ef; cases ef
          | some z => rw [e3] at ef; cases z <;> cases ef)
      | no => rw [ef] at q; exact q.elim
    | ex c en2 => rw [eb] at q; exact XM.after (W := W) a1 q
    | no => rw [eb] at q; exact q
  | ex c en1 => rw [ea] at q; exact q
  | no => rw [ea] at q; exact q
/-- name[index], the name's thing as it stands behind the index -/
def mIxN (i : Nat) (mb : En → RM T) : En → RM T := fun en => (mb en).bind fun y en2 => RM.of ((R.of (at_ en2 i)).bind fun x => (R.of (fIx x y)).pur) en2
theorem m_ixN (i : Nat) {x : Str} {p : Pos} (hb : PM X W b mb) (hN : X.N[i]? = some x := by rfl) (hv : Vis X.env.scope x := by first | exact Or.inl rfl | exact Or.inr (Or.inl rfl) | exact Or.inr (Or.inr rfl)) (hs : PlainIx b := by exact fun _ _ => rfl) (hd : (x == ("__debug__" : Str)) = false := by decide)
    (hcd : (x == ("__classdict__" : Str)) = false := by decide) (hst : ∀ en, (∃ y en2, mb en = .ok y en2) → ∀ z, at_ en i = some z → True := by intros; trivial) : PM X W (.Subscript (.Name x p) b pos) (fun en => if (at_ en i).isSome then mIxN i mb en else .no) := by
  obtain ⟨tb, pb, sb⟩ := hb
  refine ⟨_, pe_ix ix_seq (pe_var hN hv hd hcd) pb hs, ?_⟩
  intro σ H en Fs Q ok q
  simp only at q
  split at q
  · rename_i hsome
    cases e0 : at_ en i with
    | none => rw [e0] at hsome; cases hsome
    | some x0 =>
      obtain ⟨v0, h0, _⟩ := ok.has i x0 e0
      refine ⟨v0, h0, sb σ H en Fs _ ok ?_⟩
      unfold mIxN at q
      cases eb : mb en with
      | ok y en2 =>
        rw [eb] at q
        simp only [RM.bind_ok] at q
        intro v2 H2 Fs2 G2 a2 o2
        cases e1 : at_ en2 i with
        | none => rw [e1] at q; exact q.elim
        | some x1 =>
          rw [e1] at q
          simp only [R.of_some, R.bind_ok] at q
          obtain ⟨v1, h1, o1⟩ := a2.ok.has i x1 e1
          rw [h0] at h1; cases h1
          cases ef : (R.of (fIx x1 y)).pur with
          | ok z =>
            rw [ef] at q
            obtain ⟨d, rfl, e2⟩ := pur_ok ef
            cases e3 : fIx x1 y with
            | none => rw [e3] at e2; cases e2
            | some z =>
              rw [e3] at e2; cases e2
              exact q_ix H2 x1 y _ v0 v2 _ G2 Q o1 o2 e3 fun v H' G s o => q v H' Fs2 [] (a2.fin s Fresh.nil) (.d o.rep)
          | ex c => rw [ef] at q; exact False.elim (by
              cases e3 : fIx x1 y with
              | none => rw [e3] at ef; cases ef
              | some z => rw [e3] at ef; cases z <;> cases ef)
          | no => rw [ef] at q; exact q.elim
      | ex c en2 => rw [eb] at q; exact q
      | no => rw [eb] at q; exact q
  · exact q.elim
/-! ### arguments -/
def mNil : En → RM (List T) := fun en => .ok [] en
def mCons (m : En → RM T) (ms : En → RM (List T)) : En → RM (List T) := fun en => (m en).bind fun x en1 => (ms en1).bind fun xs en2 => .ok (x :: xs) en2
theorem ma_nil : PMA X W [] mNil := ⟨_, pa_nil, fun σ H en Fs Q ok q => q [] H Fs [] (.refl ok) .nil⟩
theorem ma_cons (ha : PM X W a m) (hr : PMA X W es ms) (hs : starEach (a :: es) X.env = (false, eval a X.env) :: starEach es X.env := by rfl) : PMA X W (a :: es) (mCons m ms) := by
  obtain ⟨t, p, s⟩ := ha
  obtain ⟨t2, p2, s2⟩ := hr
  refine ⟨_, pa_cons p p2 hs, fun σ H en Fs Q ok q => s σ H en Fs _ ok ?_⟩
  unfold mCons at q
  cases e : m en with
  | ok x en1 =>
    rw [e] at q
    simp only [RM.bind_ok] at q
    intro v H' Fs' G a o
    refine s2 σ H' en1 Fs' _ a.ok ?_
    cases e2 : ms en1 with
    | ok xs en2 =>
      rw [e2] at q
      exact fun vs H2 Fs2 G2 a2 o2 => q (v :: vs) H2 Fs2 (G ++ G2) (a.held o.there a2) (.cons (a2.stp.frame (fun _ z => z.a) o a.dis).1 o2)
    | ex c en2 => rw [e2] at q; exact XM.after (W := W) a q
    | no => rw [e2] at q; exact q
  | ex c en1 => rw [e] at q; exact q
  | no => rw [e] at q; exact q
def mOf (f : List T → R T) (ms : En → RM (List T)) : En → RM T := fun en => (ms en).bind fun xs en' => RM.of (f xs) en'
theorem m_tup {k} (ha : PMA X W es ms) : PM X W (.Tuple es k pos) (mOf mkTup ms) := by
  obtain ⟨t, p, s⟩ := ha
  refine ⟨_, pe_tup p, fun σ H en Fs Q ok q => s σ H en Fs _ ok ?_⟩
  unfold mOf at q
  cases e : ms en with
  | ok xs en1 =>
    rw [e] at q
    simp only [RM.bind_ok, mkTup] at q
    intro vs H' Fs' G a w
    cases ea : allD xs with
    | none => rw [ea] at q; exact q.elim
    | some ds =>
      rw [ea] at q
      have e1 := allD_eq ea
      subst e1
      have rr := w.data.1
      simp only at q
      split at q
      · rename_i hz
        refine ⟨by rw [most_eq, rr.length]; exact hz, fun p np => ?_⟩
        exact q _ _ Fs' [] (a.fin (same_new np) Fresh.nil) (.d (.tup (SqT.of upd_same) (rr.mono (.of (same_new np)))))
      · exact q.elim
  | ex c en1 => rw [e] at q; exact q
  | no => rw [e] at q; exact q
theorem m_lst (ha : PMA X W es ms) : PM X W (.List es pos) (mOf mkLst ms) := by
  obtain ⟨t, p, s⟩ := ha
  refine ⟨_, pe_lst p, fun σ H en Fs Q ok q => s σ H en Fs _ ok ?_⟩
  unfold mOf at q
  cases e : ms en with
  | ok xs en1 =>
    rw [e] at q
    simp only [RM.bind_ok, mkLst] at q
    intro vs H' Fs' G a w
    split at q
    · rename_i hz
      refine ⟨by rw [most_eq, w.length]; exact hz, fun p np => ?_⟩
      have b : Aft X.K H' Fs' σ en1 (upd H' p (.lst vs)) Fs' σ en1 [p] := .quiet a.ok (same_new np) (fresh1 np)
      have h := a.held w.there b
      have h2 : Aft X.K H Fs σ en (upd H' p (.lst vs)) Fs' σ en1 (p :: G) := ⟨h.ok, by
          have := h.nod
          exact (List.perm_append_comm (l₁ := G) (l₂ := [p])).nodup_iff.mp this, fun c m => h.dis c (by simp only [List.mem_append, List.mem_cons, List.not_mem_nil, or_false] at m ⊢; exact m.symm), h.stp.imp (fun c z => z.imp id fun m => by simp only [List.mem_append, List.mem_cons, List.not_mem_nil, or_false] at m ⊢; exact m.symm) (fun c z => z.imp id fun m => by simp only [List.mem_append, List.mem_cons, List.not_mem_nil, or_false] at m ⊢; exact m.symm), h.bk⟩
      exact q _ _ Fs' (p :: G) h2 (.l upd_same (w.mono (same_new np)))
    · exact q.elim
  | ex c en1 => rw [e] at q; exact q
  | no => rw [e] at q; exact q
def rOf (f : List T → Option T) : List T → R T := fun xs => R.of (f xs)
theorem spMB {r : List V → Hp → VK → Prop} {f : List T → Option T} {t : TA} (q2 : QL X.K r f) (s : SpMA X W ms t) : SpM X W (mOf (rOf f) ms) (tCB r t) := by
  intro σ H en Fs Q ok q
  refine s σ H en Fs _ ok ?_
  unfold mOf rOf at q
  cases e : ms en with
  | ok xs en1 =>
    rw [e] at q
    simp only [RM.bind_ok] at q
    intro vs H' Fs' G a w
    cases ef : f xs with
    | none => rw [ef] at q; exact q.elim
    | some z =>
      rw [ef] at q
      exact q2 H' xs vs z Q w.vws ef fun v H2 G2 s2 o fr => q v H2 Fs' G2 (a.fin s2 fr) o
  | ex c en1 => rw [e] at q; exact q
  | no => rw [e] at q; exact q
theorem m_callB {x id : String} {f : List T → Option T} {p : Pos} (o : Bf X (.builtin id) f) (hv : bootBuiltins x = some (.builtin id)) (hm : X.mg x = none) (ha : PMA X W (a :: es) ms) (hg : Gl X x := by rfl) (hn : (Str.ofString x) ≠ "__name__" := by decide) (hdb : ((Str.ofString x) == ("__debug__" : Str)) = false := by decide)
    (he : starEach (a :: es) X.env = (false, eval a X.env) :: starEach es X.env := by rfl) (hpl : (backTo pos (starEach es X.env)).any (·.1) = false := by rfl) : PM X W (.Call (.Name x p) (a :: es) [] pos) (mOf (rOf f) ms) := by
  obtain ⟨r, hc, q⟩ := o.p
  obtain ⟨t, pa, s⟩ := ha
  exact ⟨_, pe_callB hc hg hm hv pa hn hdb he hpl, spMB q s⟩
theorem m_callT {x Ty : String} {f : List T → Option T} {p : Pos} (o : Bf X (.type Ty) f) (hv : bootBuiltins x = some (.type Ty)) (hm : X.mg x = none) (ha : PMA X W (a :: es) ms) (hg : Gl X x := by rfl) (hn : (Str.ofString x) ≠ "__name__" := by decide) (hdb : ((Str.ofString x) == ("__debug__" : Str)) = false := by decide)
    (he : starEach (a :: es) X.env = (false, eval a X.env) :: starEach es X.env := by rfl) (hpl : (backTo pos (starEach es X.env)).any (·.1) = false := by rfl) : PM X W (.Call (.Name x p) (a :: es) [] pos) (mOf (rOf f) ms) := by
  obtain ⟨r, hc, q⟩ := o.p
  obtain ⟨t, pa, s⟩ := ha
  exact ⟨_, pe_callTy hc hg hm hv pa hn hdb he hpl, spMB q s⟩
/-- a def that changes nothing, its arguments our own -/
theorem m_call {x : Str} {k : Nat} {F : List T → R T} {p : Pos} (f : FnP X.prog X.w X.K X.mg X.base x k F) (tk : Takes X W) (hr : Room k X.A) (ha : PMA X W (a :: es) ms) (hg : Gl X x := by rfl)
    (hdb : (x == ("__debug__" : Str)) = false := by decide) (he : starEach (a :: es) X.env = (false, eval a X.env) :: starEach es X.env := by rfl) (hpl : (backTo pos (starEach es X.env)).any (·.1) = false := by rfl) : PM X W (.Call (.Name x p) (a :: es) [] pos) (mOf F ms) := by
  obtain ⟨f, fd, ps, ok, hm, hk, hb⟩ := f.ex
  obtain ⟨t, pa, s⟩ := ha
  refine ⟨_, pe_callS (E := WE W) ok hr hg hm hk hb (fun σ => passAt tk σ) pa hdb he hpl, fun σ H en Fs Q ok q => s σ H en Fs _ ok ?_⟩
  unfold mOf at q
  cases e : ms en with
  | ok xs en1 =>
    rw [e] at q
    simp only [RM.bind_ok] at q
    intro vs H' Fs' G a w
    refine ⟨xs, w.vws, ?_⟩
    cases ef : F xs with
    | ok r => rw [ef] at q; exact fun v H2 G2 s2 o fr => q v H2 Fs' G2 (a.fin s2 fr) o
    | ex c => rw [ef] at q; exact fun cls dx H2 s2 i => q cls dx H2 Fs' σ (a.fin s2 Fresh.nil) i
    | no => rw [ef] at q; exact q
  | ex c en1 => rw [e] at q; exact q
  | no => rw [e] at q; exact q
end
end Z
/-! Z: lists changed in their place. -/
namespace Z
open PySem PySem.Spec L2
open PyProof.Rows hiding St

def setO (en : En) (i : Nat) (x : T) : En := match en[i]? with
  | some (.b _) => en.set i (.b x)
  | _ => en.set i (.v x)
theorem own_lt {en : En} {i : Nat} {x : T} (h : ownAt en i = some x) : i < en.length := by
  unfold ownAt at h
  cases e : en[i]? with
  | none => rw [e] at h; cases h
  | some s => exact (List.getElem?_eq_some_iff.mp e).1
theorem setO_own {en : En} {i : Nat} {x y : T} (h : ownAt en i = some y) : ownAt (setO en i x) i = some x := by
  have hl := own_lt h
  unfold setO
  cases e : en[i]? with
  | none => unfold ownAt at h; rw [e] at h; cases h
  | some s => cases s <;> (simp only; unfold ownAt; rw [List.getElem?_set_self hl])
theorem setO_ne {en : En} {i j : Nat} {x : T} (h : j ≠ i) : (setO en i x)[j]? = en[j]? := by
  unfold setO
  cases e : en[i]? with
  | none => simp only; rw [List.getElem?_set_ne (Ne.symm h)]
  | some s => cases s <;> (simp only; rw [List.getElem?_set_ne (Ne.symm h)])
theorem setO_len {en : En} {i : Nat} {x : T} : (setO en i x).length = en.length := by
  unfold setO
  cases e : en[i]? with
  | none => simp only; rw [List.length_set]
  | some s => cases s <;> (simp only; rw [List.length_set])
theorem setO_own_ne {en : En} {i j : Nat} {x : T} (h : j ≠ i) : ownAt (setO en i x) j = ownAt en j := by unfold ownAt; rw [setO_ne h]
theorem setO_at_ne {en : En} {i j : Nat} {x : T} (h : j ≠ i) : at_ (setO en i x) j = at_ en j := by unfold at_; rw [setO_ne h]
theorem Own.lst {K : PySem.W.Frag} {H : Hp} {v : V} {xs : List T} {F : List Addr} (h : Own K H v (.l xs) F) : ∃ a vs F', v = .ref a ∧ H a = some (.lst vs) ∧ Owns K H vs xs F' ∧ F = a :: F' := by
  cases h with
  | l h o => exact ⟨_, _, _, rfl, h, o, rfl⟩
theorem pst_upd {H : Hp} {a : Addr} {vs ws : List V} (h : H a = some (.lst vs)) : Pst H (upd H a (.lst ws)) := ⟨fun b us e => by
  by_cases hb : b = a
  · rw [hb, h] at e; cases e
  · rw [upd_ne hb]; exact e, fun b ob u e => by
  by_cases hb : b = a
  · rw [hb, h] at e; cases e
  · rw [upd_ne hb]; exact e⟩
/-- a list of ours has other items -/
theorem Aft.mut {K : PySem.W.Frag} {H0 H : Hp} {Fs0 Fs : Ft} {σ0 σ : L2.St} {en0 en : En} {G G' F F' : List Addr} {i : Nat} {xs xs' : List T} {vs vs' : List V} {a : Addr} (A : Aft K H0 Fs0 σ0 en0 H Fs σ en G) (e : ownAt en i = some (.l xs)) (hσ : σ[i]? = some (some (.ref a)))
    (ha : H a = some (.lst vs)) (hF : Fs i = a :: F) (o : Owns K H vs' xs' F') (nd : (F' ++ G').Nodup) (sub : ∀ c ∈ F' ++ G', c ∈ F ∨ c ∈ G) : Aft K H0 Fs0 σ0 en0 (upd H a (.lst vs')) (updF Fs i (a :: F')) σ (setO en i (.l xs')) G' := by
  have oi : ownAt en i ≠ none := by rw [e]; exact fun z => by cases z
  have ai : a ∈ Fs i := by rw [hF]; exact List.mem_cons_self
  have ndi := A.ok.nod i oi
  rw [hF] at ndi
  have aF : a ∉ F := (List.nodup_cons.mp ndi).1
  have aG : a ∉ G := fun m => A.dis a m ⟨i, ai⟩
  have aS : ∀ c ∈ F' ++ G', c ≠ a := fun c m z => (sub c m).elim (fun y => aF (z ▸ y)) fun y => aG (z ▸ y)
  have Fi : ∀ {c}, c ∈ F → c ∈ Fs i := fun {c} m => by rw [hF]; exact List.mem_cons_of_mem _ m
  have p := pst_upd (ws := vs') ha
  have nj : ∀ {j c}, j ≠ i → c ∈ F' ++ G' → c ∉ Fs j := fun {j c} hj m z => (sub c m).elim (fun y => A.ok.dis i j c (Ne.symm hj) oi (Fi y) z) fun y => A.dis c y ⟨j, z⟩
  have aj : ∀ {j}, j ≠ i → a ∉ Fs j := fun {j} hj z => A.ok.dis i j a (Ne.symm hj) oi ai z
  have own : ∀ j, ownAt (setO en i (.l xs')) j ≠ none → ownAt en j ≠ none := fun j h => by
    by_cases hj : j = i
    · rw [hj]; exact oi
    · rwa [setO_own_ne hj] at h
  have F'l : ∀ c ∈ F', c ∈ F' ++ G' := fun c m => List.mem_append_left _ m
  refine ⟨⟨by rw [setO_len]; exact A.ok.len, fun j y h => ?_, fun j h => ?_, fun j l c ne h m => ?_, fun j h => ?_⟩, (List.nodup_append.mp nd).2.1, fun c m z => ?_, ⟨A.stp.pst.trans p, fun c ob e n => ?_, fun c e => ?_, fun c m => ?_, fun c m => ?_⟩, fun j y h => ?_⟩
  · by_cases hj : j = i
    · subst hj
      rw [own_at (setO_own e)] at h; cases h
      exact ⟨_, hσ, by rw [updF_same]; exact .l upd_same (o.frame p fun c m ob e => by rw [upd_ne (aS c (F'l c m))]; exact e)⟩
    · rw [setO_at_ne hj] at h
      obtain ⟨v, h1, h2⟩ := A.ok.has j y h
      have h3 : Own K (upd H a (.lst vs')) v y (Fs j) := h2.frame p fun c m ob e => by
        have hc : c ≠ a := fun z => aj hj (by rw [← z]; exact m)
        rw [upd_ne hc]; exact e
      exact ⟨v, h1, by rw [updF_ne hj]; exact h3⟩
  · by_cases hj : j = i
    · rw [hj, updF_same]; exact List.nodup_cons.mpr ⟨fun m => aS a (F'l a m) rfl, (List.nodup_append.mp nd).1⟩
    · rw [updF_ne hj]; exact A.ok.nod j (own j h)
  · by_cases hj : j = i
    · rw [hj, updF_same] at m
      rw [updF_ne (by rw [← hj]; exact Ne.symm ne)]
      have hl : l ≠ i := by rw [← hj]; exact Ne.symm ne
      rcases List.mem_cons.mp m with rfl | m
      · exact aj hl
      · exact nj hl (F'l c m)
    · rw [updF_ne hj] at m
      by_cases hl : l = i
      · rw [hl, updF_same]
        intro z
        rcases List.mem_cons.mp z with rfl | z
        · exact aj hj m
        · exact nj hj (F'l c z) m
      · rw [updF_ne hl]; exact A.ok.dis j l c ne (own j h) m
  · by_cases hj : j = i
    · rw [hj, own_at (setO_own e)] at h; cases h
    · rw [updF_ne hj]; rw [setO_at_ne hj] at h; exact A.ok.emp j h
  · obtain ⟨j, z⟩ := z
    by_cases hj : j = i
    · rw [hj, updF_same] at z
      rcases List.mem_cons.mp z with rfl | z
      · exact aS _ (List.mem_append_right _ m) rfl
      · exact (List.nodup_append.mp nd).2.2 c z c m rfl
    · rw [updF_ne hj] at z; exact nj hj (List.mem_append_right _ m) z
  · have hc : c ≠ a := fun z => (A.stp.subO a (.inl ⟨i, oi, ai⟩)).elim (fun y => n (z ▸ y)) fun y => by rw [z, y] at e; cases e
    rw [upd_ne hc]; exact A.stp.keep c ob e n
  · by_cases hc : c = a
    · rw [hc, upd_same] at e; cases e
    · rw [upd_ne hc] at e; exact A.stp.dom c e
  · have back : ∀ c ∈ F' ++ G', InO en Fs c ∨ c ∈ G := fun c m => (sub c m).imp (fun y => ⟨i, oi, Fi y⟩) id
    rcases m with ⟨j, h, m⟩ | m
    · by_cases hj : j = i
      · rw [hj, updF_same] at m
        rcases List.mem_cons.mp m with rfl | m
        · exact A.stp.subO _ (.inl ⟨i, oi, ai⟩)
        · exact A.stp.subO c (back c (F'l c m))
      · rw [updF_ne hj] at m; exact A.stp.subO c (.inl ⟨j, own j h, m⟩)
    · exact A.stp.subO c (back c (List.mem_append_right _ m))
  · have back : ∀ c ∈ F' ++ G', InF Fs c ∨ c ∈ G := fun c m => (sub c m).imp (fun y => ⟨i, Fi y⟩) id
    rcases m with ⟨j, m⟩ | m
    · by_cases hj : j = i
      · rw [hj, updF_same] at m
        rcases List.mem_cons.mp m with rfl | m
        · exact A.stp.subA _ (.inl ⟨i, ai⟩)
        · exact A.stp.subA c (back c (F'l c m))
      · rw [updF_ne hj] at m; exact A.stp.subA c (.inl ⟨j, m⟩)
    · exact A.stp.subA c (back c (List.mem_append_right _ m))
  · by_cases hj : j = i
    · subst hj
      unfold setO at h
      cases es : en[j]? with
      | none => unfold ownAt at e; rw [es] at e; cases e
      | some s =>
        rw [es] at h
        cases s with
        | b x0 => exact A.bk j x0 es
        | _ => simp only [List.getElem?_set_self (own_lt e)] at h; cases h
    · rw [setO_ne hj] at h; exact A.bk j y h
section
variable {X : Cx} {W : WX} {e a b c : Expr} {es : List Expr} {pos apos : Pos} {m ma mb : En → RM T} {gi : En → R T}
def mApp (i : Nat) (m : En → RM T) : En → RM T := fun en => match ownAt en i with
  | some (.l _) => (m en).bind fun x en1 => match ownAt en1 i with
    | some (.l xs) => if xs.length < most then .ok (.d .non) (setO en1 i (.l (xs ++ [x]))) else .no
    | _ => .no
  | _ => .no
theorem ty_list {K : PySem.W.Frag} {H : Hp} {a : Addr} {vs : List V} (h : H a = some (.lst vs)) : tyV K "list" (.ref a) H := .inl ⟨rfl, _, SqL.of h⟩
theorem m_app (i : Nat) {x : Str} {p : Pos} (ha : PM X W e m) (hN : X.N[i]? = some x := by rfl) (hv : Vis X.env.scope x := by first | exact Or.inl rfl | exact Or.inr (Or.inl rfl) | exact Or.inr (Or.inr rfl)) (hd : (x == ("__debug__" : Str)) = false := by decide) (hcd : (x == ("__classdict__" : Str)) = false := by decide)
    (hbase : attributeBase (.Name x p) "append" X.env (eval (.Name x p) X.env) = eval (.Name x p) X.env := by rfl)
    (hfew : ((backTo pos (starEach [e] X.env)).all (fun x => !x.1) && (backToKw pos (keywordEach [] X.env)).all (fun x => x.1.isSome) && decide ([e].length + ([] : List Keyword).length + (if ([] : List Keyword).isEmpty then 0 else 1) < 30)) = true := by rfl)
    (hline : (apos.endLine == pos.line) = true := by rfl) (hs : starEach [e] X.env = (false, eval e X.env) :: starEach [] X.env := by rfl) (hplain : (backTo pos (starEach [] X.env)).any (·.1) = false := by rfl) :
    PM X W (.Call (.Attribute (.Name x p) "append" apos) [e] [] pos) (mApp i m) := by
  obtain ⟨t, pp, s⟩ := ha
  refine ⟨_, pe_bm PySem.F.plainAttrs_list PySem.F.slot_list_append PySem.F.type_list_append mt_append (pe_var hN hv hd hcd) (pa_cons pp pa_nil hs) hbase hfew hline hs hplain, fun σ H en Fs Q ok q => ?_⟩
  unfold mApp at q
  cases e0 : ownAt en i with
  | none => rw [e0] at q; exact q.elim
  | some x0 =>
    rw [e0] at q
    cases x0 with
    | d d => exact q.elim
    | l xs0 =>
      obtain ⟨v0, h0, o0⟩ := ok.has i _ (own_at e0)
      obtain ⟨a0, vs0, F0, rfl, hH0, _, _⟩ := o0.lst
      refine ⟨_, h0, ty_list hH0, s σ H en Fs _ ok ?_⟩
      simp only at q
      cases e1 : m en with
      | ok x en1 =>
        rw [e1] at q
        simp only [RM.bind_ok] at q
        intro v H' Fs' G A o
        cases e2 : ownAt en1 i with
        | none => rw [e2] at q; exact q.elim
        | some x1 =>
          rw [e2] at q
          cases x1 with
          | d d => exact q.elim
          | l xs =>
            simp only at q
            split at q
            · rename_i hz
              obtain ⟨v1, h1, o1⟩ := A.ok.has i _ (own_at e2)
              rw [h0] at h1; cases h1
              obtain ⟨a1, vs, F, e3, hH, ow, hF⟩ := o1.lst
              cases e3
              have oi : ownAt en1 i ≠ none := by rw [e2]; exact fun z => by cases z
              have nF := A.ok.nod i oi
              rw [hF] at nF
              refine ⟨a0, vs, v, rfl, rfl, hH, by rw [most_eq, ow.length]; exact hz, ?_⟩
              have A2 := A.mut (G' := []) e2 h0 hH hF (ow.snoc o) (by
                rw [List.append_nil]
                exact List.nodup_append.mpr ⟨(List.nodup_cons.mp nF).2, A.nod, fun c hc d hd z => A.dis d hd ⟨i, by rw [hF, ← z]; exact List.mem_cons_of_mem _ hc⟩⟩) (fun c m => by rw [List.append_nil] at m; exact List.mem_append.mp m)
              exact q _ _ _ [] A2 (.d .non)
            · exact q.elim
      | ex c en1 => rw [e1] at q; exact q
      | no => rw [e1] at q; exact q
/-- the last one apart -/
theorem Owns.last {K : PySem.W.Frag} {H : Hp} : ∀ {vs : List V} {xs : List T} {F : List Addr} {x : T}, Owns K H vs xs F → xs.getLast? = some x → ∃ v F' G, vs[vs.length - 1]? = some v ∧ Owns K H vs.dropLast xs.dropLast F' ∧ Own K H v x G ∧ F = F' ++ G
  | _, _, _, x, .nil, h => by cases h
  | _, _, _, x, .cons (v := v) (F := F) o .nil, h => by
    cases h
    exact ⟨v, [], F, rfl, .nil, o, by rw [List.append_nil]; rfl⟩
  | _, _, _, x, .cons (v := v) (x := y) (F := F) o (.cons (v := w) (vs := vs) (x := z) (xs := xs) (F := F2) (G := G2) o2 t), h => by
    rw [List.getLast?_cons_cons] at h
    obtain ⟨u, F', G, h1, h2, h3, h4⟩ := Owns.last (.cons o2 t) h
    refine ⟨u, F ++ F', G, ?_, .cons o h2, h3, by rw [h4, List.append_assoc]⟩
    simpa using h1
def mPop (i : Nat) : En → RM T := fun en => match ownAt en i with
  | some (.l xs) => match xs.getLast? with
    | some x => .ok x (setO en i (.l xs.dropLast))
    | none => .no
  | _ => .no
theorem m_pop (i : Nat) {x : Str} {p : Pos} (hN : X.N[i]? = some x := by rfl) (hv : Vis X.env.scope x := by first | exact Or.inl rfl | exact Or.inr (Or.inl rfl) | exact Or.inr (Or.inr rfl)) (hd : (x == ("__debug__" : Str)) = false := by decide) (hcd : (x == ("__classdict__" : Str)) = false := by decide)
    (hbase : attributeBase (.Name x p) "pop" X.env (eval (.Name x p) X.env) = eval (.Name x p) X.env := by rfl) (hline : (apos.endLine == pos.line) = true := by rfl) :
    PM X W (.Call (.Attribute (.Name x p) "pop" apos) [] [] pos) (mPop i) := by
  refine ⟨_, pe_bm0 PySem.F.plainAttrs_list PySem.F.slot_list_pop PySem.F.type_list_pop mt_pop (pe_var hN hv hd hcd) hbase hline, fun σ H en Fs Q ok q => ?_⟩
  unfold mPop at q
  cases e0 : ownAt en i with
  | none => rw [e0] at q; exact q.elim
  | some x0 =>
    rw [e0] at q
    cases x0 with
    | d d => exact q.elim
    | l xs =>
      simp only at q
      cases el : xs.getLast? with
      | none => rw [el] at q; exact q.elim
      | some x =>
        rw [el] at q
        obtain ⟨v0, h0, o0⟩ := ok.has i _ (own_at e0)
        obtain ⟨a0, vs, F, rfl, hH, ow, hF⟩ := o0.lst
        obtain ⟨v, F', G, h1, h2, h3, h4⟩ := ow.last el
        have oi : ownAt en i ≠ none := by rw [e0]; exact fun z => by cases z
        have nF := ok.nod i oi
        rw [hF] at nF
        refine ⟨_, h0, ty_list hH, a0, vs, v, rfl, rfl, hH, h1, ?_⟩
        have A2 := (Aft.refl ok).mut (G' := G) e0 h0 hH hF h2 (by rw [← h4]; exact (List.nodup_cons.mp nF).2) (fun c m => .inl (by rw [h4]; exact m))
        have nG : ∀ c ∈ G, c ≠ a0 := fun c m z => (List.nodup_cons.mp nF).1 (by rw [h4, ← z]; exact List.mem_append_right _ m)
        exact q v _ _ G A2 (h3.frame (pst_upd hH) fun c m ob e => by rw [upd_ne (nG c m)]; exact e)
/-! ### x[i] = e -/
theorem Owns.put {K : PySem.W.Frag} {H : Hp} {v : V} {x : T} {G : List Addr} (p : Own K H v x G) : ∀ {vs : List V} {xs : List T} {F : List Addr} {j : Nat}, Owns K H vs xs F → j < xs.length → (F ++ G).Nodup → ∃ F', Owns K H (vs.set j v) (xs.set j x) F' ∧ F'.Nodup ∧ ∀ c ∈ F', c ∈ F ∨ c ∈ G
  | _, _, _, j, .nil, h, _ => absurd h (Nat.not_lt_zero _)
  | _, _, _, 0, .cons (F := F) (G := F2) o t, _, nd => by
    refine ⟨G ++ F2, .cons p t, ?_, fun c m => (List.mem_append.mp m).elim .inr fun z => .inl (List.mem_append_right _ z)⟩
    obtain ⟨n1, n2, n3⟩ := List.nodup_append.mp nd
    exact List.nodup_append.mpr ⟨n2, (List.nodup_append.mp n1).2.1, fun c hc d hd z => n3 d (List.mem_append_right _ hd) c hc z.symm⟩
  | _, _, _, j + 1, .cons (F := F) (G := F2) o t, h, nd => by
    obtain ⟨n1, n2, n3⟩ := List.nodup_append.mp nd
    obtain ⟨m1, m2, m3⟩ := List.nodup_append.mp n1
    obtain ⟨F', h1, h2, h3⟩ := Owns.put p t (Nat.lt_of_succ_lt_succ h) (List.nodup_append.mpr ⟨m2, n2, fun c hc d hd z => n3 c (List.mem_append_right _ hc) d hd z⟩)
    refine ⟨F ++ F', .cons o h1, List.nodup_append.mpr ⟨m1, h2, fun c hc d hd z => (h3 d hd).elim (fun y => m3 c hc d y z) fun y => n3 c (List.mem_append_left _ hc) d y z⟩, fun c m => (List.mem_append.mp m).elim (fun z => .inl (List.mem_append_left _ z)) fun z => (h3 c z).imp (List.mem_append_right _) id⟩
def fStore (i : Nat) (gi : En → R T) (m : En → RM T) : En → SR := fun en => (m en).s fun x en1 => match gi en1 with
  | .ok (.d (.int k)) => match ownAt en1 i with
    | some (.l xs) => match ixN xs.length k with
      | some j => .nx (setO en1 i (.l (xs.set j x)))
      | none => .no
    | _ => .no
  | _ => .no
theorem ixN_lt {n j : Nat} {k : Int} (h : ixN n k = some j) : j < n := (ixN_seq h).2.1
theorem s_store (i : Nat) {x : Str} {p tpos : Pos} {ix : Expr} (he : PM X W e m) (hi : PV X W ix gi) (hN : X.N[i]? = some x := by rfl) (hv : Vis X.env.scope x := by first | exact Or.inl rfl | exact Or.inr (Or.inl rfl) | exact Or.inr (Or.inr rfl)) (hd : (x == ("__debug__" : Str)) = false := by decide) (hcd : (x == ("__classdict__" : Str)) = false := by decide)
    (ha : ∀ v, assign (.Subscript (.Name x p) ix tpos) X.env v = (do
      let ov ← holding [v] (eval (.Name x p) X.env)
      let iv ← holding [v, ov] (eval ix X.env); standAt tpos
      holding [v, ov, iv] (setItem ov iv v); release [v, ov, iv] []) := by intro _; rfl) (hs : swapsWithSole [.Subscript (.Name x p) ix tpos] e pos.line X.env = pure false := by rfl) (hw : swappedStores [.Subscript (.Name x p) ix tpos] e X.env = pure none := by rfl)
    (h1 : (assignEach [.Subscript (.Name x p) ix tpos] X.env).map (·.2) = [assign (.Subscript (.Name x p) ix tpos) X.env] := by rfl) : PSt X W (.Assign [.Subscript (.Name x p) ix tpos] e pos) (fStore i gi m) := by
  obtain ⟨t, pp, s⟩ := he
  obtain ⟨t2, p2, s2⟩ := hi
  refine ⟨_, ps_asg pp (pg_sub (pe_var hN hv hd hcd) p2 set_list ha) hs hw h1, fun σ H en Fs D ok q => s σ H en Fs _ ok ?_⟩
  unfold fStore at q
  cases e1 : m en with
  | ok x en1 =>
    rw [e1] at q
    simp only [RM.s_ok] at q
    intro v H' Fs' G A o
    cases eg : gi en1 with
    | ex c => rw [eg] at q; exact q.elim
    | no => rw [eg] at q; exact q.elim
    | ok y =>
      rw [eg] at q
      cases y with
      | l _ => exact q.elim
      | d y =>
        cases y with
        | int k =>
          simp only at q
          cases e2 : ownAt en1 i with
          | none => rw [e2] at q; exact q.elim
          | some x1 =>
            rw [e2] at q
            cases x1 with
            | d d => exact q.elim
            | l xs =>
              simp only at q
              cases ej : ixN xs.length k with
              | none => rw [ej] at q; exact q.elim
              | some j =>
                rw [ej] at q
                obtain ⟨v1, h1, o1⟩ := A.ok.has i _ (own_at e2)
                refine ⟨v1, h1, s2 σ H' en1 _ A.ok.ven ?_⟩
                rw [eg]
                intro w H2 G2 sm ow2
                have r := ow2.rep
                cases r
                have A' : Aft X.K H Fs σ en H2 Fs' σ en1 G := ⟨A.ok.same sm, A.nod, A.dis, ⟨A.stp.pst.trans (.of sm), fun c ob e n => sm _ _ (A.stp.keep c ob e n), fun c e => A.stp.dom c (sm.free e), A.stp.subO, A.stp.subA⟩, A.bk⟩
                obtain ⟨a0, vs, F, rfl, hH, ow, hF⟩ := (o1.mono sm).lst
                have oi : ownAt en1 i ≠ none := by rw [e2]; exact fun z => by cases z
                have nF := A.ok.nod i oi
                rw [hF] at nF
                have o' := o.mono sm
                obtain ⟨F', n1, n2, n3⟩ := ow.put o' (ixN_lt ej) (List.nodup_append.mpr ⟨(List.nodup_cons.mp nF).2, A.nod, fun c hc d hd z => A.dis d hd ⟨i, by rw [hF, ← z]; exact List.mem_cons_of_mem _ hc⟩⟩)
                exact ⟨a0, vs, k, j, rfl, rfl, hH, by rw [ow.length]; exact ej, q _ _ σ (A'.mut (G' := []) e2 h1 hH hF n1 (by rw [List.append_nil]; exact n2) (fun c m => n3 c (by rwa [List.append_nil] at m)))⟩
        | _ => exact q.elim
  | ex c en1 => rw [e1] at q; exact q
  | no => rw [e1] at q; exact q
end
end Z
/-! Z: comprehensions that change the frame's lists; names = comprehensions. -/
namespace Z
open PySem PySem.Spec L2
open PyProof.Rows hiding St

theorem wipeE_get (en : En) (i : Nat) : ∀ vs : List Nat, (wipeE en vs)[i]? = if i ∈ vs then (en[i]?).map fun _ => Sl.n else en[i]?
  | [] => by simp [wipeE]
  | v :: vs => by
    unfold wipeE
    by_cases e : v = i
    · subst e
      rw [if_pos List.mem_cons_self]
      by_cases hl : v < en.length
      · rw [List.getElem?_set_self (by rw [wipeE_len]; exact hl), List.getElem?_eq_getElem hl]; rfl
      · rw [List.getElem?_eq_none (by rw [List.length_set, wipeE_len]; omega), List.getElem?_eq_none (by omega)]; rfl
    · rw [List.getElem?_set_ne e, wipeE_get en i vs]
      have : (i ∈ v :: vs) ↔ i ∈ vs := by simp only [List.mem_cons]; exact ⟨fun h => h.elim (fun z => absurd z.symm e) id, .inr⟩
      by_cases hm : i ∈ vs
      · rw [if_pos hm, if_pos (this.mpr hm)]
      · rw [if_neg hm, if_neg fun z => hm (this.mp z)]
def wipeF (Fs : Ft) (vs : List Nat) : Ft := fun i => if i ∈ vs then [] else Fs i
theorem wipeF_in {Fs : Ft} {vs : List Nat} {i : Nat} {a : Addr} (m : a ∈ wipeF Fs vs i) : i ∉ vs ∧ a ∈ Fs i := by
  unfold wipeF at m
  split at m
  · cases m
  · exact ⟨by assumption, m⟩
theorem wipe_at {en : En} {vs : List Nat} {i : Nat} {x : T} (h : at_ (wipeE en vs) i = some x) : i ∉ vs ∧ at_ en i = some x := by
  unfold at_ at h ⊢
  rw [wipeE_get] at h
  by_cases hm : i ∈ vs
  · rw [if_pos hm] at h; cases e : en[i]? <;> (rw [e] at h; cases h)
  · rw [if_neg hm] at h; exact ⟨hm, h⟩
theorem wipe_own {en : En} {vs : List Nat} {i : Nat} (h : ownAt (wipeE en vs) i ≠ none) : i ∉ vs ∧ ownAt en i ≠ none := by
  unfold ownAt at h ⊢
  rw [wipeE_get] at h
  by_cases hm : i ∈ vs
  · rw [if_pos hm] at h; cases e : en[i]? <;> (rw [e] at h; exact absurd rfl h)
  · rw [if_neg hm] at h; exact ⟨hm, h⟩
/-- the names vs forgotten -/
theorem Aft.wipeTo {K : PySem.W.Frag} {H0 H : Hp} {Fs0 Fs : Ft} {σ0 σ σ' : L2.St} {en0 en : En} {G : List Addr} {vs : List Nat} (a : Aft K H0 Fs0 σ0 en0 H Fs σ en G) (hs : ∀ i, i ∉ vs → σ'[i]? = σ[i]?) (hl : en.length ≤ σ'.length) : Aft K H0 Fs0 σ0 en0 H (wipeF Fs vs) σ' (wipeE en vs) G := by
  refine ⟨⟨by rw [wipeE_len]; exact hl, fun i x h => ?_, fun i h => ?_, fun i j c ne h m => ?_, fun i h => ?_⟩, a.nod, fun c m z => ?_, a.stp.imp (fun c z => z.imp (fun ⟨i, h, m⟩ => ⟨i, (wipe_own h).2, (wipeF_in m).2⟩) id) (fun c z => z.imp (fun ⟨i, m⟩ => ⟨i, (wipeF_in m).2⟩) id), fun i x h => ?_⟩
  · obtain ⟨hn, h⟩ := wipe_at h
    obtain ⟨v, h1, h2⟩ := a.ok.has i x h
    exact ⟨v, by rw [hs i hn]; exact h1, by unfold wipeF; rw [if_neg hn]; exact h2⟩
  · obtain ⟨hn, h⟩ := wipe_own h
    unfold wipeF; rw [if_neg hn]; exact a.ok.nod i h
  · obtain ⟨hn, h⟩ := wipe_own h
    exact fun z => a.ok.dis i j c ne h (wipeF_in m).2 (wipeF_in z).2
  · by_cases hn : i ∈ vs
    · unfold wipeF; rw [if_pos hn]
    · unfold wipeF; rw [if_neg hn]
      refine a.ok.emp i ?_
      unfold at_ at h ⊢
      rw [wipeE_get, if_neg hn] at h
      exact h
  · obtain ⟨i, z⟩ := z
    exact a.dis c m ⟨i, (wipeF_in z).2⟩
  · rw [wipeE_get] at h
    by_cases hn : i ∈ vs
    · rw [if_pos hn] at h; cases e : en[i]? <;> (rw [e] at h; cases h)
    · rw [if_neg hn] at h
      obtain ⟨h1, h2⟩ := a.bk i x h
      exact ⟨h1, by rw [hs i hn]; exact h2⟩
theorem setS_len : ∀ (σ : L2.St) (ws : List (Nat × V)), (setS σ ws).length = σ.length
  | _, [] => rfl
  | σ, (i, v) :: r => by
    show (setS (σ.set i (some v)) r).length = _
    rw [setS_len, List.length_set]
/-- a list that is held aside grows -/
theorem Aft.grow {K : PySem.W.Frag} {H0 H : Hp} {Fs0 Fs : Ft} {σ0 σ : L2.St} {en0 en : En} {F G : List Addr} {D : Addr} {vs : List V} {ts : List T} {v : V} {y : T} (a : Aft K H0 Fs0 σ0 en0 H Fs σ en (D :: F ++ G)) (hD : H D = some (.lst vs)) (o : Owns K H vs ts F) (oy : Own K H v y G) :
    Aft K H0 Fs0 σ0 en0 (upd H D (.lst (vs ++ [v]))) Fs σ en (D :: (F ++ G)) ∧ Owns K (upd H D (.lst (vs ++ [v]))) (vs ++ [v]) (ts ++ [y]) (F ++ G) := by
  have p := pst_upd (ws := vs ++ [v]) hD
  have nd : (D :: (F ++ G)).Nodup := a.nod
  have nD : ∀ c ∈ F ++ G, c ≠ D := fun c m z => (List.nodup_cons.mp nd).1 (z ▸ m)
  have inD : D ∈ D :: F ++ G := List.mem_cons_self
  have up : ∀ {c ob}, c ≠ D → H c = some ob → upd H D (.lst (vs ++ [v])) c = some ob := fun {c ob} h e => by rw [upd_ne h]; exact e
  have fD : ∀ {c}, InF Fs c → c ≠ D := fun {c} m z => a.dis D inD (z ▸ m)
  refine ⟨⟨⟨a.ok.len, fun i x h => ?_, a.ok.nod, a.ok.dis, a.ok.emp⟩, nd, a.dis, ⟨a.stp.pst.trans p, fun c ob e n => ?_, fun c e => ?_, a.stp.subO, a.stp.subA⟩, a.bk⟩, ?_⟩
  · obtain ⟨w, h1, h2⟩ := a.ok.has i x h
    exact ⟨w, h1, h2.frame p fun c m ob e => up (fD ⟨i, m⟩) e⟩
  · have hc : c ≠ D := fun z => (a.stp.subO D (.inr inD)).elim (fun y => n (z ▸ y)) fun y => by rw [z, y] at e; cases e
    exact up hc (a.stp.keep c ob e n)
  · by_cases hc : c = D
    · rw [hc, upd_same] at e; cases e
    · rw [upd_ne hc] at e; exact a.stp.dom c e
  · exact (o.frame p fun c m ob e => up (nD c (List.mem_append_left _ m)) e).snoc (oy.frame p fun c m ob e => up (nD c (List.mem_append_right _ m)) e)
def lcM (vs : List Nat) (k : T → Option Ass) (tt : En → R Bool) (te : En → RM T) : List T → En → RM (List T)
  | [], en => .ok [] en
  | x :: xs, en => match (kD k x).bind fun as => stowD (wipeE en vs) as with
    | none => .no
    | some en2 => match tt en2 with
      | .ok true => match te en2 with
        | .ok y en4 => (lcM vs k tt te xs (wipeE en4 vs)).bind fun ys en' => .ok (y :: ys) en'
        | _ => .no
      | .ok false => lcM vs k tt te xs (wipeE en2 vs)
      | _ => .no
def RM.calm {α : Type} : RM α → RM α
  | .ok a en => .ok a en
  | _ => .no
def mLc (vs : List Nat) (mi : En → RM (List T)) (k : T → Option Ass) (tt : En → R Bool) (te : En → RM T) : En → RM T := fun en => (mi en).bind fun xs en1 => (lcM vs k tt te xs en1).calm.bind fun ys en2 => if ys.length < most then .ok (.l ys) en2 else .no
section
variable (X : Cx) (W : WX)
def cM (m : En → RM T) : TE := fun σ H Q => ∃ en Fs, EOk X.K H σ en Fs ∧ MQ X W H Fs σ en Q (m en)
def cMI (m : En → RM (List T)) : TI := fun σ H Q => ∃ en Fs, EOk X.K H σ en Fs ∧ MI X W H Fs σ en Q (m en)
end
theorem PM.can {X : Cx} {W : WX} {e : Expr} {m : En → RM T} (h : PM X W e m) : PE X e (cM X W m) := by
  obtain ⟨t, p, s⟩ := h
  exact ⟨fun pins st σ H Q I ⟨en, Fs, ok, q⟩ => p.run pins st σ H Q I (s σ H en Fs Q ok q)⟩
theorem PMI.can {X : Cx} {W : WX} {tg e : Expr} {m : En → RM (List T)} (h : PMI X W tg e m) : PI X tg e (cMI X W m) := by
  obtain ⟨t, p, s⟩ := h
  exact ⟨fun pins st σ H Q I ⟨en, Fs, ok, q⟩ => p.run pins st σ H Q I (s σ H en Fs Q ok q)⟩
theorem wipe_ne {σ : L2.St} {i : Nat} {vs : List Nat} (h : i ∉ vs) : (wipe σ vs)[i]? = σ[i]? := by rw [wipe_get, if_neg h]
section
variable {X : Cx} {W : WX} {elt tg it : Expr} {ifs : List Expr} {scope : Scope} {pos : Pos} {mi : En → RM (List T)} {gi : En → R (List T)} {k : T → Option Ass} {tt : En → R Bool} {te : En → RM T} {tq : En → R T}
theorem sp_lcM {own : List (Str × Nat)} (hk : ∀ x as, k x = some as → ∀ p ∈ as, p.1 ∈ own.map (·.2)) : ∀ σ H en Fs Q, EOk X.K H σ en Fs → MQ X W H Fs σ en Q (mLc (own.map (·.2)) mi k tt te en) → tLc (cMI X W mi) (tgt X.K k) (cT X W0 tt) (cM X W0 te) (own.map (·.2)) σ H Q := by
  intro σ H en Fs Q ok q
  refine ⟨en, Fs, ok, ?_⟩
  unfold mLc at q
  cases e : mi en with
  | ex c en1 => rw [e] at q; exact q
  | no => rw [e] at q; exact q
  | ok xs en1 =>
    rw [e] at q
    intro J H1 Fs1 Gi a1 iok tG D nD
    simp only [RM.bind_ok] at q
    cases el : lcM (own.map (·.2)) k tt te xs en1 with
    | ex c en2 => rw [el] at q; exact q.elim
    | no => rw [el] at q; exact q.elim
    | ok ys enf =>
      rw [el] at q
      simp only [RM.calm, RM.bind_ok] at q
      split at q
      · rename_i yz
        have base : Aft X.K H1 Fs1 σ en1 (upd H1 D (.lst [])) Fs1 σ en1 [D] := .quiet a1.ok (same_new nD) (fresh1 nD)
        have nDG : D ∉ Gi := fun m => tG D m nD
        refine lc_it iok (fun i H2 => ∃ en2 Fs2 vs ts F rest, Aft X.K H Fs σ en H2 Fs2 σ en2 (D :: F) ∧ H2 D = some (.lst vs) ∧ Owns X.K H2 vs ts F ∧ Kept Gi H1 H2 ∧ (∀ c ∈ Gi, ¬ InO en2 Fs2 c) ∧ lcM (own.map (·.2)) k tt te (xs.drop i) en2 = .ok rest enf ∧ ts ++ rest = ys)
          ⟨en1, Fs1, [], [], [], ys, a1.drop.trans base, upd_same, .nil, .of (same_new nD), fun c m z => a1.dis c m z.a, by rw [List.drop_zero]; exact el, rfl⟩ (fun i H2 _ h => ?_) (fun i v H2 H3 hi h y => ?_) (fun H2 h => ?_)
        · obtain ⟨_, _, _, _, _, _, _, _, _, kp, _⟩ := h
          exact kp
        · obtain ⟨en2, Fs2, vs, ts, F, rest, A, hD, ow, kp, nO, er, eq⟩ := h
          obtain ⟨s3, x, Fx, hx, ox, hF⟩ := y
          have hd : xs.drop i = x :: xs.drop (i + 1) := by
            rw [List.drop_eq_getElem_cons hi]
            rw [List.getElem?_eq_getElem hi] at hx
            rw [Option.some.inj hx]
          rw [hd] at er
          unfold lcM at er
          cases ek : kD k x with
          | none => rw [ek] at er; cases er
          | some as =>
            rw [ek] at er
            simp only [Option.bind_some] at er
            obtain ⟨d, rfl, ek⟩ : ∃ d, x = .d d ∧ k x = some as := by
              cases x with
              | d d => exact ⟨d, rfl, ek⟩
              | l _ => cases ek
            have ox : Own X.K H3 v (.d d) [] := .d ox.rep
            cases es : stowD (wipeE en2 (own.map (·.2))) as with
            | none => rw [es] at er; cases er
            | some en3 =>
              rw [es] at er
              simp only at er
              refine ⟨_, [], as, ox, ek, fun ws aok => ⟨by rw [wipe_sets aok (hk _ as ek), wipe_wipe], ?_⟩⟩
              have A3 : Aft X.K H Fs σ en H3 Fs2 σ en2 (D :: F) := by
                have b : Aft X.K H2 Fs2 σ en2 H3 Fs2 σ en2 [] := .quiet A.ok s3 Fresh.nil
                have := A.held (fun c m => by
                  rcases List.mem_cons.mp m with rfl | m
                  · rw [hD]; exact fun z => by cases z
                  · exact ow.there c m) b
                rwa [List.append_nil] at this
              have A4 := A3.wipeTo (σ' := wipe σ (own.map (·.2))) (vs := own.map (·.2)) (fun j hj => wipe_ne hj) (by rw [wipe_length]; exact A3.ok.len)
              obtain ⟨Fs3, B⟩ := (Aft.refl A4.ok).putD aok es
              have ow3 := ow.mono s3
              have hD3 := s3 _ _ hD
              have tDF : ∀ c ∈ D :: F, H3 c ≠ none := fun c m => by
                rcases List.mem_cons.mp m with rfl | m
                · rw [hD3]; exact fun z => by cases z
                · exact ow3.there c m
              have AB := A4.held tDF B
              rw [List.append_nil] at AB
              have kp3 : Kept Gi H1 H3 := kp.trans (.of s3)
              have tG3 : ∀ c ∈ Gi, H3 c ≠ none := fun c m z => by
                cases e1 : H1 c with
                | none => exact tG c m e1
                | some o => rw [kp3.2 c m o e1] at z; cases z
              have nO3 : ∀ c ∈ Gi, ¬ InO en3 Fs3 c := fun c m z => (B.stp.subO c (.inl z)).elim (fun ⟨j, h, y⟩ => nO c m ⟨j, (wipe_own h).2, (wipeF_in y).2⟩) (tG3 c m)
              have len2 : (setS (wipe σ (own.map (·.2))) ws).length = σ.length := by rw [setS_len, wipe_length]
              have same2 : ∀ j, j ∉ own.map (·.2) → σ[j]? = (setS (wipe σ (own.map (·.2))) ws)[j]? := fun j hj => by
                have := wipe_sets (σ := wipe σ (own.map (·.2))) aok (hk _ as ek)
                have t := congrArg (fun l : L2.St => l[j]?) this
                simp only [wipe_ne hj] at t
                exact t.symm
              refine ⟨en3, B.ok.ven, ?_⟩
              cases et : tt en3 with
              | ex c => rw [et] at er; cases er
              | no => rw [et] at er; cases er
              | ok b =>
                rw [et] at er
                intro H4 s4
                have hD4 := s4 _ _ hD3
                have ow4 := ow3.mono s4
                have AB4 : Aft X.K H Fs σ en H4 Fs3 (setS (wipe σ (own.map (·.2))) ws) en3 (D :: F) := by
                  have := AB.held tDF (.quiet AB.ok s4 Fresh.nil)
                  rwa [List.append_nil] at this
                cases b with
                | false =>
                  simp only [Bool.false_eq_true, if_false] at er ⊢
                  refine ⟨_, _, vs, ts, F, rest, AB4.wipeTo same2 (by rw [← len2]; exact AB4.ok.len), hD4, ow4, kp3.trans (.of s4), fun c m ⟨j, h, y⟩ => nO3 c m ⟨j, (wipe_own h).2, (wipeF_in y).2⟩, er, eq⟩
                | true =>
                  simp only [if_true] at er ⊢
                  refine ⟨en3, Fs3, AB4.ok, ?_⟩
                  cases ee : te en3 with
                  | ex c en5 => rw [ee] at er; cases er
                  | no => rw [ee] at er; cases er
                  | ok y en5 =>
                    rw [ee] at er
                    simp only at er
                    cases e2 : lcM (own.map (·.2)) k tt te (xs.drop (i + 1)) (wipeE en5 (own.map (·.2))) with
                    | ex c en6 => rw [e2] at er; cases er
                    | no => rw [e2] at er; cases er
                    | ok rs en6 =>
                      rw [e2] at er
                      simp only [RM.bind_ok] at er
                      cases er
                      intro v5 H5 Fs5 G5 C o5
                      have nDF : ∀ c ∈ D :: F, ¬ InF Fs3 c := fun c m => AB4.dis c m
                      have hD5 : H5 D = some (.lst vs) := C.stp.keep D _ hD4 fun z => nDF D List.mem_cons_self z.a
                      have ow5 := (C.stp.frames (fun _ z => z.a) ow4 fun c m => nDF c (List.mem_cons_of_mem _ m)).1
                      have tz : ts.length < most := by rw [← eq, List.length_append] at yz; omega
                      have tDF4 : ∀ c ∈ D :: F, H4 c ≠ none := fun c m z => tDF c m (s4.free z)
                      have A6 := (AB4.held tDF4 C).wipeTo same2 (by rw [← len2]; exact C.ok.len)
                      obtain ⟨A7, ow7⟩ := A6.grow hD5 ow5 o5
                      refine ⟨vs, hD5, by rw [most_eq, ow5.length]; exact tz, _, _, vs ++ [v5], ts ++ [y], F ++ G5, rs, A7, upd_same, ow7, ?_, fun c m ⟨j, h, z⟩ => ?_, e2, by rw [← eq, List.append_assoc]; rfl⟩
                      · exact kept_grow (K := X.K) (H0 := H) (H3 := H) ((kp3.trans (.of s4)).trans ⟨C.stp.pst, fun c m o e => C.stp.keep c o e (nO3 c m)⟩) hD5 nDG
                      · exact (C.stp.subO c (.inl ⟨j, (wipe_own h).2, (wipeF_in z).2⟩)).elim (nO3 c m) fun z => tG3 c m (s4.free z)
        · obtain ⟨en2, Fs2, vs, ts, F, rest, A, hD, ow, kp, nO, er, eq⟩ := h
          rw [List.drop_length] at er
          cases er
          rw [List.append_nil] at eq
          subst eq
          exact q _ H2 Fs2 (D :: F) A (.l hD ow)
      · exact q.elim
variable (own : List (Str × Nat))
theorem m_lc (cz : Cz X W) (hi : PMI X W tg it mi) (ok : blkC X.N X.env.scope scope own = true) (hk : ∀ x as, k x = some as → ∀ p ∈ as, p.1 ∈ own.map (·.2))
    (hg : ∀ (s : Shared) (H : Hp) (C : Addr) (cl : List (Str × Addr)) (fp : List Addr), PTg (X.blk s H scope (compEnvC scope cl C X.env) fp) tg k) (ht : ∀ (s : Shared) (H : Hp) (C : Addr) (cl : List (Str × Addr)) (fp : List Addr), PCs (X.blk s H scope (compEnvC scope cl C X.env) fp) W0 ifs tt)
    (he : ∀ (s : Shared) (H : Hp) (C : Addr) (cl : List (Str × Addr)) (fp : List Addr), PM (X.blk s H scope (compEnvC scope cl C X.env) fp) W0 elt te) (hs : ∀ x, foldedSetIterable it X.env x = pure x := by intro _; rfl) :
    PM X W (.ListComp elt [⟨tg, it, ifs, 0⟩] scope pos) (mLc (own.map (·.2)) mi k tt te) :=
  ⟨_, pe_lc (own := own) (g := tgt X.K k) (tt := cT X W0 tt) (te := cM X W0 te) cz.calm cz.nd hi.can (blkOk_by ok) hg ht (fun s H C cl fp => (he s H C cl fp).can) hs, sp_lcM hk⟩
/-- name = [..] -/
theorem s_setLc (i : Nat) {y : Str} {py spos : Pos} (cz : Cz X W) (hi : PIv X W tg it gi) (ok : blkC X.N X.env.scope scope own = true) (hk : ∀ x as, k x = some as → ∀ p ∈ as, p.1 ∈ own.map (·.2))
    (hg : ∀ (s : Shared) (H : Hp) (C : Addr) (cl : List (Str × Addr)) (fp : List Addr), PTg (X.blk s H scope (compEnvC scope cl C X.env) fp) tg k) (ht : ∀ (s : Shared) (H : Hp) (C : Addr) (cl : List (Str × Addr)) (fp : List Addr), PCs (X.blk s H scope (compEnvC scope cl C X.env) fp) W0 ifs tt)
    (he : ∀ (s : Shared) (H : Hp) (C : Addr) (cl : List (Str × Addr)) (fp : List Addr), PN (X.blk s H scope (compEnvC scope cl C X.env) fp) W0 elt tq) (hy : X.N[i]? = some y := by rfl) (hyl : X.env.scope.names.lookup y = some .local := by rfl)
    (hsw : swapsWith (.ListComp elt [⟨tg, it, ifs, 0⟩] scope pos) (some (.Name y py)) spos.line X.env = pure true := by exact sw_true rfl rfl rfl (by decide +kernel)) (hs : ∀ x, foldedSetIterable it X.env x = pure x := by intro _; rfl) :
    PSt X W (.Assign [.Name y py] (.ListComp elt [⟨tg, it, ifs, 0⟩] scope pos) spos) (fSet i (lft (gLc (own.map (·.2)) gi k tt tq))) := by
  refine ⟨_, ps_setLc (own := own) (g := tgt X.K k) (tt := cT X W0 tt) (te := cN X W0 tq) cz.calm cz.nd hy hyl hsw hi.can (blkOk_by ok) hg ht (fun s H C cl fp => (he s H C cl fp).can) hs, sp_set ?_⟩
  intro σ H en Fs Q okE q
  refine sp_lc (W := W) hk σ H en Q okE.ven ?_
  unfold lft at q
  cases e : gLc (own.map (·.2)) gi k tt tq en with
  | ok x => rw [e] at q; exact fun v H' G sm o fr => q v H' Fs G (.quiet okE sm fr) o
  | ex c => rw [e] at q; exact XQ.xm (W := W) okE q
  | no => rw [e] at q; exact q
theorem s_setLcM (i : Nat) {y : Str} {py spos : Pos} (cz : Cz X W) (hi : PMI X W tg it mi) (ok : blkC X.N X.env.scope scope own = true) (hk : ∀ x as, k x = some as → ∀ p ∈ as, p.1 ∈ own.map (·.2))
    (hg : ∀ (s : Shared) (H : Hp) (C : Addr) (cl : List (Str × Addr)) (fp : List Addr), PTg (X.blk s H scope (compEnvC scope cl C X.env) fp) tg k) (ht : ∀ (s : Shared) (H : Hp) (C : Addr) (cl : List (Str × Addr)) (fp : List Addr), PCs (X.blk s H scope (compEnvC scope cl C X.env) fp) W0 ifs tt)
    (he : ∀ (s : Shared) (H : Hp) (C : Addr) (cl : List (Str × Addr)) (fp : List Addr), PM (X.blk s H scope (compEnvC scope cl C X.env) fp) W0 elt te) (hy : X.N[i]? = some y := by rfl) (hyl : X.env.scope.names.lookup y = some .local := by rfl)
    (hsw : swapsWith (.ListComp elt [⟨tg, it, ifs, 0⟩] scope pos) (some (.Name y py)) spos.line X.env = pure true := by exact sw_true rfl rfl rfl (by decide +kernel)) (hs : ∀ x, foldedSetIterable it X.env x = pure x := by intro _; rfl) :
    PSt X W (.Assign [.Name y py] (.ListComp elt [⟨tg, it, ifs, 0⟩] scope pos) spos) (fSet i (mLc (own.map (·.2)) mi k tt te)) :=
  ⟨_, ps_setLc (own := own) (g := tgt X.K k) (tt := cT X W0 tt) (te := cM X W0 te) cz.calm cz.nd hy hyl hsw hi.can (blkOk_by ok) hg ht (fun s H C cl fp => (he s H C cl fp).can) hs, sp_set (sp_lcM hk)⟩
end
section
variable {X : Cx} {W : WX} {elt tg it tg1 it1 : Expr} {ifs ifs1 : List Expr} {scope : Scope} {pos : Pos} {gi gi1 : En → R (List T)} {k k1 : T → Option Ass} {tt tt1 : En → R Bool} {te : En → R T}
theorem s_setLc2 (own : List (Str × Nat)) (vs1 : List Nat) (i : Nat) {y : Str} {py spos : Pos} (cz : Cz X W) (hi : PIv X W tg it gi) (ok : blkC X.N X.env.scope scope own = true) (hv : ∀ i ∈ vs1, i ∈ own.map (·.2)) (hk : ∀ x as, k x = some as → ∀ p ∈ as, p.1 ∈ own.map (·.2)) (hk1 : ∀ x as, k1 x = some as → ∀ p ∈ as, p.1 ∈ vs1)
    (hg : ∀ (s : Shared) (H : Hp) (C : Addr) (cl : List (Str × Addr)) (fp : List Addr), PTg (X.blk s H scope (compEnvC scope cl C X.env) fp) tg k) (ht : ∀ (s : Shared) (H : Hp) (C : Addr) (cl : List (Str × Addr)) (fp : List Addr), PCs (X.blk s H scope (compEnvC scope cl C X.env) fp) W0 ifs tt)
    (hi1 : ∀ (s : Shared) (H : Hp) (C : Addr) (cl : List (Str × Addr)) (fp : List Addr), PIn (X.blk s H scope (compEnvC scope cl C X.env) fp) W0 tg1 it1 gi1)
    (hg1 : ∀ (s : Shared) (H : Hp) (C : Addr) (cl : List (Str × Addr)) (fp : List Addr), PTg (X.blk s H scope (compEnvC scope cl C X.env) fp) tg1 k1) (ht1 : ∀ (s : Shared) (H : Hp) (C : Addr) (cl : List (Str × Addr)) (fp : List Addr), PCs (X.blk s H scope (compEnvC scope cl C X.env) fp) W0 ifs1 tt1)
    (he : ∀ (s : Shared) (H : Hp) (C : Addr) (cl : List (Str × Addr)) (fp : List Addr), PN (X.blk s H scope (compEnvC scope cl C X.env) fp) W0 elt te) (hy : X.N[i]? = some y := by rfl) (hyl : X.env.scope.names.lookup y = some .local := by rfl)
    (hsw : swapsWith (.ListComp elt [⟨tg, it, ifs, 0⟩, ⟨tg1, it1, ifs1, 0⟩] scope pos) (some (.Name y py)) spos.line X.env = pure true := by exact sw_true rfl rfl rfl (by decide +kernel)) (hs : ∀ x, foldedSetIterable it X.env x = pure x := by intro _; rfl) (hs1 : ∀ env x, foldedSetIterable it1 env x = pure x := by intro _ _; rfl) :
    PSt X W (.Assign [.Name y py] (.ListComp elt [⟨tg, it, ifs, 0⟩, ⟨tg1, it1, ifs1, 0⟩] scope pos) spos) (fSet i (lft (gLc2 (own.map (·.2)) gi k tt gi1 vs1 k1 tt1 te))) := by
  refine ⟨_, ps_setLc2 (own := own) (vs1 := vs1) (g := tgt X.K k) (tt := cT X W0 tt) (te := cN X W0 te) (wi1 := cJ X W0 gi1) (g1 := tgt X.K k1) (tt1 := cT X W0 tt1) cz.calm cz.nd hy hyl hsw hi.can (blkOk_by ok) hv hg ht (fun s H C cl fp => (hi1 s H C cl fp).can) hg1 ht1 (fun s H C cl fp => (he s H C cl fp).can) hs hs1, sp_set ?_⟩
  intro σ H en Fs Q okE q
  refine sp_lc2 (W := W) hk hk1 σ H en Q okE.ven ?_
  unfold lft at q
  cases e : gLc2 (own.map (·.2)) gi k tt gi1 vs1 k1 tt1 te en with
  | ok x => rw [e] at q; exact fun v H' G sm o fr => q v H' Fs G (.quiet okE sm fr) o
  | ex c => rw [e] at q; exact XQ.xm (W := W) okE q
  | no => rw [e] at q; exact q
end
end Z
/-! Z: defs: what their bodies compute; a first argument that is changed. -/
namespace Z
open PySem PySem.Spec L2
open PyProof.Rows hiding St

/-! ### a def that changes its first argument's list -/
inductive RF where
  | ok (r x0 : T) | ex (c : Exc) (x0 : T) | no
/-- seen, away from some addresses -/
inductive Vwa (K : PySem.W.Frag) (H : Hp) (Z : List Addr) : List V → List T → Prop
  | nil : Vwa K H Z [] []
  | cons {v : V} {vs : List V} {x : T} {xs : List T} {G : List Addr} : Own K H v x G → (∀ a ∈ G, a ∉ Z) → Vwa K H Z vs xs → Vwa K H Z (v :: vs) (x :: xs)
def spM (K : PySem.W.Frag) (mg : Str → Option Value) (F : T → List T → RF) : Sp := fun vs H Q E => ∃ v0 us x0 G0 xs, vs = v0 :: us ∧ Own K H v0 x0 G0 ∧ G0.Nodup ∧ Vwa K H G0 us xs ∧ match F x0 xs with
  | .ok r x' => ∀ v H' G' G, Stp H (· ∈ G0) (· ∈ G0) H' (· ∈ G' ++ G) (· ∈ G' ++ G) → Own K H' v0 x' G' → Own K H' v r G → (G' ++ G).Nodup → Q v H'
  | .ex c x' => ∀ cls dx H' G', Stp H (· ∈ G0) (· ∈ G0) H' (· ∈ G') (· ∈ G') → Own K H' v0 x' G' → G'.Nodup → ExIs K mg H' c cls dx → E cls dx H'
  | .no => False
structure FnM (P : Program) (w : World) (K : PySem.W.Frag) (mg : Str → Option Value) (base : Heap) (x : Str) (k : Nat) (F : T → List T → RF) : Prop where
  ex : ∃ (f : Addr) (fd : FuncData) (ps : List Str), FnOk P w K mg base (L2.CX P w) k f fd ps (spM K mg F) ∧ mg x = some (.ref f) ∧ PySem.W.keepIn K (.ref f) = true ∧ Binds K fd ps []
/-! arguments: values of our own, or names -/
inductive Hd where
  | o (x : T) | n (i : Nat)
inductive HdsOk (K : PySem.W.Frag) (H : Hp) (σ : L2.St) : List Hd → List V → List Addr → Prop
  | nil : HdsOk K H σ [] [] []
  | o {v : V} {vs : List V} {x : T} {hs : List Hd} {F G : List Addr} : Own K H v x F → HdsOk K H σ hs vs G → HdsOk K H σ (.o x :: hs) (v :: vs) (F ++ G)
  | n {v : V} {vs : List V} {i : Nat} {hs : List Hd} {G : List Addr} : σ[i]? = some (some v) → HdsOk K H σ hs vs G → HdsOk K H σ (.n i :: hs) (v :: vs) G
theorem HdsOk.frame {K : PySem.W.Frag} {H H' : Hp} {σ : L2.St} (p : Pst H H') : ∀ {hs : List Hd} {vs : List V} {G : List Addr}, HdsOk K H σ hs vs G → (∀ a ∈ G, ∀ o, H a = some o → H' a = some o) → HdsOk K H' σ hs vs G
  | _, _, _, .nil, _ => .nil
  | _, _, _, .o r t, k => .o (r.frame p fun a m => k a (List.mem_append_left _ m)) (HdsOk.frame p t fun a m => k a (List.mem_append_right _ m))
  | _, _, _, .n e t, k => .n e (HdsOk.frame p t k)
theorem HdsOk.there {K : PySem.W.Frag} {H : Hp} {σ : L2.St} : ∀ {hs : List Hd} {vs : List V} {G : List Addr}, HdsOk K H σ hs vs G → ∀ a ∈ G, H a ≠ none
  | _, _, _, .nil, a, m => absurd m List.not_mem_nil
  | _, _, _, .o r t, a, m => (List.mem_append.mp m).elim (r.there a) (HdsOk.there t a)
  | _, _, _, .n e t, a, m => HdsOk.there t a m
section
variable (X : Cx) (W : WX)
def MH (H : Hp) (Fs : Ft) (σ : L2.St) (en : En) (Q : List V → Hp → Prop) : RM (List Hd) → Prop
  | .ok hs en' => ∀ vs H' Fs' G, Aft X.K H Fs σ en H' Fs' σ en' G → HdsOk X.K H' σ hs vs G → Q vs H'
  | .ex c en' => XM X W H Fs σ en c en'
  | .no => False
def PMH (es : List Expr) (m : En → RM (List Hd)) : Prop := ∃ t, PA X es t ∧ ∀ σ H en Fs Q, EOk X.K H σ en Fs → MH X W H Fs σ en Q (m en) → t σ H Q
end
section
variable {X : Cx} {W : WX} {a : Expr} {es : List Expr} {pos : Pos} {m : En → RM T} {ms : En → RM (List Hd)}
def hNil : En → RM (List Hd) := fun en => .ok [] en
def hO (m : En → RM T) (ms : En → RM (List Hd)) : En → RM (List Hd) := fun en => (m en).bind fun x en1 => (ms en1).bind fun xs en2 => .ok (.o x :: xs) en2
def hN (i : Nat) (ms : En → RM (List Hd)) : En → RM (List Hd) := fun en => if (at_ en i).isSome then (ms en).bind fun xs en2 => .ok (.n i :: xs) en2 else .no
theorem mh_nil : PMH X W [] hNil := ⟨_, pa_nil, fun σ H en Fs Q ok q => q [] H Fs [] (.refl ok) .nil⟩
theorem mh_o (ha : PM X W a m) (hr : PMH X W es ms) (hs : starEach (a :: es) X.env = (false, eval a X.env) :: starEach es X.env := by rfl) : PMH X W (a :: es) (hO m ms) := by
  obtain ⟨t, p, s⟩ := ha
  obtain ⟨t2, p2, s2⟩ := hr
  refine ⟨_, pa_cons p p2 hs, fun σ H en Fs Q ok q => s σ H en Fs _ ok ?_⟩
  unfold hO at q
  cases e : m en with
  | ok x en1 =>
    rw [e] at q
    simp only [RM.bind_ok] at q
    intro v H' Fs' G a o
    refine s2 σ H' en1 Fs' _ a.ok ?_
    cases e2 : ms en1 with
    | ok xs en2 =>
      rw [e2] at q
      exact fun vs H2 Fs2 G2 a2 o2 => q (v :: vs) H2 Fs2 (G ++ G2) (a.held o.there a2) (.o (a2.stp.frame (fun _ z => z.a) o a.dis).1 o2)
    | ex c en2 => rw [e2] at q; exact XM.after (W := W) a q
    | no => rw [e2] at q; exact q
  | ex c en1 => rw [e] at q; exact q
  | no => rw [e] at q; exact q
theorem mh_n (i : Nat) {x : Str} {p : Pos} (hr : PMH X W es ms) (hN : X.N[i]? = some x := by rfl) (hv : Vis X.env.scope x := by first | exact Or.inl rfl | exact Or.inr (Or.inl rfl) | exact Or.inr (Or.inr rfl)) (hd : (x == ("__debug__" : Str)) = false := by decide) (hcd : (x == ("__classdict__" : Str)) = false := by decide)
    (hs : starEach (.Name x p :: es) X.env = (false, eval (.Name x p) X.env) :: starEach es X.env := by rfl) : PMH X W (.Name x p :: es) (Z.hN i ms) := by
  obtain ⟨t2, p2, s2⟩ := hr
  refine ⟨_, pa_cons (pe_var hN hv hd hcd) p2 hs, fun σ H en Fs Q ok q => ?_⟩
  unfold Z.hN at q
  split at q
  · rename_i h
    cases e : at_ en i with
    | none => rw [e] at h; cases h
    | some x =>
      obtain ⟨v, h1, _⟩ := ok.has i x e
      refine ⟨v, h1, s2 σ H en Fs _ ok ?_⟩
      cases e2 : ms en with
      | ok xs en2 =>
        rw [e2] at q
        exact fun vs H2 Fs2 G2 a2 o2 => q (v :: vs) H2 Fs2 G2 a2 (.n h1 o2)
      | ex c en2 => rw [e2] at q; exact q
      | no => rw [e2] at q; exact q
  · exact q.elim
/-- what the arguments are, beside the name i -/
def hds (en : En) (i : Nat) : List Hd → Option (List T)
  | [] => some []
  | .o x :: r => (hds en i r).map (x :: ·)
  | .n j :: r => if j = i then none else (at_ en j).bind fun x => (hds en i r).map (x :: ·)
theorem HdsOk.vwa {K : PySem.W.Frag} {H : Hp} {σ : L2.St} {en : En} {Fs : Ft} {i : Nat} (ok : EOk K H σ en Fs) (oi : ownAt en i ≠ none) : ∀ {hs : List Hd} {vs : List V} {G : List Addr} {xs : List T}, HdsOk K H σ hs vs G → (∀ a ∈ G, ¬ InF Fs a) → hds en i hs = some xs → Vwa K H (Fs i) vs xs
  | _, _, _, _, .nil, _, h => by cases h; exact .nil
  | _, _, _, _, .o r t, d, h => by
    obtain ⟨ys, h1, rfl⟩ := Option.map_eq_some_iff.mp h
    exact .cons r (fun a m z => d a (List.mem_append_left _ m) ⟨i, z⟩) (HdsOk.vwa ok oi t (fun a m => d a (List.mem_append_right _ m)) h1)
  | _, _, _, _, .n (i := j) e t, d, h => by
    unfold hds at h
    split at h
    · cases h
    · rename_i hj
      obtain ⟨x, h0, h⟩ := Option.bind_eq_some_iff.mp h
      obtain ⟨ys, h1, rfl⟩ := Option.map_eq_some_iff.mp h
      obtain ⟨v, h2, h3⟩ := ok.has j x h0
      rw [e] at h2; cases h2
      exact .cons h3 (fun a m z => ok.dis i j a (Ne.symm hj) oi z m) (HdsOk.vwa ok oi t d h1)
/-- what one name holds was changed -/
theorem Aft.slot {K : PySem.W.Frag} {H0 H H' : Hp} {Fs0 Fs : Ft} {σ0 σ : L2.St} {en0 en : En} {G G' F' : List Addr} {i : Nat} {x x' : T} {v : V} (A : Aft K H0 Fs0 σ0 en0 H Fs σ en G) (e : ownAt en i = some x) (hσ : σ[i]? = some (some v)) (s : Stp H (· ∈ Fs i) (· ∈ Fs i) H' (· ∈ F' ++ G') (· ∈ F' ++ G')) (o : Own K H' v x' F') (nd : (F' ++ G').Nodup) :
    Aft K H0 Fs0 σ0 en0 H' (updF Fs i F') σ (setO en i x') G' := by
  have oi : ownAt en i ≠ none := by rw [e]; exact fun z => by cases z
  have own : ∀ j, ownAt (setO en i x') j ≠ none → ownAt en j ≠ none := fun j h => by
    by_cases hj : j = i
    · rw [hj]; exact oi
    · rwa [setO_own_ne hj] at h
  have nj : ∀ {j c}, j ≠ i → c ∈ F' ++ G' → c ∉ Fs j := fun {j c} hj m z => (s.subO c m).elim (fun y => A.ok.dis i j c (Ne.symm hj) oi y z) fun y => by
    obtain ⟨vs, hv⟩ := A.ok.there ⟨j, z⟩
    rw [y] at hv; cases hv
  have F'l : ∀ c ∈ F', c ∈ F' ++ G' := fun c m => List.mem_append_left _ m
  refine ⟨⟨by rw [setO_len]; exact A.ok.len, fun j y h => ?_, fun j h => ?_, fun j l c ne h m => ?_, fun j h => ?_⟩, (List.nodup_append.mp nd).2.1, fun c m z => ?_, ⟨A.stp.pst.trans s.pst, fun c ob e n => ?_, fun c e => A.stp.dom c (s.dom c e), fun c m => ?_, fun c m => ?_⟩, fun j y h => ?_⟩
  · by_cases hj : j = i
    · subst hj
      rw [own_at (setO_own e)] at h; cases h
      exact ⟨_, hσ, by rw [updF_same]; exact o⟩
    · rw [setO_at_ne hj] at h
      obtain ⟨w, h1, h2⟩ := A.ok.has j y h
      have h3 : Own K H' w y (Fs j) := h2.frame s.pst fun c m ob e => s.keep c ob e fun z => A.ok.dis i j c (Ne.symm hj) oi z m
      exact ⟨w, h1, by rw [updF_ne hj]; exact h3⟩
  · by_cases hj : j = i
    · rw [hj, updF_same]; exact (List.nodup_append.mp nd).1
    · rw [updF_ne hj]; exact A.ok.nod j (own j h)
  · by_cases hj : j = i
    · rw [hj, updF_same] at m
      have hl : l ≠ i := by rw [← hj]; exact Ne.symm ne
      rw [updF_ne hl]
      exact nj hl (F'l c m)
    · rw [updF_ne hj] at m
      by_cases hl : l = i
      · rw [hl, updF_same]
        exact fun z => nj hj (F'l c z) m
      · rw [updF_ne hl]; exact A.ok.dis j l c ne (own j h) m
  · by_cases hj : j = i
    · rw [hj, own_at (setO_own e)] at h; cases h
    · rw [updF_ne hj]; rw [setO_at_ne hj] at h; exact A.ok.emp j h
  · obtain ⟨j, z⟩ := z
    by_cases hj : j = i
    · rw [hj, updF_same] at z; exact (List.nodup_append.mp nd).2.2 c z c m rfl
    · rw [updF_ne hj] at z; exact nj hj (List.mem_append_right _ m) z
  · refine s.keep c ob (A.stp.keep c ob e n) fun z => ?_
    exact (A.stp.subO c (.inl ⟨i, oi, z⟩)).elim n fun y => by rw [y] at e; cases e
  · have back : c ∈ F' ++ G' → InO en0 Fs0 c ∨ H0 c = none := fun m => (s.subO c m).elim (fun y => A.stp.subO c (.inl ⟨i, oi, y⟩)) fun y => .inr (A.stp.dom c y)
    rcases m with ⟨j, h, m⟩ | m
    · by_cases hj : j = i
      · rw [hj, updF_same] at m; exact back (F'l c m)
      · rw [updF_ne hj] at m; exact A.stp.subO c (.inl ⟨j, own j h, m⟩)
    · exact back (List.mem_append_right _ m)
  · have back : c ∈ F' ++ G' → InF Fs0 c ∨ H0 c = none := fun m => (s.subA c m).elim (fun y => A.stp.subA c (.inl ⟨i, y⟩)) fun y => .inr (A.stp.dom c y)
    rcases m with ⟨j, m⟩ | m
    · by_cases hj : j = i
      · rw [hj, updF_same] at m; exact back (F'l c m)
      · rw [updF_ne hj] at m; exact A.stp.subA c (.inl ⟨j, m⟩)
    · exact back (List.mem_append_right _ m)
  · by_cases hj : j = i
    · subst hj
      unfold setO at h
      cases es : en[j]? with
      | none => unfold ownAt at e; rw [es] at e; cases e
      | some s =>
        rw [es] at h
        cases s with
        | b x0 => exact A.bk j x0 es
        | _ => simp only [List.getElem?_set_self (own_lt e)] at h; cases h
    · rw [setO_ne hj] at h; exact A.bk j y h
def mCallM (i : Nat) (F : T → List T → RF) (ms : En → RM (List Hd)) : En → RM T := fun en => match ownAt en i with
  | none => .no
  | some _ => (ms en).bind fun hs en1 => match ownAt en1 i with
    | none => .no
    | some x0 => match hds en1 i hs with
      | none => .no
      | some xs => match F x0 xs with
        | .ok r x' => .ok r (setO en1 i x')
        | .ex c x' => .ex c (setO en1 i x')
        | .no => .no
theorem m_callM (i : Nat) {x y : Str} {k : Nat} {F : T → List T → RF} {p py : Pos} (f : FnM X.prog X.w X.K X.mg X.base x k F) (tk : Takes X W) (hr : Room k X.A) (ha : PMH X W es ms) (hg : Gl X x := by rfl) (hN : X.N[i]? = some y := by rfl) (hv : Vis X.env.scope y := by first | exact Or.inl rfl | exact Or.inr (Or.inl rfl) | exact Or.inr (Or.inr rfl))
    (hdb : (x == ("__debug__" : Str)) = false := by decide) (hd : (y == ("__debug__" : Str)) = false := by decide) (hcd : (y == ("__classdict__" : Str)) = false := by decide)
    (he : starEach (.Name y py :: es) X.env = (false, eval (.Name y py) X.env) :: starEach es X.env := by rfl) (hpl : (backTo pos (starEach es X.env)).any (·.1) = false := by rfl) : PM X W (.Call (.Name x p) (.Name y py :: es) [] pos) (mCallM i F ms) := by
  obtain ⟨f, fd, ps, okF, hm, hk, hb⟩ := f.ex
  obtain ⟨t, pa, s⟩ := ha
  refine ⟨_, pe_callS (E := WE W) okF hr hg hm hk hb (fun σ => passAt tk σ) (pa_cons (pe_var hN hv hd hcd) pa he) hdb he hpl, fun σ H en Fs Q ok q => ?_⟩
  unfold mCallM at q
  cases e0 : ownAt en i with
  | none => rw [e0] at q; exact q.elim
  | some x00 =>
    rw [e0] at q
    obtain ⟨v0, h0, _⟩ := ok.has i _ (own_at e0)
    refine ⟨v0, h0, s σ H en Fs _ ok ?_⟩
    simp only at q
    cases e : ms en with
    | ok hs en1 =>
      rw [e] at q
      simp only [RM.bind_ok] at q
      intro vs H' Fs' G A o
      cases e1 : ownAt en1 i with
      | none => rw [e1] at q; exact q.elim
      | some x0 =>
        rw [e1] at q
        simp only at q
        have oi : ownAt en1 i ≠ none := by rw [e1]; exact fun z => by cases z
        obtain ⟨v1, h1, o1⟩ := A.ok.has i _ (own_at e1)
        rw [h0] at h1; cases h1
        cases e2 : hds en1 i hs with
        | none => rw [e2] at q; exact q.elim
        | some xs =>
          rw [e2] at q
          simp only at q
          refine ⟨v0, vs, x0, Fs' i, xs, rfl, o1, A.ok.nod i oi, o.vwa A.ok oi A.dis e2, ?_⟩
          cases ef : F x0 xs with
          | ok r x' => rw [ef] at q; exact fun v H2 G' G2 st o2 o3 nd => q v H2 _ G2 (A.slot e1 h0 st o2 nd) o3
          | ex c x' =>
            rw [ef] at q
            exact fun cls dx H2 G' st o2 nd i => q cls dx H2 _ σ (A.slot (G' := []) e1 h0 (by rw [List.append_nil]; exact st) o2 (by rw [List.append_nil]; exact nd)) i
          | no => rw [ef] at q; exact q
    | ex c en1 => rw [e] at q; exact q
    | no => rw [e] at q; exact q
end
/-! ### a def's frame at its entry -/
def startE (n : Nat) (xs : List T) : En := xs.map mkS ++ List.replicate (n - xs.length) .n
theorem startE_at {n : Nat} {xs : List T} {i : Nat} {x : T} (h : at_ (startE n xs) i = some x) : xs[i]? = some x := by
  unfold at_ startE at h
  by_cases hl : i < xs.length
  · rw [List.getElem?_append_left (by rw [List.length_map]; exact hl), List.getElem?_map] at h
    cases e : xs[i]? with
    | none => rw [e] at h; cases h
    | some y => rw [e] at h; rw [← h]; exact (mkS_get y).symm
  · rw [List.getElem?_append_right (by rw [List.length_map]; omega), List.getElem?_replicate] at h
    split at h
    · rename_i h2; split at h2 <;> cases h2; cases h
    · cases h
theorem startE_own {n : Nat} {xs : List T} {i : Nat} (h : ownAt (startE n xs) i ≠ none) : ∃ d, xs[i]? = some (.d d) := by
  unfold ownAt startE at h
  by_cases hl : i < xs.length
  · rw [List.getElem?_append_left (by rw [List.length_map]; exact hl), List.getElem?_map] at h
    cases e : xs[i]? with
    | none => rw [e] at h; exact absurd rfl h
    | some y =>
      rw [e] at h
      cases y with
      | d d => exact ⟨d, rfl⟩
      | l ys => exact absurd rfl h
  · rw [List.getElem?_append_right (by rw [List.length_map]; omega), List.getElem?_replicate] at h
    split at h <;> rename_i h2
    · split at h2 <;> cases h2
    · split at h2 <;> cases h2
    · exact absurd rfl h
theorem Vws.get {K : PySem.W.Frag} {H : Hp} : ∀ {vs : List V} {xs : List T} {i : Nat} {x : T}, Vws K H vs xs → xs[i]? = some x → ∃ v G, vs[i]? = some v ∧ Own K H v x G
  | _, _, _, _, .nil, h => by simp at h
  | _, _, 0, _, .cons o t, h => by simp at h; subst h; exact ⟨_, _, rfl, o⟩
  | _, _, i + 1, x, .cons _ t, h => by
    obtain ⟨v, G, h1, h2⟩ := Vws.get (i := i) (x := x) t (by simpa using h)
    exact ⟨v, G, by simpa using h1, h2⟩
/-- the footprints of what is seen -/
theorem Vws.fts {K : PySem.W.Frag} {H : Hp} {vs : List V} {xs : List T} (w : Vws K H vs xs) : ∃ Fs : Ft, (∀ i x, xs[i]? = some x → ∃ v, vs[i]? = some v ∧ Own K H v x (Fs i)) ∧ ∀ i, xs[i]? = none → Fs i = [] := by
  induction w with
  | nil => exact ⟨fun _ => [], fun i x h => by simp at h, fun _ _ => rfl⟩
  | @cons v vs x xs G o t ih =>
    obtain ⟨Fs, h1, h2⟩ := ih
    refine ⟨fun i => match i with
      | 0 => G
      | i + 1 => Fs i, fun i y h => ?_, fun i h => ?_⟩
    · cases i with
      | zero => simp at h; subst h; exact ⟨v, rfl, o⟩
      | succ i => obtain ⟨w, a, b⟩ := h1 i y (by simpa using h); exact ⟨w, by simpa using a, b⟩
    · cases i with
      | zero => simp at h
      | succ i => exact h2 i (by simpa using h)
theorem start_get {N : List Str} {vs : List V} {i : Nat} {v : V} (h : vs[i]? = some v) : (L2.start N vs)[i]? = some (some v) := by
  unfold L2.start
  obtain ⟨hl, _⟩ := List.getElem?_eq_some_iff.mp h
  rw [List.getElem?_append_left (by rw [List.length_map]; exact hl), List.getElem?_map, h]
  rfl
theorem start_ok {K : PySem.W.Frag} {H : Hp} {N : List Str} {vs : List V} {xs : List T} (w : Vws K H vs xs) : ∃ Fs, EOk K H (L2.start N vs) (startE N.length xs) Fs ∧ (∀ c, ¬ InO (startE N.length xs) Fs c) := by
  obtain ⟨Fs, h1, h2⟩ := w.fts
  have dn : ∀ i, ownAt (startE N.length xs) i ≠ none → Fs i = [] := fun i h => by
    obtain ⟨d, e⟩ := startE_own h
    obtain ⟨v, _, o⟩ := h1 i _ e
    exact o.dnil
  refine ⟨Fs, ⟨?_, fun i x h => ?_, fun i h => by rw [dn i h]; exact List.nodup_nil, fun i j a _ h m => (by rw [dn i h] at m; cases m), fun i h => ?_⟩, fun c ⟨i, h, m⟩ => (by rw [dn i h] at m; cases m)⟩
  · unfold startE L2.start
    rw [List.length_append, List.length_append, List.length_map, List.length_map, List.length_replicate, List.length_replicate, w.length]
    exact Nat.le_refl _
  · obtain ⟨v, a, b⟩ := h1 i x (startE_at h)
    exact ⟨v, start_get a, b⟩
  · cases e : xs[i]? with
    | none => exact h2 i e
    | some x =>
      obtain ⟨hl, _⟩ := List.getElem?_eq_some_iff.mp e
      unfold at_ startE at h
      rw [List.getElem?_append_left (by rw [List.length_map]; exact hl), List.getElem?_map, e] at h
      rw [show (Option.map mkS (some x)) = some (mkS x) from rfl] at h
      simp only [mkS_get] at h
      cases h
def runP (n k : Nat) (f : En → SR) (xs : List T) : R T := if xs.length = k then match f (startE n xs) with
    | .ret x _ => .ok x
    | .nx _ => .ok (.d .non)
    | .ex c _ => .ex c
    | _ => .no
  else .no
section
variable {P : Program} {w : World} {K : PySem.W.Frag} {mg : Str → Option Value} {base : Heap}
/-- THE RULE for a def that changes nothing -/
theorem fnPk {x : String} {st : Stmt} {f : Addr} {fd : FuncData} {N ps : List Str} {k : Nat} {body : En → SR} (F : Fun K x x st f fd) (S : FnScope N ps (defScope st))
    (hbody : ∀ (cdv : Value) (A : Around) (outer : List Env) (s : Shared) (H : Hp) (E : XK), Room k (A.deeper (envOfC x (defScope st) s.heap.objs.size f cdv)) → Cz (cxOf (L2.CX P w) P w K mg base N x (defScope st) f cdv A outer s H E) (fun cls d _ H => E cls d H) →
      PBl (cxOf (L2.CX P w) P w K mg base N x (defScope st) f cdv A outer s H E) (fun cls d _ H => E cls d H) (defBody st) body) : FnOk P w K mg base (L2.CX P w) (k + 1) f fd ps (spP K mg (runP N.length ps.length body)) := by
  refine F.okX S (fun vs H Q E h => ?_) (fun cdv A outer s H vs Q E hr h => ?_)
  · obtain ⟨xs, w, h⟩ := h
    unfold runP at h
    by_cases hl : xs.length = ps.length
    · rw [w.length]; exact hl
    · rw [if_neg hl] at h; exact h.elim
  · obtain ⟨t, p, sp⟩ := hbody cdv A outer s H E hr ⟨takes_of rfl rfl rfl rfl, passes_of rfl, rfl, S.nd⟩
    refine ⟨t, p, ?_⟩
    obtain ⟨xs, w, h⟩ := h
    obtain ⟨Fs, ok, no⟩ := start_ok (N := N) w
    refine sp _ H _ Fs _ ok ?_
    unfold runP at h
    by_cases hl : xs.length = ps.length
    · rw [if_pos hl] at h
      have same : ∀ {H' : Hp} {Fs' : Ft} {σ' : L2.St} {en' : En} {G : List Addr}, Aft K H Fs (L2.start N vs) (startE N.length xs) H' Fs' σ' en' G → Same H H' ∧ Fresh H G := fun {H' Fs' σ' en' G} a =>
        ⟨fun c o e => a.stp.keep c o e (no c), a.nod, fun c m => (a.stp.subO c (.inr m)).elim (fun z => absurd z (no c)) id⟩
      cases e : body (startE N.length xs) with
      | nx en' => rw [e] at h; exact fun H' Fs' σ' a => h .non H' [] (same a).1 (.d .non) Fresh.nil
      | ret x en' => rw [e] at h; exact fun v H' Fs' σ' G a o => h v H' G (same a).1 o (same a).2
      | ex c en' => rw [e] at h; exact fun cls dx H' Fs' σ' a i => h cls dx H' (same a).1 i
      | brk en' => rw [e] at h; exact h.elim
      | ct en' => rw [e] at h; exact h.elim
      | no => rw [e] at h; exact h.elim
    · rw [if_neg hl] at h; exact h.elim
theorem fnP {x : String} {st : Stmt} {f : Addr} {fd : FuncData} {N ps : List Str} {k : Nat} {body : En → SR} (F : Fun K x x st f fd) (S : FnScope N ps (defScope st)) (hm : mg x = some (.ref f)) (hb : Binds K fd ps [])
    (hbody : ∀ (cdv : Value) (A : Around) (outer : List Env) (s : Shared) (H : Hp) (E : XK), Room k (A.deeper (envOfC x (defScope st) s.heap.objs.size f cdv)) → Cz (cxOf (L2.CX P w) P w K mg base N x (defScope st) f cdv A outer s H E) (fun cls d _ H => E cls d H) →
      PBl (cxOf (L2.CX P w) P w K mg base N x (defScope st) f cdv A outer s H E) (fun cls d _ H => E cls d H) (defBody st) body) : FnP P w K mg base x (k + 1) (runP N.length ps.length body) := ⟨f, fd, ps, fnPk F S hbody, hm, F.kp, hb⟩
end
end Z
/-! Z: a def whose first argument's list is changed; the law's own def. -/
namespace Z
open PySem PySem.Spec L2
open PyProof.Rows hiding St

theorem Vwa.vws {K : PySem.W.Frag} {H : Hp} {G : List Addr} : ∀ {vs : List V} {xs : List T}, Vwa K H G vs xs → Vws K H vs xs
  | _, _, .nil => .nil
  | _, _, .cons o _ t => .cons o (Vwa.vws t)
theorem Vwa.fts {K : PySem.W.Frag} {H : Hp} {Z : List Addr} {vs : List V} {xs : List T} (w : Vwa K H Z vs xs) : ∃ Fs : Ft, (∀ i x, xs[i]? = some x → ∃ v, vs[i]? = some v ∧ Own K H v x (Fs i)) ∧ (∀ i, xs[i]? = none → Fs i = []) ∧ ∀ i, ∀ a ∈ Fs i, a ∉ Z := by
  induction w with
  | nil => exact ⟨fun _ => [], fun i x h => by simp at h, fun _ _ => rfl, fun _ _ m => absurd m List.not_mem_nil⟩
  | @cons v vs x xs G o d t ih =>
    obtain ⟨Fs, h1, h2, h3⟩ := ih
    refine ⟨fun i => match i with
      | 0 => G
      | i + 1 => Fs i, fun i y h => ?_, fun i h => ?_, fun i => ?_⟩
    · cases i with
      | zero => simp at h; subst h; exact ⟨v, rfl, o⟩
      | succ i => obtain ⟨w, a, b⟩ := h1 i y (by simpa using h); exact ⟨w, by simpa using a, b⟩
    · cases i with
      | zero => simp at h
      | succ i => exact h2 i (by simpa using h)
    · cases i with
      | zero => exact d
      | succ i => exact h3 i
def startM (n : Nat) (x0 : T) (xs : List T) : En := .b x0 :: startE (n - 1) xs
theorem startM_at {n : Nat} {x0 : T} {xs : List T} {i : Nat} : at_ (startM n x0 xs) (i + 1) = at_ (startE (n - 1) xs) i := rfl
theorem startM_own {n : Nat} {x0 : T} {xs : List T} {i : Nat} : ownAt (startM n x0 xs) (i + 1) = ownAt (startE (n - 1) xs) i := rfl
theorem startM_ok {K : PySem.W.Frag} {H : Hp} {N : List Str} {v0 : V} {us : List V} {x0 : T} {xs : List T} {G0 : List Addr} (o : Own K H v0 x0 G0) (nd : G0.Nodup) (w : Vwa K H G0 us xs) : ∃ Fs, EOk K H (L2.start N (v0 :: us)) (startM N.length x0 xs) Fs ∧ Fs 0 = G0 ∧ ∀ c, InO (startM N.length x0 xs) Fs c → c ∈ G0 := by
  obtain ⟨Fs, h1, h2, h3⟩ := w.fts
  have hs : L2.start N (v0 :: us) = some v0 :: (us.map some ++ List.replicate (N.length - 1 - us.length) none) := by
    unfold L2.start
    rw [List.map_cons, List.length_cons, List.cons_append, Nat.sub_sub, Nat.add_comm 1]
  have dn : ∀ i, ownAt (startE (N.length - 1) xs) i ≠ none → Fs i = [] := fun i h => by
    obtain ⟨d, e⟩ := startE_own h
    obtain ⟨v, _, o⟩ := h1 i _ e
    exact o.dnil
  refine ⟨fun i => match i with
      | 0 => G0
      | i + 1 => Fs i, ⟨?_, fun i x h => ?_, fun i h => ?_, fun i j c ne h m => ?_, fun i h => ?_⟩, rfl, fun c z => ?_⟩
  · rw [hs]
    unfold startM startE
    rw [List.length_cons, List.length_cons, List.length_append, List.length_append, List.length_map, List.length_map, List.length_replicate, List.length_replicate, w.vws.length]
    exact Nat.le_refl _
  · cases i with
    | zero => cases h; exact ⟨v0, by rw [hs]; rfl, o⟩
    | succ i =>
      obtain ⟨v, a, b⟩ := h1 i x (startE_at h)
      refine ⟨v, ?_, b⟩
      obtain ⟨hl, _⟩ := List.getElem?_eq_some_iff.mp a
      rw [hs, List.getElem?_cons_succ, List.getElem?_append_left (by rw [List.length_map]; exact hl), List.getElem?_map, a]
      rfl
  · cases i with
    | zero => exact nd
    | succ i => show (Fs i).Nodup; rw [dn i h]; exact List.nodup_nil
  · cases i with
    | zero =>
      cases j with
      | zero => exact absurd rfl ne
      | succ j => exact fun z => h3 j c z m
    | succ i =>
      have : c ∈ Fs i := m
      rw [dn i h] at this; cases this
  · cases i with
    | zero => cases h
    | succ i =>
      show Fs i = []
      cases e : xs[i]? with
      | none => exact h2 i e
      | some x =>
        obtain ⟨hl, _⟩ := List.getElem?_eq_some_iff.mp e
        rw [startM_at] at h
        unfold at_ startE at h
        rw [List.getElem?_append_left (by rw [List.length_map]; exact hl), List.getElem?_map, e] at h
        rw [show (Option.map mkS (some x)) = some (mkS x) from rfl] at h
        simp only [mkS_get] at h
        cases h
  · obtain ⟨i, h, m⟩ := z
    cases i with
    | zero => exact m
    | succ i =>
      have : c ∈ Fs i := m
      rw [dn i h] at this; cases this
def back0 (en : En) : Option T := match (en[(0 : Nat)]? : Option Sl) with
  | some (.b x) => some x
  | _ => none
def runM (n k : Nat) (f : En → SR) (x0 : T) (xs : List T) : RF := if xs.length + 1 = k then match f (startM n x0 xs) with
    | .ret r en' => match back0 en' with
      | some x' => .ok r x'
      | none => .no
    | .nx en' => match back0 en' with
      | some x' => .ok (.d .non) x'
      | none => .no
    | .ex c en' => match back0 en' with
      | some x' => .ex c x'
      | none => .no
    | _ => .no
  else .no
section
variable {P : Program} {w : World} {K : PySem.W.Frag} {mg : Str → Option Value} {base : Heap}
/-- THE RULE for a def that changes its first argument -/
theorem fnM {x : String} {st : Stmt} {f : Addr} {fd : FuncData} {N ps : List Str} {k : Nat} {body : En → SR} (F : Fun K x x st f fd) (S : FnScope N ps (defScope st)) (hm : mg x = some (.ref f)) (hb : Binds K fd ps [])
    (hbody : ∀ (cdv : Value) (A : Around) (outer : List Env) (s : Shared) (H : Hp) (E : XK), Room k (A.deeper (envOfC x (defScope st) s.heap.objs.size f cdv)) → Cz (cxOf (L2.CX P w) P w K mg base N x (defScope st) f cdv A outer s H E) (fun cls d _ H => E cls d H) →
      PBl (cxOf (L2.CX P w) P w K mg base N x (defScope st) f cdv A outer s H E) (fun cls d _ H => E cls d H) (defBody st) body) : FnM P w K mg base x (k + 1) (runM N.length ps.length body) := by
  refine ⟨f, fd, ps, F.okX S (fun vs H Q E h => ?_) (fun cdv A outer s H vs Q E hr h => ?_), hm, F.kp, hb⟩
  · obtain ⟨v0, us, x0, G0, xs, rfl, o, nd, w, h⟩ := h
    unfold runM at h
    by_cases hl : xs.length + 1 = ps.length
    · rw [List.length_cons, w.vws.length]; exact hl
    · rw [if_neg hl] at h; exact h.elim
  · obtain ⟨t, p, sp⟩ := hbody cdv A outer s H E hr ⟨takes_of rfl rfl rfl rfl, passes_of rfl, rfl, S.nd⟩
    refine ⟨t, p, ?_⟩
    obtain ⟨v0, us, x0, G0, xs, rfl, o, nd, w, h⟩ := h
    obtain ⟨Fs, ok, e0, no⟩ := startM_ok (N := N) o nd w
    refine sp _ H _ Fs _ ok ?_
    unfold runM at h
    by_cases hl : xs.length + 1 = ps.length
    · rw [if_pos hl] at h
      have zero : (L2.start N (v0 :: us))[0]? = some (some v0) := start_get rfl
      have fin : ∀ {H' : Hp} {Fs' : Ft} {σ' : L2.St} {en' : En} {G : List Addr} {x' : T}, Aft K H Fs (L2.start N (v0 :: us)) (startM N.length x0 xs) H' Fs' σ' en' G → back0 en' = some x' → Own K H' v0 x' (Fs' 0) ∧ (Fs' 0 ++ G).Nodup ∧ Stp H (· ∈ G0) (· ∈ G0) H' (· ∈ Fs' 0 ++ G) (· ∈ Fs' 0 ++ G) := fun {H' Fs' σ' en' G x'} a b => by
        have e : en'[(0 : Nat)]? = some (Sl.b x') := by
          unfold back0 at b
          cases e : en'[(0 : Nat)]? with
          | none => rw [e] at b; cases b
          | some y => rw [e] at b; cases y <;> cases b; rfl
        have oe : ownAt en' 0 = some x' := by unfold ownAt; rw [e]
        have on : ownAt en' 0 ≠ none := by rw [oe]; exact fun z => by cases z
        obtain ⟨v, h1, h2⟩ := a.ok.has 0 x' (own_at oe)
        rw [(a.bk 0 x' e).2, zero] at h1
        cases h1
        refine ⟨h2, List.nodup_append.mpr ⟨a.ok.nod 0 on, a.nod, fun c hc d hd z => a.dis d hd ⟨0, z ▸ hc⟩⟩, a.stp.pst, fun c ob e n => a.stp.keep c ob e fun z => n (no c z), a.stp.dom, fun c m => ?_, fun c m => ?_⟩
        · exact (a.stp.subO c ((List.mem_append.mp m).imp (fun z => ⟨0, on, z⟩) id)).imp (no c) id
        · exact (a.stp.subO c ((List.mem_append.mp m).imp (fun z => ⟨0, on, z⟩) id)).imp (no c) id
      cases e : body (startM N.length x0 xs) with
      | nx en' =>
        rw [e] at h
        simp only at h
        cases eb : back0 en' with
        | none => rw [eb] at h; exact h.elim
        | some x' => rw [eb] at h; exact fun H' Fs' σ' a => let ⟨h1, h2, h3⟩ := fin a eb; h .non H' (Fs' 0) [] h3 h1 (.d .non) h2
      | ret x en' =>
        rw [e] at h
        simp only at h
        cases eb : back0 en' with
        | none => rw [eb] at h; exact h.elim
        | some x' => rw [eb] at h; exact fun v H' Fs' σ' G a o => let ⟨h1, h2, h3⟩ := fin a eb; h v H' (Fs' 0) G h3 h1 o h2
      | ex c en' =>
        rw [e] at h
        simp only at h
        cases eb : back0 en' with
        | none => rw [eb] at h; exact h.elim
        | some x' => rw [eb] at h; exact fun cls dx H' Fs' σ' a i => let ⟨h1, h2, h3⟩ := fin a eb; h cls dx H' (Fs' 0) (by rw [List.append_nil] at h3; exact h3) h1 (by rw [List.append_nil] at h2; exact h2) i
      | brk en' => rw [e] at h; exact h.elim
      | ct en' => rw [e] at h; exact h.elim
      | no => rw [e] at h; exact h.elim
    · rw [if_neg hl] at h; exact h.elim
/-- the script, as the law's def gets it -/
theorem script_ro {H : Hp} {a : Addr} {ns : List Int} (h : Only H) (s : SqL K H a (ns.map V.int)) : RepD K H (.ref a) (.rol (ns.map D.int)) := by
  refine .rol (fun H' p => ?_) (ints_rep ns)
  rcases s with (s | ⟨o, s⟩) | s
  · rcases h a with z | ⟨o, xs, z⟩ <;> (rw [s] at z; cases z)
  · exact .inl (.inr ⟨o, p.2 _ _ _ s⟩)
  · exact .inr s
where
  ints_rep : ∀ ns : List Int, RepDs K H (ns.map V.int) (ns.map D.int)
    | [] => .nil
    | n :: r => .cons (.int n) (ints_rep r)
/-- the law's def hands back True -/
theorem law_sp {F : List T → R T} {H : Hp} {a : Addr} {ns : List Int} (h : Only H) (s : SqL K H a (ns.map V.int)) (e : F [.d (.rol (ns.map D.int))] = .ok (.d (.bl true))) : spP K mg F [.ref a] H (fun v _ => v = .bl true) fun _ _ _ => False := by
  refine ⟨[.d (.rol (ns.map D.int))], .cons (.d (script_ro h s)) .nil, ?_⟩
  rw [e]
  intro v H' G _ o _
  have r := o.rep
  cases r
  rfl
end
end Z
/-! Z: short names for what is computed; operations in place; any; recursion. -/
namespace Z
open PySem PySem.Spec L2
open PyProof.Rows hiding St

def vN (i : Nat) : En → R T := fun en => R.of (at_ en i)
def kI (i : Int) : En → R T := fun _ => .ok (.d (.int i))
def kB (b : Bool) : En → R T := fun _ => .ok (.d (.bl b))
def kS (s : Str) : En → R T := fun _ => .ok (.d (.str s))
def kD' (d : D) : En → R T := fun _ => .ok (.d d)
def gPur (g : En → R T) : En → R T := fun en => (g en).pur
def fAddA : T → T → Option T
  | .d (.int i), .d (.int j) => some (.d (.int (i + j)))
  | .d (.str a), .d (.str b) => if a.length + b.length ≤ most then some (.d (.str (a ++ b))) else none
  | _, _ => none
def fMulA : T → T → Option T
  | .d (.int i), .d (.int j) => if i.natAbs < 18446744073709551616 ∨ j.natAbs < 18446744073709551616 then some (.d (.int (i * j))) else none
  | _, _ => none
def fDivA : T → T → Option T
  | .d (.int i), .d (.int j) => if 0 < j ∧ j < 1073741824 then some (.d (.int (i / j))) else none
  | _, _ => none
section
variable {X : Cx}
theorem i_add : Ib X .Add fAddA := ⟨_, iop_add.or iop_add_str, fun H x y z vx vy Gx Gy Q ox oy e q => by
  unfold fAddA at e
  split at e
  · cases e
    cases ox with | d r1 => cases oy with | d r2 => cases r1; cases r2; exact .inl ⟨_, _, rfl, rfl, fin_d (.int _) q⟩
  · split at e <;> cases e
    rename_i h
    cases ox with | d r1 => cases oy with | d r2 => cases r1; cases r2; exact .inr ⟨_, _, rfl, rfl, by rw [most_eq]; exact h, fin_d (.str _) q⟩
  · cases e⟩
theorem i_sub : Ib X .Sub fSub := ⟨_, iop_sub, fun H x y z vx vy Gx Gy Q ox oy e q => by
  unfold fSub at e
  split at e <;> cases e
  cases ox with | d r1 => cases oy with | d r2 => cases r1; cases r2; exact ⟨_, _, rfl, rfl, fin_d (.int _) q⟩⟩
theorem i_mul : Ib X .Mult fMulA := ⟨_, iop_mul, fun H x y z vx vy Gx Gy Q ox oy e q => by
  unfold fMulA at e
  split at e
  · split at e <;> cases e
    rename_i h
    cases ox with | d r1 => cases oy with | d r2 => cases r1; cases r2; exact ⟨_, _, rfl, rfl, h.imp (fun z => by omega) (fun z => by omega), fin_d (.int _) q⟩
  · cases e⟩
theorem i_div : Ib X .FloorDiv fDivA := ⟨_, iop_fdiv, fun H x y z vx vy Gx Gy Q ox oy e q => by
  unfold fDivA at e
  split at e
  · split at e <;> cases e
    rename_i h
    cases ox with | d r1 => cases oy with | d r2 => cases r1; cases r2; exact ⟨_, _, rfl, rfl, h, fin_d (.int _) q⟩
  · cases e⟩
theorem i_mod : Ib X .Mod fMod := ⟨_, iop_mod, fun H x y z vx vy Gx Gy Q ox oy e q => by
  unfold fMod at e
  split at e
  · split at e <;> cases e
    rename_i h
    cases ox with | d r1 => cases oy with | d r2 => cases r1; cases r2; exact ⟨_, _, rfl, rfl, h, fin_d (.int _) q⟩
  · cases e⟩
/-! ### any of ints and bools -/
def tr1 : D → Option Bool
  | .bl b => some b
  | .int i => some (i != 0)
  | _ => none
def trs : List D → Option (List Bool)
  | [] => some []
  | d :: r => (tr1 d).bind fun b => (trs r).map (b :: ·)
theorem trs_len : ∀ {ds : List D} {bs : List Bool}, trs ds = some bs → bs.length = ds.length
  | [], _, h => by cases h; rfl
  | d :: r, bs, h => by
    obtain ⟨b, _, h⟩ := Option.bind_eq_some_iff.mp h
    obtain ⟨cs, h2, rfl⟩ := Option.map_eq_some_iff.mp h
    exact congrArg Nat.succ (trs_len h2)
theorem truth_trs {prog : Program} {w : World} {A : Around} {K : PySem.W.Frag} {H : Hp} : ∀ {vs : List V} {ds : List D} {its : List Value} {bs : List Bool}, RepDs K H vs ds → Vals vs its → trs ds = some bs → ∀ (i : Nat) (v : Value) (s : Shared) (Q : Bool → Shared → Prop) (E : Value → Shared → Prop), its[i]? = some v → Q (bs.getD i false) s → wpAny (model prog w) A (truthy v) Q E s
  | _, _, _, _, .nil, .nil, _, i, v, s, Q, E, hv, hq => by simp at hv
  | _, _, _, bs, .cons r t, .cons r2 t2, h, i, v, s, Q, E, hv, hq => by
    obtain ⟨b, h1, h⟩ := Option.bind_eq_some_iff.mp h
    obtain ⟨cs, h2, rfl⟩ := Option.map_eq_some_iff.mp h
    cases i with
    | succ i => exact truth_trs t t2 h2 i v s Q E (by simpa using hv) (by simpa using hq)
    | zero =>
      simp at hv
      subst hv
      have hq : Q b s := hq
      cases r with
      | bl k => cases h1; cases r2; exact wpAny_truthy_bool hq
      | int k => cases h1; obtain ⟨tk, rfl⟩ := r2; exact PySem.P.truthy_int hq
      | _ => cases h1
def fAny : List T → Option T
  | [x] => (lstOf x).bind fun ds => (trs ds).map fun bs => .d (.bl (bs.any id))
  | _ => none
theorem call_anyT (hc : X.calm = true) : CallR X (.builtin "any") (fun vs H Q => ∃ (a : Addr) (us : List V) (ds : List D) (bs : List Bool), vs = [V.ref a] ∧ SqL X.K H a us ∧ RepDs X.K H us ds ∧ trs ds = some bs ∧ Q (.bl (bs.any id)) H) := by
  intro pins s σ H vs us Q I r h
  obtain ⟨a, ws, ds, bs, rfl, hs, rr, ht, q⟩ := h
  obtain ⟨its, rv, hl, _⟩ := I.list hs
  rw [Vals.ref1 r]
  refine call_any_walk (iter_any hl.isList fun s2 e2 st hne => ?_)
  subst e2
  refine ⟨_, _, _, _, _, _, _, rfl, Walks.list (A := X.A.in1) (I.ok.hd hc) _ a hne its.toArray, st, (fun i v s Q E hv hq => truth_trs rr rv ht i v s Q E (by simpa using hv) hq), fun h' tk hk => ?_⟩
  refine ⟨.bl _, H, I.kept fun b o eo => hk b o (fun hmem => (by
    rcases List.mem_cons.mp hmem with e1 | hmem
    · exact absurd (e1 ▸ Heap.lt_size eo) (Nat.lt_irrefl _)
    · cases hmem)) (Heap.get?_push_of_some _ eo), ?_, q⟩
  show Value.bool _ = Value.bool _
  rw [← L2.any_range, trs_len ht, ← rr.length, rv.length, List.size_toArray]
theorem f_any (hc : X.calm = true) : Bf X (.builtin "any") fAny := ⟨_, call_anyT hc, fun H xs vs z Q w e q => by
  unfold fAny at e
  split at e
  · obtain ⟨ds, e1, e⟩ := Option.bind_eq_some_iff.mp e
    obtain ⟨ns, e2, rfl⟩ := Option.map_eq_some_iff.mp e
    cases w with
    | cons o t =>
      cases t
      obtain ⟨a, us, rfl, s, r⟩ := lstOf_ok o e1
      exact ⟨a, us, ds, ns, rfl, s, r, e2, fin_d (.bl _) q⟩
  · cases e⟩
/-! ### what is walked, of our own -/
variable {W : WX} {tg e : Expr} {m : En → RM T} {p pos : Pos}
def mIt (m : En → RM T) : En → RM (List T) := fun en => (m en).bind fun x en' => RM.of (R.of (items x)) en'
theorem mi_sq (h : PM X W e m) : PMI X W tg e (mIt m) := by
  obtain ⟨t, p, s⟩ := h
  refine ⟨_, pi_sq p, fun σ H en Fs Q ok q => s σ H en Fs _ ok ?_⟩
  unfold mIt at q
  cases e : m en with
  | ok x en1 =>
    rw [e] at q
    intro v H' Fs' G a o
    cases ef : items x with
    | none => simp only [RM.bind_ok, ef, R.of_none] at q; exact q.elim
    | some xs =>
      simp only [RM.bind_ok, ef, R.of_some] at q
      exact it_own o ef fun J j => q J H' Fs' G a j o.there
  | ex c en1 => rw [e] at q; exact q
  | no => rw [e] at q; exact q
def mR1 (m : En → RM T) : En → RM (List T) := fun en => (m en).bind fun x en' => RM.of (fR1 x) en'
theorem mi_rng1 (hm : X.mg "range" = none) (h : PM X W e m) (hg : Gl X "range" := by rfl) (hs : starEach [e] X.env = [(false, eval e X.env)] := by rfl) : PMI X W tg (.Call (.Name "range" p) [e] [] pos) (mR1 m) := by
  obtain ⟨t, pp, s⟩ := h
  refine ⟨_, pi_range1 hg hm (pa_cons pp pa_nil (by rw [hs]; rfl)) hs, fun σ H en Fs Q ok q => s σ H en Fs _ ok ?_⟩
  unfold mR1 at q
  cases e : m en with
  | ok x en1 =>
    rw [e] at q
    intro v H' Fs' G a o
    simp only [RM.bind_ok] at q
    unfold fR1 at q
    split at q
    · split at q
      · rename_i hj
        have r := o.rep
        cases r
        exact ⟨_, rfl, hj.1, hj.2, q _ H' Fs' [] a.drop it_rng fun _ m => absurd m List.not_mem_nil⟩
      · exact q.elim
    · exact q.elim
  | ex c en1 => rw [e] at q; exact q
  | no => rw [e] at q; exact q
end
/-! ### a def that calls itself: at depth 0 nothing is said -/
theorem fnP_no {P : Program} {w : World} {K : PySem.W.Frag} {mg : Str → Option Value} {base : Heap} {x : String} {st : Stmt} {f : Addr} {fd : FuncData} {ps : List Str} {k : Nat} (F : Fun K x x st f fd) (hm : mg x = some (.ref f)) (hb : Binds K fd ps []) : FnP P w K mg base x k (fun _ => .no) :=
  ⟨f, fd, ps, ⟨fun _ _ _ _ ⟨_, _, h⟩ => h.elim, fun _ _ _ _ _ _ _ _ _ _ _ _ _ ⟨_, _, h⟩ => h.elim⟩, hm, F.kp, hb⟩
theorem fnM_no {P : Program} {w : World} {K : PySem.W.Frag} {mg : Str → Option Value} {base : Heap} {x : String} {st : Stmt} {f : Addr} {fd : FuncData} {ps : List Str} {k : Nat} (F : Fun K x x st f fd) (hm : mg x = some (.ref f)) (hb : Binds K fd ps []) : FnM P w K mg base x k (fun _ _ => .no) :=
  ⟨f, fd, ps, ⟨fun _ _ _ _ ⟨_, _, _, _, _, _, _, _, _, h⟩ => h.elim, fun _ _ _ _ _ _ _ _ _ _ _ _ _ ⟨_, _, _, _, _, _, _, _, _, h⟩ => h.elim⟩, hm, F.kp, hb⟩
end Z
/-! Z: the rest that printed texts ask. -/
namespace Z
open PySem PySem.Spec L2
open PyProof.Rows hiding St

def mIxNg (i : Nat) (mb : En → RM T) : En → RM T := fun en => if (at_ en i).isSome then mIxN i mb en else .no
/-- the places that a target stores to -/
def Ixs (vs : List Nat) (k : T → Option Ass) : Prop := ∀ x as, k x = some as → ∀ p ∈ as, p.1 ∈ vs
def Ixd (vs : List Nat) (k : List D → Option Ass) : Prop := ∀ x as, k x = some as → ∀ p ∈ as, p.1 ∈ vs
theorem ix_name {vs : List Nat} {i : Nat} (h : i ∈ vs) : Ixs vs (kName i) := fun x as e p m => by
  cases e
  have : p = (i, x) := by simpa using m
  rw [this]; exact h
theorem ix_nil {vs : List Nat} : Ixd vs kNil := fun x as e p m => by
  cases x with
  | nil => cases e; cases m
  | cons _ _ => cases e
theorem ix_cons {vs : List Nat} {k : T → Option Ass} {r : List D → Option Ass} (h1 : Ixs vs k) (h2 : Ixd vs r) : Ixd vs (kCons k r) := fun x as e p m => by
  cases x with
  | nil => cases e
  | cons d ds =>
    obtain ⟨a, e1, e⟩ := Option.bind_eq_some_iff.mp e
    obtain ⟨b, e2, rfl⟩ := Option.map_eq_some_iff.mp e
    exact (List.mem_append.mp m).elim (h1 _ _ e1 p) (h2 _ _ e2 p)
theorem ix_tup {vs : List Nat} {n : Nat} {k : List D → Option Ass} (h : Ixd vs k) : Ixs vs (kTup n k) := fun x as e p m => by
  unfold kTup at e
  split at e
  · split at e
    · exact h _ _ e p m
    · cases e
  · cases e
/-- the law's promise: a value, no error -/
def spL (K : PySem.W.Frag) (F : List T → R T) : Sp := fun vs H Q _ => ∃ xs r, Vws K H vs xs ∧ F xs = .ok r ∧ ∀ v H' G, Same H H' → Own K H' v r G → Fresh H G → Q v H'
theorem law_ok {P : Program} {w : World} {K : PySem.W.Frag} {mg : Str → Option Value} {base : Heap} {k : Nat} {f : Addr} {fd : FuncData} {ps : List Str} {F : List T → R T} (h : FnOk P w K mg base (L2.CX P w) k f fd ps (spP K mg F)) : FnOk P w K mg base (L2.CX P w) k f fd ps (spL K F) :=
  h.imp fun vs H Q E ⟨xs, r, w, e, q⟩ => ⟨xs, w, by rw [e]; exact q⟩
theorem law_spL {K : PySem.W.Frag} {F : List T → R T} {H : Hp} {a : Addr} {ns : List Int} (h : Only H) (s : SqL K H a (ns.map V.int)) (e : F [.d (.rol (ns.map D.int))] = .ok (.d (.bl true))) : spL K F [.ref a] H (fun v _ => v = .bl true) fun _ _ _ => False := by
  refine ⟨[.d (.rol (ns.map D.int))], _, .cons (.d (script_ro h s)) .nil, e, ?_⟩
  intro v H' G _ o _
  have r := o.rep
  cases r
  rfl
theorem blk_ok {N : List Str} {sc scope : Scope} {own : List (Str × Nat)} (h : blkC N sc scope own = true) : blkC N sc scope own = true := h
theorem cx_false {P : Program} {w : World} {H : Hp} {s : Shared} {e : Value} {s' : Shared} (h : L2.CX P w [] H s (fun _ _ _ => False) e s') : False := by
  obtain ⟨_, _, _, _, _, _, _, _, _, _, _, _, z⟩ := h
  exact z
end Z
/-! Z: reckoning with what is told. -/
namespace Z
open PySem PySem.Spec L2
open PyProof.Rows hiding St
variable {α : Type} {g h ga gb gc : En → R T} {f f' : T → T → Option T} {en : En} {m ma mb : En → RM T} {c : En → RM Bool} {gt ht : En → R Bool} {i j n : Nat} {x y : T} {s : Sl} {gs : En → R (List T)} {ms : En → RM (List T)} {hm : En → RM (List Hd)} {b d : En → SR}
/-! slots -/
@[simp] theorem at_nil : at_ [] i = none := rfl
@[simp] theorem at_zero : at_ (s :: en) 0 = s.get := rfl
@[simp] theorem at_succ : at_ (s :: en) (i + 1) = at_ en i := rfl
@[simp] theorem get_n : Sl.get .n = none := rfl
@[simp] theorem get_v : Sl.get (.v x) = some x := rfl
@[simp] theorem get_w : Sl.get (.w x) = some x := rfl
@[simp] theorem get_b : Sl.get (.b x) = some x := rfl
@[simp] theorem own_v0 : ownAt (.v x :: en) 0 = some x := rfl
@[simp] theorem own_b0 : ownAt (.b x :: en) 0 = some x := rfl
@[simp] theorem own_w0 : ownAt (.w x :: en) 0 = none := rfl
@[simp] theorem own_n0 : ownAt (.n :: en) 0 = none := rfl
@[simp] theorem own_succ : ownAt (s :: en) (i + 1) = ownAt en i := rfl
@[simp] theorem stow_v0 : stow (.v x :: en) 0 s = some (s :: en) := rfl
@[simp] theorem stow_w0 : stow (.w x :: en) 0 s = some (s :: en) := rfl
@[simp] theorem stow_n0 : stow (.n :: en) 0 s = some (s :: en) := rfl
@[simp] theorem stow_b0 : stow (.b x :: en) 0 s = none := rfl
@[simp] theorem stow_succ {s2 : Sl} : stow (s2 :: en) (i + 1) s = (stow en i s).map (s2 :: ·) := by
  unfold stow
  simp only [List.getElem?_cons_succ]
  cases e : en[i]? with
  | none => rfl
  | some z => cases z <;> rfl
@[simp] theorem setO_b0 : setO (.b y :: en) 0 x = .b x :: en := rfl
@[simp] theorem setO_v0 : setO (.v y :: en) 0 x = .v x :: en := rfl
@[simp] theorem setO_succ : setO (s :: en) (i + 1) x = s :: setO en i x := by
  unfold setO
  simp only [List.getElem?_cons_succ]
  cases e : en[i]? with
  | none => rfl
  | some z => cases z <;> rfl
@[simp] theorem mkS_d {d : D} : mkS (.d d) = .v (.d d) := rfl
@[simp] theorem mkS_l {xs : List T} : mkS (.l xs) = .w (.l xs) := rfl
@[simp] theorem setE_nil : setE en [] = en := rfl
@[simp] theorem setE_cons {r : Ass} : setE en ((i, x) :: r) = setE (en.set i (mkS x)) r := rfl
@[simp] theorem wipeE_nil : wipeE en [] = en := rfl
@[simp] theorem wipeE_cons {r : List Nat} : wipeE en (i :: r) = (wipeE en r).set i .n := rfl
@[simp] theorem stows_nil : stows en [] = some en := rfl
@[simp] theorem stows_cons {r : Ass} : stows en ((i, x) :: r) = (stow en i (mkS x)).bind fun en' => stows en' r := rfl
@[simp] theorem stowD_nil : stowD en [] = some en := rfl
@[simp] theorem stowD_cons {d : D} {r : Ass} : stowD en ((i, .d d) :: r) = (stow en i (.v (.d d))).bind fun en' => stowD en' r := rfl
@[simp] theorem weak_l0 {xs : List T} : weak (.v (.l xs) :: en) 0 = .w (.l xs) :: en := rfl
@[simp] theorem weak_d0 {d : D} : weak (.v (.d d) :: en) 0 = .v (.d d) :: en := rfl
@[simp] theorem weak_w0 : weak (.w x :: en) 0 = .w x :: en := rfl
@[simp] theorem weak_succ : weak (s :: en) (i + 1) = s :: weak en i := by
  unfold weak
  simp only [List.getElem?_cons_succ]
  cases e : en[i]? with
  | none => rfl
  | some z => cases z with
    | v x => cases x <;> rfl
    | _ => rfl
@[simp] theorem notOwn_w0 : notOwn (.w x :: en) 0 = true := rfl
@[simp] theorem notOwn_d0 {d : D} : notOwn (.v (.d d) :: en) 0 = true := rfl
@[simp] theorem notOwn_succ : notOwn (s :: en) (i + 1) = notOwn en i := rfl
@[simp] theorem kName_ev : kName i x = some [(i, x)] := rfl
@[simp] theorem kD_d {k : T → Option Ass} {d : D} : kD k (.d d) = k (.d d) := rfl
@[simp] theorem kNil_ev : kNil [] = some [] := rfl
@[simp] theorem kCons_ev {k : T → Option Ass} {r : List D → Option Ass} {d : D} {ds : List D} : kCons k r (d :: ds) = (k (.d d)).bind fun a => (r ds).map fun b => a ++ b := rfl
@[simp] theorem kTup_ev {k : List D → Option Ass} {ds : List D} : kTup n k (.d (.tup ds)) = if ds.length = n then k ds else none := rfl
/-! reading -/
@[simp] theorem vN_ev : vN i en = R.of (at_ en i) := rfl
@[simp] theorem kI_ev {z : Int} : kI z en = .ok (.d (.int z)) := rfl
@[simp] theorem kB_ev {z : Bool} : kB z en = .ok (.d (.bl z)) := rfl
@[simp] theorem kS_ev {z : Str} : kS z en = .ok (.d (.str z)) := rfl
@[simp] theorem kD'_ev {z : D} : kD' z en = .ok (.d z) := rfl
@[simp] theorem gPur_ev : gPur g en = (g en).pur := rfl
@[simp] theorem g2_ev : g2 f ga gb en = (ga en).bind fun x => (gb en).bind fun y => .of (f x y) := rfl
@[simp] theorem g1_ev {f : T → Option T} : g1 f g en = (g en).bind fun x => .of (f x) := rfl
@[simp] theorem gT_ev : gT g en = (g en).bind fun x => .of (tst x) := rfl
@[simp] theorem gTru_ev : gTru g en = (g en).bind fun x => .of (tru x) := rfl
@[simp] theorem gNot_ev : gNot gt en = (gt en).bind fun b => .ok (!b) := rfl
@[simp] theorem gAnd_ev : gAnd gt ht en = (gt en).bind fun b => if b = true then ht en else .ok false := rfl
@[simp] theorem gOr_ev : gOr gt ht en = (gt en).bind fun b => if b = true then .ok true else ht en := rfl
@[simp] theorem gNotV_ev : gNotV g en = (g en).bind fun x => (R.of (tru x)).bind fun b => .ok (.d (.bl (!b))) := rfl
@[simp] theorem gAndV_ev : gAndV g h en = (g en).bind fun x => (R.of (tru x)).bind fun b => if b = true then h en else .ok x := rfl
@[simp] theorem gOrV_ev : gOrV g h en = (g en).bind fun x => (R.of (tru x)).bind fun b => if b = true then .ok x else h en := rfl
@[simp] theorem gIf_ev {p q : En → R α} : gIf gt p q en = (gt en).bind fun b => if b = true then p en else q en := rfl
@[simp] theorem gCh_ev : gCh f f' ga gb gc en = (ga en).bind fun x => (gb en).bind fun y => (R.of (f x y)).bind fun z => (R.of (tst z)).bind fun k => if k = true then (gc en).bind fun u => R.of (f' y u) else .ok (.d (.bl false)) := rfl
@[simp] theorem oN_ev : oN en = .ok none := rfl
@[simp] theorem oS_ev : oS g en = (g en).bind fun x => (R.of (asI x)).bind fun i => .ok (some i) := rfl
@[simp] theorem asI_ev {z : Int} : asI (.d (.int z)) = some z := rfl
@[simp] theorem gSl_ev {lo hi : En → R (Option Int)} : gSl g lo hi en = (g en).bind fun x => (lo en).bind fun l => (hi en).bind fun h => .of (fSl x l h) := rfl
@[simp] theorem aNil_ev : (aNil : En → R (List α)) en = .ok [] := rfl
@[simp] theorem aCons_ev {p : En → R α} {q : En → R (List α)} : aCons p q en = (p en).bind fun x => (q en).bind fun xs => .ok (x :: xs) := rfl
@[simp] theorem gTup_ev : gTup gs en = (gs en).bind mkTup := rfl
@[simp] theorem gLst_ev : gLst gs en = (gs en).bind mkLst := rfl
@[simp] theorem gCall_ev {f : List T → Option T} : gCall f gs en = (gs en).bind fun xs => .of (f xs) := rfl
@[simp] theorem gFn_ev {F : List T → R T} : gFn F gs en = (gs en).bind F := rfl
@[simp] theorem gIsi_ev {p : T → Bool} : gIsi p g en = (g en).bind fun x => .ok (.d (.bl (p x))) := rfl
@[simp] theorem gIt_ev : gIt g en = (g en).bind fun x => .of (items x) := rfl
theorem gR1_ev : gR1 g en = (g en).bind fR1 := rfl
theorem gR2_ev : gR2 ga gb en = (ga en).bind fun x => (gb en).bind fun y => fR2 x y := rfl
theorem gR3_ev : gR3 ga gb gc en = (ga en).bind fun x => (gb en).bind fun y => (gc en).bind fun z => fR3 x y z := rfl
theorem gLR1_ev : gLR1 g en = (g en).bind fun x => match x with
  | .d (.int n) => if 0 ≤ n ∧ n ≤ 16777216 then .ok (.l (rng 0 1 n.toNat)) else .no
  | _ => .no := rfl
theorem gLR2_ev : gLR2 ga gb en = (ga en).bind fun x => (gb en).bind fun y => match x, y with
  | .d (.int m), .d (.int n) => if 0 ≤ m ∧ m ≤ 16777216 ∧ 0 ≤ n ∧ n ≤ 16777216 then .ok (.l (rng m 1 (n - m).toNat)) else .no
  | _, _ => .no := rfl
@[simp] theorem gYes_ev : gYes en = .ok true := rfl
@[simp] theorem gLc_ev {vs : List Nat} {k : T → Option Ass} : gLc vs gs k gt g en = (gs en).bind fun xs => if xs.length < most then (lcL k gt g (wipeE en vs) xs).calm.bind fun ys => .ok (.l ys) else .no := rfl
@[simp] theorem calm_ok {a : α} : (R.ok a).calm = .ok a := rfl
@[simp] theorem mcalm_ok {a : α} : (RM.ok a en).calm = .ok a en := rfl
/-! operations -/
variable {p q : Int} {u v : Bool} {as bs : List D}
@[simp] theorem fAdd_i : fAdd (.d (.int p)) (.d (.int q)) = some (.d (.int (p + q))) := rfl
@[simp] theorem fAdd_t : fAdd (.d (.tup as)) (.d (.tup bs)) = if as.length + bs.length ≤ most then some (.d (.tup (as ++ bs))) else none := rfl
@[simp] theorem fSub_i : fSub (.d (.int p)) (.d (.int q)) = some (.d (.int (p - q))) := rfl
@[simp] theorem fMul_i : fMul (.d (.int p)) (.d (.int q)) = if MulOk p q then some (.d (.int (p * q))) else none := rfl
@[simp] theorem fMod_i : fMod (.d (.int p)) (.d (.int q)) = if 0 < q then some (.d (.int (p % q))) else none := rfl
@[simp] theorem fDiv_i : fDiv (.d (.int p)) (.d (.int q)) = if 0 < q ∧ q.natAbs.log2 < 9000 then some (.d (.int (p / q))) else none := rfl
@[simp] theorem fPow_i : fPow (.d (.int p)) (.d (.int q)) = if 0 ≤ q ∧ q ≤ 1000000 ∧ p.natAbs < 18446744073709551616 then some (.d (.int (p ^ q.toNat))) else none := rfl
@[simp] theorem fNeg_i : fNeg (.d (.int p)) = some (.d (.int (-p))) := rfl
@[simp] theorem fAddA_i : fAddA (.d (.int p)) (.d (.int q)) = some (.d (.int (p + q))) := rfl
theorem fDivA_i : fDivA (.d (.int p)) (.d (.int q)) = if 0 < q ∧ q < 1073741824 then some (.d (.int (p / q))) else none := rfl
@[simp] theorem fLt_i : fLt (.d (.int p)) (.d (.int q)) = some (.d (.bl (decide (p < q)))) := rfl
@[simp] theorem fLe_i : fLe (.d (.int p)) (.d (.int q)) = some (.d (.bl (decide (p ≤ q)))) := rfl
@[simp] theorem fGt_i : fGt (.d (.int p)) (.d (.int q)) = some (.d (.bl (decide (q < p)))) := rfl
@[simp] theorem fGe_i : fGe (.d (.int p)) (.d (.int q)) = some (.d (.bl (decide (q ≤ p)))) := rfl
theorem eqv_ii : PyData.eqv (.int p) (.int q) = decide (p = q) := by
  by_cases e : p = q
  · subst e; simp [PyData.eqv]
  · simp [PyData.eqv, e]
@[simp] theorem fEq_i : fEq (.d (.int p)) (.d (.int q)) = some (.d (.bl (decide (p = q)))) := by
  show (if _ then _ else _) = _
  rw [if_pos (show (shp (T.py (.d (.int p))) && shp (T.py (.d (.int q)))) = true from rfl)]
  show some (T.d (.bl (PyData.eqv (.int p) (.int q)))) = _
  rw [eqv_ii]
@[simp] theorem fNe_i : fNe (.d (.int p)) (.d (.int q)) = some (.d (.bl (!decide (p = q)))) := by
  show (if _ then _ else _) = _
  rw [if_pos (show (shp (T.py (.d (.int p))) && shp (T.py (.d (.int q)))) = true from rfl)]
  show some (T.d (.bl (!PyData.eqv (.int p) (.int q)))) = _
  rw [eqv_ii]
@[simp] theorem tst_b : tst (.d (.bl u)) = some u := rfl
@[simp] theorem tru_n : tru (.d .non) = some false := rfl
@[simp] theorem tru_b : tru (.d (.bl u)) = some u := rfl
@[simp] theorem tru_i : tru (.d (.int p)) = some (p != 0) := rfl
@[simp] theorem tru_t : tru (.d (.tup as)) = some (!as.isEmpty) := rfl
@[simp] theorem tru_r : tru (.d (.rol as)) = some (!as.isEmpty) := rfl
@[simp] theorem tru_l {xs : List T} : tru (.l xs) = some (!xs.isEmpty) := rfl
@[simp] theorem isInt_i : isInt (.d (.int p)) = true := rfl
@[simp] theorem isInt_b : isInt (.d (.bl u)) = true := rfl
@[simp] theorem isInt_t : isInt (.d (.tup as)) = false := rfl
@[simp] theorem isBl_i : isBl (.d (.int p)) = false := rfl
@[simp] theorem isBl_b : isBl (.d (.bl u)) = true := rfl
@[simp] theorem isBl_t : isBl (.d (.tup as)) = false := rfl
@[simp] theorem fLen_l {xs : List T} : fLen [.l xs] = some (.d (.int xs.length)) := rfl
@[simp] theorem fLen_t : fLen [.d (.tup as)] = some (.d (.int as.length)) := rfl
@[simp] theorem fLen_r : fLen [.d (.rol as)] = some (.d (.int as.length)) := rfl
@[simp] theorem fAbs_i : fAbs [.d (.int p)] = some (.d (.int (if p < 0 then -p else p))) := rfl
@[simp] theorem fInt_i : fInt [.d (.int p)] = some (.d (.int p)) := rfl
@[simp] theorem fInt_b : fInt [.d (.bl u)] = some (.d (.int (if u then 1 else 0))) := rfl
@[simp] theorem fMin2_i : fMin2 [.d (.int p), .d (.int q)] = some (.d (.int (min p q))) := rfl
@[simp] theorem fMax2_i : fMax2 [.d (.int p), .d (.int q)] = some (.d (.int (max p q))) := rfl
@[simp] theorem dataOf_t : dataOf (.d (.tup as)) = some as := rfl
@[simp] theorem dataOf_r : dataOf (.d (.rol as)) = some as := rfl
@[simp] theorem dataOf_l {xs : List T} : dataOf (.l xs) = allD xs := rfl
@[simp] theorem lstOf_r : lstOf (.d (.rol as)) = some as := rfl
@[simp] theorem lstOf_l {xs : List T} : lstOf (.l xs) = allD xs := rfl
@[simp] theorem fList_ev : fList [x] = (dataOf x).map fun ds => .l (ds.map T.d) := rfl
@[simp] theorem fTuple_ev : fTuple [x] = (dataOf x).map fun ds => .d (.tup ds) := rfl
@[simp] theorem fSum_ev : fSum [x] = (lstOf x).bind fun ds => (asInts ds).map fun ns => .d (.int ns.sum) := rfl
@[simp] theorem fAll_ev : fAll [x] = (lstOf x).bind fun ds => (asBls ds).map fun ns => .d (.bl (ns.all id)) := rfl
@[simp] theorem fAny_ev : fAny [x] = (lstOf x).bind fun ds => (trs ds).map fun bs => .d (.bl (bs.any id)) := rfl
@[simp] theorem items_t : items (.d (.tup as)) = some (as.map T.d) := rfl
@[simp] theorem items_r : items (.d (.rol as)) = some (as.map T.d) := rfl
@[simp] theorem items_l {xs : List T} : items (.l xs) = some xs := rfl
@[simp] theorem pur_ok_t {d : D} : R.pur (.ok (.d d)) = .ok (.d d) := rfl
theorem fR1_i : fR1 (.d (.int p)) = if -far ≤ p ∧ p < far then .ok (rng 0 1 p.toNat) else .no := rfl
theorem fR2_i : fR2 (.d (.int p)) (.d (.int q)) = if -far ≤ p ∧ p < far ∧ -far ≤ q ∧ q < far then .ok (rng p 1 (q - p).toNat) else .no := rfl
theorem fIx_t {i : Int} : fIx (.d (.tup as)) (.d (.int i)) = (atI as i).map T.d := rfl
theorem fIx_r {i : Int} : fIx (.d (.rol as)) (.d (.int i)) = (atI as i).map T.d := rfl
theorem fIx_l {xs : List T} {i : Int} : fIx (.l xs) (.d (.int i)) = atI xs i := rfl
theorem atI_nat {xs : List α} {k : Int} (h0 : 0 ≤ k) (h1 : k < xs.length) : atI xs k = xs[k.toNat]? := by
  unfold atI ixN
  rw [if_pos h0, if_pos h1]
  rfl
theorem fIx_l_num {xs : List T} (k : Nat) (h : k < xs.length) : fIx (.l xs) (.d (.int (k : Int))) = xs[k]? := by
  rw [fIx_l, atI_nat (Int.natCast_nonneg k) (Int.ofNat_lt.mpr h)]
  rfl
@[simp] theorem mkTup_nil : mkTup [] = .ok (.d (.tup [])) := rfl
@[simp] theorem mkLst_ev {xs : List T} : mkLst xs = if xs.length ≤ most then .ok (.l xs) else .no := rfl
@[simp] theorem mkTup_ev {xs : List T} : mkTup xs = R.of ((allD xs).bind fun ds => if ds.length ≤ most then some (.d (.tup ds)) else none) := by
  unfold mkTup
  cases allD xs with
  | none => rfl
  | some ds => by_cases h : ds.length ≤ most <;> simp [h]
@[simp] theorem allD_nil : allD [] = some [] := rfl
@[simp] theorem allD_cons {d : D} {r : List T} : allD (.d d :: r) = (allD r).map (d :: ·) := rfl
/-! effects -/
@[simp] theorem lft_ev {g : En → R α} : lft g en = RM.of (g en) en := rfl
@[simp] theorem mT_ev : mT m en = (m en).bind fun x en' => RM.of (R.of (tst x)) en' := rfl
@[simp] theorem mTru_ev : mTru m en = (m en).bind fun x en' => RM.of (R.of (tru x)) en' := rfl
@[simp] theorem mNot_ev : mNot c en = (c en).bind fun b en' => .ok (!b) en' := rfl
@[simp] theorem m2_ev : m2 f ma mb en = (ma en).bind fun x en1 => (mb en1).bind fun y en2 => RM.of (R.of (f x y)) en2 := rfl
@[simp] theorem mNil_ev : mNil en = .ok [] en := rfl
@[simp] theorem mCons_ev : mCons m ms en = (m en).bind fun x en1 => (ms en1).bind fun xs en2 => .ok (x :: xs) en2 := rfl
@[simp] theorem mOf_ev {f : List T → R T} : mOf f ms en = (ms en).bind fun xs en' => RM.of (f xs) en' := rfl
@[simp] theorem mIt_ev : mIt m en = (m en).bind fun x en' => RM.of (R.of (items x)) en' := rfl
theorem mR1_ev : mR1 m en = (m en).bind fun x en' => RM.of (fR1 x) en' := rfl
@[simp] theorem hNil_ev : hNil en = .ok [] en := rfl
@[simp] theorem hO_ev : hO m hm en = (m en).bind fun x en1 => (hm en1).bind fun xs en2 => .ok (.o x :: xs) en2 := rfl
@[simp] theorem hN_ev : hN i hm en = if (at_ en i).isSome then (hm en).bind fun xs en2 => .ok (.n i :: xs) en2 else .no := rfl
@[simp] theorem hds_nil : hds en i [] = some [] := rfl
@[simp] theorem hds_o {r : List Hd} : hds en i (.o x :: r) = (hds en i r).map (x :: ·) := rfl
@[simp] theorem hds_n {r : List Hd} : hds en i (.n j :: r) = if j = i then none else (at_ en j).bind fun x => (hds en i r).map (x :: ·) := rfl
theorem mName_n {d : D} : ∀ {en : En} {i : Nat}, at_ en i = some (.d d) → mName i en = .ok (.d d) en
  | en, i, h => by
    unfold mName; unfold at_ at h
    cases e : en[i]? with
    | none => rw [e] at h; cases h
    | some s =>
      rw [e] at h
      cases s with
      | n => cases h
      | v x => cases h; rfl
      | w x => cases h; rfl
      | b x => cases h; rfl
theorem mName_l {xs : List T} {en : En} {i : Nat} (h : en[i]? = some (.v (.l xs))) : mName i en = .ok (.l xs) (en.set i .n) := by
  unfold mName; rw [h]
theorem callM {F : T → List T → RF} {hs : List Hd} {en en1 : En} {x0 x1 x' r : T} {xs : List T} (h0 : ownAt en i = some x0) (h1 : hm en = .ok hs en1) (h2 : ownAt en1 i = some x1) (h3 : hds en1 i hs = some xs) (h4 : F x1 xs = .ok r x') : mCallM i F hm en = .ok r (setO en1 i x') := by
  unfold mCallM
  rw [h0]
  simp only [h1, RM.bind_ok]
  rw [h2]
  simp only [h3, h4]
/-! statements -/
def SR.sq (r : SR) (d : En → SR) : SR := match r with
  | .nx en => d en
  | r => r
@[simp] theorem sq_nx : (SR.nx en).sq d = d en := rfl
@[simp] theorem sq_ret : (SR.ret x en).sq d = .ret x en := rfl
@[simp] theorem sq_brk : (SR.brk en).sq d = .brk en := rfl
@[simp] theorem sq_ct : (SR.ct en).sq d = .ct en := rfl
@[simp] theorem sq_no : SR.no.sq d = .no := rfl
@[simp] theorem sq_ex {c : Exc} : (SR.ex c en).sq d = .ex c en := rfl
@[simp] theorem fSeq_ev : fSeq b d en = (b en).sq d := by
  unfold fSeq SR.sq
  cases b en <;> rfl
@[simp] theorem fNil_ev : fNil en = .nx en := rfl
@[simp] theorem toS_some : toS (some en) = .nx en := rfl
@[simp] theorem toS_none : toS none = .no := rfl
@[simp] theorem fSet_ev : fSet i m en = (m en).s fun x en' => toS (stow en' i (.v x)) := rfl
@[simp] theorem fAsg_ev {k : T → Option Ass} : fAsg k m en = (m en).s fun x en' => toS ((k x).bind fun as => stowD en' as) := rfl
@[simp] theorem fExpr_ev : fExpr m en = (m en).s fun _ en' => .nx en' := rfl
@[simp] theorem fRet_ev : fRet m en = (m en).s fun x en' => .ret x en' := rfl
@[simp] theorem fIf_ev : fIf c b d en = (c en).s fun u en' => if u = true then b en' else d en' := rfl
theorem fAug_i {k z : Int} {t : T} (h : at_ en i = some (.d (.int k))) (hm : m en = .ok (.d (.int z)) en) (hf : f (.d (.int k)) (.d (.int z)) = some t) : fAug i f m en = toS (stow en i (.v t)) := by
  unfold fAug datAt
  rw [h]
  simp only [R.of_some, R.pur_d, hm, RM.s_ok, hf]
theorem sif_t {P : Prop} [Decidable P] {r s : SR} (h : P) : (if P then r else s) = r := if_pos h
/-! a whole def -/
theorem runP_ret {k : Nat} {xs : List T} {r : T} (hk : xs.length = k) (h : ∃ e, b (startE n xs) = .ret r e) : runP n k b xs = .ok r := by
  obtain ⟨e, h⟩ := h
  unfold runP
  rw [if_pos hk, h]
theorem runP_nx {k : Nat} {xs : List T} (hk : xs.length = k) (h : ∃ e, b (startE n xs) = .nx e) : runP n k b xs = .ok (.d .non) := by
  obtain ⟨e, h⟩ := h
  unfold runP
  rw [if_pos hk, h]
theorem runM_ret {k : Nat} {x0 x' : T} {xs : List T} {r : T} (hk : xs.length + 1 = k) (h : ∃ e, b (startM n x0 xs) = .ret r (.b x' :: e)) : runM n k b x0 xs = .ok r x' := by
  obtain ⟨e, h⟩ := h
  unfold runM
  rw [if_pos hk, h]
  rfl
theorem ret_seq {r : T} {en en1 : En} (h1 : b en = .nx en1) (h2 : ∃ e, d en1 = .ret r e) : ∃ e, fSeq b d en = .ret r e := by
  rw [fSeq_ev, h1]; exact h2
theorem nx_seq {en en1 : En} {P : En → Prop} (h1 : b en = .nx en1) (h2 : ∃ e, d en1 = .nx e ∧ P e) : ∃ e, fSeq b d en = .nx e ∧ P e := by
  rw [fSeq_ev, h1]; exact h2
theorem ret_if_f {r : T} {en : En} {z : En → SR} {g : En → R Bool} (h1 : g en = .ok false) (h2 : ∃ e, z en = .ret r e) : ∃ e, fSeq (fIf (lft g) b fNil) z en = .ret r e := by
  refine ret_seq (en1 := en) ?_ h2
  rw [fIf_ev, lft_ev, h1]; rfl
theorem fIf_f {en : En} {g : En → R Bool} (h1 : g en = .ok false) : fIf (lft g) b d en = d en := by
  rw [fIf_ev, lft_ev, h1]; rfl
theorem fIf_t {en : En} {g : En → R Bool} (h1 : g en = .ok true) : fIf (lft g) b d en = b en := by
  rw [fIf_ev, lft_ev, h1]; rfl
/-! loops -/
theorem forE_ix {k : T → Option Ass} {f : En → SR} : ∀ (xs : List T) (Q : Nat → En → Prop) (j : Nat), (∀ i (hi : i < xs.length) en, Q (j + i) en → ∃ as en1 en2, k xs[i] = some as ∧ stows en as = some en1 ∧ (f en1 = .nx en2 ∨ f en1 = .ct en2) ∧ Q (j + i + 1) en2) → ∀ en, Q j en → ∃ en', forE k f xs en = .nx en' ∧ Q (j + xs.length) en'
  | [], Q, j, _, en, q => ⟨en, rfl, q⟩
  | x :: xs, Q, j, h, en, q => by
    obtain ⟨as, en1, en2, h1, h2, h3, h4⟩ := h 0 (Nat.succ_pos _) en q
    obtain ⟨en', h5, h6⟩ := forE_ix xs Q (j + 1) (fun i hi en q => by
      have := h (i + 1) (Nat.succ_lt_succ hi) en (by rwa [Nat.add_assoc, Nat.add_comm 1] at q)
      rw [show j + 1 + i + 1 = j + (i + 1) + 1 by omega]
      exact this) en2 h4
    refine ⟨en', ?_, by rw [List.length_cons, show j + (xs.length + 1) = j + 1 + xs.length by omega]; exact h6⟩
    show (match (k x).bind fun as => stows en as with
    | none => SR.no
    | some en1 => match f en1 with
      | .nx en2 => forE k f xs en2
      | .ct en2 => forE k f xs en2
      | .brk en2 => .nx en2
      | r => r) = _
    rw [show k x = some as from h1, Option.bind_some, h2]
    rcases h3 with h3 | h3 <;> simp only [h3] <;> exact h5
/-- a loop over names, by what holds beside the count -/
theorem for_ix {v : Nat} {mi : En → RM (List T)} {f : En → SR} {xs : List T} (Q : Nat → En → Prop) (en : En) {en0 : En} (hm : mi en = .ok xs en0) (h0 : Q 0 en0) (h : ∀ i (hi : i < xs.length) en, Q i en → ∃ en1 en2, stow en v (mkS xs[i]) = some en1 ∧ (f en1 = .nx en2 ∨ f en1 = .ct en2) ∧ Q (i + 1) en2) : ∃ en', fFor (kName v) mi f en = .nx en' ∧ Q xs.length en' := by
  obtain ⟨en', h1, h2⟩ := forE_ix (k := kName v) (f := f) xs Q 0 (fun i hi en q => by
    rw [Nat.zero_add] at q ⊢
    obtain ⟨en1, en2, a, b, c⟩ := h i hi en q
    exact ⟨_, en1, en2, rfl, by rw [stows_cons, a]; rfl, b, c⟩) en0 h0
  refine ⟨en', ?_, by rwa [Nat.zero_add] at h2⟩
  show (mi en).s _ = _
  rw [hm]; exact h1
theorem forN_ix {v i : Nat} {f : En → SR} {xs : List T} (Q : Nat → En → Prop) (en : En) (hn : notOwn (weak en i) i = true) (hm : (at_ (weak en i) i).bind items = some xs) (h0 : Q 0 (weak en i)) (h : ∀ j (hj : j < xs.length) en, Q j en → ∃ en1 en2, stow en v (mkS xs[j]) = some en1 ∧ (f en1 = .nx en2 ∨ f en1 = .ct en2) ∧ Q (j + 1) en2) : ∃ en', fForN (kName v) i f en = .nx en' ∧ Q xs.length en' := by
  obtain ⟨en', h1, h2⟩ := forE_ix (k := kName v) (f := f) xs Q 0 (fun i hi en q => by
    rw [Nat.zero_add] at q ⊢
    obtain ⟨en1, en2, a, b, c⟩ := h i hi en q
    exact ⟨_, en1, en2, rfl, by rw [stows_cons, a]; rfl, b, c⟩) _ h0
  refine ⟨en', ?_, by rwa [Nat.zero_add] at h2⟩
  show (if _ then _ else _) = _
  rw [if_pos hn]
  simp only [hm]; exact h1
/-- a comprehension of things told one by one -/
theorem lcL_map {v : Nat} {te : En → R T} {en : En} {G : T → T} : ∀ {xs : List T}, (∀ x ∈ xs, te (en.set v (mkS x)) = .ok (G x)) → lcL (kName v) gYes te en xs = .ok (xs.map G)
  | [], _ => rfl
  | x :: xs, h => by
    unfold lcL
    simp only [kName_ev, R.of_some, R.bind_ok, setE_cons, setE_nil, gYes_ev, if_true, h x (List.mem_cons_self ..), lcL_map (xs := xs) fun y m => h y (List.mem_cons_of_mem _ m), List.map_cons]
theorem lc_rng {vs : List Nat} {v : Nat} {gs : En → R (List T)} {te : En → R T} {en : En} {a : Int} {n : Nat} {G : Nat → D} (hg : gs en = .ok (rng a 1 n)) (hn : n < 16777216) (h : ∀ i, i < n → te ((wipeE en vs).set v (.v (.d (.int (a + i))))) = .ok (.d (G i))) : gLc vs gs (kName v) gYes te en = .ok (.l (((List.range n).map G).map T.d)) := by
  rw [gLc_ev, hg]
  simp only [R.bind_ok]
  rw [if_pos (show (rng a 1 n).length < most by rw [rng_len]; exact hn)]
  have : ∀ (L : List Nat), (∀ i ∈ L, i < n) → lcL (kName v) gYes te (wipeE en vs) (L.map fun (i : Nat) => T.d (.int (a + (i : Nat) * 1))) = .ok ((L.map G).map T.d) := by
    intro L
    induction L with
    | nil => intro _; rfl
    | cons i L ih =>
      intro hL
      rw [List.map_cons]
      unfold lcL
      have e := h i (hL i (List.mem_cons_self ..))
      simp only [kName_ev, R.of_some, R.bind_ok, setE_cons, setE_nil, gYes_ev, if_true, mkS_d, Int.mul_one, e]
      have e2 := ih fun j m => hL j (List.mem_cons_of_mem _ m)
      simp only [Int.mul_one] at e2
      rw [e2]
      rfl
  have e := this (List.range n) fun i m => List.mem_range.mp m
  unfold rng
  rw [e]
  rfl
/-! the law's own draws -/
def St (ns : List Int) (i j k : Int) : T := .l [.l (ns.map fun z => T.d (.int z)), .d (.int i), .d (.int j), .d (.int k)]
def Stt (ns : List Int) (s : T) : Prop := ∃ i j k, s = St ns i j k
end Z
/-! Z: the draws that the laws make. -/
namespace Z
open PySem PySem.Spec L2
open PyProof.Rows hiding St
def d_start : En → SR :=
  (fRet (lft (gLst (aCons (gCall fList (aCons (vN 0) aNil)) (aCons (kI 0) (aCons (kI 0) (aCons (kI 0) aNil)))))))
def F_start := runP 1 1 d_start
def d_draw : En → SR :=
  (fSeq (fStore 0 (kI 3) (lft (g2 fAdd (g2 fIx (vN 0) (kI 3)) (kI 1))))
  (fSeq (fIf (lft (gT (g2 fGt (g2 fIx (vN 0) (kI 2)) (kI 0)))) (fSeq (fSet 2 (lft (g2 fMod (gCall fInt (aCons (g2 fIx (vN 0) (kI 2)) aNil)) (vN 1))))
  (fSeq (fStore 0 (kI 2) (lft (g2 fDiv (g2 fIx (vN 0) (kI 2)) (vN 1))))
  (fRet (mName 2)))) fNil)
  (fSeq (fSet 3 (lft (kI 0)))
  (fSeq (fIf (lft (gT (g2 fGt (gCall fLen (aCons (g2 fIx (vN 0) (kI 0)) aNil)) (kI 0)))) (fSet 3 (lft (gCall fAbs (aCons (g2 fIx (g2 fIx (vN 0) (kI 0)) (g2 fMod (gCall fInt (aCons (g2 fIx (vN 0) (kI 1)) aNil)) (gCall fLen (aCons (g2 fIx (vN 0) (kI 0)) aNil)))) aNil)))) fNil)
  (fSeq (fStore 0 (kI 1) (lft (g2 fAdd (g2 fIx (vN 0) (kI 1)) (kI 1))))
  (fSeq (fIf (lft (gT (g2 fGe (vN 3) (g2 fPow (kI 10) (kI 18))))) (fSeq (fStore 0 (kI 2) (lft (g2 fDiv (vN 3) (vN 1))))
  (fRet (lft (g2 fMod (gCall fInt (aCons (vN 3) aNil)) (vN 1))))) fNil)
  (fSeq (fSet 4 (lft (g2 fMod (gCall fInt (aCons (g2 fAdd (g2 fMul (g2 fAdd (vN 3) (kI 1)) (kI 48271)) (g2 fMul (g2 fIx (vN 0) (kI 3)) (kI 69621))) aNil)) (kI 2147483647))))
  (fSeq (fSet 4 (lft (g2 fMod (gCall fInt (aCons (g2 fAdd (g2 fAdd (g2 fMul (vN 4) (kI 16807)) (g2 fDiv (vN 3) (kI 97))) (g2 fIx (vN 0) (kI 3))) aNil)) (kI 2147483629))))
  (fRet (lft (g2 fMod (g2 fDiv (vN 4) (kI 11)) (vN 1))))))))))))
def F_draw := runM 5 2 d_draw
def d_oneof : En → SR :=
  (fRet (mIxNg 1 (mCallM 0 F_draw (hO (lft (gCall fLen (aCons (vN 1) aNil))) hNil))))
def F_oneof := runM 2 2 d_oneof
theorem start_St (ns : List Int) : F_start [.d (.rol (ns.map D.int))] = .ok (St ns 0 0 0) := by
  refine runP_ret rfl ⟨[.v (.d (.rol (ns.map D.int)))], ?_⟩
  simp [startE, d_start, St, most]
theorem log2_lt9000 {m : Int} (h1 : m < 1000000000) (h0 : 0 < m) : m.natAbs.log2 < 9000 := by
  have : m.natAbs < 1000000000 := by omega
  have : m.natAbs.log2 < 30 := by
    by_cases e : m.natAbs = 0
    · rw [e]; decide
    · rw [Nat.log2_lt e]; omega
  omega
theorem draw_ok {ns : List Int} (hl : ns.length ≤ 63) {s : T} (hs : Stt ns s) {m : Int} (h0 : 0 < m) (h1 : m < 1000000000) : ∃ v s', 0 ≤ v ∧ v < m ∧ F_draw s [.d (.int m)] = .ok (.d (.int v)) s' ∧ Stt ns s' := by
  obtain ⟨i, j, k, rfl⟩ := hs
  have hm := log2_lt9000 h1 h0
  have r : ∀ z : Int, 0 ≤ z % m ∧ z % m < m := fun z => ⟨Int.emod_nonneg _ (by omega), Int.emod_lt_of_pos _ h0⟩
  have ix3 : ∀ i j k, fIx (St ns i j k) (.d (.int 3)) = some (.d (.int k)) := fun i j k => rfl
  have ix2 : ∀ i j k, fIx (St ns i j k) (.d (.int 2)) = some (.d (.int j)) := fun i j k => rfl
  have ix1 : ∀ i j k, fIx (St ns i j k) (.d (.int 1)) = some (.d (.int i)) := fun i j k => rfl
  have ix0 : ∀ i j k, fIx (St ns i j k) (.d (.int 0)) = some (.l (ns.map fun z => T.d (.int z))) := fun i j k => rfl
  have st3 : ∀ i j k z (m : En → RM T) en t, m (.b (St ns i j k) :: en) = .ok (.d (.int z)) (.b (St ns i j k) :: en) → fStore 0 (kI 3) m (.b (St ns i j k) :: t) = fStore 0 (kI 3) m (.b (St ns i j k) :: t) := fun _ _ _ _ _ _ _ _ => rfl
  have s3 : ∀ i j k z (m : En → RM T) en, m (.b (St ns i j k) :: en) = .ok (.d (.int z)) (.b (St ns i j k) :: en) → fStore 0 (kI 3) m (.b (St ns i j k) :: en) = .nx (.b (St ns i j z) :: en) := fun i j k z m en h => by unfold fStore; rw [h]; rfl
  have s2 : ∀ i j k z (m : En → RM T) en, m (.b (St ns i j k) :: en) = .ok (.d (.int z)) (.b (St ns i j k) :: en) → fStore 0 (kI 2) m (.b (St ns i j k) :: en) = .nx (.b (St ns i z k) :: en) := fun i j k z m en h => by unfold fStore; rw [h]; rfl
  have s1 : ∀ i j k z (m : En → RM T) en, m (.b (St ns i j k) :: en) = .ok (.d (.int z)) (.b (St ns i j k) :: en) → fStore 0 (kI 1) m (.b (St ns i j k) :: en) = .nx (.b (St ns z j k) :: en) := fun i j k z m en h => by unfold fStore; rw [h]; rfl
  by_cases hj : 0 < j
  · refine ⟨j % m, St ns i (j / m) (k + 1), (r j).1, (r j).2, runM_ret rfl ⟨[.v (.d (.int m)), .v (.d (.int (j % m))), .n, .n], ?_⟩, _, _, _, rfl⟩
    show d_draw [.b (St ns i j k), .v (.d (.int m)), .n, .n, .n] = _
    unfold d_draw
    rw [fSeq_ev, s3 i j k (k + 1) _ _ (by simp [ix3]), sq_nx, fSeq_ev, fIf_t (by simp [ix2, hj]), fSeq_ev]
    rw [show (fSet 2 (lft (g2 fMod (gCall fInt (aCons (g2 fIx (vN 0) (kI 2)) aNil)) (vN 1)))) [.b (St ns i j (k + 1)), .v (.d (.int m)), .n, .n, .n] = .nx [.b (St ns i j (k + 1)), .v (.d (.int m)), .v (.d (.int (j % m))), .n, .n] from by simp [ix2, h0]]
    rw [sq_nx, fSeq_ev, s2 i j (k + 1) (j / m) _ _ (by simp [ix2, h0, hm]), sq_nx]
    rfl
  · have main : ∀ (c : Int), 0 ≤ c → ∃ v s', 0 ≤ v ∧ v < m ∧ (∃ e, (fSeq (fStore 0 (kI 1) (lft (g2 fAdd (g2 fIx (vN 0) (kI 1)) (kI 1))))
  (fSeq (fIf (lft (gT (g2 fGe (vN 3) (g2 fPow (kI 10) (kI 18))))) (fSeq (fStore 0 (kI 2) (lft (g2 fDiv (vN 3) (vN 1))))
  (fRet (lft (g2 fMod (gCall fInt (aCons (vN 3) aNil)) (vN 1))))) fNil)
  (fSeq (fSet 4 (lft (g2 fMod (gCall fInt (aCons (g2 fAdd (g2 fMul (g2 fAdd (vN 3) (kI 1)) (kI 48271)) (g2 fMul (g2 fIx (vN 0) (kI 3)) (kI 69621))) aNil)) (kI 2147483647))))
  (fSeq (fSet 4 (lft (g2 fMod (gCall fInt (aCons (g2 fAdd (g2 fAdd (g2 fMul (vN 4) (kI 16807)) (g2 fDiv (vN 3) (kI 97))) (g2 fIx (vN 0) (kI 3))) aNil)) (kI 2147483629))))
  (fRet (lft (g2 fMod (g2 fDiv (vN 4) (kI 11)) (vN 1)))))))) [.b (St ns i j (k + 1)), .v (.d (.int m)), .n, .v (.d (.int c)), .n] = .ret (.d (.int v)) (.b s' :: e)) ∧ Stt ns s' := by
      intro c hc
      by_cases hb : 10 ^ 18 ≤ c
      · refine ⟨c % m, St ns (i + 1) (c / m) (k + 1), (r c).1, (r c).2, ⟨[.v (.d (.int m)), .n, .v (.d (.int c)), .n], ?_⟩, _, _, _, rfl⟩
        rw [fSeq_ev, s1 i j (k + 1) (i + 1) _ _ (by simp [ix1]), sq_nx, fSeq_ev, fIf_t (by simp [hb]; exact hb), fSeq_ev, s2 (i + 1) j (k + 1) (c / m) _ _ (by simp [h0, hm]), sq_nx]
        simp [h0]
      · refine ⟨(((c + 1) * 48271 + (k + 1) * 69621) % 2147483647 * 16807 + c / 97 + (k + 1)) % 2147483629 / 11 % m, St ns (i + 1) j (k + 1), (r _).1, (r _).2, ⟨[.v (.d (.int m)), .n, .v (.d (.int c)), .v (.d (.int ((((c + 1) * 48271 + (k + 1) * 69621) % 2147483647 * 16807 + c / 97 + (k + 1)) % 2147483629)))], ?_⟩, _, _, _, rfl⟩
        rw [fSeq_ev, s1 i j (k + 1) (i + 1) _ _ (by simp [ix1]), sq_nx, fSeq_ev, fIf_f (by simp [hb]; omega), fNil_ev, sq_nx, fSeq_ev]
        have m1 : ∀ x : Int, MulOk x 48271 := fun x => .r (by decide)
        have m2 : ∀ x : Int, MulOk x 69621 := fun x => .r (by decide)
        have m3 : ∀ x : Int, MulOk x 16807 := fun x => .r (by decide)
        have l1 : Nat.log2 97 < 9000 := by decide
        have l2 : Nat.log2 11 < 9000 := by decide
        simp [ix3, m1, m2, m3, h0, l1, l2]
    have hd : ∃ c : Int, 0 ≤ c ∧ (fSeq (fSet 3 (lft (kI 0))) (fIf (lft (gT (g2 fGt (gCall fLen (aCons (g2 fIx (vN 0) (kI 0)) aNil)) (kI 0)))) (fSet 3 (lft (gCall fAbs (aCons (g2 fIx (g2 fIx (vN 0) (kI 0)) (g2 fMod (gCall fInt (aCons (g2 fIx (vN 0) (kI 1)) aNil)) (gCall fLen (aCons (g2 fIx (vN 0) (kI 0)) aNil)))) aNil)))) fNil)) [.b (St ns i j (k + 1)), .v (.d (.int m)), .n, .n, .n] = .nx [.b (St ns i j (k + 1)), .v (.d (.int m)), .n, .v (.d (.int c)), .n] := by
      by_cases hn : 0 < (ns.length : Int)
      · have b1 : 0 ≤ i % (ns.length : Int) := Int.emod_nonneg _ (by omega)
        have b2 : i % (ns.length : Int) < (ns.length : Int) := Int.emod_lt_of_pos _ hn
        have b3 : (i % (ns.length : Int)).toNat < ns.length := by omega
        have e : fIx (.l (ns.map fun z => T.d (.int z))) (.d (.int (i % (ns.length : Int)))) = some (.d (.int ns[(i % (ns.length : Int)).toNat])) := by
          rw [fIx_l, atI_nat b1 (by simpa using b2), List.getElem?_map, List.getElem?_eq_getElem b3]; rfl
        refine ⟨if ns[(i % (ns.length : Int)).toNat] < 0 then -ns[(i % (ns.length : Int)).toNat] else ns[(i % (ns.length : Int)).toNat], by split <;> omega, ?_⟩
        rw [fSeq_ev]
        have hn' : 0 < ns.length := by omega
        simp [ix0, ix1, hn', e]
      · refine ⟨0, by omega, ?_⟩
        have : ns = [] := by
          cases ns with
          | nil => rfl
          | cons _ _ => simp at hn
        subst this
        rw [fSeq_ev]
        simp [ix0]
    obtain ⟨c, hc, hd⟩ := hd
    obtain ⟨v, s', v0, v1, hv, hs'⟩ := main c hc
    refine ⟨v, s', v0, v1, runM_ret rfl ?_, hs'⟩
    obtain ⟨e, hv⟩ := hv
    refine ⟨e, ?_⟩
    show d_draw [.b (St ns i j k), .v (.d (.int m)), .n, .n, .n] = _
    unfold d_draw
    rw [fSeq_ev, s3 i j k (k + 1) _ _ (by simp [ix3]), sq_nx, fSeq_ev, fIf_f (by simp [ix2, hj]), fNil_ev, sq_nx]
    rw [fSeq_ev] at hd
    rw [fSeq_ev]
    cases e1 : (fSet 3 (lft (kI 0))) [.b (St ns i j (k + 1)), .v (.d (.int m)), .n, .n, .n] with
    | nx en1 =>
      rw [e1, sq_nx] at hd
      rw [sq_nx, fSeq_ev, hd, sq_nx]
      exact hv
    | _ => rw [e1] at hd; cases hd
end Z
/-! Z: more of the laws' common ways. -/
namespace Z
open PySem PySem.Spec L2
open PyProof.Rows hiding St
abbrev I (z : Int) : T := .d (.int z)
mutual
def beqD : D → D → Bool
  | .non, .non => true
  | .bl a, .bl b => a == b
  | .int a, .int b => a == b
  | .tup a, .tup b => beqDs a b
  | _, _ => false
def beqDs : List D → List D → Bool
  | [], [] => true
  | a :: r, b :: s => beqD a b && beqDs r s
  | _, _ => false
end
mutual
theorem beqD_eq : ∀ {a b : D}, beqD a b = true → a = b
  | .non, b, h => by cases b <;> first | rfl | cases h
  | .bl a, b, h => by
    cases b with
    | bl b => simp [beqD] at h; rw [h]
    | _ => cases h
  | .int a, b, h => by
    cases b with
    | int b => simp [beqD] at h; rw [h]
    | _ => cases h
  | .str a, b, h => by cases b <;> cases h
  | .tup a, b, h => by
    cases b with
    | tup b => rw [beqDs_eq (a := a) (b := b) h]
    | _ => cases h
  | .rol a, b, h => by cases b <;> cases h
theorem beqDs_eq : ∀ {a b : List D}, beqDs a b = true → a = b
  | [], [], _ => rfl
  | [], _ :: _, h => by cases h
  | _ :: _, [], h => by cases h
  | a :: r, b :: s, h => by
    rw [beqDs, Bool.and_eq_true] at h
    rw [beqD_eq h.1, beqDs_eq h.2]
end
def okIs (r : R T) (d : D) : Bool := match r with
  | .ok (.d e) => beqD e d
  | _ => false
theorem okIs_eq {r : R T} {d : D} (h : okIs r d = true) : r = .ok (.d d) := by
  unfold okIs at h
  split at h
  · rw [beqD_eq h]
  · cases h
theorem ret_lft {g : En → R T} {x : T} {en : En} (h : g en = .ok x) : ∃ e, fRet (lft g) en = .ret x e := ⟨en, by rw [fRet_ev, lft_ev, h]; rfl⟩
theorem small_ok {i j : Int} (h0 : -1000000 ≤ i) (h1 : i ≤ 1000000) : MulOk i j := .l (by omega)
theorem mod_range (z : Int) {p : Int} (h : 0 < p) : 0 ≤ z % p ∧ z % p < p := ⟨Int.emod_nonneg _ (by omega), Int.emod_lt_of_pos _ h⟩
theorem dvd_mod (z p : Int) : ∃ k, z % p = z + p * k := ⟨-(z / p), by rw [Int.emod_def, Int.mul_neg, Int.sub_eq_add_neg]⟩
theorem fR1_n {z : Int} (h1 : -1000000000 ≤ z) (h2 : z ≤ 1000000000) : fR1 (I z) = .ok (rng 0 1 z.toNat) := by
  show (if _ then _ else _) = _
  exact if_pos ⟨Int.le_trans (by decide) h1, Int.lt_of_le_of_lt h2 (by decide)⟩
theorem fR2_n {y z : Int} (h1 : -1000000000 ≤ y) (h2 : y ≤ 1000000000) (h3 : -1000000000 ≤ z) (h4 : z ≤ 1000000000) : fR2 (I y) (I z) = .ok (rng y 1 (z - y).toNat) := by
  show (if _ then _ else _) = _
  exact if_pos ⟨Int.le_trans (by decide) h1, Int.lt_of_le_of_lt h2 (by decide), Int.le_trans (by decide) h3, Int.lt_of_le_of_lt h4 (by decide)⟩
theorem gR1_n {g : En → R T} {en : En} {z : Int} (h : g en = .ok (I z)) (h1 : -1000000000 ≤ z) (h2 : z ≤ 1000000000) : gR1 g en = .ok (rng 0 1 z.toNat) := by
  rw [gR1_ev, h, R.bind_ok, fR1_n h1 h2]
theorem gR2_n {ga gb : En → R T} {en : En} {y z : Int} (ha : ga en = .ok (I y)) (hb : gb en = .ok (I z)) (h1 : -1000000000 ≤ y) (h2 : y ≤ 1000000000) (h3 : -1000000000 ≤ z) (h4 : z ≤ 1000000000) : gR2 ga gb en = .ok (rng y 1 (z - y).toNat) := by
  rw [gR2_ev, ha, R.bind_ok, hb, R.bind_ok, fR2_n h1 h2 h3 h4]
theorem gLR1_n {g : En → R T} {en : En} {z : Int} (h : g en = .ok (I z)) (h1 : 0 ≤ z) (h2 : z ≤ 16777216) : gLR1 g en = .ok (.l (rng 0 1 z.toNat)) := by
  rw [gLR1_ev, h, R.bind_ok]
  exact if_pos ⟨h1, h2⟩
theorem lft_n {α : Type} {g : En → R α} {en : En} {x : α} (h : g en = .ok x) : lft g en = .ok x en := by rw [lft_ev, h, RM.of_ok]
def NB (o : Sl) : Prop := ∀ z, o ≠ .b z
theorem NB.n : NB .n := fun z e => by cases e
theorem NB.v {x : T} : NB (.v x) := fun z e => by cases e
theorem NB.w {x : T} : NB (.w x) := fun z e => by cases e
theorem NB.s {o : Sl} (h : NB o) {en : En} {s : Sl} : stow (o :: en) 0 s = some (s :: en) := by
  cases o with
  | b z => exact absurd rfl (h z)
  | _ => rfl
theorem rng_at {n i : Nat} {a : Int} (h : i < (rng a 1 n).length) : (rng a 1 n)[i] = I (a + i) := by
  have h' : i < n := by rwa [rng_len] at h
  have := rng_get (a := a) (c := 1) h'
  rw [List.getElem?_eq_getElem h] at this
  injection this with this
  rw [this, Int.mul_one]
theorem rng_d (a c : Int) (n : Nat) : rng a c n = ((List.range n).map fun i => D.int (a + (i : Nat) * c)).map T.d := by
  unfold rng; rw [List.map_map]; rfl
theorem fAdd_l {as bs : List D} (h : as.length + bs.length ≤ most) : fAdd (.l (as.map T.d)) (.l (bs.map T.d)) = some (.l ((as ++ bs).map T.d)) := by
  unfold fAdd
  simp only [allD_map]
  rw [if_pos h]
theorem ints_of {P : Int → Prop} : ∀ {ys : List T}, (∀ y ∈ ys, ∃ z, y = I z ∧ P z) → ∃ zs : List Int, ys = (zs.map D.int).map T.d ∧ ∀ z ∈ zs, P z
  | [], _ => ⟨[], rfl, fun _ m => absurd m List.not_mem_nil⟩
  | y :: ys, h => by
    obtain ⟨z, rfl, hz⟩ := h y (List.mem_cons_self ..)
    obtain ⟨zs, rfl, hs⟩ := ints_of (ys := ys) fun y m => h y (List.mem_cons_of_mem _ m)
    exact ⟨z :: zs, rfl, fun w m => by
      rcases List.mem_cons.mp m with e | m
      · rw [e]; exact hz
      · exact hs w m⟩
/-- a comprehension with effects over data -/
theorem lcM_inv {vs : List Nat} {v : Nat} {te : En → RM T} (Q : En → Prop) (P : T → Prop) (h : ∀ d en, Q en → ∃ en2 y en4, stow (wipeE en vs) v (.v (.d d)) = some en2 ∧ te en2 = .ok y en4 ∧ P y ∧ Q (wipeE en4 vs)) : ∀ (ds : List D) en, Q en → ∃ ys en', lcM vs (kName v) gYes te (ds.map T.d) en = .ok ys en' ∧ ys.length = ds.length ∧ (∀ y ∈ ys, P y) ∧ Q en'
  | [], en, q => ⟨[], en, rfl, rfl, fun _ m => absurd m List.not_mem_nil, q⟩
  | d :: ds, en, q => by
    obtain ⟨en2, y, en4, h1, h2, h3, h4⟩ := h d en q
    obtain ⟨ys, en', h5, h6, h7, h8⟩ := lcM_inv Q P h ds _ h4
    refine ⟨y :: ys, en', ?_, by rw [List.length_cons, h6, List.length_cons], fun z m => ?_, h8⟩
    · rw [List.map_cons]
      unfold lcM
      simp only [kD_d, kName_ev, Option.bind_some, stowD_cons, stowD_nil, h1, gYes_ev, h2, h5, RM.bind_ok]
    · rcases List.mem_cons.mp m with e | m
      · rw [e]; exact h3
      · exact h7 z m
/-- one of many, drawn -/
theorem oneof_ok {ns : List Int} (hl : ns.length ≤ 63) {s : T} (hs : Stt ns s) {ds : List D} (h0 : 0 < ds.length) (h1 : ds.length < 1000000000) : ∃ d s', d ∈ ds ∧ F_oneof s [.l (ds.map T.d)] = .ok (.d d) s' ∧ Stt ns s' := by
  obtain ⟨v, s', v0, v1, e, hs'⟩ := draw_ok hl hs (m := (ds.length : Int)) (by omega) (by omega)
  have hv : v.toNat < ds.length := by omega
  refine ⟨ds[v.toNat], s', List.getElem_mem hv, runM_ret rfl ⟨[.w (.l (ds.map T.d))], ?_⟩, hs'⟩
  show d_oneof [.b s, .w (.l (ds.map T.d))] = _
  unfold d_oneof
  rw [fRet_ev]
  have c : mCallM 0 F_draw (hO (lft (gCall fLen (aCons (vN 1) aNil))) hNil) [.b s, .w (.l (ds.map T.d))] = .ok (I v) [.b s', .w (.l (ds.map T.d))] := by
    refine callM (hs := [.o (I ds.length)]) (x0 := s) (en1 := [.b s, .w (.l (ds.map T.d))]) (x1 := s) (xs := [I ds.length]) rfl ?_ rfl rfl e
    simp
  have e2 : fIx (.l (ds.map T.d)) (I v) = some (.d ds[v.toNat]) := by
    rw [fIx_l, atI_nat v0 (by simpa using v1), List.getElem?_map, List.getElem?_eq_getElem hv]; rfl
  unfold mIxNg
  rw [if_pos (show (at_ [.b s, .w (.l (ds.map T.d))] 1).isSome = true from rfl)]
  unfold mIxN
  rw [c]
  simp [e2]
end Z
/-! Z: enumerate of a tuple. -/
namespace Z
open PySem PySem.Spec L2
open PyProof.Rows hiding St
open AutoSeq1 (wpAny_loadPart')
theorem enumT_new (tp : Addr) (its : Array Value) (k : Nat) (dc : Option Addr) (sl : Array (Option Value)) :
    Meets (Builtin.«enumerate.__new__» ⟨[.type "enumerate", .ref tp], []⟩) (fun _ R u => u.heap.get? tp = some { cls := .type "tuple", dict := dc, data := .seq its k, slots := sl } ∧
      R (.ok (.ret (.ref (u.heap.push { cls := .type "tuple_iterator", data := .fields #[.ref tp, .int 0 0] }).objs.size)))
        { u with heap := (u.heap.push { cls := .type "tuple_iterator", data := .fields #[.ref tp, .int 0 0] }).push { cls := .type "enumerate", data := .fields #[.none, .bool false, .ref u.heap.objs.size, rawInt 0, .none, .none] } }) :=
  .of_wp fun prog w A R u h => by
    obtain ⟨hq, gq, dq, tq, oq⟩ := u
    obtain ⟨hl, h⟩ := h
    have su := sub_enumerate
    have isT : Heap.IsTuple (Shared.heap ⟨hq, gq, dq, tq, oq⟩) tp its := ⟨_, hl, rfl, k, rfl⟩
    wp_walk using wpAny_loadPart' hl
    refine wpAny_stack_any fun z => wpAny_pure ?_
    split
    · rename_i cq _ _ _ _ _
      cases (cq == Value.type "enumerate")
      · wp_walk using wpAny_loadPart' hl, wpAny_pyIter_tuple isT
        exact ⟨_, rfl, h⟩
      · wp_walk using wpAny_loadPart' hl, wpAny_pyIter_tuple isT
        exact ⟨_, rfl, h⟩
    · wp_walk using wpAny_loadPart' hl, wpAny_pyIter_tuple isT
      exact ⟨_, rfl, h⟩
section
variable {prog : Program} {w : World} {A : Around} {E : Value → Shared → Prop} {s : Shared}
theorem call_enumT {tp : Addr} {its : Array Value} {Q : Value → Shared → Prop} (isT : s.heap.IsTuple tp its)
    (q : ∀ hp', IsEnum hp' (s.heap.objs.size + 1) s.heap.objs.size 0 .none → hp'.IsTupleIter s.heap.objs.size tp 0 → hp'.objs.size = s.heap.objs.size + 2 →
      (∀ c o, s.heap.get? c = some o → hp'.get? c = some o) → Q (.ref (s.heap.objs.size + 1)) { s with heap := hp' }) :
    wpAny (model prog w) A (call (.type "enumerate") [.ref tp]) Q E s := by
  obtain ⟨⟨cq, dc, dt, sl⟩, hl, hc, k, hd⟩ := isT
  cases (show cq = .type "tuple" from hc)
  cases (show dt = .seq its k from hd)
  refine callType_new F.called_enumerate (by decide) (F.typeCall_enumerate_1 _) (F.newCall_enumerate_1 _) (fun ob => F.args_object_init_2 ob _) F.entry_enumerate_new (enumT_new tp its k dc sl) ⟨hl, ?_⟩
  have z1 : (s.heap.push { cls := .type "tuple_iterator", data := .fields #[.ref tp, .int 0 0] }).objs.size = s.heap.objs.size + 1 := Heap.size_push ..
  show _ ∧ _
  rw [z1]
  have en : IsEnum ((s.heap.push { cls := .type "tuple_iterator", data := .fields #[.ref tp, .int 0 0] }).push
      { cls := .type "enumerate", data := .fields #[.none, .bool false, .ref s.heap.objs.size, rawInt 0, .none, .none] }) (s.heap.objs.size + 1) s.heap.objs.size 0 .none := by
    have g := Heap.get?_push_size (s.heap.push { cls := .type "tuple_iterator", data := .fields #[.ref tp, .int 0 0] })
      (o := { cls := .type "enumerate", data := .fields #[.none, .bool false, .ref s.heap.objs.size, rawInt 0, .none, .none] }) rfl
    rwa [z1] at g
  refine ⟨⟨_, en, rfl⟩, q _ en ⟨_, Heap.get?_push_of_some _ (Heap.get?_push_size _ rfl), rfl, rfl⟩ (by rw [Heap.size_push, z1]) fun c o g => Heap.get?_push_of_some _ (Heap.get?_push_of_some _ g)⟩
end
theorem draws_tup {prog : Program} {w : World} {A : Around} (hh : A.handled = none) (it tp : Addr) (ne : tp ≠ it) (its : Array Value) :
    Draws prog w A it [it, tp] its.size (fun i v => its[i]? = some v) (fun i h => h.IsTupleIter it tp i ∧ h.IsTuple tp its) where
  live := fun _ _ z => let ⟨o, ho, _⟩ := z.1; ⟨o, ho⟩
  frame := fun _ _ _ z k => ⟨z.1.at fun o e => k it (by simp) o e, z.2.at fun o e => k tp (by simp) o e⟩
  item := fun i s Q E hi z q => by
    refine RZ.nextOf_tuple_item z.1 z.2 (x := its[i]) (by simp [hi]) fun hp' z1 sb => ?_
    exact q _ hp' s.toks (by simp [hi]) ⟨z1, z.2.extBut sb.extBut ne⟩ sb
  done := fun s Q E z q => RZ.nextOf_tuple_end hh z.1 z.2 (by simp) q
/-- a tuple's items with their places, each in a new pair -/
def IteT (K : PySem.W.Frag) (a : Addr) : It :=
  ⟨fun i H => ∃ (xs : List V) (x : V), SqT K H a xs ∧ xs[i]? = some x, fun i H v H' => ∃ T x, v = .ref T ∧ H T = none ∧ H' = upd H T (.tup [.int (i : Nat), x]) ∧ ∀ xs, SqT K H a xs → xs[i]? = some x, fun i H => ∃ xs : List V, SqT K H a xs ∧ xs.length ≤ i⟩
theorem turn_enumT {P : Program} {w : World} {K : PySem.W.Frag} {elts : List Expr} {kk : Nat} {tpos : Pos} (a e it : Addr) :
    Turn P w K (.Tuple elts kk tpos) (IteT K a) [e, it] e (fun i h => (∃ old, IsEnum h e it ((i : Nat) : Int) old) ∧ h.IsTupleIter it a i ∧ e ≠ it ∧ a ≠ it ∧ a ≠ e) where
  mem := by simp
  obj := fun i h st b hb => by
    obtain ⟨⟨old, he⟩, ⟨o, ho, hc, hd⟩, _⟩ := st
    rcases (show b = e ∨ b = it by simpa using hb) with z | z
    · rw [z]; exact ⟨_, he, fun v q => nomatch q⟩
    · rw [z]; exact ⟨o, ho, fun v q => by rw [hd] at q; cases q⟩
  keep := fun i h h' st k => let ⟨⟨old, he⟩, hi, hne⟩ := st; ⟨⟨old, k e (by simp) _ he⟩, hi.at fun o q => k it (by simp) o q, hne⟩
  item := by
    intro X hP hw hK hc i pins s σ H E J hf st hg
    subst hP hw hK
    obtain ⟨⟨old, he⟩, hit, ne1, ne2, ne3⟩ := st
    obtain ⟨xs, x, hq, hx⟩ := hg
    obtain ⟨its, rv, tp, hz⟩ := J.tuple hq
    obtain ⟨u, hu, ru⟩ := rv.get hx
    have el : e < s.heap.objs.size := Heap.lt_size he
    have il : it < s.heap.objs.size := by obtain ⟨_, q, _⟩ := hit; exact Heap.lt_size q
    have hlt : i < its.toArray.size := by
      have := (List.getElem?_eq_some_iff.mp hu).1
      simpa using this
    refine wpAny_pyNext_enum_itemD (draws_tup (A := X.A.in1) (J.ok.hd hc) it a ne2 its.toArray) he ⟨hit, tp⟩ hlt ne1 (by simp [ne1, Ne.symm ne3]) fun y hp' tk hy ho st2 hT sz k => ?_
    have ey : y = u := by
      have : its[i]? = some y := by simpa using hy
      rw [hu] at this; injection this with this; exact this.symm
    subst ey
    refine ⟨_, rfl, wpAny_letOwnedTupleGo_enum (s := { s with heap := hp', toks := tk + 1 }) ho fun hp'' he' sb => ?_⟩
    have hT2 : hp''.get? s.heap.objs.size = some { cls := .type "tuple", data := .seq #[.int i tk, y] } := (sb.2 _ (Nat.ne_of_gt el)).trans hT
    have new : ObjOk X.prog X.w (upd H s.heap.objs.size (.tup [.int (i : Nat), x])) hp'' s.heap.objs.size (.tup [.int (i : Nat), x]) :=
      ⟨by show 2 ≤ sizeLine; decide, [.int i tk, y], .cons ⟨_, rfl⟩ (.cons ru .nil), ⟨_, hT2, rfl, _, rfl⟩⟩
    have I1 : Inv X pins σ (upd H s.heap.objs.size (.tup [.int (i : Nat), x])) { s with heap := hp'', toks := tk + 1 } :=
      J.turnedNew (ch := [e, it]) (fun b ob hb q => (sb.2 b (fun z => hb (by simp [z]))).trans (k b ob (fun z => hb (by simp [z])) (fun z => hb (by simp [z])) q)) hf (Nat.le_refl _) new
    refine ⟨.ref s.heap.objs.size, _, I1, rfl, ⟨_, x, rfl, J.hok.fresh (Nat.le_refl _), rfl, fun ys hy => by rw [J.tuple_inj hy hq]; exact hx⟩, ⟨⟨y, ?_⟩, st2.1.at fun o q => (sb.2 it (Ne.symm ne1)).trans q, ne1, ne2, ne3⟩, fun b hb => ?_⟩
    · have e1 : ((i + 1 : Nat) : Int) = (i : Int) + 1 := by omega
      rw [e1]; exact he'
    · have bl : b < s.heap.objs.size := by
        rcases (show b = e ∨ b = it by simpa using hb) with z | z
        · rw [z]; exact el
        · rw [z]; exact il
      rw [upd_ne (Nat.ne_of_lt bl)]
      exact (hf b hb).1
  done := by
    intro X hP hw hK hc i pins s σ H E J hf st hg
    subst hP hw hK
    obtain ⟨⟨old, he⟩, hit, ne1, ne2, ne3⟩ := st
    obtain ⟨xs, hq, hx⟩ := hg
    obtain ⟨its, rv, tp, hz⟩ := J.tuple hq
    obtain ⟨f0, f1, f2, f3, f4, f5⟩ := hf it (by simp)
    have hl := rv.length
    have hT : s.TypeIs (.ref e) "enumerate" := ⟨_, he, rfl⟩
    unfold pyNext
    refine wpAny_bind (wpAny_attempt (wpAny_callSpecial?_slot (name := Str.ofString "__next__") hT F.slot_enumerate_next (wpAny_call_entry F.slot_enumerate_next hT F.entry_enumerate_next ?_ (F.args_enumerate_next_1 _))))
    show wpAny _ _ (field (.ref e) 2 >>= _) _ _ _
    refine wpAny_bind (wpAny_field he rfl (x := .ref it) rfl ?_)
    refine wpAny_bind (RZ.nextOf_tuple_end (A := X.A.in1) (J.ok.hd hc) hit tp (by simp; omega) fun hp' x eb hx' => ?_)
    obtain ⟨o, ho, hc'⟩ := hx'
    refine wpAny_bind (wpAny_isInstance (T := "StopIteration") (b := true) ⟨o, ho, hc'⟩ isSubtype_stop ?_)
    exact wpAny_pure ⟨rfl, J.turned (t' := s.toks) (fun b o hb q => eb b o hb q) f0 f1 f3 f4 f5⟩
  self := fun A i s Q E st h => let ⟨⟨_, he⟩, _⟩ := st; wpAny_pyIter_enum he h
def iEnumA (K : PySem.W.Frag) (ta : TA) : TI := fun σ H R => ta σ H fun vs H1 => ∃ a xs, vs = [.ref a] ∧ ((SqL K H1 a xs ∧ R (Ite K a) H1) ∨ (SqT K H1 a xs ∧ R (IteT K a) H1))
theorem pi_enumA {X : Cx} {e : Expr} {ta : TA} {p pos tpos : Pos} {elts : List Expr} {kk : Nat} (hg : Gl X "enumerate") (hm : X.mg "enumerate" = none) (ha : PA X [e] ta) (hs : starEach [e] X.env = [(false, eval e X.env)] := by rfl) :
    PI X (.Tuple elts kk tpos) (.Call (.Name "enumerate" p) [e] [] pos) (iEnumA X.K ta) := by
  refine ⟨fun pins s σ H R J h => ?_⟩
  refine Call_ (ld_blt J hg hm boot_enumerate (PyProof.Rows.callWith_type1 (thn (ha.run pos pins s σ H _ J h) fun us s1 ⟨vs, H1, I1, r1, q1⟩ => ?_) hs rfl))
  obtain ⟨a, xs, ex, q1⟩ := q1
  subst ex
  cases r1 with
  | cons r rr =>
    cases rr
    cases r
    have fr : ∀ b ∈ [s1.heap.objs.size + 1, s1.heap.objs.size], FpOk X pins H1 b := fun b hb => by
      have hle : s1.heap.objs.size ≤ b := by
        rcases (show b = s1.heap.objs.size + 1 ∨ b = s1.heap.objs.size by simpa using hb) with z | z
        · rw [z]; exact Nat.le_add_right _ _
        · rw [z]; exact Nat.le_refl _
      exact I1.fpOk hle (I1.hok.fresh hle)
    rcases q1 with ⟨hq, q⟩ | ⟨hq, q⟩
    · obtain ⟨its, rv, p', hz⟩ := I1.list hq
      refine call_enumerate_list p'.isList fun h' he hit hsz hk => wpAny_pyIter_enum he ?_
      have I2 : Inv X pins σ H1 { s1 with heap := h' } := I1.kept (t' := s1.toks) hk
      exact ⟨s1.heap.objs.size + 1, [s1.heap.objs.size + 1, s1.heap.objs.size], _, _, H1, rfl, I2, turn_enum a (s1.heap.objs.size + 1) s1.heap.objs.size, ⟨⟨.none, he⟩, hit, Nat.succ_ne_self _⟩, fr, q⟩
    · obtain ⟨its, rv, tp, hz⟩ := I1.tuple hq
      have tp' : s1.heap.IsTuple a its.toArray := tp
      have al : a < s1.heap.objs.size := by obtain ⟨_, z, _⟩ := tp'; exact Heap.lt_size z
      refine call_enumT tp' fun h' he hit hsz hk => wpAny_pyIter_enum he ?_
      have I2 : Inv X pins σ H1 { s1 with heap := h' } := I1.kept (t' := s1.toks) hk
      exact ⟨s1.heap.objs.size + 1, [s1.heap.objs.size + 1, s1.heap.objs.size], _, _, H1, rfl, I2, turn_enumT a (s1.heap.objs.size + 1) s1.heap.objs.size, ⟨⟨.none, he⟩, hit, Nat.succ_ne_self _, Nat.ne_of_lt al, Nat.ne_of_lt (Nat.lt_succ_of_lt al)⟩, fr, q⟩
theorem walk_enumT {K : PySem.W.Frag} {a : Addr} {xs : List V} : Walk (IteT K a) xs.length (fun H => SqT K H a xs) (YPair (fun i => some (.int (i : Nat))) (fun i => xs[i]?)) := by
  refine ⟨fun i _ hi q => ⟨xs, xs[i], q, by simp [hi]⟩, fun _ q => ⟨xs, q, Nat.le_refl _⟩, fun i H v H' _ q y => ?_⟩
  obtain ⟨T, x, e1, e2, e3, e4⟩ := y
  exact ⟨T, .int (i : Nat), x, e1, e2, e3, rfl, e4 xs q⟩
end Z
/-! Z: enumerate and zip. -/
namespace Z
open PySem PySem.Spec L2
open PyProof.Rows hiding St
def enumP : Nat → List D → List T
  | _, [] => []
  | k, d :: r => .d (.tup [.int (k : Nat), d]) :: enumP (k + 1) r
def zipP : List D → List D → List T
  | a :: r, b :: s => .d (.tup [a, b]) :: zipP r s
  | _, _ => []
theorem enumP_len : ∀ (k : Nat) (ds : List D), (enumP k ds).length = ds.length
  | _, [] => rfl
  | k, d :: r => by rw [enumP, List.length_cons, List.length_cons, enumP_len (k + 1) r]
theorem enumP_get : ∀ (k : Nat) (ds : List D) (i : Nat) (d : D), ds[i]? = some d → (enumP k ds)[i]? = some (.d (.tup [.int ((k + i : Nat) : Int), d]))
  | _, [], _, _, h => by simp at h
  | k, e :: r, 0, d, h => by
    simp at h; subst h; rfl
  | k, e :: r, i + 1, d, h => by
    rw [enumP, List.getElem?_cons_succ, enumP_get (k + 1) r i d (by simpa using h)]
    rw [show k + 1 + i = k + (i + 1) by omega]
theorem zipP_len : ∀ (as bs : List D), (zipP as bs).length = min as.length bs.length
  | [], bs => by simp [zipP]
  | a :: r, [] => by simp [zipP]
  | a :: r, b :: s => by rw [zipP, List.length_cons, zipP_len r s, List.length_cons, List.length_cons]; omega
theorem zipP_get : ∀ (as bs : List D) (i : Nat) (a b : D), as[i]? = some a → bs[i]? = some b → (zipP as bs)[i]? = some (.d (.tup [a, b]))
  | [], _, _, _, _, h, _ => by simp at h
  | _ :: _, [], _, _, _, _, h => by simp at h
  | a :: r, b :: s, 0, x, y, h, h2 => by
    simp at h h2; subst h; subst h2; rfl
  | a :: r, b :: s, i + 1, x, y, h, h2 => by
    rw [zipP, List.getElem?_cons_succ, zipP_get r s i x y (by simpa using h) (by simpa using h2)]
def fEnum : List T → Option (List T)
  | [x] => (dataOf x).map (enumP 0)
  | _ => none
def fZip : List T → Option (List T)
  | [x, y] => if (isLst x && isLst y) || (isTup x && isTup y) then (dataOf x).bind fun as => (dataOf y).map fun bs => zipP as bs else none
  | _ => none
def gPr (f : List T → Option (List T)) (gs : En → R (List T)) : En → R (List T) := fun en => (gs en).bind fun xs => .of (f xs)
def gEnum (g : En → R T) : En → R (List T) := gPr fEnum (aCons g aNil)
def gZip (ga gb : En → R T) : En → R (List T) := gPr fZip (aCons ga (aCons gb aNil))
/-- a new pair of data -/
theorem pair_ok {K : PySem.W.Frag} {H : Hp} {T0 : Addr} {x y : V} {a b : D} {G : List Addr} (h : H T0 = none) (r : RepD K H x a) (s : RepD K H y b) : Same H (upd H T0 (.tup [x, y])) ∧ ∃ F, Own K (upd H T0 (.tup [x, y])) (.ref T0) (.d (.tup [a, b])) F ∧ ∀ c ∈ F, c ∈ G := by
  have sm := same_new (o := .tup [x, y]) h
  exact ⟨sm, [], .d (.tup (.inl (.inl upd_same)) (.cons (r.mono (.of sm)) (.cons (s.mono (.of sm)) .nil))), fun _ m => absurd m List.not_mem_nil⟩
theorem RepDs.at {K : PySem.W.Frag} {H : Hp} {vs : List V} {ds : List D} {i : Nat} {v : V} (r : RepDs K H vs ds) (h : vs[i]? = some v) : ∃ d, ds[i]? = some d ∧ RepD K H v d := by
  have hl : i < ds.length := by
    rw [← r.length]
    exact (List.getElem?_eq_some_iff.mp h).1
  obtain ⟨v', G, h1, h2, _⟩ := r.owns.get (i := i) (x := .d ds[i]) (by rw [List.getElem?_map, List.getElem?_eq_getElem hl]; rfl)
  rw [h] at h1; cases h1
  cases h2 with
  | d r => exact ⟨_, List.getElem?_eq_getElem hl, r⟩
theorem it_enumL {K : PySem.W.Frag} {H : Hp} {a : Addr} {vs : List V} {ds : List D} {G : List Addr} (h : ∀ H', Kept G H H' → SqL K H' a vs) (r : RepDs K H vs ds) : ItOk K G H (Ite K a) (enumP 0 ds) := by
  unfold ItOk
  rw [enumP_len, ← r.length]
  refine walk_enum.mono h fun i H1 v H2 hi k y => ?_
  obtain ⟨T0, x, y, rfl, hn, rfl, e1, e2⟩ := y
  cases e1
  obtain ⟨d, hd, rd⟩ := r.at e2
  obtain ⟨sm, F, o, m⟩ := pair_ok (K := K) (G := G) hn (.int (i : Nat)) (rd.mono k.1)
  exact ⟨sm, _, F, by rw [enumP_get 0 ds i d hd, Nat.zero_add], o, m⟩
theorem it_enumT {K : PySem.W.Frag} {H : Hp} {a : Addr} {vs : List V} {ds : List D} {G : List Addr} (h : SqT K H a vs) (r : RepDs K H vs ds) : ItOk K G H (IteT K a) (enumP 0 ds) := by
  unfold ItOk
  rw [enumP_len, ← r.length]
  refine walk_enumT.mono (fun H' k => sqT_pst k.1 h) fun i H1 v H2 hi k y => ?_
  obtain ⟨T0, x, y, rfl, hn, rfl, e1, e2⟩ := y
  cases e1
  obtain ⟨d, hd, rd⟩ := r.at e2
  obtain ⟨sm, F, o, m⟩ := pair_ok (K := K) (G := G) hn (.int (i : Nat)) (rd.mono k.1)
  exact ⟨sm, _, F, by rw [enumP_get 0 ds i d hd, Nat.zero_add], o, m⟩
theorem it_zipL {K : PySem.W.Frag} {H : Hp} {a b : Addr} {vs ws : List V} {ds es : List D} {G : List Addr} (h : ∀ H', Kept G H H' → SqL K H' a vs) (h2 : ∀ H', Kept G H H' → SqL K H' b ws) (r : RepDs K H vs ds) (s : RepDs K H ws es) : ItOk K G H (Itz K a b) (zipP ds es) := by
  unfold ItOk
  rw [zipP_len, ← r.length, ← s.length]
  refine (walk_zip (xs := vs) (ys := ws) rfl).mono (fun H' k => ⟨h H' k, h2 H' k⟩) fun i H1 v H2 hi k y => ?_
  obtain ⟨T0, x, y, rfl, hn, rfl, e1, e2⟩ := y
  obtain ⟨d, hd, rd⟩ := r.at e1
  obtain ⟨e, he, re⟩ := s.at e2
  obtain ⟨sm, F, o, m⟩ := pair_ok (K := K) (G := G) hn (rd.mono k.1) (re.mono k.1)
  exact ⟨sm, _, F, zipP_get ds es i d e hd he, o, m⟩
theorem walk_zipT {K : PySem.W.Frag} {a b : Addr} {xs ys : List V} : Walk (RZ.ItzT K a b) (min xs.length ys.length) (fun H => SqT K H a xs ∧ SqT K H b ys) (YPair (fun i => xs[i]?) (fun i => ys[i]?)) := by
  refine ⟨fun i _ hi q => ?_, fun _ q => ⟨xs, ys, q.1, q.2, by omega⟩, fun i H v H' _ q y => ?_⟩
  · have l1 : i < xs.length := by omega
    have l2 : i < ys.length := by omega
    exact ⟨xs, ys, xs[i], ys[i], q.1, q.2, by simp [l1], by simp [l2]⟩
  · obtain ⟨T0, x, z, e1, e2, e3, e4, e5⟩ := y
    exact ⟨T0, x, z, e1, e2, e3, e4 xs q.1, e5 ys q.2⟩
theorem it_zipT {K : PySem.W.Frag} {H : Hp} {a b : Addr} {vs ws : List V} {ds es : List D} {G : List Addr} (h : SqT K H a vs) (h2 : SqT K H b ws) (r : RepDs K H vs ds) (s : RepDs K H ws es) : ItOk K G H (RZ.ItzT K a b) (zipP ds es) := by
  unfold ItOk
  rw [zipP_len, ← r.length, ← s.length]
  refine (walk_zipT (xs := vs) (ys := ws)).mono (fun H' k => ⟨sqT_pst k.1 h, sqT_pst k.1 h2⟩) fun i H1 v H2 hi k y => ?_
  obtain ⟨T0, x, y, rfl, hn, rfl, e1, e2⟩ := y
  obtain ⟨d, hd, rd⟩ := r.at e1
  obtain ⟨e, he, re⟩ := s.at e2
  obtain ⟨sm, F, o, m⟩ := pair_ok (K := K) (G := G) hn (rd.mono k.1) (re.mono k.1)
  exact ⟨sm, _, F, zipP_get ds es i d e hd he, o, m⟩
/-- a list or tuple of data: how it stands, and stays -/
theorem seq_own {K : PySem.W.Frag} {H : Hp} {v : V} {x : T} {G : List Addr} {ds : List D} (o : Own K H v x G) (h : dataOf x = some ds) : ∃ a vs, v = .ref a ∧ RepDs K H vs ds ∧ ((isLst x = true ∧ isTup x = false ∧ SqL K H a vs ∧ ∀ G', (∀ c ∈ G, c ∈ G') → ∀ H', Kept G' H H' → SqL K H' a vs) ∨ (isTup x = true ∧ isLst x = false ∧ SqT K H a vs)) := by
  cases o with
  | d r =>
    cases r with
    | tup s r => cases h; exact ⟨_, _, rfl, r, .inr ⟨rfl, rfl, s⟩⟩
    | rol s r => cases h; exact ⟨_, _, rfl, r, .inl ⟨rfl, rfl, s H (Pst.refl H), fun G' _ H' k => s H' k.1⟩⟩
    | _ => cases h
  | l s r =>
    have e := allD_eq (show allD _ = some ds from h)
    subst e
    exact ⟨_, _, rfl, r.data.1, .inl ⟨rfl, rfl, SqL.of s, fun G' m H' k => SqL.of (k.2 _ (m _ List.mem_cons_self) _ s)⟩⟩
theorem enum_own {K : PySem.W.Frag} {H : Hp} {v : V} {x : T} {G : List Addr} {xs : List T} {Q : It → Hp → Prop} (o : Own K H v x G) (h : fEnum [x] = some xs) (q : ∀ J, ItOk K G H J xs → Q J H) : ∃ a vs, [v] = [.ref a] ∧ ((SqL K H a vs ∧ Q (Ite K a) H) ∨ (SqT K H a vs ∧ Q (IteT K a) H)) := by
  obtain ⟨ds, hd, rfl⟩ := Option.map_eq_some_iff.mp h
  obtain ⟨a, vs, rfl, r, z | z⟩ := seq_own o hd
  · exact ⟨a, vs, rfl, .inl ⟨z.2.2.1, q _ (it_enumL (z.2.2.2 G fun _ m => m) r)⟩⟩
  · exact ⟨a, vs, rfl, .inr ⟨z.2.2, q _ (it_enumT z.2.2 r)⟩⟩
theorem zip_own {K : PySem.W.Frag} {H : Hp} {v w : V} {x y : T} {G F : List Addr} {xs : List T} {Q : It → Hp → Prop} (o : Own K H v x G) (o2 : Own K H w y F) (h : fZip [x, y] = some xs) (q : ∀ J, ItOk K (G ++ F) H J xs → Q J H) : ∃ a b vs ws, [v, w] = [.ref a, .ref b] ∧ ((SqL K H a vs ∧ SqL K H b ws ∧ Q (Itz K a b) H) ∨ (SqT K H a vs ∧ SqT K H b ws ∧ Q (RZ.ItzT K a b) H)) := by
  have hc : ((isLst x && isLst y) || (isTup x && isTup y)) = true := by
    by_cases hc : ((isLst x && isLst y) || (isTup x && isTup y)) = true
    · exact hc
    · have h : (if ((isLst x && isLst y) || (isTup x && isTup y)) = true then (dataOf x).bind fun as => (dataOf y).map fun bs => zipP as bs else none) = some xs := h
      rw [if_neg hc] at h; cases h
  have h : (if ((isLst x && isLst y) || (isTup x && isTup y)) = true then (dataOf x).bind fun as => (dataOf y).map fun bs => zipP as bs else none) = some xs := h
  rw [if_pos hc] at h
  obtain ⟨ds, hd, h⟩ := Option.bind_eq_some_iff.mp h
  obtain ⟨es, he, rfl⟩ := Option.map_eq_some_iff.mp h
  obtain ⟨a, vs, rfl, r, z⟩ := seq_own o hd
  obtain ⟨b, ws, rfl, s, z2⟩ := seq_own o2 he
  refine ⟨a, b, vs, ws, rfl, ?_⟩
  rcases z with z | z
  · rcases z2 with z2 | z2
    · exact .inl ⟨z.2.2.1, z2.2.2.1, q _ (it_zipL (z.2.2.2 _ fun _ m => List.mem_append_left _ m) (z2.2.2.2 _ fun _ m => List.mem_append_right _ m) r s)⟩
    · rw [z.2.1, z2.2.1] at hc; simp at hc
  · rcases z2 with z2 | z2
    · rw [z.2.1, z2.2.1] at hc; simp at hc
    · exact .inr ⟨z.2.2, z2.2.2, q _ (it_zipT z.2.2 z2.2.2 r s)⟩
section
variable {X : Cx} {W : WX} {a b : Expr} {ga gb : En → R T} {p pos tpos : Pos} {elts : List Expr} {kk : Nat}
theorem i_enum (hm : X.mg "enumerate" = none) (h : PV X W a ga) (hg : Gl X "enumerate" := by rfl) (hs : starEach [a] X.env = [(false, eval a X.env)] := by rfl) : PIv X W (.Tuple elts kk tpos) (.Call (.Name "enumerate" p) [a] [] pos) (gEnum ga) := by
  obtain ⟨t, pp, s⟩ := av_cons h av_nil (by rw [hs]; rfl)
  refine ⟨_, pi_enumA hg hm pp hs, fun σ H en Q ve q => s σ H en _ ve ?_⟩
  unfold gEnum gPr at q
  cases e : aCons ga aNil en with
  | ok xs =>
    rw [e] at q
    intro vs H' sm w
    simp only [R.bind_ok] at q
    cases ef : fEnum xs with
    | none => rw [ef] at q; exact q.elim
    | some ys =>
      rw [ef] at q
      cases w with
      | nil => cases ef
      | cons o t => cases t with
        | nil => exact enum_own o ef fun J j => q J H' _ sm j
        | cons _ _ => cases ef
  | ex c => rw [e] at q; exact q
  | no => rw [e] at q; exact q
theorem j_enum (hm : X.mg "enumerate" = none) (h : PN X W a ga) (hg : Gl X "enumerate" := by rfl) (hs : starEach [a] X.env = [(false, eval a X.env)] := by rfl) : PIn X W (.Tuple elts kk tpos) (.Call (.Name "enumerate" p) [a] [] pos) (gEnum ga) := by
  obtain ⟨t, pp, s⟩ := an_cons h an_nil (by rw [hs]; rfl)
  refine ⟨_, pi_enumA hg hm pp hs, fun σ H en Q ve q => s σ H en _ ve ?_⟩
  unfold gEnum gPr at q
  cases e : aCons ga aNil en with
  | ok xs =>
    rw [e] at q
    intro vs H' F sm w fr
    simp only [R.bind_ok] at q
    cases ef : fEnum xs with
    | none => rw [ef] at q; exact q.elim
    | some ys =>
      rw [ef] at q
      cases w with
      | nil => cases ef
      | cons o t => cases t with
        | nil =>
          rw [List.append_nil] at fr
          exact enum_own o ef fun J j => q J H' _ sm j fr o.there
        | cons _ _ => cases ef
  | ex c => rw [e] at q; exact q
  | no => rw [e] at q; exact q
theorem i_zip (hm : X.mg "zip" = none) (h : PV X W a ga) (h2 : PV X W b gb) (hg : Gl X "zip" := by rfl) (hs : starEach [a, b] X.env = (false, eval a X.env) :: starEach [b] X.env := by rfl) (hs2 : starEach [b] X.env = (false, eval b X.env) :: starEach [] X.env := by rfl) (hpl : (backTo pos (starEach [b] X.env)).any (·.1) = false := by rfl) : PIv X W (.Tuple elts kk tpos) (.Call (.Name "zip" p) [a, b] [] pos) (gZip ga gb) := by
  obtain ⟨t, pp, s⟩ := av_cons h (av_cons h2 av_nil hs2) hs
  refine ⟨_, RZ.pi_zipA hg hm pp hs hpl, fun σ H en Q ve q => s σ H en _ ve ?_⟩
  unfold gZip gPr at q
  cases e : aCons ga (aCons gb aNil) en with
  | ok xs =>
    rw [e] at q
    intro vs H' sm w
    simp only [R.bind_ok] at q
    cases ef : fZip xs with
    | none => rw [ef] at q; exact q.elim
    | some ys =>
      rw [ef] at q
      cases w with
      | nil => cases ef
      | cons o t => cases t with
        | nil => cases ef
        | cons o2 t => cases t with
          | nil => exact zip_own o o2 ef fun J j => q J H' _ sm j
          | cons _ _ => cases ef
  | ex c => rw [e] at q; exact q
  | no => rw [e] at q; exact q
theorem j_zip (hm : X.mg "zip" = none) (h : PN X W a ga) (h2 : PN X W b gb) (hg : Gl X "zip" := by rfl) (hs : starEach [a, b] X.env = (false, eval a X.env) :: starEach [b] X.env := by rfl) (hs2 : starEach [b] X.env = (false, eval b X.env) :: starEach [] X.env := by rfl) (hpl : (backTo pos (starEach [b] X.env)).any (·.1) = false := by rfl) : PIn X W (.Tuple elts kk tpos) (.Call (.Name "zip" p) [a, b] [] pos) (gZip ga gb) := by
  obtain ⟨t, pp, s⟩ := an_cons h (an_cons h2 an_nil hs2) hs
  refine ⟨_, RZ.pi_zipA hg hm pp hs hpl, fun σ H en Q ve q => s σ H en _ ve ?_⟩
  unfold gZip gPr at q
  cases e : aCons ga (aCons gb aNil) en with
  | ok xs =>
    rw [e] at q
    intro vs H' F sm w fr
    simp only [R.bind_ok] at q
    cases ef : fZip xs with
    | none => rw [ef] at q; exact q.elim
    | some ys =>
      rw [ef] at q
      cases w with
      | nil => cases ef
      | cons o t => cases t with
        | nil => cases ef
        | cons o2 t => cases t with
          | nil =>
            rw [List.append_nil] at fr
            exact zip_own o o2 ef fun J j => q J H' _ sm j fr fun c m => (List.mem_append.mp m).elim (o.there c) (o2.there c)
          | cons _ _ => cases ef
  | ex c => rw [e] at q; exact q
  | no => rw [e] at q; exact q
/-- what is not ours is in no list of ours -/
theorem EOk.not_own {K : PySem.W.Frag} {H : Hp} {σ : L2.St} {en : En} {Fs : Ft} {i : Nat} {x : T} {v : V} (ok : EOk K H σ en Fs) (hw : notOwn en i = true) (e : at_ en i = some x) (o : Own K H v x (Fs i)) : ∀ c ∈ Fs i, ¬ InO en Fs c := fun c m z => by
  obtain ⟨j, z1, z2⟩ := z
  by_cases hj : j = i
  · subst hj
    unfold notOwn at hw
    unfold ownAt at z1
    cases es : en[j]? with
    | none => rw [es] at hw; cases hw
    | some y =>
      rw [es] at hw z1
      cases y with
      | v y =>
        cases y with
        | d d =>
          have : x = .d d := by unfold at_ at e; rw [es] at e; cases e; rfl
          subst this
          rw [o.dnil] at m; cases m
        | l _ => cases hw
      | w y => exact absurd rfl z1
      | n => cases hw
      | b y => cases hw
  · exact ok.dis j i c hj z1 z2 m
def fForE (k : T → Option Ass) (i : Nat) (f : En → SR) : En → SR := fun en => let en' := weak en i
  if notOwn en' i = true then match (at_ en' i).bind fun x => fEnum [x] with
    | some xs => forE k f xs en'
    | none => .no
  else .no
def fForZ (k : T → Option Ass) (i j : Nat) (f : En → SR) : En → SR := fun en => let en' := weak (weak en i) j
  if notOwn en' i = true ∧ notOwn en' j = true then match (at_ en' i).bind fun x => (at_ en' j).bind fun y => fZip [x, y] with
    | some xs => forE k f xs en'
    | none => .no
  else .no
variable {f : En → SR} {body : List Stmt} {k : T → Option Ass}
theorem s_forE (i : Nat) {x : Str} {px : Pos} (cz : Cz X W) (hm : X.mg "enumerate" = none) (hg : PTg X (.Tuple elts kk tpos) k) (hb : PBl X W body f) (hN : X.N[i]? = some x := by rfl) (hv : Vis X.env.scope x := by first | exact Or.inl rfl | exact Or.inr (Or.inl rfl) | exact Or.inr (Or.inr rfl)) (he : Gl X "enumerate" := by rfl) (hst : starEach [.Name x px] X.env = [(false, eval (.Name x px) X.env)] := by rfl)
    (hs : ∀ y, foldedSetIterable (.Call (.Name "enumerate" p) [.Name x px] [] pos) X.env y = pure y := by intro _; rfl) (hd : (x == ("__debug__" : Str)) = false := by decide) (hcd : (x == ("__classdict__" : Str)) = false := by decide) {lpos : Pos} : PSt X W (.For (.Tuple elts kk tpos) (.Call (.Name "enumerate" p) [.Name x px] [] pos) body [] lpos) (fForE k i f) := by
  obtain ⟨t2, p2, s2⟩ := hb
  refine ⟨_, ps_for cz.hp cz.calm (pi_enumA he hm (pa_cons (pe_var hN hv hd hcd) pa_nil (by rw [hst]; rfl)) hst) hg p2 hs, fun σ H en Fs D ok q => ?_⟩
  unfold fForE at q
  have a : Aft X.K H Fs σ en H Fs σ (Z.weak en i) [] := (Aft.refl ok).weak i
  simp only at q
  split at q
  · rename_i hw
    cases e : at_ (Z.weak en i) i with
    | none => rw [e] at q; exact q.elim
    | some x =>
      rw [e] at q
      simp only [Option.bind_some] at q
      cases ei : fEnum [x] with
      | none => rw [ei] at q; exact q.elim
      | some xs =>
        rw [ei] at q
        obtain ⟨v, h1, h2⟩ := a.ok.has i x e
        exact ⟨v, h1, enum_own (Q := forQ X.K k t2 D σ) h2 ei fun J iok => sp_for s2 a iok h2.there (a.ok.not_own hw e h2) (fun c m => .inl ⟨i, m⟩) q⟩
  · exact q.elim
theorem s_forZ (i j : Nat) {x y : Str} {px py : Pos} (cz : Cz X W) (hm : X.mg "zip" = none) (hg : PTg X (.Tuple elts kk tpos) k) (hb : PBl X W body f) (hN : X.N[i]? = some x := by rfl) (hN2 : X.N[j]? = some y := by rfl) (hv : Vis X.env.scope x := by first | exact Or.inl rfl | exact Or.inr (Or.inl rfl) | exact Or.inr (Or.inr rfl)) (hv2 : Vis X.env.scope y := by first | exact Or.inl rfl | exact Or.inr (Or.inl rfl) | exact Or.inr (Or.inr rfl)) (he : Gl X "zip" := by rfl) (hst : starEach [.Name x px, .Name y py] X.env = (false, eval (.Name x px) X.env) :: starEach [.Name y py] X.env := by rfl) (hst2 : starEach [.Name y py] X.env = (false, eval (.Name y py) X.env) :: starEach [] X.env := by rfl) (hpl : (backTo pos (starEach [.Name y py] X.env)).any (·.1) = false := by rfl)
    (hs : ∀ z, foldedSetIterable (.Call (.Name "zip" p) [.Name x px, .Name y py] [] pos) X.env z = pure z := by intro _; rfl) (hd : (x == ("__debug__" : Str)) = false := by decide) (hcd : (x == ("__classdict__" : Str)) = false := by decide) (hd2 : (y == ("__debug__" : Str)) = false := by decide) (hcd2 : (y == ("__classdict__" : Str)) = false := by decide) {lpos : Pos} : PSt X W (.For (.Tuple elts kk tpos) (.Call (.Name "zip" p) [.Name x px, .Name y py] [] pos) body [] lpos) (fForZ k i j f) := by
  obtain ⟨t2, p2, s2⟩ := hb
  refine ⟨_, ps_for cz.hp cz.calm (RZ.pi_zipA he hm (pa_cons (pe_var hN hv hd hcd) (pa_cons (pe_var hN2 hv2 hd2 hcd2) pa_nil hst2) hst) hst hpl) hg p2 hs, fun σ H en Fs D ok q => ?_⟩
  unfold fForZ at q
  have a : Aft X.K H Fs σ en H Fs σ (Z.weak (Z.weak en i) j) [] := ((Aft.refl ok).weak i).weak j
  simp only at q
  split at q
  · rename_i hw
    cases e : at_ (Z.weak (Z.weak en i) j) i with
    | none => rw [e] at q; exact q.elim
    | some x =>
      cases e2 : at_ (Z.weak (Z.weak en i) j) j with
      | none => rw [e, e2] at q; exact q.elim
      | some y =>
        rw [e, e2] at q
        simp only [Option.bind_some] at q
        cases ei : fZip [x, y] with
        | none => rw [ei] at q; exact q.elim
        | some xs =>
          rw [ei] at q
          obtain ⟨v, h1, h2⟩ := a.ok.has i x e
          obtain ⟨u, h3, h4⟩ := a.ok.has j y e2
          refine ⟨v, h1, u, h3, zip_own (Q := forQ X.K k t2 D σ) h2 h4 ei fun J iok => sp_for s2 a iok (fun c m => (List.mem_append.mp m).elim (h2.there c) (h4.there c)) (fun c m => (List.mem_append.mp m).elim (a.ok.not_own hw.1 e h2 c) (a.ok.not_own hw.2 e2 h4 c)) (fun c m => .inl ((List.mem_append.mp m).elim (fun z => ⟨i, z⟩) fun z => ⟨j, z⟩)) q⟩
  · exact q.elim
end
end Z
/-! Z: what lies the other way about. -/
namespace Z
open PySem PySem.Spec L2
open PyProof.Rows hiding St
section
variable {prog : Program} {w : World} {A : Around} {E : Value → Shared → Prop} {s : Shared}
theorem applied_rev {sl : Addr} {n : Nat} {tk : Tok} {Q : Int × Int × Nat → Shared → Prop} (hs : s.heap.IsSliceOf sl .none .none (.int (-1) tk))
    (q : Q ((n : Int) - 1, -1, n) s) : wpAny (model prog w) A (Builtin.Slice.sliceApplied (.ref sl) (pure (n : Int))) Q E s := by
  obtain ⟨ob, e1, e2, e3⟩ := id hs
  unfold Builtin.Slice.sliceApplied Builtin.Slice.sliceFields
  refine wpAny_bind (wpAny_bind (wpAny_field e1 e3 (x := .none) rfl (wpAny_bind (wpAny_field e1 e3 (x := .none) rfl (wpAny_bind (wpAny_field e1 e3 (x := .int (-1) tk) rfl (wpAny_pure ?_)))))))
  refine wpAny_bind (slicePart_int ?_)
  show wpAny _ _ (if ((-1 : Int) == 0) = true then _ else _) _ _ s
  rw [if_neg (by decide)]
  refine wpAny_bind (slicePart_none (wpAny_bind (slicePart_none (wpAny_bind (wpAny_pure ?_)))))
  show wpAny _ _ (match Builtin.Slice.sliceAdjust none none (-1) (n : Int) with | (lo, hi) => pure (lo, (-1 : Int), Builtin.Slice.slicePlaces lo hi (-1))) _ _ s
  have ea : Builtin.Slice.sliceAdjust none none (-1) (n : Int) = ((n : Int) - 1, -1) := by
    unfold Builtin.Slice.sliceAdjust
    simp
  rw [ea]
  show wpAny _ _ (pure ((n : Int) - 1, (-1 : Int), Builtin.Slice.slicePlaces ((n : Int) - 1) (-1) (-1))) _ _ s
  have ep : Builtin.Slice.slicePlaces ((n : Int) - 1) (-1) (-1) = n := by
    unfold Builtin.Slice.slicePlaces
    rw [if_neg (by decide)]
    by_cases h : (n : Int) - 1 > -1
    · rw [if_pos h, show -(-1 : Int) = 1 from rfl, Int.ediv_one]; omega
    · rw [if_neg h]; omega
  rw [ep]
  exact wpAny_pure q
theorem fm_all {α : Type} : ∀ l : List α, ((List.range l.length).filterMap fun m => l[m]?) = l
  | [] => rfl
  | x :: l => by
    rw [List.length_cons, List.range_succ_eq_map, List.filterMap_cons]
    simp only [List.getElem?_cons_zero, List.filterMap_map]
    have : ((fun m => (x :: l)[m]?) ∘ Nat.succ) = fun m => l[m]? := by
      funext m
      simp
    rw [this, fm_all l]
theorem fm_congr {α β : Type} {f g : α → Option β} : ∀ {l : List α}, (∀ x ∈ l, f x = g x) → l.filterMap f = l.filterMap g
  | [], _ => rfl
  | x :: l, h => by
    rw [List.filterMap_cons, List.filterMap_cons, h x (List.mem_cons_self ..), fm_congr (l := l) fun y m => h y (List.mem_cons_of_mem _ m)]
theorem pick_rev (xs : Array Value) : ((List.range xs.size).filterMap fun (m : Nat) => xs[((xs.size : Int) - 1 + (m : Int) * (-1)).toNat]?).toArray = xs.toList.reverse.toArray := by
  congr 1
  have e := fm_all xs.toList.reverse
  rw [List.length_reverse, Array.length_toList] at e
  rw [← e]
  have e2 := fm_all xs.toList.reverse
  rw [List.length_reverse, Array.length_toList] at e2
  rw [e2]
  refine (fm_congr fun m hm => ?_).trans e
  have hm := List.mem_range.mp hm
  rw [List.getElem?_reverse (by simpa using hm), show ((xs.size : Int) - 1 + (m : Int) * (-1)).toNat = xs.size - 1 - m by omega]
  simp
theorem item_tup_rev {tp sl : Addr} {its : Array Value} {tk : Tok} {Q : Value → Shared → Prop} (ht : IsTup s.heap tp its) (hs : s.heap.IsSliceOf sl .none .none (.int (-1) tk))
    (q : Q (.ref s.heap.objs.size) { s with heap := s.heap.push { cls := .type "tuple", data := .seq its.toList.reverse.toArray } })
    (hsz : its.size ≤ sizeLine) : wpAny (model prog w) A (getItem (.ref tp) (.ref sl)) Q E s := by
  have sok : sizeOk (.seq its.toList.reverse.toArray) := by
    show its.toList.reverse.toArray.size ≤ sizeLine
    rw [List.size_toArray, List.length_reverse, Array.length_toList]
    exact hsz
  obtain ⟨ob, e1, e2, e3⟩ := id hs
  have tys : s.TypeIs (.ref sl) "slice" := ⟨ob, e1, e2⟩
  unfold getItem
  try with_reducible refine wpAny_holding ?_
  first | refine wpAny_bind (wpAny_pure ?_) | skip
  refine wpAny_bind (wpAny_sequenceKey ht.typeIs (by decide) ?_)
  refine wpAny_bind (wpAny_callSpecial?_slot (name := Str.ofString "__getitem__") ht.typeIs PyProof.Rows.slot_tuple_getitem (wpAny_call_entry PyProof.Rows.slot_tuple_getitem ht.typeIs entry_tuple_getitem ?_ (args_tuple_getitem _ _)))
  show wpAny _ _ (Builtin.Tuple.tupleItemsOf (.ref tp) >>= _) _ _ s
  refine wpAny_bind (tupleItemsOf_ ht ?_)
  refine wpAny_bind (wpAny_typeOf tys ?_)
  rw [if_pos (by decide)]
  refine wpAny_bind (applied_rev hs ?_)
  have hno : ¬ (((((its.size : Nat) : Int) - 1) == 0 && (-1 : Int) == 1 && its.size == its.size) = true) := by simp
  show wpAny _ _ (if ((((its.size : Nat) : Int) - 1) == 0 && (-1 : Int) == 1 && its.size == its.size) = true then _ else _) _ _ s
  rw [if_neg hno, pick_rev]
  first
    | exact wpAny_bind (m := Builtin.Tuple.tupleExact _) (wpAny_newObj_type (wpAny_pure ⟨_, rfl, wpAny_pure q⟩) sok)
    | exact wpAny_bind (m := Builtin.Tuple.tupleExact _) (wpAny_newObj_type (wpAny_bind (wpAny_pure (wpAny_pure ⟨_, rfl, wpAny_pure q⟩))) sok)
    | exact wpAny_bind (wpAny_bind (m := Builtin.Tuple.tupleExact _) (wpAny_newObj_type (wpAny_pure (wpAny_pure ⟨_, rfl, wpAny_pure q⟩)) sok))
    | exact wpAny_bind (wpAny_bind (m := Builtin.Tuple.tupleExact _) (wpAny_newObj_type (wpAny_pure ⟨_, rfl, wpAny_pure q⟩) sok))
end
def tRevA (K : PySem.W.Frag) (te : TE) : TE := fun σ H Q => te σ H fun x H1 => (∃ a xs, x = .ref a ∧ SqL K H1 a xs ∧ ∀ p, H1 p = none → Q (.ref p) (upd H1 p (.lst xs.reverse))) ∨ (∃ a xs, x = .ref a ∧ SqT K H1 a xs ∧ ∀ p, H1 p = none → Q (.ref p) (upd H1 p (.tup xs.reverse)))
theorem pe_revA {X : Cx} {e : Expr} {te : TE} {k : Nat} {p1 p2 p3 pos : Pos} (he : PE X e te) : PE X (.Subscript e (.Slice none none (some (.UnaryOp .USub (.Constant (.int 1) k p1) p2)) p3) pos) (tRevA X.K te) := by
  refine ⟨fun pins s σ H Q J h => ?_⟩
  refine Subscript_ (thn (he.run pins s σ H _ J h) fun v s1 ⟨x, H1, J1, r1, q1⟩ => ?_)
  have hst : PO X (some (.UnaryOp .USub (.Constant (.int 1) k p1) p2)) (tPart (tUn (rU fun i => .int (-i)) (tC (.int 1)))) := po_some (pe_un un_neg pe_int)
  refine wpAny_Slice (thn (po_none.run pins s1 σ H1 (fun o H2 => o = none ∧ H2 = H1) J1 ⟨rfl, rfl⟩) fun vl s2 ⟨l, H2, J2, pl, el, e2⟩ => ?_)
  subst el e2
  refine thn (po_none.run pins s2 σ H2 (fun o H3 => o = none ∧ H3 = H2) J2 ⟨rfl, rfl⟩) fun vu s3 ⟨u, H3, J3, pu, eu, e3⟩ => ?_
  subst eu e3
  refine thn (hst.run pins s3 σ H3 (fun o H4 => o = some (-1) ∧ H4 = H3) J3 ⟨1, rfl, -1, rfl, rfl, rfl⟩) fun vs s4 ⟨o, H4, J4, ps, eo, e4⟩ => ?_
  subst eo e4
  have J5 : Inv X pins σ H4 { s4 with heap := s4.heap.push { cls := .type "slice", data := .fields #[vl, vu, vs] } } := J4.kept (t' := s4.toks) fun b ob q => Heap.get?_push_of_some _ q
  rcases q1 with ⟨a, xs, ex, hx, q⟩ | ⟨a, xs, ex, hx, q⟩
  · subst ex
    cases r1
    obtain ⟨its, r, ht, hz⟩ := J5.list hx
    have hlen := r.length
    show wpAny (model X.prog X.w) X.A (subscriptTail e (.Slice none none (some (.UnaryOp .USub (.Constant (.int 1) k p1) p2)) p3) (.ref a) (.ref s4.heap.objs.size)) (EP X pins σ Q) X.xe { s4 with heap := s4.heap.push { cls := .type "slice", data := .fields #[vl, vu, vs] } }
    refine tail_any (ops := [.ref a, .ref s4.heap.objs.size]) ht.isList.typeIs (PySem.slot_list_getitem.lookup) ?_ (by with_unfolding_all rfl)
    refine wpAny_getItem_list_slice ht.isList (Heap.IsSliceOf.new _ vl vu vs) pl pu ps (by decide) ?_ (by rw [List.size_toArray]; omega)
    rw [PySem.W.krv_pick]
    refine ⟨.ref _, _, J5.laid (t' := s4.toks) (o := .lst xs.reverse) (fun b ob q => Heap.get?_push_of_some _ q) (Nat.le_refl _) ?_, rfl, q _ (J5.hok.fresh (Nat.le_refl _))⟩
    exact ⟨by rw [List.length_reverse]; exact hz, _, 0, r.reverse, Heap.get?_push_size _ rfl⟩
  · subst ex
    cases r1
    obtain ⟨its, r, ht, hz⟩ := J5.tuple hx
    have hlen := r.length
    cases pl
    cases pu
    cases ps with
    | int _ tk =>
    show wpAny (model X.prog X.w) X.A (subscriptTail e (.Slice none none (some (.UnaryOp .USub (.Constant (.int 1) k p1) p2)) p3) (.ref a) (.ref s4.heap.objs.size)) (EP X pins σ Q) X.xe { s4 with heap := s4.heap.push { cls := .type "slice", data := .fields #[.none, .none, .int (-1) tk] } }
    refine tail_any (ops := [.ref a, .ref s4.heap.objs.size]) ht.typeIs PyProof.Rows.slot_tuple_getitem.lookup ?_ (by with_unfolding_all rfl)
    refine item_tup_rev ht (Heap.IsSliceOf.new _ _ _ _) ?_ (by rw [List.size_toArray]; omega)
    refine ⟨.ref _, _, J5.laid (t' := s4.toks) (o := .tup xs.reverse) (fun b ob q => Heap.get?_push_of_some _ q) (Nat.le_refl _) ?_, rfl, q _ (J5.hok.fresh (Nat.le_refl _))⟩
    exact ⟨by rw [List.length_reverse]; exact hz, _, r.reverse, IsTup.new _ _⟩
theorem RepDs.snoc {K : PySem.W.Frag} {H : Hp} {v : V} {d : D} : ∀ {vs : List V} {ds : List D}, RepDs K H vs ds → RepD K H v d → RepDs K H (vs ++ [v]) (ds ++ [d])
  | _, _, .nil, r => .cons r .nil
  | _, _, .cons a t, r => .cons a (RepDs.snoc t r)
theorem RepDs.rev {K : PySem.W.Frag} {H : Hp} : ∀ {vs : List V} {ds : List D}, RepDs K H vs ds → RepDs K H vs.reverse ds.reverse
  | _, _, .nil => .nil
  | _, _, .cons a t => by rw [List.reverse_cons, List.reverse_cons]; exact RepDs.snoc (RepDs.rev t) a
def fRev : T → Option T
  | .d (.tup ds) => some (.d (.tup ds.reverse))
  | .d (.rol ds) => some (.l (ds.reverse.map T.d))
  | .l xs => (allD xs).map fun ds => .l (ds.reverse.map T.d)
  | _ => none
theorem n_rev {X : Cx} {W : WX} {a : Expr} {g : En → R T} {k : Nat} {p1 p2 p3 pos : Pos} (ha : PV X W a g) : PN X W (.Subscript a (.Slice none none (some (.UnaryOp .USub (.Constant (.int 1) k p1) p2)) p3) pos) (g1 fRev g) := by
  obtain ⟨t, p, s⟩ := ha
  refine ⟨_, pe_revA p, fun σ H en Q ve q => s σ H en _ ve ?_⟩
  unfold g1 at q
  cases e : g en with
  | ok x =>
    rw [e] at q
    intro v H' G sm o
    simp only [R.bind_ok] at q
    have lst : ∀ {b : Addr} {vs : List V} {ds : List D} {H' : Hp}, Same H H' → SqL X.K H' b vs → RepDs X.K H' vs ds → NQ X W σ H Q (.ok (.l (ds.reverse.map T.d))) → ∀ p, H' p = none → Q (.ref p) (upd H' p (.lst vs.reverse)) := fun {b vs ds H'} sm hs r q p hp =>
      have s2 := same_new (o := .lst vs.reverse) hp
      q _ _ [p] (sm.trans s2) (.l upd_same (r.rev.mono (.of s2)).owns) ⟨by simp, fun c m => by
        have : c = p := by simpa using m
        rw [this]; exact sm.free hp⟩
    cases o with
    | d r =>
      cases r with
      | tup hs r => exact .inr ⟨_, _, rfl, hs, fun p hp =>
          have s2 := same_new (o := .tup _) hp
          q _ _ [] (sm.trans s2) (.d (.tup (.inl (.inl upd_same)) (r.rev.mono (.of s2)))) Fresh.nil⟩
      | rol hs r => exact .inl ⟨_, _, rfl, hs _ (Pst.refl _), lst sm (hs _ (Pst.refl _)) r q⟩
      | _ => exact q.elim
    | l hs r =>
      rename_i xs F
      cases ea : allD xs with
      | none => simp only [fRev, ea] at q; exact q.elim
      | some ds =>
        have e2 := allD_eq ea
        subst e2
        simp only [fRev, allD_map] at q
        exact .inl ⟨_, _, rfl, SqL.of hs, lst sm (SqL.of hs) r.data.1 q⟩
  | ex c => rw [e] at q; exact q
  | no => rw [e] at q; exact q
/-! a module's constant -/
theorem n_glI {X : Cx} {W : WX} {x : Str} {i : Int} {tk : Tok} {pos : Pos} (hm : X.mg x = some (.int i tk)) (hg : Gl X x := by rfl) (hd : (x == ("__debug__" : Str)) = false := by decide) : PN X W (.Name x pos) (kI i) := n_glob (v := .int i) (d := .int i) hg hm ⟨tk, rfl⟩ (fun _ => .int _) hd
theorem n_glS {X : Cx} {W : WX} {x : Str} {z : Str} {tk : Tok} {pos : Pos} (hm : X.mg x = some (.str z tk)) (hg : Gl X x := by rfl) (hd : (x == ("__debug__" : Str)) = false := by decide) : PN X W (.Name x pos) (kS z) := n_glob (v := .str z) (d := .str z) hg hm ⟨tk, rfl⟩ (fun _ => .str _) hd
end Z
namespace K01
open PySem PySem.Spec L2 Z
open PyProof.Rows hiding St
/-! what the defs compute -/
def mu_power_0 : En → Nat := (fun _ => 100000)
def mu_trimmed_0 : En → Nat := (fun _ => 100000)
def d_is_integer : En → SR :=
  (fRet (lft (gPur (gAndV (gIsi isInt (vN 0)) (gNotV (gIsi isBl (vN 0)))))))
def F_is_integer := runP 1 1 d_is_integer
def d_is_prime : En → SR :=
  (fSeq (fIf (lft (gOr (gNot (gTru (gFn F_is_integer (aCons (vN 0) aNil)))) (gOr (gT (g2 fLt (vN 0) (kI 3))) (gT (g2 fGt (vN 0) (kI 251)))))) (fRet (lft (kB false))) fNil)
  (fRet (lft (gCall fAll (aCons (gLc [1] (gR2 (kI 2) (vN 0)) (kName 1) (gT (g2 fLe (g2 fMul (vN 1) (vN 1)) (vN 0))) (g2 fNe (g2 fMod (vN 0) (vN 1)) (kI 0))) aNil)))))
def F_is_prime := runP 2 1 d_is_prime
def d_power : En → SR :=
  (fSeq (fSet 3 (lft (kI 1)))
  (fSeq (fWh mu_power_0 (lft (gT (g2 fGt (vN 2) (kI 0)))) (fSeq (fIf (lft (gT (g2 fEq (g2 fMod (vN 2) (kI 2)) (kI 1)))) (fSet 3 (lft (g2 fMod (g2 fMul (vN 3) (vN 1)) (vN 0)))) fNil)
  (fSeq (fSet 1 (lft (g2 fMod (g2 fMul (vN 1) (vN 1)) (vN 0))))
  (fAug 2 fDivA (lft (kI 2))))))
  (fRet (mName 3))))
def F_power := runP 4 3 d_power
def d_inverse : En → SR :=
  (fRet (lft (gFn F_power (aCons (vN 0) (aCons (vN 1) (aCons (g2 fSub (vN 0) (kI 2)) aNil))))))
def F_inverse := runP 2 2 d_inverse
def d_trimmed : En → SR :=
  (fSeq (fSet 1 (lft (gCall fLen (aCons (vN 0) aNil))))
  (fSeq (fWh mu_trimmed_0 (lft (gAnd (gT (g2 fGt (vN 1) (kI 0))) (gT (g2 fEq (g2 fIx (vN 0) (g2 fSub (vN 1) (kI 1))) (kI 0))))) (fAug 1 fSub (lft (kI 1))))
  (fRet (lft (gCall fTuple (aCons (gSl (vN 0) oN (oS (vN 1))) aNil))))))
def F_trimmed := runP 2 1 d_trimmed
def d_poly_value : En → SR :=
  (fSeq (fSet 3 (lft (kI 0)))
  (fSeq (fFor (kName 4) (lft (gIt (g1 fRev (vN 1)))) (fSet 3 (lft (g2 fMod (g2 fAdd (g2 fMul (vN 3) (vN 2)) (vN 4)) (vN 0)))))
  (fRet (mName 3))))
def F_poly_value := runP 5 3 d_poly_value
def d_poly_sum : En → SR :=
  (fSeq (fSet 3 (lft (gCall fMax2 (aCons (gCall fLen (aCons (vN 1) aNil)) (aCons (gCall fLen (aCons (vN 2) aNil)) aNil)))))
  (fSeq (fSet 4 (lft (gLc [5] (gIt (gTup (aCons (vN 1) (aCons (vN 2) aNil)))) (kName 5) gYes (g2 fAdd (gCall fList (aCons (vN 5) aNil)) (g2 fMul (gLst (aCons (kI 0) aNil)) (g2 fSub (vN 3) (gCall fLen (aCons (vN 5) aNil))))))))
  (fRet (lft (gFn F_trimmed (aCons (gLc [6, 7] (gZip (g2 fIx (vN 4) (kI 0)) (g2 fIx (vN 4) (kI 1))) (kTup 2 (kCons (kName 6) (kCons (kName 7) kNil))) gYes (g2 fMod (g2 fAdd (vN 6) (vN 7)) (vN 0))) aNil))))))
def F_poly_sum := runP 8 3 d_poly_sum
def d_poly_product : En → SR :=
  (fSeq (fSet 3 (lft (g2 fMul (gLst (aCons (kI 0) aNil)) (g2 fAdd (gCall fLen (aCons (vN 1) aNil)) (gCall fLen (aCons (vN 2) aNil))))))
  (fSeq (fForE (kTup 2 (kCons (kName 4) (kCons (kName 5) kNil))) 1 (fForE (kTup 2 (kCons (kName 6) (kCons (kName 7) kNil))) 2 (fStore 3 (g2 fAdd (vN 4) (vN 6)) (lft (g2 fMod (g2 fAdd (g2 fIx (vN 3) (g2 fAdd (vN 4) (vN 6))) (g2 fMul (vN 5) (vN 7))) (vN 0))))))
  (fRet (lft (gFn F_trimmed (aCons (vN 3) aNil))))))
def F_poly_product := runP 8 3 d_poly_product
def d_poly_divided : En → SR :=
  (fSeq (fSet 3 (lft (gCall fList (aCons (vN 1) aNil))))
  (fSeq (fSet 4 (lft (g2 fMul (gLst (aCons (kI 0) aNil)) (gCall fMax2 (aCons (kI 0) (aCons (g2 fAdd (g2 fSub (gCall fLen (aCons (vN 1) aNil)) (gCall fLen (aCons (vN 2) aNil))) (kI 1)) aNil))))))
  (fSeq (fSet 5 (lft (gFn F_inverse (aCons (vN 0) (aCons (g2 fIx (vN 2) (g1 fNeg (kI 1))) aNil)))))
  (fSeq (fFor (kName 6) (lft (gR3 (g2 fSub (gCall fLen (aCons (vN 1) aNil)) (gCall fLen (aCons (vN 2) aNil))) (g1 fNeg (kI 1)) (g1 fNeg (kI 1)))) (fSeq (fSet 7 (lft (g2 fMod (g2 fMul (g2 fIx (vN 3) (g2 fSub (g2 fAdd (vN 6) (gCall fLen (aCons (vN 2) aNil))) (kI 1))) (vN 5)) (vN 0))))
  (fSeq (fStore 4 (vN 6) (mName 7))
  (fForE (kTup 2 (kCons (kName 8) (kCons (kName 9) kNil))) 2 (fStore 3 (g2 fAdd (vN 6) (vN 8)) (lft (g2 fMod (g2 fSub (g2 fIx (vN 3) (g2 fAdd (vN 6) (vN 8))) (g2 fMul (vN 7) (vN 9))) (vN 0))))))))
  (fRet (lft (gTup (aCons (gFn F_trimmed (aCons (vN 4) aNil)) (aCons (gFn F_trimmed (aCons (vN 3) aNil)) aNil)))))))))
def F_poly_divided := runP 10 3 d_poly_divided
def d_through : En → SR :=
  (fSeq (fSet 2 (lft (gTup aNil)))
  (fSeq (fForN (kTup 2 (kCons (kName 3) (kCons (kName 4) kNil))) 1 (fSeq (fSet 5 (lft (gTup (aCons (vN 4) aNil))))
  (fSeq (fForN (kTup 2 (kCons (kName 6) (kCons (kName 7) kNil))) 1 (fIf (lft (gT (g2 fNe (vN 6) (vN 3)))) (fSeq (fSet 8 (lft (gFn F_inverse (aCons (vN 0) (aCons (g2 fMod (g2 fSub (vN 3) (vN 6)) (vN 0)) aNil)))))
  (fSet 5 (lft (gFn F_poly_product (aCons (vN 0) (aCons (vN 5) (aCons (gTup (aCons (g2 fMod (g2 fMul (g1 fNeg (vN 6)) (vN 8)) (vN 0)) (aCons (vN 8) aNil))) aNil))))))) fNil))
  (fSet 2 (lft (gFn F_poly_sum (aCons (vN 0) (aCons (vN 2) (aCons (vN 5) aNil)))))))))
  (fRet (mName 2))))
def F_through := runP 9 2 d_through
def d__law_start : En → SR :=
  (fRet (lft (gLst (aCons (gCall fList (aCons (vN 0) aNil)) (aCons (kI 0) (aCons (kI 0) (aCons (kI 0) aNil)))))))
def F__law_start := runP 1 1 d__law_start
def d__law_draw : En → SR :=
  (fSeq (fStore 0 (kI 3) (lft (g2 fAdd (g2 fIx (vN 0) (kI 3)) (kI 1))))
  (fSeq (fIf (lft (gT (g2 fGt (g2 fIx (vN 0) (kI 2)) (kI 0)))) (fSeq (fSet 2 (lft (g2 fMod (gCall fInt (aCons (g2 fIx (vN 0) (kI 2)) aNil)) (vN 1))))
  (fSeq (fStore 0 (kI 2) (lft (g2 fDiv (g2 fIx (vN 0) (kI 2)) (vN 1))))
  (fRet (mName 2)))) fNil)
  (fSeq (fSet 3 (lft (kI 0)))
  (fSeq (fIf (lft (gT (g2 fGt (gCall fLen (aCons (g2 fIx (vN 0) (kI 0)) aNil)) (kI 0)))) (fSet 3 (lft (gCall fAbs (aCons (g2 fIx (g2 fIx (vN 0) (kI 0)) (g2 fMod (gCall fInt (aCons (g2 fIx (vN 0) (kI 1)) aNil)) (gCall fLen (aCons (g2 fIx (vN 0) (kI 0)) aNil)))) aNil)))) fNil)
  (fSeq (fStore 0 (kI 1) (lft (g2 fAdd (g2 fIx (vN 0) (kI 1)) (kI 1))))
  (fSeq (fIf (lft (gT (g2 fGe (vN 3) (g2 fPow (kI 10) (kI 18))))) (fSeq (fStore 0 (kI 2) (lft (g2 fDiv (vN 3) (vN 1))))
  (fRet (lft (g2 fMod (gCall fInt (aCons (vN 3) aNil)) (vN 1))))) fNil)
  (fSeq (fSet 4 (lft (g2 fMod (gCall fInt (aCons (g2 fAdd (g2 fMul (g2 fAdd (vN 3) (kI 1)) (kI 48271)) (g2 fMul (g2 fIx (vN 0) (kI 3)) (kI 69621))) aNil)) (kI 2147483647))))
  (fSeq (fSet 4 (lft (g2 fMod (gCall fInt (aCons (g2 fAdd (g2 fAdd (g2 fMul (vN 4) (kI 16807)) (g2 fDiv (vN 3) (kI 97))) (g2 fIx (vN 0) (kI 3))) aNil)) (kI 2147483629))))
  (fRet (lft (g2 fMod (g2 fDiv (vN 4) (kI 11)) (vN 1))))))))))))
def F__law_draw := runM 5 2 d__law_draw
def d__law_one_of : En → SR :=
  (fRet (mIxNg 1 (mCallM 0 F__law_draw (hO (lft (gCall fLen (aCons (vN 1) aNil))) hNil))))
def F__law_one_of := runM 2 2 d__law_one_of
def d__law_is_int : En → SR :=
  (fRet (lft (gPur (gAndV (gIsi isInt (vN 0)) (gNotV (gIsi isBl (vN 0)))))))
def F__law_is_int := runP 1 1 d__law_is_int
def d__law_same (Fr : List T → R T) : En → SR :=
  (fSeq (fIf (lft (gTru (gIsi isTup (vN 1)))) (fSeq (fIf (lft (gOr (gNot (gTru (gIsi isTup (vN 0)))) (gT (g2 fNe (gCall fLen (aCons (vN 0) aNil)) (gCall fLen (aCons (vN 1) aNil)))))) (fRet (lft (kB false))) fNil)
  (fRet (lft (gCall fAll (aCons (gLc [2] (gR1 (gCall fLen (aCons (vN 1) aNil))) (kName 2) gYes (gFn Fr (aCons (g2 fIx (vN 0) (vN 2)) (aCons (g2 fIx (vN 1) (vN 2)) aNil)))) aNil))))) fNil)
  (fSeq (fIf (lft (gTru (gIsi isStr (vN 1)))) (fRet (lft (gPur (gAndV (gIsi isStr (vN 0)) (g2 fEq (vN 0) (vN 1)))))) fNil)
  (fRet (lft (gPur (gAndV (gFn F__law_is_int (aCons (vN 0) aNil)) (g2 fEq (vN 0) (vN 1))))))))
def F__law_same : Nat → List T → R T
  | 0 => fun _ => .no
  | n + 1 => runP 3 2 (d__law_same (F__law_same n))
def d__law_trimmed : En → SR :=
  (fSeq (fSet 1 (lft (kI 0)))
  (fSeq (fFor (kName 2) (lft (gR1 (gCall fLen (aCons (vN 0) aNil)))) (fIf (lft (gT (g2 fNe (g2 fIx (vN 0) (vN 2)) (kI 0)))) (fSet 1 (lft (g2 fAdd (vN 2) (kI 1)))) fNil))
  (fRet (lft (gCall fTuple (aCons (gSl (vN 0) oN (oS (vN 1))) aNil))))))
def F__law_trimmed := runP 3 1 d__law_trimmed
def d__law_poly : En → SR :=
  (fRet (mOf F__law_trimmed (mCons (mLc [3] (mR1 (mCallM 0 F__law_draw (hO (lft (g2 fAdd (vN 2) (kI 1))) hNil))) (kName 3) gYes (mCallM 0 F__law_draw (hN 1 hNil))) mNil)))
def F__law_poly := runM 4 3 d__law_poly
def d__law_number : En → SR :=
  (fSeq (fIf (lft (gT (g2 fLt (vN 1) (gCall fLen (aCons (vN 0) aNil))))) (fRet (lft (gPur (g2 fIx (vN 0) (vN 1))))) fNil)
  (fRet (lft (kI 0))))
def F__law_number := runP 2 2 d__law_number
def d__law_sum : En → SR :=
  (fRet (lft (gFn F__law_trimmed (aCons (gLc [3] (gR1 (gCall fMax2 (aCons (gCall fLen (aCons (vN 1) aNil)) (aCons (gCall fLen (aCons (vN 2) aNil)) aNil)))) (kName 3) gYes (g2 fMod (gCall fInt (aCons (g2 fAdd (gFn F__law_number (aCons (vN 1) (aCons (vN 3) aNil))) (gFn F__law_number (aCons (vN 2) (aCons (vN 3) aNil)))) aNil)) (vN 0))) aNil))))
def F__law_sum := runP 4 3 d__law_sum
def d__law_product : En → SR :=
  (fSeq (fSet 3 (lft (gLst aNil)))
  (fSeq (fFor (kName 4) (lft (gR1 (g2 fAdd (gCall fLen (aCons (vN 1) aNil)) (gCall fLen (aCons (vN 2) aNil))))) (fExpr (mApp 3 (lft (g2 fMod (gCall fInt (aCons (gCall fSum (aCons (gLc [5] (gR1 (gCall fLen (aCons (vN 1) aNil))) (kName 5) (gT (g2 fLe (vN 5) (vN 4))) (g2 fMul (g2 fIx (vN 1) (vN 5)) (gFn F__law_number (aCons (vN 2) (aCons (g2 fSub (vN 4) (vN 5)) aNil))))) aNil)) aNil)) (vN 0))))))
  (fRet (lft (gFn F__law_trimmed (aCons (vN 3) aNil))))))
def F__law_product := runP 6 3 d__law_product
def d__law_value : En → SR :=
  (fSeq (fSet 3 (lft (kI 0)))
  (fSeq (fSet 4 (lft (kI 1)))
  (fSeq (fForN (kName 5) 1 (fSeq (fSet 3 (lft (g2 fAdd (vN 3) (g2 fMul (vN 4) (vN 5)))))
  (fSet 4 (lft (g2 fMul (vN 4) (vN 2))))))
  (fRet (lft (g2 fMod (gCall fInt (aCons (vN 3) aNil)) (vN 0)))))))
def F__law_value := runP 6 3 d__law_value
def d__law_is_prime : En → SR :=
  (fRet (lft (gPur (gAndV (g2 fLt (kI 2) (vN 0)) (gAndV (g2 fLt (vN 0) (kI 252)) (gCall fAll (aCons (gLc [1] (gR2 (kI 2) (kI 16)) (kName 1) (gT (g2 fLt (vN 1) (vN 0))) (g2 fNe (g2 fMod (gCall fInt (aCons (vN 0) aNil)) (vN 1)) (kI 0))) aNil)))))))
def F__law_is_prime := runP 2 1 d__law_is_prime
def d__law_says : En → SR :=
  (fSeq (fIf (lft (gTru (vN 1))) (fRet (lft (g2 fIs (vN 0) (kB true)))) fNil)
  (fRet (lft (g2 fIs (vN 0) (kB false)))))
def F__law_says := runP 2 2 d__law_says
def d__law_points : En → SR :=
  (fSeq (fSet 3 (lft (gLst aNil)))
  (fSeq (fFor (kName 4) (lft (gR1 (vN 2))) (fSeq (fSet 5 (mCallM 0 F__law_draw (hN 1 hNil)))
  (fIf (lft (gT (g2 fNotIn (vN 5) (gLc [6, 7] (gIt (vN 3)) (kTup 2 (kCons (kName 6) (kCons (kName 7) kNil))) gYes (gPur (vN 6)))))) (fExpr (mApp 3 (mOf mkTup (mCons (lft (gPur (vN 5))) (mCons (mCallM 0 F__law_draw (hN 1 hNil)) mNil))))) fNil)))
  (fRet (lft (gCall fTuple (aCons (vN 3) aNil))))))
def F__law_points := runM 8 3 d__law_points
def d__law_is_divided : En → SR :=
  (fSeq (fIf (lft (gOr (gNot (gTru (gIsi isTup (vN 3)))) (gT (g2 fNe (gCall fLen (aCons (vN 3) aNil)) (kI 2))))) (fRet (lft (kB false))) fNil)
  (fSeq (fAsg (kTup 2 (kCons (kName 4) (kCons (kName 5) kNil))) (mName 3))
  (fSeq (fFor (kName 6) (lft (gIt (gLst (aCons (gPur (vN 4)) (aCons (gPur (vN 5)) aNil))))) (fIf (lft (gOr (gNot (gTru (gIsi isTup (vN 6)))) (gNot (gTru (gCall fAll (aCons (gLc [7] (gIt (vN 6)) (kName 7) gYes (gPur (gAndV (gFn F__law_is_int (aCons (vN 7) aNil)) (gAndV (g2 fLe (kI 0) (vN 7)) (g2 fLt (vN 7) (vN 0)))))) aNil)))))) (fRet (lft (kB false))) fNil))
  (fSeq (fIf (lft (gOr (gT (g2 fGe (gCall fLen (aCons (vN 5) aNil)) (gCall fLen (aCons (vN 2) aNil)))) (gOr (gT (g2 fNe (gFn F__law_trimmed (aCons (vN 4) aNil)) (vN 4))) (gT (g2 fNe (gFn F__law_trimmed (aCons (vN 5) aNil)) (vN 5)))))) (fRet (lft (kB false))) fNil)
  (fRet (lft (g2 fEq (gFn F__law_sum (aCons (vN 0) (aCons (gFn F__law_product (aCons (vN 0) (aCons (vN 4) (aCons (vN 2) aNil)))) (aCons (vN 5) aNil)))) (vN 1))))))))
def F__law_is_divided := runP 8 4 d__law_is_divided
def d_law : En → SR :=
  (fSeq (fSet 1 (lft (gFn F__law_start (aCons (vN 0) aNil))))
  (fSeq (fFor (kName 2) (lft (gR2 (g1 fNeg (kI 3)) (kI 262))) (fIf (lft (gNot (gTru (gFn F__law_says (aCons (gFn F_is_prime (aCons (vN 2) aNil)) (aCons (gFn F__law_is_prime (aCons (vN 2) aNil)) aNil)))))) (fRet (lft (kB false))) fNil))
  (fSeq (fIf (lft (gTru (gCall fAny (aCons (gLc [10] (gIt (gLst (aCons (kS (Str.ofString "5")) (aCons (gTup (aCons (kI 5) aNil)) (aCons (gTup aNil) (aCons (g2 fAdd (g2 fPow (kI 10) (kI 20)) (kI 39)) (aCons (g1 fNeg (kI 7)) aNil))))))) (kName 10) gYes (g2 fIsNot (gFn F_is_prime (aCons (vN 10) aNil)) (kB false))) aNil)))) (fRet (lft (kB false))) fNil)
  (fSeq (fFor (kName 3) (mIt (mOf mkLst (mCons (lft (kI 3)) (mCons (lft (kI 251)) (mCons (mCallM 1 F__law_one_of (hO (lft (gLst (aCons (kI 5) (aCons (kI 7) (aCons (kI 11) (aCons (kI 13) (aCons (kI 101) (aCons (kI 241) aNil)))))))) hNil)) mNil))))) (fSeq (fSet 4 (m2 fAdd (lft (kI 1)) (mCallM 1 F__law_draw (hO (lft (g2 fSub (vN 3) (kI 1))) hNil))))
  (fSeq (fIf (lft (gOr (gNot (gTru (gFn F__law_is_int (aCons (gFn F_inverse (aCons (vN 3) (aCons (vN 4) aNil))) aNil)))) (gOr (gNot (gT (gCh fLt fLt (kI 0) (gFn F_inverse (aCons (vN 3) (aCons (vN 4) aNil))) (vN 3)))) (gT (g2 fNe (g2 fMod (gCall fInt (aCons (g2 fMul (vN 4) (gFn F_inverse (aCons (vN 3) (aCons (vN 4) aNil)))) aNil)) (vN 3)) (kI 1)))))) (fRet (lft (kB false))) fNil)
  (fSeq (fSet 5 (mCallM 1 F__law_poly (hN 3 (hO (lft (kI 8)) hNil))))
  (fSeq (fSet 6 (mCallM 1 F__law_poly (hN 3 (hO (lft (kI 5)) hNil))))
  (fSeq (fSet 7 (mCallM 1 F__law_draw (hN 3 hNil)))
  (fSeq (fIf (lft (gNot (gTru (gFn (F__law_same 4) (aCons (gFn F_poly_sum (aCons (vN 3) (aCons (vN 5) (aCons (vN 6) aNil)))) (aCons (gFn F__law_sum (aCons (vN 3) (aCons (vN 5) (aCons (vN 6) aNil)))) aNil)))))) (fRet (lft (kB false))) fNil)
  (fSeq (fIf (lft (gNot (gTru (gFn (F__law_same 4) (aCons (gFn F_poly_product (aCons (vN 3) (aCons (vN 5) (aCons (vN 6) aNil)))) (aCons (gFn F__law_product (aCons (vN 3) (aCons (vN 5) (aCons (vN 6) aNil)))) aNil)))))) (fRet (lft (kB false))) fNil)
  (fSeq (fIf (lft (gNot (gTru (gFn (F__law_same 4) (aCons (gFn F_poly_value (aCons (vN 3) (aCons (vN 5) (aCons (vN 7) aNil)))) (aCons (gFn F__law_value (aCons (vN 3) (aCons (vN 5) (aCons (vN 7) aNil)))) aNil)))))) (fRet (lft (kB false))) fNil)
  (fSeq (fIf (lft (gAnd (gT (g2 fNe (vN 6) (gTup aNil))) (gNot (gTru (gFn F__law_is_divided (aCons (vN 3) (aCons (vN 5) (aCons (vN 6) (aCons (gFn F_poly_divided (aCons (vN 3) (aCons (vN 5) (aCons (vN 6) aNil)))) aNil))))))))) (fRet (lft (kB false))) fNil)
  (fSeq (fSet 8 (mCallM 1 F__law_points (hN 3 (hO (mCallM 1 F__law_draw (hO (lft (kI 8)) hNil)) hNil))))
  (fSeq (fSet 9 (lft (gFn F_through (aCons (vN 3) (aCons (vN 8) aNil)))))
  (fSeq (fIf (lft (gOr (gNot (gTru (gFn (F__law_same 4) (aCons (vN 9) (aCons (gFn F__law_trimmed (aCons (vN 9) aNil)) aNil))))) (gT (g2 fGt (gCall fLen (aCons (vN 9) aNil)) (gCall fLen (aCons (vN 8) aNil)))))) (fRet (lft (kB false))) fNil)
  (fIf (lft (gNot (gTru (gCall fAll (aCons (gLc [11, 12] (gIt (vN 8)) (kTup 2 (kCons (kName 11) (kCons (kName 12) kNil))) gYes (gFn (F__law_same 4) (aCons (gFn F__law_value (aCons (vN 3) (aCons (vN 9) (aCons (vN 11) aNil)))) (aCons (vN 12) aNil)))) aNil))))) (fRet (lft (kB false))) fNil))))))))))))))
  (fRet (lft (kB true)))))))
def F_law := runP 13 1 d_law
end K01
namespace K01
open PySem PySem.Spec L2 Z
open PyProof.Rows hiding St
def topS (i : Nat) : Stmt := PySem.Challenge.pw_countunseen_k01_polynomials.main.body.getD i (.Pass ⟨0, 0, 0, 0⟩)
/-! that they do -/
section
variable {P : Program} {w : World} {K : PySem.W.Frag} {base : Heap} {mg : Str → Option Value}
abbrev s_is_integer : Stmt := topS 2
abbrev N_is_integer : List Str := ["x"]
theorem sc_is_integer : FnScope ["x"] ["x"] (defScope s_is_integer) := ⟨rfl, rfl, rfl, by decide +kernel, rfl, by decide +kernel, by decide +kernel⟩
theorem ok_is_integer {f : Addr} {fd : FuncData} (F : Fun K "is_integer" "is_integer" s_is_integer f fd) (hm : mg "is_integer" = some (.ref f)) (hb : Binds K fd ["x"] []) (z_bool : mg "bool" = none) (z_int : mg "int" = none) (z_isinstance : mg "isinstance" = none) : FnP P w K mg base "is_integer" 1 F_is_integer :=
  fnP F sc_is_integer hm hb fun cdv A outer s H E hr cz => (b_one (s_ret (v_and (n_isi kit_int z_isinstance z_int boot_int (v_name 0)).v (v_one (n_not (n_isi kit_bl z_isinstance z_bool boot_bool (v_name 0)).v).v)).pur.up))
abbrev s_is_prime : Stmt := topS 3
abbrev N_is_prime : List Str := ["n", "d"]
theorem sc_is_prime : FnScope ["n", "d"] ["n"] (defScope s_is_prime) := ⟨rfl, rfl, rfl, by decide +kernel, rfl, by decide +kernel, by decide +kernel⟩
theorem ok_is_prime {f : Addr} {fd : FuncData} (F : Fun K "is_prime" "is_prime" s_is_prime f fd) (hm : mg "is_prime" = some (.ref f)) (hb : Binds K fd ["n"] []) (G_is_integer : FnP P w K mg base "is_integer" 1 F_is_integer) (z_all : mg "all" = none) (z_range : mg "range" = none) {tk_GREATEST : Tok} (c_GREATEST : mg "GREATEST" = some (.int 251 tk_GREATEST)) : FnP P w K mg base "is_prime" 2 F_is_prime :=
  fnP F sc_is_prime hm hb fun cdv A outer s H E hr cz => (b_cons (s_if (c_w (w_or (c_not (c_truth (n_call G_is_integer cz.tk (hr.mono (by decide)) (av_cons (v_name 0) av_nil)).v)) (w_or (c_cmp m_lt (v_name 0) n_int.v) (w_or1 (c_cmp m_gt (v_name 0) (n_glI c_GREATEST).v))))).up (b_one (s_ret n_bl.up)) b_nil)
      (b_one (s_ret (n_callB (f_all rfl) (by decide +kernel) z_all (av_cons (n_lc [("d", 1)] cz.calm cz.nd (j_rng2 z_range n_int.v (v_name 0)).v (blk_ok (N := N_is_prime) (sc := defScope s_is_prime) (by decide +kernel)) (ix_name (by decide)) (fun _ _ _ _ _ => (t_name 1 cz.nd)) (fun _ _ _ _ _ => (cs_one (c_cmp m_le (n_bin b_mul (v_name 1) (v_name 1)).v (v_name 0)))) (fun _ _ _ _ _ => (n_cmp (m_ne hr.units) (n_bin b_mod (v_name 0) (v_name 1)).v n_int.v))).v av_nil)).up)))
abbrev s_power : Stmt := topS 4
abbrev N_power : List Str := ["p", "a", "n", "found"]
theorem sc_power : FnScope ["p", "a", "n", "found"] ["p", "a", "n"] (defScope s_power) := ⟨rfl, rfl, rfl, by decide +kernel, rfl, by decide +kernel, by decide +kernel⟩
theorem ok_power {f : Addr} {fd : FuncData} (F : Fun K "power" "power" s_power f fd) (hm : mg "power" = some (.ref f)) (hb : Binds K fd ["p", "a", "n"] []) : FnP P w K mg base "power" 1 F_power :=
  fnP F sc_power hm hb fun cdv A outer s H E hr cz => (b_cons (s_set 3 cz n_int.up)
      (b_cons (s_while mu_power_0 cz (c_cmp m_gt (v_name 2) n_int.v).up (b_cons (s_if (c_cmp (m_eq hr.units) (n_bin b_mod (v_name 2) n_int.v).v n_int.v).up (b_one (s_set 3 cz (n_bin b_mod (n_bin b_mul (v_name 3) (v_name 1)).v (v_name 0)).up)) b_nil)
      (b_cons (s_set 1 cz (n_bin b_mod (n_bin b_mul (v_name 1) (v_name 1)).v (v_name 0)).up)
      (b_one (s_aug 2 cz i_div n_int.up)))))
      (b_one (s_ret (m_name 3)))))
abbrev s_inverse : Stmt := topS 5
abbrev N_inverse : List Str := ["p", "a"]
theorem sc_inverse : FnScope ["p", "a"] ["p", "a"] (defScope s_inverse) := ⟨rfl, rfl, rfl, by decide +kernel, rfl, by decide +kernel, by decide +kernel⟩
theorem ok_inverse {f : Addr} {fd : FuncData} (F : Fun K "inverse" "inverse" s_inverse f fd) (hm : mg "inverse" = some (.ref f)) (hb : Binds K fd ["p", "a"] []) (G_power : FnP P w K mg base "power" 1 F_power) : FnP P w K mg base "inverse" 2 F_inverse :=
  fnP F sc_inverse hm hb fun cdv A outer s H E hr cz => (b_one (s_ret (n_call G_power cz.tk (hr.mono (by decide)) (av_cons (v_name 0) (av_cons (v_name 1) (av_cons (n_bin b_sub (v_name 0) n_int.v).v av_nil)))).up))
abbrev s_trimmed : Stmt := topS 7
abbrev N_trimmed : List Str := ["row", "many"]
theorem sc_trimmed : FnScope ["row", "many"] ["row"] (defScope s_trimmed) := ⟨rfl, rfl, rfl, by decide +kernel, rfl, by decide +kernel, by decide +kernel⟩
theorem ok_trimmed {f : Addr} {fd : FuncData} (F : Fun K "trimmed" "trimmed" s_trimmed f fd) (hm : mg "trimmed" = some (.ref f)) (hb : Binds K fd ["row"] []) (z_len : mg "len" = none) (z_tuple : mg "tuple" = none) : FnP P w K mg base "trimmed" 1 F_trimmed :=
  fnP F sc_trimmed hm hb fun cdv A outer s H E hr cz => (b_cons (s_set 1 cz (n_callB f_len PySem.boot_len z_len (av_cons (v_name 0) av_nil)).up)
      (b_cons (s_while mu_trimmed_0 cz (c_w (w_and (c_cmp m_gt (v_name 1) n_int.v) (w_and1 (c_cmp (m_eq hr.units) (v_ix (v_name 0) (n_bin b_sub (v_name 1) n_int.v).v) n_int.v)))).up (b_one (s_aug 1 cz i_sub n_int.up)))
      (b_one (s_ret (n_callT f_tuple boot_tuple z_tuple (av_cons (n_slice (v_name 0) o_none (o_some (v_name 1))).v av_nil)).up))))
abbrev s_poly_value : Stmt := topS 8
abbrev N_poly_value : List Str := ["p", "f", "x", "found", "number"]
theorem sc_poly_value : FnScope ["p", "f", "x", "found", "number"] ["p", "f", "x"] (defScope s_poly_value) := ⟨rfl, rfl, rfl, by decide +kernel, rfl, by decide +kernel, by decide +kernel⟩
theorem ok_poly_value {f : Addr} {fd : FuncData} (F : Fun K "poly_value" "poly_value" s_poly_value f fd) (hm : mg "poly_value" = some (.ref f)) (hb : Binds K fd ["p", "f", "x"] []) : FnP P w K mg base "poly_value" 1 F_poly_value :=
  fnP F sc_poly_value hm hb fun cdv A outer s H E hr cz => (b_cons (s_set 3 cz n_int.up)
      (b_cons (s_for cz (j_sq (n_rev (v_name 1))).up (t_name 4 cz.nd) (b_one (s_set 3 cz (n_bin b_mod (n_bin b_add (n_bin b_mul (v_name 3) (v_name 2)).v (v_name 4)).v (v_name 0)).up)))
      (b_one (s_ret (m_name 3)))))
abbrev s_poly_sum : Stmt := topS 9
abbrev N_poly_sum : List Str := ["p", "f", "g", "many", "wide", "row", "a", "b"]
theorem sc_poly_sum : FnScope ["p", "f", "g", "many", "wide", "row", "a", "b"] ["p", "f", "g"] (defScope s_poly_sum) := ⟨rfl, rfl, rfl, by decide +kernel, rfl, by decide +kernel, by decide +kernel⟩
theorem ok_poly_sum {f : Addr} {fd : FuncData} (F : Fun K "poly_sum" "poly_sum" s_poly_sum f fd) (hm : mg "poly_sum" = some (.ref f)) (hb : Binds K fd ["p", "f", "g"] []) (G_trimmed : FnP P w K mg base "trimmed" 1 F_trimmed) (z_len : mg "len" = none) (z_list : mg "list" = none) (z_max : mg "max" = none) (z_zip : mg "zip" = none) : FnP P w K mg base "poly_sum" 2 F_poly_sum :=
  fnP F sc_poly_sum hm hb fun cdv A outer s H E hr cz => (b_cons (s_set 3 cz (n_callB (f_max2 rfl) (by decide +kernel) z_max (av_cons (n_callB f_len PySem.boot_len z_len (av_cons (v_name 1) av_nil)).v (av_cons (n_callB f_len PySem.boot_len z_len (av_cons (v_name 2) av_nil)).v av_nil))).up)
      (b_cons (s_setLc [("row", 5)] 4 cz (i_sq (n_tup (av_cons (v_name 1) (av_cons (v_name 2) av_nil))).v) (blk_ok (N := N_poly_sum) (sc := defScope s_poly_sum) (by decide +kernel)) (ix_name (by decide)) (fun _ _ _ _ _ => (t_name 5 cz.nd)) (fun _ _ _ _ _ => cs_nil) (fun _ _ _ _ _ => (n_bin b_add (n_callT f_list boot_list z_list (av_cons (v_name 5) av_nil)).v (n_bin b_mul (n_lst (an_cons n_int an_nil)).v (n_bin b_sub (v_name 3) (n_callB f_len PySem.boot_len z_len (av_cons (v_name 5) av_nil)).v).v).v)))
      (b_one (s_ret (n_call G_trimmed cz.tk (hr.mono (by decide)) (av_cons (n_lc [("a", 6), ("b", 7)] cz.calm cz.nd (i_zip z_zip (v_ix (v_name 4) n_int.v) (v_ix (v_name 4) n_int.v)) (blk_ok (N := N_poly_sum) (sc := defScope s_poly_sum) (by decide +kernel)) (ix_tup (ix_cons (ix_name (by decide)) (ix_cons (ix_name (by decide)) ix_nil))) (fun _ _ _ _ _ => (t_tup cz.calm (ts_cons (t_name 6 cz.nd) (ts_cons (t_name 7 cz.nd) ts_nil)))) (fun _ _ _ _ _ => cs_nil) (fun _ _ _ _ _ => (n_bin b_mod (n_bin b_add (v_name 6) (v_name 7)).v (v_name 0)))).v av_nil)).up))))
abbrev s_poly_product : Stmt := topS 10
abbrev N_poly_product : List Str := ["p", "f", "g", "found", "i", "a", "j", "b"]
theorem sc_poly_product : FnScope ["p", "f", "g", "found", "i", "a", "j", "b"] ["p", "f", "g"] (defScope s_poly_product) := ⟨rfl, rfl, rfl, by decide +kernel, rfl, by decide +kernel, by decide +kernel⟩
theorem ok_poly_product {f : Addr} {fd : FuncData} (F : Fun K "poly_product" "poly_product" s_poly_product f fd) (hm : mg "poly_product" = some (.ref f)) (hb : Binds K fd ["p", "f", "g"] []) (G_trimmed : FnP P w K mg base "trimmed" 1 F_trimmed) (z_enumerate : mg "enumerate" = none) (z_len : mg "len" = none) : FnP P w K mg base "poly_product" 2 F_poly_product :=
  fnP F sc_poly_product hm hb fun cdv A outer s H E hr cz => (b_cons (s_set 3 cz (n_bin b_mul (n_lst (an_cons n_int an_nil)).v (n_bin b_add (n_callB f_len PySem.boot_len z_len (av_cons (v_name 1) av_nil)).v (n_callB f_len PySem.boot_len z_len (av_cons (v_name 2) av_nil)).v).v).up)
      (b_cons (s_forE 1 cz z_enumerate (t_tup cz.calm (ts_cons (t_name 4 cz.nd) (ts_cons (t_name 5 cz.nd) ts_nil))) (b_one (s_forE 2 cz z_enumerate (t_tup cz.calm (ts_cons (t_name 6 cz.nd) (ts_cons (t_name 7 cz.nd) ts_nil))) (b_one (s_store 3 (n_bin b_mod (n_bin b_add (v_ix (v_name 3) (n_bin b_add (v_name 4) (v_name 6)).v) (n_bin b_mul (v_name 5) (v_name 7)).v).v (v_name 0)).up (n_bin b_add (v_name 4) (v_name 6)).v)))))
      (b_one (s_ret (n_call G_trimmed cz.tk (hr.mono (by decide)) (av_cons (v_name 3) av_nil)).up))))
abbrev s_poly_divided : Stmt := topS 11
abbrev N_poly_divided : List Str := ["p", "f", "g", "rest", "quotient", "turned", "at", "number", "j", "b"]
theorem sc_poly_divided : FnScope ["p", "f", "g", "rest", "quotient", "turned", "at", "number", "j", "b"] ["p", "f", "g"] (defScope s_poly_divided) := ⟨rfl, rfl, rfl, by decide +kernel, rfl, by decide +kernel, by decide +kernel⟩
theorem ok_poly_divided {f : Addr} {fd : FuncData} (F : Fun K "poly_divided" "poly_divided" s_poly_divided f fd) (hm : mg "poly_divided" = some (.ref f)) (hb : Binds K fd ["p", "f", "g"] []) (G_inverse : FnP P w K mg base "inverse" 2 F_inverse) (G_trimmed : FnP P w K mg base "trimmed" 1 F_trimmed) (z_enumerate : mg "enumerate" = none) (z_len : mg "len" = none) (z_list : mg "list" = none) (z_max : mg "max" = none) (z_range : mg "range" = none) : FnP P w K mg base "poly_divided" 3 F_poly_divided :=
  fnP F sc_poly_divided hm hb fun cdv A outer s H E hr cz => (b_cons (s_set 3 cz (n_callT f_list boot_list z_list (av_cons (v_name 1) av_nil)).up)
      (b_cons (s_set 4 cz (n_bin b_mul (n_lst (an_cons n_int an_nil)).v (n_callB (f_max2 rfl) (by decide +kernel) z_max (av_cons n_int.v (av_cons (n_bin b_add (n_bin b_sub (n_callB f_len PySem.boot_len z_len (av_cons (v_name 1) av_nil)).v (n_callB f_len PySem.boot_len z_len (av_cons (v_name 2) av_nil)).v).v n_int.v).v av_nil))).v).up)
      (b_cons (s_set 5 cz (n_call G_inverse cz.tk (hr.mono (by decide)) (av_cons (v_name 0) (av_cons (v_ix (v_name 2) (n_neg n_int.v).v) av_nil))).up)
      (b_cons (s_for cz (j_rng3 z_range (n_bin b_sub (n_callB f_len PySem.boot_len z_len (av_cons (v_name 1) av_nil)).v (n_callB f_len PySem.boot_len z_len (av_cons (v_name 2) av_nil)).v).v (n_neg n_int.v).v (n_neg n_int.v).v).up (t_name 6 cz.nd) (b_cons (s_set 7 cz (n_bin b_mod (n_bin b_mul (v_ix (v_name 3) (n_bin b_sub (n_bin b_add (v_name 6) (n_callB f_len PySem.boot_len z_len (av_cons (v_name 2) av_nil)).v).v n_int.v).v) (v_name 5)).v (v_name 0)).up)
      (b_cons (s_store 4 (m_name 7) (v_name 6))
      (b_one (s_forE 2 cz z_enumerate (t_tup cz.calm (ts_cons (t_name 8 cz.nd) (ts_cons (t_name 9 cz.nd) ts_nil))) (b_one (s_store 3 (n_bin b_mod (n_bin b_sub (v_ix (v_name 3) (n_bin b_add (v_name 6) (v_name 8)).v) (n_bin b_mul (v_name 7) (v_name 9)).v).v (v_name 0)).up (n_bin b_add (v_name 6) (v_name 8)).v)))))))
      (b_one (s_ret (n_tup (av_cons (n_call G_trimmed cz.tk (hr.mono (by decide)) (av_cons (v_name 4) av_nil)).v (av_cons (n_call G_trimmed cz.tk (hr.mono (by decide)) (av_cons (v_name 3) av_nil)).v av_nil))).up))))))
abbrev s_through : Stmt := topS 12
abbrev N_through : List Str := ["p", "points", "found", "x", "y", "part", "other", "ignored", "scale"]
theorem sc_through : FnScope ["p", "points", "found", "x", "y", "part", "other", "ignored", "scale"] ["p", "points"] (defScope s_through) := ⟨rfl, rfl, rfl, by decide +kernel, rfl, by decide +kernel, by decide +kernel⟩
theorem ok_through {f : Addr} {fd : FuncData} (F : Fun K "through" "through" s_through f fd) (hm : mg "through" = some (.ref f)) (hb : Binds K fd ["p", "points"] []) (G_inverse : FnP P w K mg base "inverse" 2 F_inverse) (G_poly_product : FnP P w K mg base "poly_product" 2 F_poly_product) (G_poly_sum : FnP P w K mg base "poly_sum" 2 F_poly_sum) : FnP P w K mg base "through" 3 F_through :=
  fnP F sc_through hm hb fun cdv A outer s H E hr cz => (b_cons (s_set 2 cz (n_tup av_nil).up)
      (b_cons (s_forN 1 cz (t_tup cz.calm (ts_cons (t_name 3 cz.nd) (ts_cons (t_name 4 cz.nd) ts_nil))) (b_cons (s_set 5 cz (n_tup (av_cons (v_name 4) av_nil)).up)
      (b_cons (s_forN 1 cz (t_tup cz.calm (ts_cons (t_name 6 cz.nd) (ts_cons (t_name 7 cz.nd) ts_nil))) (b_one (s_if (c_cmp (m_ne hr.units) (v_name 6) (v_name 3)).up (b_cons (s_set 8 cz (n_call G_inverse cz.tk (hr.mono (by decide)) (av_cons (v_name 0) (av_cons (n_bin b_mod (n_bin b_sub (v_name 3) (v_name 6)).v (v_name 0)).v av_nil))).up)
      (b_one (s_set 5 cz (n_call G_poly_product cz.tk (hr.mono (by decide)) (av_cons (v_name 0) (av_cons (v_name 5) (av_cons (n_tup (av_cons (n_bin b_mod (n_bin b_mul (n_neg (v_name 6)).v (v_name 8)).v (v_name 0)).v (av_cons (v_name 8) av_nil))).v av_nil)))).up))) b_nil)))
      (b_one (s_set 2 cz (n_call G_poly_sum cz.tk (hr.mono (by decide)) (av_cons (v_name 0) (av_cons (v_name 2) (av_cons (v_name 5) av_nil)))).up)))))
      (b_one (s_ret (m_name 2)))))
abbrev s__law_start : Stmt := topS 14
abbrev N__law_start : List Str := ["script"]
theorem sc__law_start : FnScope ["script"] ["script"] (defScope s__law_start) := ⟨rfl, rfl, rfl, by decide +kernel, rfl, by decide +kernel, by decide +kernel⟩
theorem ok__law_start {f : Addr} {fd : FuncData} (F : Fun K "_law_start" "_law_start" s__law_start f fd) (hm : mg "_law_start" = some (.ref f)) (hb : Binds K fd ["script"] []) (z_list : mg "list" = none) : FnP P w K mg base "_law_start" 1 F__law_start :=
  fnP F sc__law_start hm hb fun cdv A outer s H E hr cz => (b_one (s_ret (n_lst (an_cons (n_callT f_list boot_list z_list (av_cons (v_name 0) av_nil)) (an_cons n_int (an_cons n_int (an_cons n_int an_nil))))).up))
abbrev s__law_draw : Stmt := topS 15
abbrev N__law_draw : List Str := ["state", "most", "found", "cell", "mixed"]
theorem sc__law_draw : FnScope ["state", "most", "found", "cell", "mixed"] ["state", "most"] (defScope s__law_draw) := ⟨rfl, rfl, rfl, by decide +kernel, rfl, by decide +kernel, by decide +kernel⟩
theorem ok__law_draw {f : Addr} {fd : FuncData} (F : Fun K "_law_draw" "_law_draw" s__law_draw f fd) (hm : mg "_law_draw" = some (.ref f)) (hb : Binds K fd ["state", "most"] []) (z_abs : mg "abs" = none) (z_int : mg "int" = none) (z_len : mg "len" = none) : FnM P w K mg base "_law_draw" 1 F__law_draw :=
  fnM F sc__law_draw hm hb fun cdv A outer s H E hr cz => (b_cons (s_store 0 (n_bin b_add (v_ix (v_name 0) n_int.v) n_int.v).up n_int.v)
      (b_cons (s_if (c_cmp m_gt (v_ix (v_name 0) n_int.v) n_int.v).up (b_cons (s_set 2 cz (n_bin b_mod (n_callT f_int boot_int z_int (av_cons (v_ix (v_name 0) n_int.v) av_nil)).v (v_name 1)).up)
      (b_cons (s_store 0 (n_bin b_div (v_ix (v_name 0) n_int.v) (v_name 1)).up n_int.v)
      (b_one (s_ret (m_name 2))))) b_nil)
      (b_cons (s_set 3 cz n_int.up)
      (b_cons (s_if (c_cmp m_gt (n_callB f_len PySem.boot_len z_len (av_cons (v_ix (v_name 0) n_int.v) av_nil)).v n_int.v).up (b_one (s_set 3 cz (n_callB f_abs boot_abs z_abs (av_cons (v_ix (v_ix (v_name 0) n_int.v) (n_bin b_mod (n_callT f_int boot_int z_int (av_cons (v_ix (v_name 0) n_int.v) av_nil)).v (n_callB f_len PySem.boot_len z_len (av_cons (v_ix (v_name 0) n_int.v) av_nil)).v).v) av_nil)).up)) b_nil)
      (b_cons (s_store 0 (n_bin b_add (v_ix (v_name 0) n_int.v) n_int.v).up n_int.v)
      (b_cons (s_if (c_cmp m_ge (v_name 3) (n_bin b_pow n_int.v n_int.v).v).up (b_cons (s_store 0 (n_bin b_div (v_name 3) (v_name 1)).up n_int.v)
      (b_one (s_ret (n_bin b_mod (n_callT f_int boot_int z_int (av_cons (v_name 3) av_nil)).v (v_name 1)).up))) b_nil)
      (b_cons (s_set 4 cz (n_bin b_mod (n_callT f_int boot_int z_int (av_cons (n_bin b_add (n_bin b_mul (n_bin b_add (v_name 3) n_int.v).v n_int.v).v (n_bin b_mul (v_ix (v_name 0) n_int.v) n_int.v).v).v av_nil)).v n_int.v).up)
      (b_cons (s_set 4 cz (n_bin b_mod (n_callT f_int boot_int z_int (av_cons (n_bin b_add (n_bin b_add (n_bin b_mul (v_name 4) n_int.v).v (n_bin b_div (v_name 3) n_int.v).v).v (v_ix (v_name 0) n_int.v)).v av_nil)).v n_int.v).up)
      (b_one (s_ret (n_bin b_mod (n_bin b_div (v_name 4) n_int.v).v (v_name 1)).up))))))))))
abbrev s__law_one_of : Stmt := topS 16
abbrev N__law_one_of : List Str := ["state", "items"]
theorem sc__law_one_of : FnScope ["state", "items"] ["state", "items"] (defScope s__law_one_of) := ⟨rfl, rfl, rfl, by decide +kernel, rfl, by decide +kernel, by decide +kernel⟩
theorem ok__law_one_of {f : Addr} {fd : FuncData} (F : Fun K "_law_one_of" "_law_one_of" s__law_one_of f fd) (hm : mg "_law_one_of" = some (.ref f)) (hb : Binds K fd ["state", "items"] []) (G__law_draw : FnM P w K mg base "_law_draw" 1 F__law_draw) (z_len : mg "len" = none) : FnM P w K mg base "_law_one_of" 2 F__law_one_of :=
  fnM F sc__law_one_of hm hb fun cdv A outer s H E hr cz => (b_one (s_ret (m_ixN 1 (m_callM 0 G__law_draw cz.tk (hr.mono (by decide)) (mh_o (n_callB f_len PySem.boot_len z_len (av_cons (v_name 1) av_nil)).up mh_nil)))))
abbrev s__law_is_int : Stmt := topS 17
abbrev N__law_is_int : List Str := ["x"]
theorem sc__law_is_int : FnScope ["x"] ["x"] (defScope s__law_is_int) := ⟨rfl, rfl, rfl, by decide +kernel, rfl, by decide +kernel, by decide +kernel⟩
theorem ok__law_is_int {f : Addr} {fd : FuncData} (F : Fun K "_law_is_int" "_law_is_int" s__law_is_int f fd) (hm : mg "_law_is_int" = some (.ref f)) (hb : Binds K fd ["x"] []) (z_bool : mg "bool" = none) (z_int : mg "int" = none) (z_isinstance : mg "isinstance" = none) : FnP P w K mg base "_law_is_int" 1 F__law_is_int :=
  fnP F sc__law_is_int hm hb fun cdv A outer s H E hr cz => (b_one (s_ret (v_and (n_isi kit_int z_isinstance z_int boot_int (v_name 0)).v (v_one (n_not (n_isi kit_bl z_isinstance z_bool boot_bool (v_name 0)).v).v)).pur.up))
abbrev s__law_same : Stmt := topS 18
abbrev N__law_same : List Str := ["x", "y", "k"]
theorem sc__law_same : FnScope ["x", "y", "k"] ["x", "y"] (defScope s__law_same) := ⟨rfl, rfl, rfl, by decide +kernel, rfl, by decide +kernel, by decide +kernel⟩
theorem ok__law_same {f : Addr} {fd : FuncData} (F : Fun K "_law_same" "_law_same" s__law_same f fd) (hm : mg "_law_same" = some (.ref f)) (hb : Binds K fd ["x", "y"] []) (G__law_is_int : FnP P w K mg base "_law_is_int" 1 F__law_is_int) (z_all : mg "all" = none) (z_isinstance : mg "isinstance" = none) (z_len : mg "len" = none) (z_range : mg "range" = none) (z_str : mg "str" = none) (z_tuple : mg "tuple" = none) : ∀ n : Nat, FnP P w K mg base "_law_same" (2 + n) (F__law_same (n + 1)) := by
  have step : ∀ (n k : Nat) (Fr), FnP P w K mg base "_law_same" k Fr → 1 ≤ k → FnP P w K mg base "_law_same" (k + 1) (runP 3 2 (d__law_same Fr)) := fun n k Fr G__law_same hk =>
    fnP F sc__law_same hm hb fun cdv A outer s H E hr cz => (b_cons (s_if (c_truth (n_isi kit_tup z_isinstance z_tuple boot_tuple (v_name 1)).v).up (b_cons (s_if (c_w (w_or (c_not (c_truth (n_isi kit_tup z_isinstance z_tuple boot_tuple (v_name 0)).v)) (w_or1 (c_cmp (m_ne hr.units) (n_callB f_len PySem.boot_len z_len (av_cons (v_name 0) av_nil)).v (n_callB f_len PySem.boot_len z_len (av_cons (v_name 1) av_nil)).v)))).up (b_one (s_ret n_bl.up)) b_nil)
      (b_one (s_ret (n_callB (f_all rfl) (by decide +kernel) z_all (av_cons (n_lc [("k", 2)] cz.calm cz.nd (j_rng1 z_range (n_callB f_len PySem.boot_len z_len (av_cons (v_name 1) av_nil)).v).v (blk_ok (N := N__law_same) (sc := defScope s__law_same) (by decide +kernel)) (ix_name (by decide)) (fun _ _ _ _ _ => (t_name 2 cz.nd)) (fun _ _ _ _ _ => cs_nil) (fun _ _ _ _ _ => (n_call G__law_same takes0 (hr.mono (by omega)) (av_cons (v_ix (v_name 0) (v_name 2)) (av_cons (v_ix (v_name 1) (v_name 2)) av_nil))))).v av_nil)).up))) b_nil)
      (b_cons (s_if (c_truth (n_isi kit_str z_isinstance z_str boot_str (v_name 1)).v).up (b_one (s_ret (v_and (n_isi kit_str z_isinstance z_str boot_str (v_name 0)).v (v_one (n_cmp (m_eq hr.units) (v_name 0) (v_name 1)).v)).pur.up)) b_nil)
      (b_one (s_ret (v_and (n_call G__law_is_int cz.tk (hr.mono (by omega)) (av_cons (v_name 0) av_nil)).v (v_one (n_cmp (m_eq hr.units) (v_name 0) (v_name 1)).v)).pur.up))))
  have go : ∀ n : Nat, FnP P w K mg base "_law_same" (1 + n) (F__law_same n) := fun n => by
    induction n with
    | zero => exact fnP_no F hm hb
    | succ n ih => exact step n (1 + n) _ ih (by omega)
  exact fun n => by have := go (n + 1); rw [show 1 + (n + 1) = 2 + n by omega] at this; exact this
abbrev s__law_trimmed : Stmt := topS 19
abbrev N__law_trimmed : List Str := ["row", "many", "k"]
theorem sc__law_trimmed : FnScope ["row", "many", "k"] ["row"] (defScope s__law_trimmed) := ⟨rfl, rfl, rfl, by decide +kernel, rfl, by decide +kernel, by decide +kernel⟩
theorem ok__law_trimmed {f : Addr} {fd : FuncData} (F : Fun K "_law_trimmed" "_law_trimmed" s__law_trimmed f fd) (hm : mg "_law_trimmed" = some (.ref f)) (hb : Binds K fd ["row"] []) (z_len : mg "len" = none) (z_range : mg "range" = none) (z_tuple : mg "tuple" = none) : FnP P w K mg base "_law_trimmed" 1 F__law_trimmed :=
  fnP F sc__law_trimmed hm hb fun cdv A outer s H E hr cz => (b_cons (s_set 1 cz n_int.up)
      (b_cons (s_for cz (j_rng1 z_range (n_callB f_len PySem.boot_len z_len (av_cons (v_name 0) av_nil)).v).up (t_name 2 cz.nd) (b_one (s_if (c_cmp (m_ne hr.units) (v_ix (v_name 0) (v_name 2)) n_int.v).up (b_one (s_set 1 cz (n_bin b_add (v_name 2) n_int.v).up)) b_nil)))
      (b_one (s_ret (n_callT f_tuple boot_tuple z_tuple (av_cons (n_slice (v_name 0) o_none (o_some (v_name 1))).v av_nil)).up))))
abbrev s__law_poly : Stmt := topS 20
abbrev N__law_poly : List Str := ["state", "p", "most", "k"]
theorem sc__law_poly : FnScope ["state", "p", "most", "k"] ["state", "p", "most"] (defScope s__law_poly) := ⟨rfl, rfl, rfl, by decide +kernel, rfl, by decide +kernel, by decide +kernel⟩
theorem ok__law_poly {f : Addr} {fd : FuncData} (F : Fun K "_law_poly" "_law_poly" s__law_poly f fd) (hm : mg "_law_poly" = some (.ref f)) (hb : Binds K fd ["state", "p", "most"] []) (G__law_draw : FnM P w K mg base "_law_draw" 1 F__law_draw) (G__law_trimmed : FnP P w K mg base "_law_trimmed" 1 F__law_trimmed) (z_range : mg "range" = none) : FnM P w K mg base "_law_poly" 2 F__law_poly :=
  fnM F sc__law_poly hm hb fun cdv A outer s H E hr cz => (b_one (s_ret (m_call G__law_trimmed cz.tk (hr.mono (by decide)) (ma_cons (m_lc [("k", 3)] cz (mi_rng1 z_range (m_callM 0 G__law_draw cz.tk (hr.mono (by decide)) (mh_o (n_bin b_add (v_name 2) n_int.v).up mh_nil))) (blk_ok (N := N__law_poly) (sc := defScope s__law_poly) (by decide +kernel)) (ix_name (by decide)) (fun _ _ _ _ _ => (t_name 3 cz.nd)) (fun _ _ _ _ _ => cs_nil) (fun _ _ _ _ _ => (m_callM 0 G__law_draw takes0 (hr.mono (by decide)) (mh_n 1 mh_nil)))) ma_nil))))
abbrev s__law_number : Stmt := topS 21
abbrev N__law_number : List Str := ["f", "k"]
theorem sc__law_number : FnScope ["f", "k"] ["f", "k"] (defScope s__law_number) := ⟨rfl, rfl, rfl, by decide +kernel, rfl, by decide +kernel, by decide +kernel⟩
theorem ok__law_number {f : Addr} {fd : FuncData} (F : Fun K "_law_number" "_law_number" s__law_number f fd) (hm : mg "_law_number" = some (.ref f)) (hb : Binds K fd ["f", "k"] []) (z_len : mg "len" = none) : FnP P w K mg base "_law_number" 1 F__law_number :=
  fnP F sc__law_number hm hb fun cdv A outer s H E hr cz => (b_cons (s_if (c_cmp m_lt (v_name 1) (n_callB f_len PySem.boot_len z_len (av_cons (v_name 0) av_nil)).v).up (b_one (s_ret (v_ix (v_name 0) (v_name 1)).pur.up)) b_nil)
      (b_one (s_ret n_int.up)))
abbrev s__law_sum : Stmt := topS 22
abbrev N__law_sum : List Str := ["p", "f", "g", "k"]
theorem sc__law_sum : FnScope ["p", "f", "g", "k"] ["p", "f", "g"] (defScope s__law_sum) := ⟨rfl, rfl, rfl, by decide +kernel, rfl, by decide +kernel, by decide +kernel⟩
theorem ok__law_sum {f : Addr} {fd : FuncData} (F : Fun K "_law_sum" "_law_sum" s__law_sum f fd) (hm : mg "_law_sum" = some (.ref f)) (hb : Binds K fd ["p", "f", "g"] []) (G__law_number : FnP P w K mg base "_law_number" 1 F__law_number) (G__law_trimmed : FnP P w K mg base "_law_trimmed" 1 F__law_trimmed) (z_int : mg "int" = none) (z_len : mg "len" = none) (z_max : mg "max" = none) (z_range : mg "range" = none) : FnP P w K mg base "_law_sum" 2 F__law_sum :=
  fnP F sc__law_sum hm hb fun cdv A outer s H E hr cz => (b_one (s_ret (n_call G__law_trimmed cz.tk (hr.mono (by decide)) (av_cons (n_lc [("k", 3)] cz.calm cz.nd (j_rng1 z_range (n_callB (f_max2 rfl) (by decide +kernel) z_max (av_cons (n_callB f_len PySem.boot_len z_len (av_cons (v_name 1) av_nil)).v (av_cons (n_callB f_len PySem.boot_len z_len (av_cons (v_name 2) av_nil)).v av_nil))).v).v (blk_ok (N := N__law_sum) (sc := defScope s__law_sum) (by decide +kernel)) (ix_name (by decide)) (fun _ _ _ _ _ => (t_name 3 cz.nd)) (fun _ _ _ _ _ => cs_nil) (fun _ _ _ _ _ => (n_bin b_mod (n_callT f_int boot_int z_int (av_cons (n_bin b_add (n_call G__law_number takes0 (hr.mono (by decide)) (av_cons (v_name 1) (av_cons (v_name 3) av_nil))).v (n_call G__law_number takes0 (hr.mono (by decide)) (av_cons (v_name 2) (av_cons (v_name 3) av_nil))).v).v av_nil)).v (v_name 0)))).v av_nil)).up))
abbrev s__law_product : Stmt := topS 23
abbrev N__law_product : List Str := ["p", "f", "g", "found", "k", "i"]
theorem sc__law_product : FnScope ["p", "f", "g", "found", "k", "i"] ["p", "f", "g"] (defScope s__law_product) := ⟨rfl, rfl, rfl, by decide +kernel, rfl, by decide +kernel, by decide +kernel⟩
theorem ok__law_product {f : Addr} {fd : FuncData} (F : Fun K "_law_product" "_law_product" s__law_product f fd) (hm : mg "_law_product" = some (.ref f)) (hb : Binds K fd ["p", "f", "g"] []) (G__law_number : FnP P w K mg base "_law_number" 1 F__law_number) (G__law_trimmed : FnP P w K mg base "_law_trimmed" 1 F__law_trimmed) (z_int : mg "int" = none) (z_len : mg "len" = none) (z_range : mg "range" = none) (z_sum : mg "sum" = none) : FnP P w K mg base "_law_product" 2 F__law_product :=
  fnP F sc__law_product hm hb fun cdv A outer s H E hr cz => (b_cons (s_set 3 cz (n_lst an_nil).up)
      (b_cons (s_for cz (j_rng1 z_range (n_bin b_add (n_callB f_len PySem.boot_len z_len (av_cons (v_name 1) av_nil)).v (n_callB f_len PySem.boot_len z_len (av_cons (v_name 2) av_nil)).v).v).up (t_name 4 cz.nd) (b_one (s_expr (m_app 3 (n_bin b_mod (n_callT f_int boot_int z_int (av_cons (n_callB (f_sum rfl) (by decide +kernel) z_sum (av_cons (n_lc [("i", 5)] cz.calm cz.nd (j_rng1 z_range (n_callB f_len PySem.boot_len z_len (av_cons (v_name 1) av_nil)).v).v (blk_ok (N := N__law_product) (sc := defScope s__law_product) (by decide +kernel)) (ix_name (by decide)) (fun _ _ _ _ _ => (t_name 5 cz.nd)) (fun _ _ _ _ _ => (cs_one (c_cmp m_le (v_name 5) (v_name 4)))) (fun _ _ _ _ _ => (n_bin b_mul (v_ix (v_name 1) (v_name 5)) (n_call G__law_number takes0 (hr.mono (by decide)) (av_cons (v_name 2) (av_cons (n_bin b_sub (v_name 4) (v_name 5)).v av_nil))).v))).v av_nil)).v av_nil)).v (v_name 0)).up))))
      (b_one (s_ret (n_call G__law_trimmed cz.tk (hr.mono (by decide)) (av_cons (v_name 3) av_nil)).up))))
abbrev s__law_value : Stmt := topS 24
abbrev N__law_value : List Str := ["p", "f", "x", "found", "scale", "number"]
theorem sc__law_value : FnScope ["p", "f", "x", "found", "scale", "number"] ["p", "f", "x"] (defScope s__law_value) := ⟨rfl, rfl, rfl, by decide +kernel, rfl, by decide +kernel, by decide +kernel⟩
theorem ok__law_value {f : Addr} {fd : FuncData} (F : Fun K "_law_value" "_law_value" s__law_value f fd) (hm : mg "_law_value" = some (.ref f)) (hb : Binds K fd ["p", "f", "x"] []) (z_int : mg "int" = none) : FnP P w K mg base "_law_value" 1 F__law_value :=
  fnP F sc__law_value hm hb fun cdv A outer s H E hr cz => (b_cons (s_set 3 cz n_int.up)
      (b_cons (s_set 4 cz n_int.up)
      (b_cons (s_forN 1 cz (t_name 5 cz.nd) (b_cons (s_set 3 cz (n_bin b_add (v_name 3) (n_bin b_mul (v_name 4) (v_name 5)).v).up)
      (b_one (s_set 4 cz (n_bin b_mul (v_name 4) (v_name 2)).up))))
      (b_one (s_ret (n_bin b_mod (n_callT f_int boot_int z_int (av_cons (v_name 3) av_nil)).v (v_name 0)).up)))))
abbrev s__law_is_prime : Stmt := topS 25
abbrev N__law_is_prime : List Str := ["n", "d"]
theorem sc__law_is_prime : FnScope ["n", "d"] ["n"] (defScope s__law_is_prime) := ⟨rfl, rfl, rfl, by decide +kernel, rfl, by decide +kernel, by decide +kernel⟩
theorem ok__law_is_prime {f : Addr} {fd : FuncData} (F : Fun K "_law_is_prime" "_law_is_prime" s__law_is_prime f fd) (hm : mg "_law_is_prime" = some (.ref f)) (hb : Binds K fd ["n"] []) (z_all : mg "all" = none) (z_int : mg "int" = none) (z_range : mg "range" = none) : FnP P w K mg base "_law_is_prime" 1 F__law_is_prime :=
  fnP F sc__law_is_prime hm hb fun cdv A outer s H E hr cz => (b_one (s_ret (v_and (n_cmp m_lt n_int.v (v_name 0)).v (v_and (n_cmp m_lt (v_name 0) n_int.v).v (v_one (n_callB (f_all rfl) (by decide +kernel) z_all (av_cons (n_lc [("d", 1)] cz.calm cz.nd (j_rng2 z_range n_int.v n_int.v).v (blk_ok (N := N__law_is_prime) (sc := defScope s__law_is_prime) (by decide +kernel)) (ix_name (by decide)) (fun _ _ _ _ _ => (t_name 1 cz.nd)) (fun _ _ _ _ _ => (cs_one (c_cmp m_lt (v_name 1) (v_name 0)))) (fun _ _ _ _ _ => (n_cmp (m_ne hr.units) (n_bin b_mod (n_callT f_int boot_int z_int (av_cons (v_name 0) av_nil)).v (v_name 1)).v n_int.v))).v av_nil)).v))).pur.up))
abbrev s__law_says : Stmt := topS 26
abbrev N__law_says : List Str := ["found", "due"]
theorem sc__law_says : FnScope ["found", "due"] ["found", "due"] (defScope s__law_says) := ⟨rfl, rfl, rfl, by decide +kernel, rfl, by decide +kernel, by decide +kernel⟩
theorem ok__law_says {f : Addr} {fd : FuncData} (F : Fun K "_law_says" "_law_says" s__law_says f fd) (hm : mg "_law_says" = some (.ref f)) (hb : Binds K fd ["found", "due"] []) : FnP P w K mg base "_law_says" 1 F__law_says :=
  fnP F sc__law_says hm hb fun cdv A outer s H E hr cz => (b_cons (s_if (c_truth (v_name 1)).up (b_one (s_ret (n_cmp m_is (v_name 0) n_bl.v).up)) b_nil)
      (b_one (s_ret (n_cmp m_is (v_name 0) n_bl.v).up)))
abbrev s__law_points : Stmt := topS 27
abbrev N__law_points : List Str := ["state", "p", "many", "found", "turn", "place", "x", "y"]
theorem sc__law_points : FnScope ["state", "p", "many", "found", "turn", "place", "x", "y"] ["state", "p", "many"] (defScope s__law_points) := ⟨rfl, rfl, rfl, by decide +kernel, rfl, by decide +kernel, by decide +kernel⟩
theorem ok__law_points {f : Addr} {fd : FuncData} (F : Fun K "_law_points" "_law_points" s__law_points f fd) (hm : mg "_law_points" = some (.ref f)) (hb : Binds K fd ["state", "p", "many"] []) (G__law_draw : FnM P w K mg base "_law_draw" 1 F__law_draw) (z_range : mg "range" = none) (z_tuple : mg "tuple" = none) : FnM P w K mg base "_law_points" 2 F__law_points :=
  fnM F sc__law_points hm hb fun cdv A outer s H E hr cz => (b_cons (s_set 3 cz (n_lst an_nil).up)
      (b_cons (s_for cz (j_rng1 z_range (v_name 2)).up (t_name 4 cz.nd) (b_cons (s_set 5 cz (m_callM 0 G__law_draw cz.tk (hr.mono (by decide)) (mh_n 1 mh_nil)))
      (b_one (s_if (c_cmp m_notIn (v_name 5) (n_lc [("x", 6), ("y", 7)] cz.calm cz.nd (i_sq (v_name 3)) (blk_ok (N := N__law_points) (sc := defScope s__law_points) (by decide +kernel)) (ix_tup (ix_cons (ix_name (by decide)) (ix_cons (ix_name (by decide)) ix_nil))) (fun _ _ _ _ _ => (t_tup cz.calm (ts_cons (t_name 6 cz.nd) (ts_cons (t_name 7 cz.nd) ts_nil)))) (fun _ _ _ _ _ => cs_nil) (fun _ _ _ _ _ => (v_name 6).pur)).v).up (b_one (s_expr (m_app 3 (m_tup (ma_cons (v_name 5).pur.up (ma_cons (m_callM 0 G__law_draw cz.tk (hr.mono (by decide)) (mh_n 1 mh_nil)) ma_nil)))))) b_nil))))
      (b_one (s_ret (n_callT f_tuple boot_tuple z_tuple (av_cons (v_name 3) av_nil)).up))))
abbrev s__law_is_divided : Stmt := topS 28
abbrev N__law_is_divided : List Str := ["p", "f", "g", "answer", "quotient", "rest", "row", "x"]
theorem sc__law_is_divided : FnScope ["p", "f", "g", "answer", "quotient", "rest", "row", "x"] ["p", "f", "g", "answer"] (defScope s__law_is_divided) := ⟨rfl, rfl, rfl, by decide +kernel, rfl, by decide +kernel, by decide +kernel⟩
theorem ok__law_is_divided {f : Addr} {fd : FuncData} (F : Fun K "_law_is_divided" "_law_is_divided" s__law_is_divided f fd) (hm : mg "_law_is_divided" = some (.ref f)) (hb : Binds K fd ["p", "f", "g", "answer"] []) (G__law_is_int : FnP P w K mg base "_law_is_int" 1 F__law_is_int) (G__law_product : FnP P w K mg base "_law_product" 2 F__law_product) (G__law_sum : FnP P w K mg base "_law_sum" 2 F__law_sum) (G__law_trimmed : FnP P w K mg base "_law_trimmed" 1 F__law_trimmed) (z_all : mg "all" = none) (z_isinstance : mg "isinstance" = none) (z_len : mg "len" = none) (z_tuple : mg "tuple" = none) : FnP P w K mg base "_law_is_divided" 3 F__law_is_divided :=
  fnP F sc__law_is_divided hm hb fun cdv A outer s H E hr cz => (b_cons (s_if (c_w (w_or (c_not (c_truth (n_isi kit_tup z_isinstance z_tuple boot_tuple (v_name 3)).v)) (w_or1 (c_cmp (m_ne hr.units) (n_callB f_len PySem.boot_len z_len (av_cons (v_name 3) av_nil)).v n_int.v)))).up (b_one (s_ret n_bl.up)) b_nil)
      (b_cons (s_asg (m_name 3) (t_tup cz.calm (ts_cons (t_name 4 cz.nd) (ts_cons (t_name 5 cz.nd) ts_nil))))
      (b_cons (s_for cz (j_sq (n_lst (an_cons (v_name 4).pur (an_cons (v_name 5).pur an_nil)))).up (t_name 6 cz.nd) (b_one (s_if (c_w (w_or (c_not (c_truth (n_isi kit_tup z_isinstance z_tuple boot_tuple (v_name 6)).v)) (w_or1 (c_not (c_truth (n_callB (f_all rfl) (by decide +kernel) z_all (av_cons (n_lc [("x", 7)] cz.calm cz.nd (i_sq (v_name 6)) (blk_ok (N := N__law_is_divided) (sc := defScope s__law_is_divided) (by decide +kernel)) (ix_name (by decide)) (fun _ _ _ _ _ => (t_name 7 cz.nd)) (fun _ _ _ _ _ => cs_nil) (fun _ _ _ _ _ => (v_and (n_call G__law_is_int takes0 (hr.mono (by decide)) (av_cons (v_name 7) av_nil)).v (v_and (n_cmp m_le n_int.v (v_name 7)).v (v_one (n_cmp m_lt (v_name 7) (v_name 0)).v))).pur)).v av_nil)).v))))).up (b_one (s_ret n_bl.up)) b_nil)))
      (b_cons (s_if (c_w (w_or (c_cmp m_ge (n_callB f_len PySem.boot_len z_len (av_cons (v_name 5) av_nil)).v (n_callB f_len PySem.boot_len z_len (av_cons (v_name 2) av_nil)).v) (w_or (c_cmp (m_ne hr.units) (n_call G__law_trimmed cz.tk (hr.mono (by decide)) (av_cons (v_name 4) av_nil)).v (v_name 4)) (w_or1 (c_cmp (m_ne hr.units) (n_call G__law_trimmed cz.tk (hr.mono (by decide)) (av_cons (v_name 5) av_nil)).v (v_name 5)))))).up (b_one (s_ret n_bl.up)) b_nil)
      (b_one (s_ret (n_cmp (m_eq hr.units) (n_call G__law_sum cz.tk (hr.mono (by decide)) (av_cons (v_name 0) (av_cons (n_call G__law_product cz.tk (hr.mono (by decide)) (av_cons (v_name 0) (av_cons (v_name 4) (av_cons (v_name 2) av_nil)))).v (av_cons (v_name 5) av_nil)))).v (v_name 1)).up))))))
abbrev s_law : Stmt := topS 29
abbrev N_law : List Str := ["script", "state", "n", "p", "a", "f", "g", "x", "points", "found", "datum", "place", "number"]
theorem sc_law : FnScope ["script", "state", "n", "p", "a", "f", "g", "x", "points", "found", "datum", "place", "number"] ["script"] (defScope s_law) := ⟨rfl, rfl, rfl, by decide +kernel, rfl, by decide +kernel, by decide +kernel⟩
theorem ok_law {f : Addr} {fd : FuncData} (F : Fun K "law" "law" s_law f fd) (G__law_draw : FnM P w K mg base "_law_draw" 1 F__law_draw) (G__law_is_divided : FnP P w K mg base "_law_is_divided" 3 F__law_is_divided) (G__law_is_int : FnP P w K mg base "_law_is_int" 1 F__law_is_int) (G__law_is_prime : FnP P w K mg base "_law_is_prime" 1 F__law_is_prime) (G__law_one_of : FnM P w K mg base "_law_one_of" 2 F__law_one_of) (G__law_points : FnM P w K mg base "_law_points" 2 F__law_points) (G__law_poly : FnM P w K mg base "_law_poly" 2 F__law_poly) (G__law_product : FnP P w K mg base "_law_product" 2 F__law_product) (G__law_same : FnP P w K mg base "_law_same" 5 (F__law_same 4)) (G__law_says : FnP P w K mg base "_law_says" 1 F__law_says) (G__law_start : FnP P w K mg base "_law_start" 1 F__law_start) (G__law_sum : FnP P w K mg base "_law_sum" 2 F__law_sum) (G__law_trimmed : FnP P w K mg base "_law_trimmed" 1 F__law_trimmed) (G__law_value : FnP P w K mg base "_law_value" 1 F__law_value) (G_inverse : FnP P w K mg base "inverse" 2 F_inverse) (G_is_prime : FnP P w K mg base "is_prime" 2 F_is_prime) (G_poly_divided : FnP P w K mg base "poly_divided" 3 F_poly_divided) (G_poly_product : FnP P w K mg base "poly_product" 2 F_poly_product) (G_poly_sum : FnP P w K mg base "poly_sum" 2 F_poly_sum) (G_poly_value : FnP P w K mg base "poly_value" 1 F_poly_value) (G_through : FnP P w K mg base "through" 3 F_through) (z_all : mg "all" = none) (z_any : mg "any" = none) (z_int : mg "int" = none) (z_len : mg "len" = none) (z_range : mg "range" = none) : FnOk P w K mg base (L2.CX P w) 6 f fd ["script"] (spP K mg F_law) :=
  fnPk F sc_law fun cdv A outer s H E hr cz => (b_cons (s_set 1 cz (n_call G__law_start cz.tk (hr.mono (by decide)) (av_cons (v_name 0) av_nil)).up)
      (b_cons (s_for cz (j_rng2 z_range (n_neg n_int.v).v n_int.v).up (t_name 2 cz.nd) (b_one (s_if (c_not (c_truth (n_call G__law_says cz.tk (hr.mono (by decide)) (av_cons (n_call G_is_prime cz.tk (hr.mono (by decide)) (av_cons (v_name 2) av_nil)).v (av_cons (n_call G__law_is_prime cz.tk (hr.mono (by decide)) (av_cons (v_name 2) av_nil)).v av_nil))).v)).up (b_one (s_ret n_bl.up)) b_nil)))
      (b_cons (s_if (c_truth (n_callB (f_any rfl) (by decide +kernel) z_any (av_cons (n_lc [("datum", 10)] cz.calm cz.nd (i_sq (n_lst (an_cons n_str (an_cons (n_tup (av_cons n_int.v av_nil)) (an_cons (n_tup av_nil) (an_cons (n_bin b_add (n_bin b_pow n_int.v n_int.v).v n_int.v) (an_cons (n_neg n_int.v) an_nil)))))).v) (blk_ok (N := N_law) (sc := defScope s_law) (by decide +kernel)) (ix_name (by decide)) (fun _ _ _ _ _ => (t_name 10 cz.nd)) (fun _ _ _ _ _ => cs_nil) (fun _ _ _ _ _ => (n_cmp m_isNot (n_call G_is_prime takes0 (hr.mono (by decide)) (av_cons (v_name 10) av_nil)).v n_bl.v))).v av_nil)).v).up (b_one (s_ret n_bl.up)) b_nil)
      (b_cons (s_for cz (mi_sq (m_lst (ma_cons n_int.up (ma_cons n_int.up (ma_cons (m_callM 1 G__law_one_of cz.tk (hr.mono (by decide)) (mh_o (n_lst (an_cons n_int (an_cons n_int (an_cons n_int (an_cons n_int (an_cons n_int (an_cons n_int an_nil))))))).up mh_nil)) ma_nil))))) (t_name 3 cz.nd) (b_cons (s_set 4 cz (m_bin b_add n_int.up (m_callM 1 G__law_draw cz.tk (hr.mono (by decide)) (mh_o (n_bin b_sub (v_name 3) n_int.v).up mh_nil))))
      (b_cons (s_if (c_w (w_or (c_not (c_truth (n_call G__law_is_int cz.tk (hr.mono (by decide)) (av_cons (n_call G_inverse cz.tk (hr.mono (by decide)) (av_cons (v_name 3) (av_cons (v_name 4) av_nil))).v av_nil)).v)) (w_or (c_not (c_chain m_lt m_lt n_int.v (n_call G_inverse cz.tk (hr.mono (by decide)) (av_cons (v_name 3) (av_cons (v_name 4) av_nil))).v (v_name 3))) (w_or1 (c_cmp (m_ne hr.units) (n_bin b_mod (n_callT f_int boot_int z_int (av_cons (n_bin b_mul (v_name 4) (n_call G_inverse cz.tk (hr.mono (by decide)) (av_cons (v_name 3) (av_cons (v_name 4) av_nil))).v).v av_nil)).v (v_name 3)).v n_int.v))))).up (b_one (s_ret n_bl.up)) b_nil)
      (b_cons (s_set 5 cz (m_callM 1 G__law_poly cz.tk (hr.mono (by decide)) (mh_n 3 (mh_o n_int.up mh_nil))))
      (b_cons (s_set 6 cz (m_callM 1 G__law_poly cz.tk (hr.mono (by decide)) (mh_n 3 (mh_o n_int.up mh_nil))))
      (b_cons (s_set 7 cz (m_callM 1 G__law_draw cz.tk (hr.mono (by decide)) (mh_n 3 mh_nil)))
      (b_cons (s_if (c_not (c_truth (n_call G__law_same cz.tk (hr.mono (by decide)) (av_cons (n_call G_poly_sum cz.tk (hr.mono (by decide)) (av_cons (v_name 3) (av_cons (v_name 5) (av_cons (v_name 6) av_nil)))).v (av_cons (n_call G__law_sum cz.tk (hr.mono (by decide)) (av_cons (v_name 3) (av_cons (v_name 5) (av_cons (v_name 6) av_nil)))).v av_nil))).v)).up (b_one (s_ret n_bl.up)) b_nil)
      (b_cons (s_if (c_not (c_truth (n_call G__law_same cz.tk (hr.mono (by decide)) (av_cons (n_call G_poly_product cz.tk (hr.mono (by decide)) (av_cons (v_name 3) (av_cons (v_name 5) (av_cons (v_name 6) av_nil)))).v (av_cons (n_call G__law_product cz.tk (hr.mono (by decide)) (av_cons (v_name 3) (av_cons (v_name 5) (av_cons (v_name 6) av_nil)))).v av_nil))).v)).up (b_one (s_ret n_bl.up)) b_nil)
      (b_cons (s_if (c_not (c_truth (n_call G__law_same cz.tk (hr.mono (by decide)) (av_cons (n_call G_poly_value cz.tk (hr.mono (by decide)) (av_cons (v_name 3) (av_cons (v_name 5) (av_cons (v_name 7) av_nil)))).v (av_cons (n_call G__law_value cz.tk (hr.mono (by decide)) (av_cons (v_name 3) (av_cons (v_name 5) (av_cons (v_name 7) av_nil)))).v av_nil))).v)).up (b_one (s_ret n_bl.up)) b_nil)
      (b_cons (s_if (c_w (w_and (c_cmp (m_ne hr.units) (v_name 6) (n_tup av_nil).v) (w_and1 (c_not (c_truth (n_call G__law_is_divided cz.tk (hr.mono (by decide)) (av_cons (v_name 3) (av_cons (v_name 5) (av_cons (v_name 6) (av_cons (n_call G_poly_divided cz.tk (hr.mono (by decide)) (av_cons (v_name 3) (av_cons (v_name 5) (av_cons (v_name 6) av_nil)))).v av_nil))))).v))))).up (b_one (s_ret n_bl.up)) b_nil)
      (b_cons (s_set 8 cz (m_callM 1 G__law_points cz.tk (hr.mono (by decide)) (mh_n 3 (mh_o (m_callM 1 G__law_draw cz.tk (hr.mono (by decide)) (mh_o n_int.up mh_nil)) mh_nil))))
      (b_cons (s_set 9 cz (n_call G_through cz.tk (hr.mono (by decide)) (av_cons (v_name 3) (av_cons (v_name 8) av_nil))).up)
      (b_cons (s_if (c_w (w_or (c_not (c_truth (n_call G__law_same cz.tk (hr.mono (by decide)) (av_cons (v_name 9) (av_cons (n_call G__law_trimmed cz.tk (hr.mono (by decide)) (av_cons (v_name 9) av_nil)).v av_nil))).v)) (w_or1 (c_cmp m_gt (n_callB f_len PySem.boot_len z_len (av_cons (v_name 9) av_nil)).v (n_callB f_len PySem.boot_len z_len (av_cons (v_name 8) av_nil)).v)))).up (b_one (s_ret n_bl.up)) b_nil)
      (b_one (s_if (c_not (c_truth (n_callB (f_all rfl) (by decide +kernel) z_all (av_cons (n_lc [("place", 11), ("number", 12)] cz.calm cz.nd (i_sq (v_name 8)) (blk_ok (N := N_law) (sc := defScope s_law) (by decide +kernel)) (ix_tup (ix_cons (ix_name (by decide)) (ix_cons (ix_name (by decide)) ix_nil))) (fun _ _ _ _ _ => (t_tup cz.calm (ts_cons (t_name 11 cz.nd) (ts_cons (t_name 12 cz.nd) ts_nil)))) (fun _ _ _ _ _ => cs_nil) (fun _ _ _ _ _ => (n_call G__law_same takes0 (hr.mono (by decide)) (av_cons (n_call G__law_value takes0 (hr.mono (by decide)) (av_cons (v_name 3) (av_cons (v_name 9) (av_cons (v_name 11) av_nil)))).v (av_cons (v_name 12) av_nil))))).v av_nil)).v)).up (b_one (s_ret n_bl.up)) b_nil)))))))))))))))
      (b_one (s_ret n_bl.up))))))
end
theorem all_mk {l : PySem.W.OpenLaw} {w : World} {K : PySem.W.Frag} {h : Heap} {mg : Str → Option Value} {fa : Addr} (X : K.In h) (G : h.Ns mainGlobals mg) (hfa : mg "law" = some (.ref fa))
    {f0 : Addr} {od0 an0 : Option Addr} {sl0 : Array (Option Value)} {oc0 kV0 dc0 pm0 cd0 ct0 : Value}
    (a0 : PySem.W.nsIn K mainGlobals "is_integer" = some (some (.ref f0))) (l0 : K.lookup f0 = some ⟨oc0, od0, .func (PySem.W.fnOf "is_integer" "is_integer" (defArgs s_is_integer) (defBody s_is_integer) (defScope s_is_integer) .none kV0 dc0 pm0 an0 cd0 ct0), sl0⟩) (c0 : PySem.W.codeIn K cd0 "is_integer" = true) (k0 : PySem.W.keepIn K (.ref f0) = true)
    {f1 : Addr} {od1 an1 : Option Addr} {sl1 : Array (Option Value)} {oc1 kV1 dc1 pm1 cd1 ct1 : Value}
    (a1 : PySem.W.nsIn K mainGlobals "is_prime" = some (some (.ref f1))) (l1 : K.lookup f1 = some ⟨oc1, od1, .func (PySem.W.fnOf "is_prime" "is_prime" (defArgs s_is_prime) (defBody s_is_prime) (defScope s_is_prime) .none kV1 dc1 pm1 an1 cd1 ct1), sl1⟩) (c1 : PySem.W.codeIn K cd1 "is_prime" = true) (k1 : PySem.W.keepIn K (.ref f1) = true)
    {f2 : Addr} {od2 an2 : Option Addr} {sl2 : Array (Option Value)} {oc2 kV2 dc2 pm2 cd2 ct2 : Value}
    (a2 : PySem.W.nsIn K mainGlobals "power" = some (some (.ref f2))) (l2 : K.lookup f2 = some ⟨oc2, od2, .func (PySem.W.fnOf "power" "power" (defArgs s_power) (defBody s_power) (defScope s_power) .none kV2 dc2 pm2 an2 cd2 ct2), sl2⟩) (c2 : PySem.W.codeIn K cd2 "power" = true) (k2 : PySem.W.keepIn K (.ref f2) = true)
    {f3 : Addr} {od3 an3 : Option Addr} {sl3 : Array (Option Value)} {oc3 kV3 dc3 pm3 cd3 ct3 : Value}
    (a3 : PySem.W.nsIn K mainGlobals "inverse" = some (some (.ref f3))) (l3 : K.lookup f3 = some ⟨oc3, od3, .func (PySem.W.fnOf "inverse" "inverse" (defArgs s_inverse) (defBody s_inverse) (defScope s_inverse) .none kV3 dc3 pm3 an3 cd3 ct3), sl3⟩) (c3 : PySem.W.codeIn K cd3 "inverse" = true) (k3 : PySem.W.keepIn K (.ref f3) = true)
    {f4 : Addr} {od4 an4 : Option Addr} {sl4 : Array (Option Value)} {oc4 kV4 dc4 pm4 cd4 ct4 : Value}
    (a4 : PySem.W.nsIn K mainGlobals "trimmed" = some (some (.ref f4))) (l4 : K.lookup f4 = some ⟨oc4, od4, .func (PySem.W.fnOf "trimmed" "trimmed" (defArgs s_trimmed) (defBody s_trimmed) (defScope s_trimmed) .none kV4 dc4 pm4 an4 cd4 ct4), sl4⟩) (c4 : PySem.W.codeIn K cd4 "trimmed" = true) (k4 : PySem.W.keepIn K (.ref f4) = true)
    {f5 : Addr} {od5 an5 : Option Addr} {sl5 : Array (Option Value)} {oc5 kV5 dc5 pm5 cd5 ct5 : Value}
    (a5 : PySem.W.nsIn K mainGlobals "poly_value" = some (some (.ref f5))) (l5 : K.lookup f5 = some ⟨oc5, od5, .func (PySem.W.fnOf "poly_value" "poly_value" (defArgs s_poly_value) (defBody s_poly_value) (defScope s_poly_value) .none kV5 dc5 pm5 an5 cd5 ct5), sl5⟩) (c5 : PySem.W.codeIn K cd5 "poly_value" = true) (k5 : PySem.W.keepIn K (.ref f5) = true)
    {f6 : Addr} {od6 an6 : Option Addr} {sl6 : Array (Option Value)} {oc6 kV6 dc6 pm6 cd6 ct6 : Value}
    (a6 : PySem.W.nsIn K mainGlobals "poly_sum" = some (some (.ref f6))) (l6 : K.lookup f6 = some ⟨oc6, od6, .func (PySem.W.fnOf "poly_sum" "poly_sum" (defArgs s_poly_sum) (defBody s_poly_sum) (defScope s_poly_sum) .none kV6 dc6 pm6 an6 cd6 ct6), sl6⟩) (c6 : PySem.W.codeIn K cd6 "poly_sum" = true) (k6 : PySem.W.keepIn K (.ref f6) = true)
    {f7 : Addr} {od7 an7 : Option Addr} {sl7 : Array (Option Value)} {oc7 kV7 dc7 pm7 cd7 ct7 : Value}
    (a7 : PySem.W.nsIn K mainGlobals "poly_product" = some (some (.ref f7))) (l7 : K.lookup f7 = some ⟨oc7, od7, .func (PySem.W.fnOf "poly_product" "poly_product" (defArgs s_poly_product) (defBody s_poly_product) (defScope s_poly_product) .none kV7 dc7 pm7 an7 cd7 ct7), sl7⟩) (c7 : PySem.W.codeIn K cd7 "poly_product" = true) (k7 : PySem.W.keepIn K (.ref f7) = true)
    {f8 : Addr} {od8 an8 : Option Addr} {sl8 : Array (Option Value)} {oc8 kV8 dc8 pm8 cd8 ct8 : Value}
    (a8 : PySem.W.nsIn K mainGlobals "poly_divided" = some (some (.ref f8))) (l8 : K.lookup f8 = some ⟨oc8, od8, .func (PySem.W.fnOf "poly_divided" "poly_divided" (defArgs s_poly_divided) (defBody s_poly_divided) (defScope s_poly_divided) .none kV8 dc8 pm8 an8 cd8 ct8), sl8⟩) (c8 : PySem.W.codeIn K cd8 "poly_divided" = true) (k8 : PySem.W.keepIn K (.ref f8) = true)
    {f9 : Addr} {od9 an9 : Option Addr} {sl9 : Array (Option Value)} {oc9 kV9 dc9 pm9 cd9 ct9 : Value}
    (a9 : PySem.W.nsIn K mainGlobals "through" = some (some (.ref f9))) (l9 : K.lookup f9 = some ⟨oc9, od9, .func (PySem.W.fnOf "through" "through" (defArgs s_through) (defBody s_through) (defScope s_through) .none kV9 dc9 pm9 an9 cd9 ct9), sl9⟩) (c9 : PySem.W.codeIn K cd9 "through" = true) (k9 : PySem.W.keepIn K (.ref f9) = true)
    {f10 : Addr} {od10 an10 : Option Addr} {sl10 : Array (Option Value)} {oc10 kV10 dc10 pm10 cd10 ct10 : Value}
    (a10 : PySem.W.nsIn K mainGlobals "_law_start" = some (some (.ref f10))) (l10 : K.lookup f10 = some ⟨oc10, od10, .func (PySem.W.fnOf "_law_start" "_law_start" (defArgs s__law_start) (defBody s__law_start) (defScope s__law_start) .none kV10 dc10 pm10 an10 cd10 ct10), sl10⟩) (c10 : PySem.W.codeIn K cd10 "_law_start" = true) (k10 : PySem.W.keepIn K (.ref f10) = true)
    {f11 : Addr} {od11 an11 : Option Addr} {sl11 : Array (Option Value)} {oc11 kV11 dc11 pm11 cd11 ct11 : Value}
    (a11 : PySem.W.nsIn K mainGlobals "_law_draw" = some (some (.ref f11))) (l11 : K.lookup f11 = some ⟨oc11, od11, .func (PySem.W.fnOf "_law_draw" "_law_draw" (defArgs s__law_draw) (defBody s__law_draw) (defScope s__law_draw) .none kV11 dc11 pm11 an11 cd11 ct11), sl11⟩) (c11 : PySem.W.codeIn K cd11 "_law_draw" = true) (k11 : PySem.W.keepIn K (.ref f11) = true)
    {f12 : Addr} {od12 an12 : Option Addr} {sl12 : Array (Option Value)} {oc12 kV12 dc12 pm12 cd12 ct12 : Value}
    (a12 : PySem.W.nsIn K mainGlobals "_law_one_of" = some (some (.ref f12))) (l12 : K.lookup f12 = some ⟨oc12, od12, .func (PySem.W.fnOf "_law_one_of" "_law_one_of" (defArgs s__law_one_of) (defBody s__law_one_of) (defScope s__law_one_of) .none kV12 dc12 pm12 an12 cd12 ct12), sl12⟩) (c12 : PySem.W.codeIn K cd12 "_law_one_of" = true) (k12 : PySem.W.keepIn K (.ref f12) = true)
    {f13 : Addr} {od13 an13 : Option Addr} {sl13 : Array (Option Value)} {oc13 kV13 dc13 pm13 cd13 ct13 : Value}
    (a13 : PySem.W.nsIn K mainGlobals "_law_is_int" = some (some (.ref f13))) (l13 : K.lookup f13 = some ⟨oc13, od13, .func (PySem.W.fnOf "_law_is_int" "_law_is_int" (defArgs s__law_is_int) (defBody s__law_is_int) (defScope s__law_is_int) .none kV13 dc13 pm13 an13 cd13 ct13), sl13⟩) (c13 : PySem.W.codeIn K cd13 "_law_is_int" = true) (k13 : PySem.W.keepIn K (.ref f13) = true)
    {f14 : Addr} {od14 an14 : Option Addr} {sl14 : Array (Option Value)} {oc14 kV14 dc14 pm14 cd14 ct14 : Value}
    (a14 : PySem.W.nsIn K mainGlobals "_law_same" = some (some (.ref f14))) (l14 : K.lookup f14 = some ⟨oc14, od14, .func (PySem.W.fnOf "_law_same" "_law_same" (defArgs s__law_same) (defBody s__law_same) (defScope s__law_same) .none kV14 dc14 pm14 an14 cd14 ct14), sl14⟩) (c14 : PySem.W.codeIn K cd14 "_law_same" = true) (k14 : PySem.W.keepIn K (.ref f14) = true)
    {f15 : Addr} {od15 an15 : Option Addr} {sl15 : Array (Option Value)} {oc15 kV15 dc15 pm15 cd15 ct15 : Value}
    (a15 : PySem.W.nsIn K mainGlobals "_law_trimmed" = some (some (.ref f15))) (l15 : K.lookup f15 = some ⟨oc15, od15, .func (PySem.W.fnOf "_law_trimmed" "_law_trimmed" (defArgs s__law_trimmed) (defBody s__law_trimmed) (defScope s__law_trimmed) .none kV15 dc15 pm15 an15 cd15 ct15), sl15⟩) (c15 : PySem.W.codeIn K cd15 "_law_trimmed" = true) (k15 : PySem.W.keepIn K (.ref f15) = true)
    {f16 : Addr} {od16 an16 : Option Addr} {sl16 : Array (Option Value)} {oc16 kV16 dc16 pm16 cd16 ct16 : Value}
    (a16 : PySem.W.nsIn K mainGlobals "_law_poly" = some (some (.ref f16))) (l16 : K.lookup f16 = some ⟨oc16, od16, .func (PySem.W.fnOf "_law_poly" "_law_poly" (defArgs s__law_poly) (defBody s__law_poly) (defScope s__law_poly) .none kV16 dc16 pm16 an16 cd16 ct16), sl16⟩) (c16 : PySem.W.codeIn K cd16 "_law_poly" = true) (k16 : PySem.W.keepIn K (.ref f16) = true)
    {f17 : Addr} {od17 an17 : Option Addr} {sl17 : Array (Option Value)} {oc17 kV17 dc17 pm17 cd17 ct17 : Value}
    (a17 : PySem.W.nsIn K mainGlobals "_law_number" = some (some (.ref f17))) (l17 : K.lookup f17 = some ⟨oc17, od17, .func (PySem.W.fnOf "_law_number" "_law_number" (defArgs s__law_number) (defBody s__law_number) (defScope s__law_number) .none kV17 dc17 pm17 an17 cd17 ct17), sl17⟩) (c17 : PySem.W.codeIn K cd17 "_law_number" = true) (k17 : PySem.W.keepIn K (.ref f17) = true)
    {f18 : Addr} {od18 an18 : Option Addr} {sl18 : Array (Option Value)} {oc18 kV18 dc18 pm18 cd18 ct18 : Value}
    (a18 : PySem.W.nsIn K mainGlobals "_law_sum" = some (some (.ref f18))) (l18 : K.lookup f18 = some ⟨oc18, od18, .func (PySem.W.fnOf "_law_sum" "_law_sum" (defArgs s__law_sum) (defBody s__law_sum) (defScope s__law_sum) .none kV18 dc18 pm18 an18 cd18 ct18), sl18⟩) (c18 : PySem.W.codeIn K cd18 "_law_sum" = true) (k18 : PySem.W.keepIn K (.ref f18) = true)
    {f19 : Addr} {od19 an19 : Option Addr} {sl19 : Array (Option Value)} {oc19 kV19 dc19 pm19 cd19 ct19 : Value}
    (a19 : PySem.W.nsIn K mainGlobals "_law_product" = some (some (.ref f19))) (l19 : K.lookup f19 = some ⟨oc19, od19, .func (PySem.W.fnOf "_law_product" "_law_product" (defArgs s__law_product) (defBody s__law_product) (defScope s__law_product) .none kV19 dc19 pm19 an19 cd19 ct19), sl19⟩) (c19 : PySem.W.codeIn K cd19 "_law_product" = true) (k19 : PySem.W.keepIn K (.ref f19) = true)
    {f20 : Addr} {od20 an20 : Option Addr} {sl20 : Array (Option Value)} {oc20 kV20 dc20 pm20 cd20 ct20 : Value}
    (a20 : PySem.W.nsIn K mainGlobals "_law_value" = some (some (.ref f20))) (l20 : K.lookup f20 = some ⟨oc20, od20, .func (PySem.W.fnOf "_law_value" "_law_value" (defArgs s__law_value) (defBody s__law_value) (defScope s__law_value) .none kV20 dc20 pm20 an20 cd20 ct20), sl20⟩) (c20 : PySem.W.codeIn K cd20 "_law_value" = true) (k20 : PySem.W.keepIn K (.ref f20) = true)
    {f21 : Addr} {od21 an21 : Option Addr} {sl21 : Array (Option Value)} {oc21 kV21 dc21 pm21 cd21 ct21 : Value}
    (a21 : PySem.W.nsIn K mainGlobals "_law_is_prime" = some (some (.ref f21))) (l21 : K.lookup f21 = some ⟨oc21, od21, .func (PySem.W.fnOf "_law_is_prime" "_law_is_prime" (defArgs s__law_is_prime) (defBody s__law_is_prime) (defScope s__law_is_prime) .none kV21 dc21 pm21 an21 cd21 ct21), sl21⟩) (c21 : PySem.W.codeIn K cd21 "_law_is_prime" = true) (k21 : PySem.W.keepIn K (.ref f21) = true)
    {f22 : Addr} {od22 an22 : Option Addr} {sl22 : Array (Option Value)} {oc22 kV22 dc22 pm22 cd22 ct22 : Value}
    (a22 : PySem.W.nsIn K mainGlobals "_law_says" = some (some (.ref f22))) (l22 : K.lookup f22 = some ⟨oc22, od22, .func (PySem.W.fnOf "_law_says" "_law_says" (defArgs s__law_says) (defBody s__law_says) (defScope s__law_says) .none kV22 dc22 pm22 an22 cd22 ct22), sl22⟩) (c22 : PySem.W.codeIn K cd22 "_law_says" = true) (k22 : PySem.W.keepIn K (.ref f22) = true)
    {f23 : Addr} {od23 an23 : Option Addr} {sl23 : Array (Option Value)} {oc23 kV23 dc23 pm23 cd23 ct23 : Value}
    (a23 : PySem.W.nsIn K mainGlobals "_law_points" = some (some (.ref f23))) (l23 : K.lookup f23 = some ⟨oc23, od23, .func (PySem.W.fnOf "_law_points" "_law_points" (defArgs s__law_points) (defBody s__law_points) (defScope s__law_points) .none kV23 dc23 pm23 an23 cd23 ct23), sl23⟩) (c23 : PySem.W.codeIn K cd23 "_law_points" = true) (k23 : PySem.W.keepIn K (.ref f23) = true)
    {f24 : Addr} {od24 an24 : Option Addr} {sl24 : Array (Option Value)} {oc24 kV24 dc24 pm24 cd24 ct24 : Value}
    (a24 : PySem.W.nsIn K mainGlobals "_law_is_divided" = some (some (.ref f24))) (l24 : K.lookup f24 = some ⟨oc24, od24, .func (PySem.W.fnOf "_law_is_divided" "_law_is_divided" (defArgs s__law_is_divided) (defBody s__law_is_divided) (defScope s__law_is_divided) .none kV24 dc24 pm24 an24 cd24 ct24), sl24⟩) (c24 : PySem.W.codeIn K cd24 "_law_is_divided" = true) (k24 : PySem.W.keepIn K (.ref f24) = true)
    {f25 : Addr} {od25 an25 : Option Addr} {sl25 : Array (Option Value)} {oc25 kV25 dc25 pm25 cd25 ct25 : Value}
    (a25 : PySem.W.nsIn K mainGlobals "law" = some (some (.ref f25))) (l25 : K.lookup f25 = some ⟨oc25, od25, .func (PySem.W.fnOf "law" "law" (defArgs s_law) (defBody s_law) (defScope s_law) .none kV25 dc25 pm25 an25 cd25 ct25), sl25⟩) (c25 : PySem.W.codeIn K cd25 "law" = true) (k25 : PySem.W.keepIn K (.ref f25) = true)
    (y_abs : PySem.W.nsIn K mainGlobals "abs" = some none)
    (y_all : PySem.W.nsIn K mainGlobals "all" = some none)
    (y_any : PySem.W.nsIn K mainGlobals "any" = some none)
    (y_bool : PySem.W.nsIn K mainGlobals "bool" = some none)
    (y_enumerate : PySem.W.nsIn K mainGlobals "enumerate" = some none)
    (y_int : PySem.W.nsIn K mainGlobals "int" = some none)
    (y_isinstance : PySem.W.nsIn K mainGlobals "isinstance" = some none)
    (y_len : PySem.W.nsIn K mainGlobals "len" = some none)
    (y_list : PySem.W.nsIn K mainGlobals "list" = some none)
    (y_max : PySem.W.nsIn K mainGlobals "max" = some none)
    (y_range : PySem.W.nsIn K mainGlobals "range" = some none)
    (y_str : PySem.W.nsIn K mainGlobals "str" = some none)
    (y_sum : PySem.W.nsIn K mainGlobals "sum" = some none)
    (y_tuple : PySem.W.nsIn K mainGlobals "tuple" = some none)
    (y_zip : PySem.W.nsIn K mainGlobals "zip" = some none)
    {tk_GREATEST : Tok} (x_GREATEST : PySem.W.nsIn K mainGlobals "GREATEST" = some (some (.int 251 tk_GREATEST)))
    : ∃ fd : FuncData, (∀ (s : Shared) (v : Value), BindsTo s fd ⟨[v], []⟩ [("script", v)]) ∧ ∀ base : Heap, K.In base → base.Ns mainGlobals mg → FnOk l.prog w K mg base (L2.CX l.prog w) 6 fa fd ["script"] (spL K F_law) := by
  have e := hfa.symm.trans (PySem.W.mg_of X G a25)
  cases e
  have F0 := fun_mk (st := s_is_integer) l0 c0 k0
  have b0 := F0.binds (ps := ["x"]) fun _ _ _ _ _ _ us hl => match us, hl with | [_], _ => rfl
  have F1 := fun_mk (st := s_is_prime) l1 c1 k1
  have b1 := F1.binds (ps := ["n"]) fun _ _ _ _ _ _ us hl => match us, hl with | [_], _ => rfl
  have F2 := fun_mk (st := s_power) l2 c2 k2
  have b2 := F2.binds (ps := ["p", "a", "n"]) fun _ _ _ _ _ _ us hl => match us, hl with | [_, _, _], _ => rfl
  have F3 := fun_mk (st := s_inverse) l3 c3 k3
  have b3 := F3.binds (ps := ["p", "a"]) fun _ _ _ _ _ _ us hl => match us, hl with | [_, _], _ => rfl
  have F4 := fun_mk (st := s_trimmed) l4 c4 k4
  have b4 := F4.binds (ps := ["row"]) fun _ _ _ _ _ _ us hl => match us, hl with | [_], _ => rfl
  have F5 := fun_mk (st := s_poly_value) l5 c5 k5
  have b5 := F5.binds (ps := ["p", "f", "x"]) fun _ _ _ _ _ _ us hl => match us, hl with | [_, _, _], _ => rfl
  have F6 := fun_mk (st := s_poly_sum) l6 c6 k6
  have b6 := F6.binds (ps := ["p", "f", "g"]) fun _ _ _ _ _ _ us hl => match us, hl with | [_, _, _], _ => rfl
  have F7 := fun_mk (st := s_poly_product) l7 c7 k7
  have b7 := F7.binds (ps := ["p", "f", "g"]) fun _ _ _ _ _ _ us hl => match us, hl with | [_, _, _], _ => rfl
  have F8 := fun_mk (st := s_poly_divided) l8 c8 k8
  have b8 := F8.binds (ps := ["p", "f", "g"]) fun _ _ _ _ _ _ us hl => match us, hl with | [_, _, _], _ => rfl
  have F9 := fun_mk (st := s_through) l9 c9 k9
  have b9 := F9.binds (ps := ["p", "points"]) fun _ _ _ _ _ _ us hl => match us, hl with | [_, _], _ => rfl
  have F10 := fun_mk (st := s__law_start) l10 c10 k10
  have b10 := F10.binds (ps := ["script"]) fun _ _ _ _ _ _ us hl => match us, hl with | [_], _ => rfl
  have F11 := fun_mk (st := s__law_draw) l11 c11 k11
  have b11 := F11.binds (ps := ["state", "most"]) fun _ _ _ _ _ _ us hl => match us, hl with | [_, _], _ => rfl
  have F12 := fun_mk (st := s__law_one_of) l12 c12 k12
  have b12 := F12.binds (ps := ["state", "items"]) fun _ _ _ _ _ _ us hl => match us, hl with | [_, _], _ => rfl
  have F13 := fun_mk (st := s__law_is_int) l13 c13 k13
  have b13 := F13.binds (ps := ["x"]) fun _ _ _ _ _ _ us hl => match us, hl with | [_], _ => rfl
  have F14 := fun_mk (st := s__law_same) l14 c14 k14
  have b14 := F14.binds (ps := ["x", "y"]) fun _ _ _ _ _ _ us hl => match us, hl with | [_, _], _ => rfl
  have F15 := fun_mk (st := s__law_trimmed) l15 c15 k15
  have b15 := F15.binds (ps := ["row"]) fun _ _ _ _ _ _ us hl => match us, hl with | [_], _ => rfl
  have F16 := fun_mk (st := s__law_poly) l16 c16 k16
  have b16 := F16.binds (ps := ["state", "p", "most"]) fun _ _ _ _ _ _ us hl => match us, hl with | [_, _, _], _ => rfl
  have F17 := fun_mk (st := s__law_number) l17 c17 k17
  have b17 := F17.binds (ps := ["f", "k"]) fun _ _ _ _ _ _ us hl => match us, hl with | [_, _], _ => rfl
  have F18 := fun_mk (st := s__law_sum) l18 c18 k18
  have b18 := F18.binds (ps := ["p", "f", "g"]) fun _ _ _ _ _ _ us hl => match us, hl with | [_, _, _], _ => rfl
  have F19 := fun_mk (st := s__law_product) l19 c19 k19
  have b19 := F19.binds (ps := ["p", "f", "g"]) fun _ _ _ _ _ _ us hl => match us, hl with | [_, _, _], _ => rfl
  have F20 := fun_mk (st := s__law_value) l20 c20 k20
  have b20 := F20.binds (ps := ["p", "f", "x"]) fun _ _ _ _ _ _ us hl => match us, hl with | [_, _, _], _ => rfl
  have F21 := fun_mk (st := s__law_is_prime) l21 c21 k21
  have b21 := F21.binds (ps := ["n"]) fun _ _ _ _ _ _ us hl => match us, hl with | [_], _ => rfl
  have F22 := fun_mk (st := s__law_says) l22 c22 k22
  have b22 := F22.binds (ps := ["found", "due"]) fun _ _ _ _ _ _ us hl => match us, hl with | [_, _], _ => rfl
  have F23 := fun_mk (st := s__law_points) l23 c23 k23
  have b23 := F23.binds (ps := ["state", "p", "many"]) fun _ _ _ _ _ _ us hl => match us, hl with | [_, _, _], _ => rfl
  have F24 := fun_mk (st := s__law_is_divided) l24 c24 k24
  have b24 := F24.binds (ps := ["p", "f", "g", "answer"]) fun _ _ _ _ _ _ us hl => match us, hl with | [_, _, _, _], _ => rfl
  have F25 := fun_mk (st := s_law) l25 c25 k25
  have b25 := F25.binds (ps := ["script"]) fun _ _ _ _ _ _ us hl => match us, hl with | [_], _ => rfl
  have z_abs := PySem.W.mg_none_of X G y_abs
  have z_all := PySem.W.mg_none_of X G y_all
  have z_any := PySem.W.mg_none_of X G y_any
  have z_bool := PySem.W.mg_none_of X G y_bool
  have z_enumerate := PySem.W.mg_none_of X G y_enumerate
  have z_int := PySem.W.mg_none_of X G y_int
  have z_isinstance := PySem.W.mg_none_of X G y_isinstance
  have z_len := PySem.W.mg_none_of X G y_len
  have z_list := PySem.W.mg_none_of X G y_list
  have z_max := PySem.W.mg_none_of X G y_max
  have z_range := PySem.W.mg_none_of X G y_range
  have z_str := PySem.W.mg_none_of X G y_str
  have z_sum := PySem.W.mg_none_of X G y_sum
  have z_tuple := PySem.W.mg_none_of X G y_tuple
  have z_zip := PySem.W.mg_none_of X G y_zip
  have c_GREATEST := PySem.W.mg_of X G x_GREATEST
  refine ⟨PySem.W.fnOf "law" "law" (defArgs s_law) (defBody s_law) (defScope s_law) .none kV25 dc25 pm25 an25 cd25 ct25, fun s v => .of_eq rfl, fun base hK hG => ?_⟩
  have G_is_integer : FnP l.prog w K mg base "is_integer" 1 F_is_integer := ok_is_integer F0 (PySem.W.mg_of X G a0) b0 z_bool z_int z_isinstance
  have G_is_prime : FnP l.prog w K mg base "is_prime" 2 F_is_prime := ok_is_prime F1 (PySem.W.mg_of X G a1) b1 G_is_integer z_all z_range c_GREATEST
  have G_power : FnP l.prog w K mg base "power" 1 F_power := ok_power F2 (PySem.W.mg_of X G a2) b2
  have G_inverse : FnP l.prog w K mg base "inverse" 2 F_inverse := ok_inverse F3 (PySem.W.mg_of X G a3) b3 G_power
  have G_trimmed : FnP l.prog w K mg base "trimmed" 1 F_trimmed := ok_trimmed F4 (PySem.W.mg_of X G a4) b4 z_len z_tuple
  have G_poly_value : FnP l.prog w K mg base "poly_value" 1 F_poly_value := ok_poly_value F5 (PySem.W.mg_of X G a5) b5
  have G_poly_sum : FnP l.prog w K mg base "poly_sum" 2 F_poly_sum := ok_poly_sum F6 (PySem.W.mg_of X G a6) b6 G_trimmed z_len z_list z_max z_zip
  have G_poly_product : FnP l.prog w K mg base "poly_product" 2 F_poly_product := ok_poly_product F7 (PySem.W.mg_of X G a7) b7 G_trimmed z_enumerate z_len
  have G_poly_divided : FnP l.prog w K mg base "poly_divided" 3 F_poly_divided := ok_poly_divided F8 (PySem.W.mg_of X G a8) b8 G_inverse G_trimmed z_enumerate z_len z_list z_max z_range
  have G_through : FnP l.prog w K mg base "through" 3 F_through := ok_through F9 (PySem.W.mg_of X G a9) b9 G_inverse G_poly_product G_poly_sum
  have G__law_start : FnP l.prog w K mg base "_law_start" 1 F__law_start := ok__law_start F10 (PySem.W.mg_of X G a10) b10 z_list
  have G__law_draw : FnM l.prog w K mg base "_law_draw" 1 F__law_draw := ok__law_draw F11 (PySem.W.mg_of X G a11) b11 z_abs z_int z_len
  have G__law_one_of : FnM l.prog w K mg base "_law_one_of" 2 F__law_one_of := ok__law_one_of F12 (PySem.W.mg_of X G a12) b12 G__law_draw z_len
  have G__law_is_int : FnP l.prog w K mg base "_law_is_int" 1 F__law_is_int := ok__law_is_int F13 (PySem.W.mg_of X G a13) b13 z_bool z_int z_isinstance
  have G__law_same : FnP l.prog w K mg base "_law_same" 5 (F__law_same 4) := ok__law_same F14 (PySem.W.mg_of X G a14) b14 G__law_is_int z_all z_isinstance z_len z_range z_str z_tuple 3
  have G__law_trimmed : FnP l.prog w K mg base "_law_trimmed" 1 F__law_trimmed := ok__law_trimmed F15 (PySem.W.mg_of X G a15) b15 z_len z_range z_tuple
  have G__law_poly : FnM l.prog w K mg base "_law_poly" 2 F__law_poly := ok__law_poly F16 (PySem.W.mg_of X G a16) b16 G__law_draw G__law_trimmed z_range
  have G__law_number : FnP l.prog w K mg base "_law_number" 1 F__law_number := ok__law_number F17 (PySem.W.mg_of X G a17) b17 z_len
  have G__law_sum : FnP l.prog w K mg base "_law_sum" 2 F__law_sum := ok__law_sum F18 (PySem.W.mg_of X G a18) b18 G__law_number G__law_trimmed z_int z_len z_max z_range
  have G__law_product : FnP l.prog w K mg base "_law_product" 2 F__law_product := ok__law_product F19 (PySem.W.mg_of X G a19) b19 G__law_number G__law_trimmed z_int z_len z_range z_sum
  have G__law_value : FnP l.prog w K mg base "_law_value" 1 F__law_value := ok__law_value F20 (PySem.W.mg_of X G a20) b20 z_int
  have G__law_is_prime : FnP l.prog w K mg base "_law_is_prime" 1 F__law_is_prime := ok__law_is_prime F21 (PySem.W.mg_of X G a21) b21 z_all z_int z_range
  have G__law_says : FnP l.prog w K mg base "_law_says" 1 F__law_says := ok__law_says F22 (PySem.W.mg_of X G a22) b22
  have G__law_points : FnM l.prog w K mg base "_law_points" 2 F__law_points := ok__law_points F23 (PySem.W.mg_of X G a23) b23 G__law_draw z_range z_tuple
  have G__law_is_divided : FnP l.prog w K mg base "_law_is_divided" 3 F__law_is_divided := ok__law_is_divided F24 (PySem.W.mg_of X G a24) b24 G__law_is_int G__law_product G__law_sum G__law_trimmed z_all z_isinstance z_len z_tuple
  exact law_ok (ok_law F25 G__law_draw G__law_is_divided G__law_is_int G__law_is_prime G__law_one_of G__law_points G__law_poly G__law_product G__law_same G__law_says G__law_start G__law_sum G__law_trimmed G__law_value G_inverse G_is_prime G_poly_divided G_poly_product G_poly_sum G_poly_value G_through z_all z_any z_int z_len z_range)
end K01
namespace K01
open PySem PySem.Spec L2 Z
open PyProof.Rows hiding St
/-! plain law: rows of numbers -/
abbrev tp (zs : List Int) : T := .d (.tup (zs.map D.int))
abbrev ls (zs : List Int) : T := .l ((zs.map D.int).map T.d)
def Row (x : T) (zs : List Int) : Prop := x = tp zs ∨ x = ls zs
theorem gd {α : Type} {l : List α} {i : Nat} {d : α} (h : i < l.length) : l.getD i d = l[i] := by simp [List.getD, h]
theorem gd0 {l : List Int} {i : Nat} (h : l.length ≤ i) : l.getD i 0 = 0 := by simp [List.getD, h]
theorem row_len {x : T} {zs : List Int} (h : Row x zs) : fLen [x] = some (I zs.length) := by
  rcases h with rfl | rfl
  · show some (T.d (.int (zs.map D.int).length)) = _
    rw [List.length_map]
  · show some (T.d (.int ((zs.map D.int).map T.d).length)) = _
    rw [List.length_map, List.length_map]
theorem row_ix {x : T} {zs : List Int} (h : Row x zs) {i : Nat} (hi : i < zs.length) : fIx x (I i) = some (I (zs.getD i 0)) := by
  rcases h with rfl | rfl
  · show (atI (zs.map D.int) (i : Int)).map T.d = _
    rw [atI_nat (by omega) (by simpa using hi), Int.toNat_natCast, List.getElem?_map, List.getElem?_eq_getElem hi, gd hi]; rfl
  · rw [fIx_l_num i (by simpa using hi), List.getElem?_map, List.getElem?_map, List.getElem?_eq_getElem hi, gd hi]; rfl
theorem row_data {x : T} {zs : List Int} (h : Row x zs) : dataOf x = some (zs.map D.int) := by
  rcases h with rfl | rfl
  · rfl
  · show allD _ = _; rw [allD_map]
theorem cut_take {α : Type} (xs : List α) {m : Nat} (h : m ≤ xs.length) : cutG xs none (some (m : Int)) = xs.take m := by
  have e1 : HT.sIx xs.length 0 none = 0 := rfl
  have e2 : HT.sIx xs.length xs.length (some (m : Int)) = m := by
    show (if (m : Int) < 0 then ((m : Int) + (xs.length : Int)).toNat else min (m : Int).toNat xs.length) = m
    rw [if_neg (by omega)]; omega
  unfold cutG
  rw [e1, e2, List.drop_zero, Nat.sub_zero]
theorem row_cut {x : T} {zs : List Int} (h : Row x zs) {m : Nat} (hm : m ≤ zs.length) : ∃ y, fSl x none (some (m : Int)) = some y ∧ dataOf y = some ((zs.take m).map D.int) := by
  rcases h with rfl | rfl
  · refine ⟨_, rfl, ?_⟩
    show some (cutG (zs.map D.int) none (some (m : Int))) = _
    rw [cut_take _ (by simpa using hm), List.map_take]
  · refine ⟨.l ((cutG (zs.map D.int) none (some (m : Int))).map T.d), ?_, ?_⟩
    · show (allD _).map _ = _
      rw [allD_map]; rfl
    · show allD _ = _
      rw [allD_map, cut_take _ (by simpa using hm), List.map_take]
/-! no nought at the end -/
structure Tm (zs : List Int) (m : Nat) : Prop where
  le : m ≤ zs.length
  zero : ∀ k, m ≤ k → k < zs.length → zs.getD k 0 = 0
  top : m = 0 ∨ zs.getD (m - 1) 0 ≠ 0
theorem Tm.uniq {zs : List Int} {m n : Nat} (a : Tm zs m) (b : Tm zs n) : m = n := by
  by_cases h : m < n
  · rcases b.top with z | z
    · omega
    · exact absurd (a.zero (n - 1) (by omega) (by have := b.le; omega)) z
  · by_cases h2 : n < m
    · rcases a.top with z | z
      · omega
      · exact absurd (b.zero (m - 1) (by omega) (by have := a.le; omega)) z
    · omega
def tmz (zs : List Int) : Nat → Nat
  | 0 => 0
  | n + 1 => if zs.getD n 0 = 0 then tmz zs n else n + 1
theorem tmz_ok (zs : List Int) : ∀ n, n ≤ zs.length → (∀ k, n ≤ k → k < zs.length → zs.getD k 0 = 0) → Tm zs (tmz zs n)
  | 0, h, hz => ⟨Nat.zero_le _, hz, .inl rfl⟩
  | n + 1, h, hz => by
    unfold tmz
    by_cases e : zs.getD n 0 = 0
    · rw [if_pos e]
      exact tmz_ok zs n (by omega) fun k h1 h2 => by
        by_cases hk : k = n
        · rw [hk]; exact e
        · exact hz k (by omega) h2
    · rw [if_neg e]
      exact ⟨h, hz, .inr e⟩
def tri (zs : List Int) : List Int := zs.take (tmz zs zs.length)
theorem tri_tm (zs : List Int) : Tm zs (tmz zs zs.length) := tmz_ok zs _ (Nat.le_refl _) fun k h1 h2 => by omega
theorem tri_eq {zs : List Int} {m : Nat} (h : Tm zs m) : zs.take m = tri zs := by rw [h.uniq (tri_tm zs)]; rfl
theorem take_gd (zs : List Int) (m k : Nat) : (zs.take m).getD k 0 = if k < m then zs.getD k 0 else 0 := by
  by_cases h : k < m
  · rw [if_pos h]; simp [List.getD, List.getElem?_take, h]
  · rw [if_neg h]; simp [List.getD, List.getElem?_take, h]
theorem tri_gd (zs : List Int) (k : Nat) : (tri zs).getD k 0 = zs.getD k 0 := by
  unfold tri
  rw [take_gd]
  by_cases h : k < tmz zs zs.length
  · rw [if_pos h]
  · rw [if_neg h]
    by_cases h2 : k < zs.length
    · exact ((tri_tm zs).zero k (by omega) h2).symm
    · exact (gd0 (by omega)).symm
theorem tri_len (zs : List Int) : (tri zs).length = tmz zs zs.length := by
  unfold tri
  rw [List.length_take]
  have := (tri_tm zs).le
  omega
theorem tri_top (zs : List Int) : tri zs = [] ∨ (tri zs).getD ((tri zs).length - 1) 0 ≠ 0 := by
  rcases (tri_tm zs).top with h | h
  · left; unfold tri; rw [h, List.take_zero]
  · right; rw [tri_gd, tri_len]; exact h
/-- two rows without noughts at the end, of the same numbers -/
theorem row_ext {xs ys : List Int} (hx : xs = [] ∨ xs.getD (xs.length - 1) 0 ≠ 0) (hy : ys = [] ∨ ys.getD (ys.length - 1) 0 ≠ 0) (h : ∀ k, xs.getD k 0 = ys.getD k 0) : xs = ys := by
  have le : ∀ {xs ys : List Int}, (ys = [] ∨ ys.getD (ys.length - 1) 0 ≠ 0) → (∀ k, xs.getD k 0 = ys.getD k 0) → ys.length ≤ xs.length := fun {xs ys} hy h => by
    by_cases hl : ys.length ≤ xs.length
    · exact hl
    · rcases hy with rfl | hy
      · simp at hl
      · exact absurd (by rw [← h]; exact gd0 (by omega)) hy
  have hl : xs.length = ys.length := Nat.le_antisymm (le hx fun k => (h k).symm) (le hy h)
  apply List.ext_getElem hl
  intro i h1 h2
  have := h i
  rwa [gd h1, gd h2] at this
theorem tri_self {xs : List Int} (hx : xs = [] ∨ xs.getD (xs.length - 1) 0 ≠ 0) : tri xs = xs := row_ext (tri_top xs) hx (tri_gd xs)
theorem tri_same {xs ys : List Int} (h : ∀ k, xs.getD k 0 = ys.getD k 0) : tri xs = tri ys := row_ext (tri_top xs) (tri_top ys) fun k => by rw [tri_gd, tri_gd, h]
/-- trimmed -/
def tcond : En → RM Bool := lft (gAnd (gT (g2 fGt (vN 1) (kI 0))) (gT (g2 fEq (g2 fIx (vN 0) (g2 fSub (vN 1) (kI 1))) (kI 0))))
theorem tri_loop {x : T} {zs : List Int} (h : Row x zs) : ∀ (n fuel : Nat), n ≤ zs.length → n < fuel → whE tcond (fAug 1 fSub (lft (kI 1))) fuel [mkS x, .v (I n)] = .nx [mkS x, .v (I (tmz zs n))]
  | n, 0, _, hf => absurd hf (Nat.not_lt_zero _)
  | 0, fuel + 1, hn, hf => by
    show (tcond [mkS x, .v (I ((0 : Nat) : Int))]).s _ = _
    have : tcond [mkS x, .v (I ((0 : Nat) : Int))] = .ok false [mkS x, .v (I ((0 : Nat) : Int))] := by unfold tcond; simp
    rw [this]; rfl
  | n + 1, fuel + 1, hn, hf => by
    have e1 : ((n + 1 : Nat) : Int) - 1 = (n : Int) := by omega
    have e2 := row_ix h (i := n) (by omega)
    have hc : tcond [mkS x, .v (I ((n + 1 : Nat) : Int))] = .ok (decide (zs.getD n 0 = 0)) [mkS x, .v (I ((n + 1 : Nat) : Int))] := by
      unfold tcond
      refine lft_n ?_
      have c0 : (0 : Int) < ((n + 1 : Nat) : Int) := by omega
      simp only [gAnd_ev, gT_ev, g2_ev, vN_ev, kI_ev, at_succ, at_zero, get_v, R.of_some, R.bind_ok, fGt_i, tst_b, c0, decide_true, if_true, mkS_get, fSub_i, e1, e2, fEq_i]
    show (tcond [mkS x, .v (I ((n + 1 : Nat) : Int))]).s _ = _
    rw [hc]
    unfold tmz
    by_cases hz : zs.getD n 0 = 0
    · rw [if_pos hz]
      have hb : fAug 1 fSub (lft (kI 1)) [mkS x, .v (I ((n + 1 : Nat) : Int))] = .nx [mkS x, .v (I n)] := by
        have e3 : fSub (.d (.int ((n + 1 : Nat) : Int))) (.d (.int 1)) = some (I n) := by rw [fSub_i, e1]
        rw [fAug_i (i := 1) (f := fSub) (m := lft (kI 1)) (en := [mkS x, .v (I ((n + 1 : Nat) : Int))]) (k := ((n + 1 : Nat) : Int)) (z := 1) (t := I n) rfl rfl e3]
        rfl
      simp only [RM.s_ok, hz, decide_true, if_true, hb]
      exact tri_loop h n fuel (by omega) (by omega)
    · rw [if_neg hz]
      simp only [RM.s_ok, hz, decide_false, Bool.false_eq_true, if_false]
theorem trimmed_ok {x : T} {zs : List Int} (h : Row x zs) (hl : zs.length < 100000) : F_trimmed [x] = .ok (tp (tri zs)) := by
  refine runP_ret rfl ?_
  show ∃ e, d_trimmed [mkS x, .n] = _
  unfold d_trimmed
  refine ret_seq (en1 := [mkS x, .v (I zs.length)]) ?_ ?_
  · simp [row_len h, mkS_get]
  refine ret_seq (tri_loop h zs.length 100000 (Nat.le_refl _) hl) ?_
  obtain ⟨y, e1, e2⟩ := row_cut h (m := tmz zs zs.length) (tri_tm zs).le
  refine ret_lft ?_
  simp only [gCall_ev, aCons_ev, aNil_ev, gSl_ev, vN_ev, at_zero, at_succ, get_v, mkS_get, R.of_some, R.bind_ok, oN_ev, oS_ev, asI_ev, e1, fTuple_ev, e2, Option.map_some]
  rfl
theorem law_trimmed_ok {x : T} {zs : List Int} (h : Row x zs) (hl : zs.length < 100000) : F__law_trimmed [x] = .ok (tp (tri zs)) := by
  refine runP_ret rfl ?_
  show ∃ e, d__law_trimmed [mkS x, .n, .n] = _
  unfold d__law_trimmed
  refine ret_seq (en1 := [mkS x, .v (I 0), .n]) rfl ?_
  have e0 := gR1_n (g := gCall fLen (aCons (vN 0) aNil)) (en := [mkS x, .v (I 0), .n]) (z := zs.length) (by simp [row_len h, mkS_get]) (by omega) (by omega)
  rw [Int.toNat_natCast] at e0
  obtain ⟨en', e1, m, o, ho, hm, hz, ht, rfl⟩ := for_ix (v := 2) (f := (fIf (lft (gT (g2 fNe (g2 fIx (vN 0) (vN 2)) (kI 0)))) (fSet 1 (lft (g2 fAdd (vN 2) (kI 1)))) fNil)) (fun i en => ∃ (m : Nat) (o : Sl), NB o ∧ m ≤ i ∧ (∀ k, m ≤ k → k < i → zs.getD k 0 = 0) ∧ (m = 0 ∨ zs.getD (m - 1) 0 ≠ 0) ∧ en = [mkS x, .v (I m), o]) _ (lft_n e0) ⟨0, .n, .n, Nat.le_refl _, fun k h1 h2 => by omega, .inl rfl, rfl⟩ (fun i hi en q => by
    obtain ⟨m, o, ho, hm, hz, ht, rfl⟩ := q
    rw [rng_at hi, show (0 : Int) + (i : Int) = (i : Int) by omega]
    rw [rng_len] at hi
    have e2 := row_ix h hi
    by_cases hc : zs.getD i 0 = 0
    · refine ⟨[mkS x, .v (I m), .v (I i)], _, by simp [ho.s], .inl ?_, m, .v (I i), .v, by omega, fun k h1 h2 => ?_, ht, rfl⟩
      · rw [fIf_f ?_, fNil_ev]
        simp only [gT_ev, g2_ev, vN_ev, kI_ev, at_succ, at_zero, get_v, mkS_get, R.of_some, R.bind_ok, e2, fNe_i, tst_b, hc, decide_true, Bool.not_true]
      · by_cases hk : k = i
        · rw [hk]; exact hc
        · exact hz k h1 (by omega)
    · refine ⟨[mkS x, .v (I m), .v (I i)], [mkS x, .v (I ((i + 1 : Nat) : Int)), .v (I i)], by simp [ho.s], .inl ?_, i + 1, .v (I i), .v, Nat.le_refl _, fun k h1 h2 => by omega, .inr hc, rfl⟩
      rw [fIf_t ?_]
      · rfl
      · simp only [gT_ev, g2_ev, vN_ev, kI_ev, at_succ, at_zero, get_v, mkS_get, R.of_some, R.bind_ok, e2, fNe_i, tst_b, hc, decide_false, Bool.not_false])
  refine ret_seq e1 ?_
  rw [rng_len] at hm hz
  have tm : Tm zs m := ⟨hm, hz, ht⟩
  obtain ⟨y, e3, e4⟩ := row_cut h (m := m) hm
  refine ret_lft ?_
  simp only [gCall_ev, aCons_ev, aNil_ev, gSl_ev, vN_ev, at_zero, at_succ, get_v, mkS_get, R.of_some, R.bind_ok, oN_ev, oS_ev, asI_ev, e3, fTuple_ev, e4, Option.map_some]
  rw [tri_eq tm]

/-! sums -/
def co (f : List Int) (k : Nat) : Int := f.getD k 0
theorem number_ok {f : List Int} {k : Nat} : F__law_number [tp f, I k] = .ok (I (co f k)) := by
  refine runP_ret rfl ?_
  show ∃ e, d__law_number [.v (tp f), .v (I k)] = _
  unfold d__law_number
  have e1 := row_len (x := tp f) (.inl rfl)
  by_cases h : k < f.length
  · have e2 := row_ix (x := tp f) (.inl rfl) h
    refine ⟨[.v (tp f), .v (I k)], ?_⟩
    rw [fSeq_ev, fIf_t (by simp only [gT_ev, g2_ev, vN_ev, gCall_ev, aCons_ev, aNil_ev, at_succ, at_zero, get_v, R.of_some, R.bind_ok, e1, fLt_i, tst_b]; rw [decide_eq_true (by omega)])]
    simp only [fRet_ev, lft_ev, gPur_ev, g2_ev, vN_ev, at_succ, at_zero, get_v, R.of_some, R.bind_ok, e2, R.pur_d, RM.of_ok, RM.s_ok, sq_ret]
    rfl
  · refine ret_if_f (by simp only [gT_ev, g2_ev, vN_ev, gCall_ev, aCons_ev, aNil_ev, at_succ, at_zero, get_v, R.of_some, R.bind_ok, e1, fLt_i, tst_b]; rw [decide_eq_false (by omega)]) ?_
    have : co f k = 0 := gd0 (by omega)
    rw [this]
    exact ret_lft rfl
def tab (n : Nat) (v : Nat → Int) : List Int := (List.range n).map v
theorem tab_len (n : Nat) (v : Nat → Int) : (tab n v).length = n := by simp [tab]
theorem tab_co (n : Nat) (v : Nat → Int) (k : Nat) : co (tab n v) k = if k < n then v k else 0 := by
  unfold co
  by_cases h : k < n
  · rw [if_pos h, gd (by rw [tab_len]; exact h)]; simp [tab]
  · rw [if_neg h, gd0 (by rw [tab_len]; omega)]
theorem tab_D (n : Nat) (v : Nat → Int) : (tab n v).map D.int = (List.range n).map fun i => D.int (v i) := by unfold tab; rw [List.map_map]; rfl
def sumZ (p : Int) (f g : List Int) : List Int := tri (tab (max f.length g.length) fun k => (co f k + co g k) % p)
theorem max_cast (m n : Nat) : max (m : Int) (n : Int) = ((max m n : Nat) : Int) := by omega
theorem law_sum_ok {p : Int} (hp : 0 < p) {f g : List Int} (hf : f.length < 1000) (hg : g.length < 1000) : F__law_sum [I p, tp f, tp g] = .ok (tp (sumZ p f g)) := by
  refine runP_ret rfl ?_
  show ∃ e, d__law_sum [.v (I p), .v (tp f), .v (tp g), .n] = _
  unfold d__law_sum
  have e1 := row_len (x := tp f) (.inl rfl)
  have e2 := row_len (x := tp g) (.inl rfl)
  have e := lc_rng (vs := [3]) (v := 3) (gs := gR1 (gCall fMax2 (aCons (gCall fLen (aCons (vN 1) aNil)) (aCons (gCall fLen (aCons (vN 2) aNil)) aNil)))) (te := g2 fMod (gCall fInt (aCons (g2 fAdd (gFn F__law_number (aCons (vN 1) (aCons (vN 3) aNil))) (gFn F__law_number (aCons (vN 2) (aCons (vN 3) aNil)))) aNil)) (vN 0)) (en := [.v (I p), .v (tp f), .v (tp g), .n]) (a := 0) (n := max f.length g.length) (G := fun k => D.int ((co f k + co g k) % p)) (by
    have e := gR1_n (g := gCall fMax2 (aCons (gCall fLen (aCons (vN 1) aNil)) (aCons (gCall fLen (aCons (vN 2) aNil)) aNil))) (en := [.v (I p), .v (tp f), .v (tp g), .n]) (z := ((max f.length g.length : Nat) : Int)) (by
      simp only [gCall_ev, aCons_ev, aNil_ev, vN_ev, at_succ, at_zero, get_v, R.of_some, R.bind_ok, e1, e2, fMax2_i, max_cast]) (by omega) (by omega)
    rwa [Int.toNat_natCast] at e) (by omega) (fun k hk => by
    rw [show (0 : Int) + (k : Int) = (k : Int) by omega]
    have n1 := number_ok (f := f) (k := k)
    have n2 := number_ok (f := g) (k := k)
    simp only [wipeE_cons, wipeE_nil, List.set_cons_succ, List.set_cons_zero, g2_ev, gFn_ev, gCall_ev, aCons_ev, aNil_ev, vN_ev, at_succ, at_zero, get_v, R.of_some, R.bind_ok, n1, n2, fAdd_i, fInt_i, fMod_i, if_pos hp])
  refine ret_lft ?_
  rw [gFn_ev, aCons_ev, e, R.bind_ok, aNil_ev, R.bind_ok, R.bind_ok, ← tab_D]
  exact law_trimmed_ok (.inr rfl) (by rw [tab_len]; omega)
end K01
namespace K01
open PySem PySem.Spec L2 Z
open PyProof.Rows hiding St
/-- a comprehension over things told by places -/
theorem lcL_at {k : T → Option Ass} {tt : En → R Bool} {te : En → R T} {en : En} {h : Nat → T} {G : Nat → T} : ∀ (L : List Nat), (∀ i ∈ L, ∃ as, k (h i) = some as ∧ tt (setE en as) = .ok true ∧ te (setE en as) = .ok (G i)) → lcL k tt te en (L.map h) = .ok (L.map G)
  | [], _ => rfl
  | i :: L, H => by
    obtain ⟨as, h1, h2, h3⟩ := H i (List.mem_cons_self ..)
    have ih := lcL_at (k := k) (tt := tt) (te := te) (en := en) (h := h) (G := G) L fun j m => H j (List.mem_cons_of_mem _ m)
    rw [List.map_cons]
    unfold lcL
    rw [h1, R.of_some, R.bind_ok, h2, R.bind_ok, if_pos rfl, h3, R.bind_ok, ih, R.bind_ok]; rfl
theorem enumP_tab : ∀ (f : List Int) (k : Nat), enumP k (f.map D.int) = (List.range f.length).map fun i => T.d (.tup [.int ((k + i : Nat) : Int), .int (co f i)])
  | [], _ => rfl
  | a :: f, k => by
    rw [List.map_cons, enumP, enumP_tab f (k + 1), List.length_cons, List.range_succ_eq_map, List.map_cons, List.map_map]
    congr 1
    apply List.map_congr_left
    intro i _
    show T.d (.tup [.int ((k + 1 + i : Nat) : Int), .int (co f i)]) = T.d (.tup [.int ((k + (i + 1) : Nat) : Int), .int (co (a :: f) (i + 1))])
    rw [show k + 1 + i = k + (i + 1) by omega]
    rfl
theorem zipP_tab : ∀ (f g : List Int), f.length = g.length → zipP (f.map D.int) (g.map D.int) = (List.range f.length).map fun i => T.d (.tup [.int (co f i), .int (co g i)])
  | [], [], _ => rfl
  | a :: f, b :: g, h => by
    rw [List.map_cons, List.map_cons, zipP, zipP_tab f g (by simpa using h), List.length_cons, List.range_succ_eq_map, List.map_cons, List.map_map]
    rfl
  | [], _ :: _, h => by cases h
  | _ :: _, [], h => by cases h
theorem fMul_n {as : List D} {k : Nat} (h : as.length * k ≤ 16777216) (hk : k < 1000000) : fMul (.l (as.map T.d)) (.d (.int (k : Int))) = some (.l ((List.replicate k as).flatten.map T.d)) := by
  unfold fMul
  simp only [allD_map]
  rw [if_pos ⟨Int.le_trans (by decide) (Int.natCast_nonneg k), Int.lt_of_lt_of_le (Int.ofNat_lt.mpr hk) (by decide), by rw [Int.toNat_natCast]; exact h⟩, Int.toNat_natCast]
theorem flat0 : ∀ k : Nat, (List.replicate k [D.int 0]).flatten = (tab k fun _ => 0).map D.int
  | 0 => rfl
  | k + 1 => by
    rw [List.replicate_succ, List.flatten_cons, flat0 k]
    unfold tab
    rw [List.range_succ_eq_map, List.map_cons, List.map_cons, List.map_map, List.map_map, List.map_map]
    rfl
theorem zeros_ok {k : Nat} (hk : k < 1000000) : fMul (.l [.d (.int 0)]) (.d (.int (k : Int))) = some (ls (tab k fun _ => 0)) := by
  have e := fMul_n (as := [.int 0]) (k := k) (by show 1 * k ≤ _; omega) hk
  rw [flat0] at e
  exact e
theorem co_app (f g : List Int) (k : Nat) : co (f ++ g) k = if k < f.length then co f k else co g (k - f.length) := by
  unfold co
  by_cases h : k < f.length
  · rw [if_pos h]; simp [List.getD, List.getElem?_append_left h]
  · rw [if_neg h]; simp [List.getD, List.getElem?_append_right (by omega : f.length ≤ k)]
def pad (m : Nat) (f : List Int) : List Int := f ++ tab (m - f.length) fun _ => 0
theorem pad_len {m : Nat} {f : List Int} (h : f.length ≤ m) : (pad m f).length = m := by unfold pad; rw [List.length_append, tab_len]; omega
theorem pad_co (m : Nat) (f : List Int) (k : Nat) : co (pad m f) k = co f k := by
  unfold pad
  rw [co_app]
  by_cases h : k < f.length
  · rw [if_pos h]
  · rw [if_neg h, tab_co, show co f k = 0 from gd0 (by omega)]; split <;> rfl
theorem sum_ok {p : Int} (hp : 0 < p) {f g : List Int} (hf : f.length < 1000) (hg : g.length < 1000) : F_poly_sum [I p, tp f, tp g] = .ok (tp (sumZ p f g)) := by
  refine runP_ret rfl ?_
  show ∃ e, d_poly_sum [.v (I p), .v (tp f), .v (tp g), .n, .n, .n, .n, .n] = _
  unfold d_poly_sum
  have e1 := row_len (x := tp f) (.inl rfl)
  have e2 := row_len (x := tp g) (.inl rfl)
  generalize hm : max f.length g.length = m
  have hmf : f.length ≤ m := by omega
  have hmg : g.length ≤ m := by omega
  refine ret_seq (en1 := [.v (I p), .v (tp f), .v (tp g), .v (I m), .n, .n, .n, .n]) ?_ ?_
  · rw [fSet_ev, lft_n (x := I m) (by simp only [gCall_ev, aCons_ev, aNil_ev, vN_ev, at_succ, at_zero, get_v, R.of_some, R.bind_ok, e1, e2, fMax2_i, max_cast, hm])]; rfl
  have row : ∀ (h : List Int) (o4 : Sl), h.length ≤ m → (g2 fAdd (gCall fList (aCons (vN 5) aNil)) (g2 fMul (gLst (aCons (kI 0) aNil)) (g2 fSub (vN 3) (gCall fLen (aCons (vN 5) aNil))))) [.v (I p), .v (tp f), .v (tp g), .v (I m), o4, .v (tp h), .n, .n] = .ok (ls (pad m h)) := fun h o4 hh => by
    have e3 := row_len (x := tp h) (.inl rfl)
    have e4 := zeros_ok (k := m - h.length) (by omega)
    have e5 : (m : Int) - (h.length : Int) = ((m - h.length : Nat) : Int) := by omega
    have e6 : ([T.d (D.int 0)] : List T).length ≤ most := by decide
    have e7 := fAdd_l (as := h.map D.int) (bs := (tab (m - h.length) fun _ => 0).map D.int) (by rw [List.length_map, List.length_map, tab_len]; unfold most; omega)
    rw [← List.map_append] at e7
    simp only [g2_ev, gCall_ev, aCons_ev, aNil_ev, vN_ev, kI_ev, at_succ, at_zero, get_v, R.of_some, R.bind_ok, fList_ev, dataOf_t, Option.map_some, gLst_ev, mkLst_ev, if_pos e6, e3, fSub_i, e5, e4, e7]
    rfl
  refine ret_seq (en1 := [.v (I p), .v (tp f), .v (tp g), .v (I m), .v (.l [ls (pad m f), ls (pad m g)]), .n, .n, .n]) ?_ ?_
  · have e : (gLc [5] (gIt (gTup (aCons (vN 1) (aCons (vN 2) aNil)))) (kName 5) gYes (g2 fAdd (gCall fList (aCons (vN 5) aNil)) (g2 fMul (gLst (aCons (kI 0) aNil)) (g2 fSub (vN 3) (gCall fLen (aCons (vN 5) aNil)))))) [.v (I p), .v (tp f), .v (tp g), .v (I m), .n, .n, .n, .n] = .ok (.l [ls (pad m f), ls (pad m g)]) := by
      rw [gLc_ev, show gIt (gTup (aCons (vN 1) (aCons (vN 2) aNil))) [.v (I p), .v (tp f), .v (tp g), .v (I m), .n, .n, .n, .n] = .ok [tp f, tp g] from rfl, R.bind_ok, if_pos (show [tp f, tp g].length < most from show 2 < 16777216 by decide)]
      have r1 := row f .n hmf
      have r2 := row g .n hmg
      unfold lcL lcL lcL
      simp only [kName_ev, R.of_some, R.bind_ok, setE_cons, setE_nil, gYes_ev, if_true, mkS_d, wipeE_cons, wipeE_nil, List.set_cons_succ, List.set_cons_zero, r1, r2, calm_ok]
    rw [fSet_ev, lft_n e]; rfl
  refine ret_lft ?_
  have lf := pad_len hmf
  have lg := pad_len hmg
  have ez : gZip (g2 fIx (vN 4) (kI 0)) (g2 fIx (vN 4) (kI 1)) [.v (I p), .v (tp f), .v (tp g), .v (I m), .v (.l [ls (pad m f), ls (pad m g)]), .n, .n, .n] = .ok ((List.range m).map fun i => T.d (.tup [.int (co f i), .int (co g i)])) := by
    have := zipP_tab (pad m f) (pad m g) (by rw [lf, lg])
    rw [lf] at this
    simp only [pad_co] at this
    rw [← this]
    have ei0 : fIx (.l [ls (pad m f), ls (pad m g)]) (.d (.int 0)) = some (ls (pad m f)) := rfl
    have ei1 : fIx (.l [ls (pad m f), ls (pad m g)]) (.d (.int 1)) = some (ls (pad m g)) := rfl
    unfold gZip gPr
    simp only [aCons_ev, aNil_ev, g2_ev, vN_ev, kI_ev, at_succ, at_zero, get_v, R.of_some, R.bind_ok, ei0, ei1]
    have : fZip [ls (pad m f), ls (pad m g)] = some (zipP ((pad m f).map D.int) ((pad m g).map D.int)) := by
      show (if ((true && true) || (false && false)) = true then (allD _).bind fun as => (allD _).map fun bs => zipP as bs else none) = _
      rw [allD_map, allD_map]; rfl
    rw [this]; rfl
  rw [gFn_ev, aCons_ev, gLc_ev, ez, R.bind_ok, if_pos (show ((List.range m).map fun i => T.d (.tup [.int (co f i), .int (co g i)])).length < most by rw [List.length_map, List.length_range]; unfold most; omega)]
  have el := lcL_at (k := kTup 2 (kCons (kName 6) (kCons (kName 7) kNil))) (tt := gYes) (te := g2 fMod (g2 fAdd (vN 6) (vN 7)) (vN 0)) (en := wipeE [.v (I p), .v (tp f), .v (tp g), .v (I m), .v (.l [ls (pad m f), ls (pad m g)]), .n, .n, .n] [6, 7]) (h := fun i => T.d (.tup [.int (co f i), .int (co g i)])) (G := fun i => T.d (.int ((co f i + co g i) % p))) (List.range m) (fun i _ => ⟨[(6, I (co f i)), (7, I (co g i))], rfl, rfl, by
    simp only [wipeE_cons, wipeE_nil, List.set_cons_succ, List.set_cons_zero, setE_cons, setE_nil, mkS_d, g2_ev, vN_ev, at_succ, at_zero, get_v, R.of_some, R.bind_ok, fAdd_i, fMod_i, if_pos hp]⟩)
  rw [el, calm_ok, R.bind_ok, R.bind_ok, aNil_ev, R.bind_ok, R.bind_ok]
  have ef : (.l ((List.range m).map fun i => T.d (.int ((co f i + co g i) % p))) : T) = ls (tab m fun k => (co f k + co g k) % p) := by
    show _ = T.l (((tab m fun k => (co f k + co g k) % p).map D.int).map T.d)
    rw [tab_D, List.map_map]; rfl
  rw [ef, trimmed_ok (.inr rfl) (by rw [tab_len]; omega)]
  unfold sumZ
  rw [hm]
/-! values -/
def ev : List Int → Int → Int
  | [], _ => 0
  | a :: r, x => a + x * ev r x
def Sm (f : List Int) : Prop := ∀ a ∈ f, 0 ≤ a ∧ a < 1000
theorem lv_loop {p x : Int} {y : T} (hx : 0 ≤ x ∧ x < 1000) : ∀ (f : List Int), Sm f → ∀ (c s : Int) (o : Sl), NB o → ∃ o' s', forE (kName 5) (fSeq (fSet 3 (lft (g2 fAdd (vN 3) (g2 fMul (vN 4) (vN 5))))) (fSet 4 (lft (g2 fMul (vN 4) (vN 2))))) ((f.map D.int).map T.d) [.v (I p), .v y, .v (I x), .v (I c), .v (I s), o] = .nx [.v (I p), .v y, .v (I x), .v (I (c + s * ev f x)), s', o']
  | [], _, c, s, o, _ => ⟨o, .v (I s), by show _ = SR.nx [_, _, _, .v (I (c + s * 0)), _, _]; rw [Int.mul_zero, Int.add_zero]; rfl⟩
  | a :: f, h, c, s, o, ho => by
    have ha := h a (List.mem_cons_self ..)
    obtain ⟨o', s', e⟩ := lv_loop (p := p) (y := y) hx f (fun b m => h b (List.mem_cons_of_mem _ m)) (c + s * a) (s * x) (.v (I a)) .v
    refine ⟨o', s', ?_⟩
    have e3 : c + s * ev (a :: f) x = c + s * a + s * x * ev f x := by
      show c + s * (a + x * ev f x) = _
      grind
    rw [e3, ← e, List.map_cons, List.map_cons]
    have e2 : (fSeq (fSet 3 (lft (g2 fAdd (vN 3) (g2 fMul (vN 4) (vN 5))))) (fSet 4 (lft (g2 fMul (vN 4) (vN 2))))) [.v (I p), .v y, .v (I x), .v (I c), .v (I s), .v (I a)] = .nx [.v (I p), .v y, .v (I x), .v (I (c + s * a)), .v (I (s * x)), .v (I a)] := by
      have m1 : MulOk s a := .r (by omega)
      have m2 : MulOk s x := .r (by omega)
      simp [m1, m2]
    show (match (kName 5 (I a)).bind fun as => stows [.v (I p), .v y, .v (I x), .v (I c), .v (I s), o] as with
      | none => SR.no
      | some en1 => match (fSeq (fSet 3 (lft (g2 fAdd (vN 3) (g2 fMul (vN 4) (vN 5))))) (fSet 4 (lft (g2 fMul (vN 4) (vN 2))))) en1 with
        | .nx en2 => forE (kName 5) _ ((f.map D.int).map T.d) en2
        | .ct en2 => forE (kName 5) _ ((f.map D.int).map T.d) en2
        | .brk en2 => .nx en2
        | r => r) = _
    have e1 : stow [.v (I p), .v y, .v (I x), .v (I c), .v (I s), o] 5 (.v (I a)) = some [.v (I p), .v y, .v (I x), .v (I c), .v (I s), .v (I a)] := by simp [ho.s]
    rw [kName_ev, Option.bind_some, stows_cons, show mkS (I a) = .v (I a) from rfl, e1, Option.bind_some, stows_nil]
    simp only [e2]
theorem law_value_ok {p x : Int} (hp : 0 < p) (hx : 0 ≤ x ∧ x < 1000) {f : List Int} (h : Sm f) : F__law_value [I p, tp f, I x] = .ok (I (ev f x % p)) := by
  refine runP_ret rfl ?_
  show ∃ e, d__law_value [.v (I p), .v (tp f), .v (I x), .n, .n, .n] = _
  unfold d__law_value
  obtain ⟨o', s', e⟩ := lv_loop (p := p) (y := tp f) hx f h 0 1 .n .n
  refine ret_seq (en1 := [.v (I p), .v (tp f), .v (I x), .v (I 0), .n, .n]) rfl ?_
  refine ret_seq (en1 := [.v (I p), .v (tp f), .v (I x), .v (I 0), .v (I 1), .n]) rfl ?_
  refine ret_seq e ?_
  refine ret_lft ?_
  simp only [g2_ev, gCall_ev, aCons_ev, aNil_ev, vN_ev, at_succ, at_zero, get_v, R.of_some, R.bind_ok, fInt_i, fMod_i, if_pos hp, Int.zero_add, Int.one_mul]
def hor (p x : Int) (l : List Int) (c : Int) : Int := l.foldl (fun c a => (c * x + a) % p) c
theorem pv_loop {p x : Int} {y : T} (hp : 0 < p) (hx : 0 ≤ x ∧ x < 1000) : ∀ (f : List Int) (c : Int) (o : Sl), NB o → ∃ o', forE (kName 4) (fSet 3 (lft (g2 fMod (g2 fAdd (g2 fMul (vN 3) (vN 2)) (vN 4)) (vN 0)))) ((f.map D.int).map T.d) [.v (I p), .v y, .v (I x), .v (I c), o] = .nx [.v (I p), .v y, .v (I x), .v (I (hor p x f c)), o']
  | [], c, o, _ => ⟨o, rfl⟩
  | a :: f, c, o, ho => by
    obtain ⟨o', e⟩ := pv_loop (y := y) hp hx f ((c * x + a) % p) (.v (I a)) .v
    refine ⟨o', ?_⟩
    rw [show hor p x (a :: f) c = hor p x f ((c * x + a) % p) from rfl, ← e, List.map_cons, List.map_cons]
    have e2 : (fSet 3 (lft (g2 fMod (g2 fAdd (g2 fMul (vN 3) (vN 2)) (vN 4)) (vN 0)))) [.v (I p), .v y, .v (I x), .v (I c), .v (I a)] = .nx [.v (I p), .v y, .v (I x), .v (I ((c * x + a) % p)), .v (I a)] := by
      have m1 : MulOk c x := .r (by omega)
      simp [m1, hp]
    show (match (kName 4 (I a)).bind fun as => stows [.v (I p), .v y, .v (I x), .v (I c), o] as with
      | none => SR.no
      | some en1 => match (fSet 3 (lft (g2 fMod (g2 fAdd (g2 fMul (vN 3) (vN 2)) (vN 4)) (vN 0)))) en1 with
        | .nx en2 => forE (kName 4) _ ((f.map D.int).map T.d) en2
        | .ct en2 => forE (kName 4) _ ((f.map D.int).map T.d) en2
        | .brk en2 => .nx en2
        | r => r) = _
    have e1 : stow [.v (I p), .v y, .v (I x), .v (I c), o] 4 (.v (I a)) = some [.v (I p), .v y, .v (I x), .v (I c), .v (I a)] := by simp [ho.s]
    rw [kName_ev, Option.bind_some, stows_cons, show mkS (I a) = .v (I a) from rfl, e1, Option.bind_some, stows_nil]
    simp only [e2]
theorem hor_ev {p x : Int} : ∀ f : List Int, hor p x f.reverse 0 = ev f x % p
  | [] => by show (0 : Int) = 0 % p; simp
  | a :: f => by
    have ih := hor_ev (p := p) (x := x) f
    unfold hor at ih ⊢
    rw [List.reverse_cons, List.foldl_append, ih]
    show (ev f x % p * x + a) % p = (a + x * ev f x) % p
    obtain ⟨k, e⟩ := dvd_mod (ev f x) p
    rw [e, show (ev f x + p * k) * x + a = (a + x * ev f x) + p * (k * x) by grind, Int.add_mul_emod_self_left]
theorem value_ok {p x : Int} (hp : 0 < p) (hx : 0 ≤ x ∧ x < 1000) {f : List Int} : F_poly_value [I p, tp f, I x] = .ok (I (ev f x % p)) := by
  refine runP_ret rfl ?_
  show ∃ e, d_poly_value [.v (I p), .v (tp f), .v (I x), .n, .n] = _
  unfold d_poly_value
  obtain ⟨o', e⟩ := pv_loop (y := tp f) hp hx f.reverse 0 .n .n
  refine ret_seq (en1 := [.v (I p), .v (tp f), .v (I x), .v (I 0), .n]) rfl ?_
  refine ret_seq (en1 := [.v (I p), .v (tp f), .v (I x), .v (I (ev f x % p)), o']) ?_ ?_
  · rw [hor_ev] at e
    rw [← e]
    show (lft (gIt (g1 fRev (vN 1))) [.v (I p), .v (tp f), .v (I x), .v (I 0), .n]).s _ = _
    have : gIt (g1 fRev (vN 1)) [.v (I p), .v (tp f), .v (I x), .v (I 0), .n] = .ok ((f.reverse.map D.int).map T.d) := by
      rw [List.map_reverse]; rfl
    rw [lft_n this]; rfl
  · exact ⟨_, by rw [fRet_ev, mName_n (d := .int (ev f x % p)) rfl]; rfl⟩
end K01
namespace K01
open PySem PySem.Spec L2 Z
open PyProof.Rows hiding St
/-! products -/
theorem lcL_if {k : T → Option Ass} {tt : En → R Bool} {te : En → R T} {en : En} {h : Nat → T} {G : Nat → T} {c : Nat → Bool} : ∀ (L : List Nat), (∀ i ∈ L, ∃ as, k (h i) = some as ∧ tt (setE en as) = .ok (c i) ∧ (c i = true → te (setE en as) = .ok (G i))) → lcL k tt te en (L.map h) = .ok ((L.filter c).map G)
  | [], _ => rfl
  | i :: L, H => by
    obtain ⟨as, h1, h2, h3⟩ := H i (List.mem_cons_self ..)
    have ih := lcL_if (k := k) (tt := tt) (te := te) (en := en) (h := h) (G := G) (c := c) L fun j m => H j (List.mem_cons_of_mem _ m)
    rw [List.map_cons]
    unfold lcL
    rw [h1, R.of_some, R.bind_ok, h2, R.bind_ok]
    by_cases hc : c i = true
    · rw [if_pos hc, h3 hc, R.bind_ok, ih, R.bind_ok, List.filter_cons_of_pos hc]; rfl
    · rw [if_neg hc, ih, List.filter_cons_of_neg hc]
def cvn (f g : List Int) : Nat → Nat → Int
  | 0, _ => 0
  | n + 1, k => cvn f g n k + if n ≤ k then co f n * co g (k - n) else 0
theorem cvn_sum (f g : List Int) (k : Nat) : ∀ n, (((List.range n).filter fun i => decide (i ≤ k)).map fun i => co f i * co g (k - i)).sum = cvn f g n k
  | 0 => rfl
  | n + 1 => by
    rw [List.range_succ, List.filter_append, List.map_append, List.sum_append, cvn_sum f g k n]
    show _ = cvn f g n k + if n ≤ k then co f n * co g (k - n) else 0
    by_cases h : n ≤ k
    · simp [h]
    · simp [h]
def prZ (p : Int) (f g : List Int) : List Int := tri (tab (f.length + g.length) fun k => cvn f g f.length k % p)
theorem tab_congr {n : Nat} {v w : Nat → Int} (h : ∀ k, k < n → v k = w k) : tab n v = tab n w := List.map_congr_left fun k m => h k (List.mem_range.mp m)
theorem tab_set {n j : Nat} {v : Nat → Int} {z : Int} : (((tab n v).map D.int).map T.d).set j (I z) = ((tab n fun k => if k = j then z else v k).map D.int).map T.d := by
  apply List.ext_getElem?
  intro i
  rw [List.getElem?_set]
  simp only [List.length_map, tab_len, List.getElem?_map]
  unfold tab
  simp only [List.getElem?_map]
  by_cases hi : i < n
  · rw [List.getElem?_range hi]
    by_cases hj : j = i
    · subst hj; simp [hi]
    · have : i ≠ j := fun e => hj e.symm
      simp [hj, this]
  · rw [List.getElem?_eq_none (by simpa using hi)]
    by_cases hj : j = i
    · subst hj; simp [hi]
    · simp [hj]
theorem tab_snoc (n : Nat) (v : Nat → Int) : tab (n + 1) v = tab n v ++ [v n] := by simp [tab, List.range_succ]
theorem co_small {f : List Int} (h : Sm f) (k : Nat) : 0 ≤ co f k ∧ co f k < 1000 := by
  by_cases hk : k < f.length
  · unfold co; rw [gd hk]; exact h _ (List.getElem_mem hk)
  · unfold co; rw [gd0 (by omega)]; omega
def pbody : En → SR := fStore 3 (g2 fAdd (vN 4) (vN 6)) (lft (g2 fMod (g2 fAdd (g2 fIx (vN 3) (g2 fAdd (vN 4) (vN 6))) (g2 fMul (vN 5) (vN 7))) (vN 0)))
theorem store_tab {en : En} {i n j : Nat} {v : Nat → Int} {z k : Int} {gi : En → R T} {m : En → RM T} (hm : m en = .ok (I z) en) (hg : gi en = .ok (I k)) (ho : ownAt en i = some (ls (tab n v))) (hk : k = (j : Int)) (hj : j < n) : fStore i gi m en = .nx (setO en i (ls (tab n fun k => if k = j then z else v k))) := by
  unfold fStore
  rw [hm]
  simp only [RM.s_ok]
  rw [hg]
  simp only [ho]
  have e : ixN (((tab n v).map D.int).map T.d).length k = some j := by
    rw [List.length_map, List.length_map, tab_len, hk]
    unfold L2.ixN
    rw [if_pos (by omega), if_pos (by omega), Int.toNat_natCast]
  rw [e]
  simp only [tab_set]
theorem pbody_ok {p a b : Int} {i j n : Nat} {v : Nat → Int} {x y : T} {hp : 0 < p} (ha : 0 ≤ a ∧ a < 1000) (hij : i + j < n) : pbody [.v (I p), .v x, .v y, .v (ls (tab n v)), .v (I i), .v (I a), .v (I j), .v (I b)] = .nx [.v (I p), .v x, .v y, .v (ls (tab n fun k => if k = i + j then (v (i + j) + a * b) % p else v k)), .v (I i), .v (I a), .v (I j), .v (I b)] := by
  unfold pbody
  have e1 := row_ix (x := ls (tab n v)) (.inr rfl) (i := i + j) (by rw [tab_len]; exact hij)
  have e2 : (tab n v).getD (i + j) 0 = v (i + j) := by
    have := tab_co n v (i + j)
    rw [if_pos hij] at this; exact this
  have e3 : ((i + j : Nat) : Int) = (i : Int) + (j : Int) := by omega
  rw [e2, e3] at e1
  have m1 : MulOk a b := small_ok (by omega) (by omega)
  rw [store_tab (j := i + j) (n := n) (v := v) (z := (v (i + j) + a * b) % p) (k := (i : Int) + (j : Int)) (lft_n (by
    simp only [g2_ev, vN_ev, at_succ, at_zero, get_v, R.of_some, R.bind_ok, fAdd_i, e1, fMul_i, if_pos m1, fMod_i, if_pos hp])) (by simp only [g2_ev, vN_ev, at_succ, at_zero, get_v, R.of_some, R.bind_ok, fAdd_i]) rfl e3.symm hij]
  rfl
theorem stow2 {en : En} {i j : Nat} {x y : D} {en1 en2 : En} (h1 : stow en i (.v (.d x)) = some en1) (h2 : stow en1 j (.v (.d y)) = some en2) : stows en [(i, .d x), (j, .d y)] = some en2 := by
  rw [stows_cons, mkS_d, h1, Option.bind_some, stows_cons, mkS_d, h2, Option.bind_some, stows_nil]
theorem inner_ok {p a : Int} {f g : List Int} {i n : Nat} {v : Nat → Int} (hp : 0 < p) (ha : 0 ≤ a ∧ a < 1000) (hn : i + g.length ≤ n) (hg : g.length < 1000) {o6 o7 : Sl} (h6 : NB o6) (h7 : NB o7) :
    ∃ o6' o7', NB o6' ∧ NB o7' ∧ fForE (kTup 2 (kCons (kName 6) (kCons (kName 7) kNil))) 2 pbody [.v (I p), .v (tp f), .v (tp g), .v (ls (tab n v)), .v (I i), .v (I a), o6, o7] = .nx [.v (I p), .v (tp f), .v (tp g), .v (ls (tab n fun k => if i ≤ k ∧ k < i + g.length then (v k + a * co g (k - i)) % p else v k)), .v (I i), .v (I a), o6', o7'] := by
  obtain ⟨en', h1, o6', o7', q6, q7, rfl⟩ := forE_ix (k := kTup 2 (kCons (kName 6) (kCons (kName 7) kNil))) (f := pbody) (enumP 0 (g.map D.int)) (fun j en => ∃ o6' o7' : Sl, NB o6' ∧ NB o7' ∧ en = [.v (I p), .v (tp f), .v (tp g), .v (ls (tab n fun k => if i ≤ k ∧ k < i + j then (v k + a * co g (k - i)) % p else v k)), .v (I i), .v (I a), o6', o7']) 0 (fun j hj en q => by
    rw [Nat.zero_add] at q ⊢
    obtain ⟨o6, o7, h6, h7, rfl⟩ := q
    rw [enumP_len, List.length_map] at hj
    have ex : (enumP 0 (g.map D.int))[j]'(by rw [enumP_len, List.length_map]; exact hj) = T.d (.tup [.int (j : Nat), .int (co g j)]) := by
      have := enumP_get 0 (g.map D.int) j (.int (co g j)) (by rw [List.getElem?_map, List.getElem?_eq_getElem hj]; unfold co; rw [gd hj]; rfl)
      rw [List.getElem?_eq_getElem (by rw [enumP_len, List.length_map]; exact hj), Nat.zero_add] at this
      injection this
    rw [ex]
    refine ⟨[(6, I j), (7, I (co g j))], _, _, rfl, stow2 (en1 := [.v (I p), .v (tp f), .v (tp g), .v (ls (tab n fun k => if i ≤ k ∧ k < i + j then (v k + a * co g (k - i)) % p else v k)), .v (I i), .v (I a), .v (I j), o7]) (by simp [h6.s]) (en2 := [.v (I p), .v (tp f), .v (tp g), .v (ls (tab n fun k => if i ≤ k ∧ k < i + j then (v k + a * co g (k - i)) % p else v k)), .v (I i), .v (I a), .v (I j), .v (I (co g j))]) (by simp [h7.s]), .inl (pbody_ok (hp := hp) ha (by omega)), .v (I j), .v (I (co g j)), .v, .v, ?_⟩
    refine congrArg (fun z => [Sl.v (I p), .v (tp f), .v (tp g), .v (ls z), .v (I i), .v (I a), .v (I j), .v (I (co g j))]) (tab_congr fun k hk => ?_)
    by_cases e : k = i + j
    · subst e
      rw [if_pos rfl, if_neg (by omega), if_pos (by omega), show i + j - i = j by omega]
    · rw [if_neg e]
      by_cases e2 : i ≤ k ∧ k < i + j
      · rw [if_pos e2, if_pos (by omega)]
      · rw [if_neg e2, if_neg (by omega)]) [.v (I p), .v (tp f), .v (tp g), .v (ls (tab n v)), .v (I i), .v (I a), o6, o7] ⟨o6, o7, h6, h7, by
    refine congrArg (fun z => [Sl.v (I p), .v (tp f), .v (tp g), .v (ls z), .v (I i), .v (I a), o6, o7]) (tab_congr fun k hk => ?_)
    rw [if_neg (by omega)]⟩
  rw [enumP_len, List.length_map, Nat.zero_add] at h1
  refine ⟨o6', o7', q6, q7, ?_⟩
  rw [← h1]
  rfl
theorem product_ok {p : Int} (hp : 0 < p) {f g : List Int} (hf : f.length < 1000) (hg : g.length < 1000) (sf : Sm f) : F_poly_product [I p, tp f, tp g] = .ok (tp (prZ p f g)) := by
  refine runP_ret rfl ?_
  show ∃ e, d_poly_product [.v (I p), .v (tp f), .v (tp g), .n, .n, .n, .n, .n] = _
  unfold d_poly_product
  have e1 := row_len (x := tp f) (.inl rfl)
  have e2 := row_len (x := tp g) (.inl rfl)
  have e3 : (f.length : Int) + (g.length : Int) = ((f.length + g.length : Nat) : Int) := by omega
  have e6 : ([T.d (D.int 0)] : List T).length ≤ most := by decide
  refine ret_seq (en1 := [.v (I p), .v (tp f), .v (tp g), .v (ls (tab (f.length + g.length) fun k => cvn f g 0 k % p)), .n, .n, .n, .n]) ?_ ?_
  · have e4 := zeros_ok (k := f.length + g.length) (by omega)
    rw [fSet_ev, lft_n (x := ls (tab (f.length + g.length) fun k => cvn f g 0 k % p)) (by
      simp only [g2_ev, gCall_ev, aCons_ev, aNil_ev, vN_ev, kI_ev, at_succ, at_zero, get_v, R.of_some, R.bind_ok, gLst_ev, mkLst_ev, if_pos e6, e1, e2, fAdd_i, e3, e4]
      rw [tab_congr (w := fun k => cvn f g 0 k % p) fun k _ => by show (0 : Int) = 0 % p; simp])]
    rfl
  obtain ⟨en', h1, o4, o5, o6, o7, q4, q5, q6, q7, rfl⟩ := forE_ix (k := kTup 2 (kCons (kName 4) (kCons (kName 5) kNil))) (f := fForE (kTup 2 (kCons (kName 6) (kCons (kName 7) kNil))) 2 pbody) (enumP 0 (f.map D.int)) (fun i en => ∃ o4 o5 o6 o7 : Sl, NB o4 ∧ NB o5 ∧ NB o6 ∧ NB o7 ∧ en = [.v (I p), .v (tp f), .v (tp g), .v (ls (tab (f.length + g.length) fun k => cvn f g i k % p)), o4, o5, o6, o7]) 0 (fun i hi en q => by
    rw [Nat.zero_add] at q ⊢
    obtain ⟨o4, o5, o6, o7, h4, h5, h6, h7, rfl⟩ := q
    rw [enumP_len, List.length_map] at hi
    have ex : (enumP 0 (f.map D.int))[i]'(by rw [enumP_len, List.length_map]; exact hi) = T.d (.tup [.int (i : Nat), .int (co f i)]) := by
      have := enumP_get 0 (f.map D.int) i (.int (co f i)) (by rw [List.getElem?_map, List.getElem?_eq_getElem hi]; unfold co; rw [gd hi]; rfl)
      rw [List.getElem?_eq_getElem (by rw [enumP_len, List.length_map]; exact hi), Nat.zero_add] at this
      injection this
    rw [ex]
    obtain ⟨o6', o7', q6, q7, e⟩ := inner_ok (p := p) (a := co f i) (f := f) (g := g) (i := i) (n := f.length + g.length) (v := fun k => cvn f g i k % p) hp (co_small sf i) (by omega) hg h6 h7
    refine ⟨[(4, I i), (5, I (co f i))], _, _, rfl, stow2 (en1 := [.v (I p), .v (tp f), .v (tp g), .v (ls (tab (f.length + g.length) fun k => cvn f g i k % p)), .v (I i), o5, o6, o7]) (by simp [h4.s]) (en2 := [.v (I p), .v (tp f), .v (tp g), .v (ls (tab (f.length + g.length) fun k => cvn f g i k % p)), .v (I i), .v (I (co f i)), o6, o7]) (by simp [h5.s]), .inl e, .v (I i), .v (I (co f i)), o6', o7', .v, .v, q6, q7, ?_⟩
    refine congrArg (fun z => [Sl.v (I p), .v (tp f), .v (tp g), .v (ls z), .v (I i), .v (I (co f i)), o6', o7']) (tab_congr fun k hk => ?_)
    show (if i ≤ k ∧ k < i + g.length then (cvn f g i k % p + co f i * co g (k - i)) % p else cvn f g i k % p) = (cvn f g i k + if i ≤ k then co f i * co g (k - i) else 0) % p
    by_cases hik : i ≤ k
    · rw [if_pos hik]
      by_cases hk2 : k < i + g.length
      · rw [if_pos ⟨hik, hk2⟩, Int.emod_add_emod]
      · rw [if_neg (by omega), show co g (k - i) = 0 from gd0 (by omega), Int.mul_zero, Int.add_zero]
    · rw [if_neg (by omega), if_neg hik, Int.add_zero]) [.v (I p), .v (tp f), .v (tp g), .v (ls (tab (f.length + g.length) fun k => cvn f g 0 k % p)), .n, .n, .n, .n] ⟨.n, .n, .n, .n, .n, .n, .n, .n, rfl⟩
  rw [enumP_len, List.length_map, Nat.zero_add] at h1
  refine ret_seq (en1 := [.v (I p), .v (tp f), .v (tp g), .v (ls (tab (f.length + g.length) fun k => cvn f g f.length k % p)), o4, o5, o6, o7]) ?_ ?_
  · rw [← h1]; rfl
  refine ret_lft ?_
  rw [gFn_ev, aCons_ev]
  simp only [vN_ev, at_succ, at_zero, get_v, R.of_some, R.bind_ok, aNil_ev]
  exact trimmed_ok (.inr rfl) (by rw [tab_len]; omega)
def qbody : En → SR := (fExpr (mApp 3 (lft (g2 fMod (gCall fInt (aCons (gCall fSum (aCons (gLc [5] (gR1 (gCall fLen (aCons (vN 1) aNil))) (kName 5) (gT (g2 fLe (vN 5) (vN 4))) (g2 fMul (g2 fIx (vN 1) (vN 5)) (gFn F__law_number (aCons (vN 2) (aCons (g2 fSub (vN 4) (vN 5)) aNil))))) aNil)) aNil)) (vN 0)))))
theorem qbody_ok {p : Int} (hp : 0 < p) {f g : List Int} (hf : f.length < 1000) (sf : Sm f) {n k : Nat} (hn : n < 10000) {v : Nat → Int} : qbody [.v (I p), .v (tp f), .v (tp g), .v (ls (tab n v)), .v (I k), .n] = .nx [.v (I p), .v (tp f), .v (tp g), .v (ls (tab n v ++ [cvn f g f.length k % p])), .v (I k), .n] := by
  unfold qbody
  have e1 := row_len (x := tp f) (.inl rfl)
  have er := gR1_n (g := gCall fLen (aCons (vN 1) aNil)) (en := [.v (I p), .v (tp f), .v (tp g), .v (ls (tab n v)), .v (I k), .n]) (z := f.length) (by simp only [gCall_ev, aCons_ev, aNil_ev, vN_ev, at_succ, at_zero, get_v, R.of_some, R.bind_ok, e1]) (by omega) (by omega)
  rw [Int.toNat_natCast] at er
  have el := lcL_if (k := kName 5) (tt := gT (g2 fLe (vN 5) (vN 4))) (te := g2 fMul (g2 fIx (vN 1) (vN 5)) (gFn F__law_number (aCons (vN 2) (aCons (g2 fSub (vN 4) (vN 5)) aNil)))) (en := wipeE [.v (I p), .v (tp f), .v (tp g), .v (ls (tab n v)), .v (I k), .n] [5]) (h := fun i => T.d (.int (0 + (i : Nat) * 1))) (G := fun i => T.d (.int (co f i * co g (k - i)))) (c := fun i => decide (i ≤ k)) (List.range f.length) (fun i hi => by
    have hi := List.mem_range.mp hi
    have ez : (0 : Int) + (i : Nat) * 1 = (i : Int) := by omega
    rw [ez]
    refine ⟨[(5, I i)], rfl, ?_, fun hc => ?_⟩
    · have hd : decide ((i : Int) ≤ (k : Int)) = decide (i ≤ k) := by
        by_cases h : i ≤ k
        · rw [decide_eq_true h, decide_eq_true (by omega)]
        · rw [decide_eq_false h, decide_eq_false (by omega)]
      simp only [wipeE_cons, wipeE_nil, List.set_cons_succ, List.set_cons_zero, setE_cons, setE_nil, mkS_d, gT_ev, g2_ev, vN_ev, at_succ, at_zero, get_v, R.of_some, R.bind_ok, fLe_i, tst_b, hd]
    · have hik : i ≤ k := of_decide_eq_true hc
      have e2 := row_ix (x := tp f) (.inl rfl) hi
      have e3 : (k : Int) - (i : Int) = ((k - i : Nat) : Int) := by omega
      have e4 := number_ok (f := g) (k := k - i)
      have c1 := co_small sf i
      have m1 : MulOk (co f i) (co g (k - i)) := small_ok (by omega) (by omega)
      have e2' : fIx (tp f) (I i) = some (I (co f i)) := e2
      simp only [wipeE_cons, wipeE_nil, List.set_cons_succ, List.set_cons_zero, setE_cons, setE_nil, mkS_d, g2_ev, gFn_ev, aCons_ev, aNil_ev, vN_ev, at_succ, at_zero, get_v, R.of_some, R.bind_ok, e2', fSub_i, e3, e4, fMul_i, if_pos m1])
  have eg : lft (g2 fMod (gCall fInt (aCons (gCall fSum (aCons (gLc [5] (gR1 (gCall fLen (aCons (vN 1) aNil))) (kName 5) (gT (g2 fLe (vN 5) (vN 4))) (g2 fMul (g2 fIx (vN 1) (vN 5)) (gFn F__law_number (aCons (vN 2) (aCons (g2 fSub (vN 4) (vN 5)) aNil))))) aNil)) aNil)) (vN 0)) [.v (I p), .v (tp f), .v (tp g), .v (ls (tab n v)), .v (I k), .n] = .ok (I (cvn f g f.length k % p)) [.v (I p), .v (tp f), .v (tp g), .v (ls (tab n v)), .v (I k), .n] := by
    refine lft_n ?_
    rw [g2_ev, gCall_ev, aCons_ev, gCall_ev, aCons_ev, gLc_ev, er, R.bind_ok, if_pos (show (rng 0 1 f.length).length < most by rw [rng_len]; unfold most; omega)]
    unfold rng
    rw [el, calm_ok, R.bind_ok, R.bind_ok]
    have ea : allD (((List.range f.length).filter fun i => decide (i ≤ k)).map fun i => T.d (.int (co f i * co g (k - i)))) = some ((((List.range f.length).filter fun i => decide (i ≤ k)).map fun i => co f i * co g (k - i)).map D.int) := by
      rw [← allD_map (((((List.range f.length).filter fun i => decide (i ≤ k)).map fun i => co f i * co g (k - i)).map D.int)), List.map_map, List.map_map]; rfl
    simp only [aNil_ev, R.bind_ok, R.of_some, fSum_ev, lstOf_l, ea, Option.bind_some, asInts_map, Option.map_some, fInt_i, vN_ev, at_zero, get_v, fMod_i, if_pos hp, cvn_sum]
  rw [fExpr_ev]
  unfold mApp
  rw [eg]
  have hl : (((tab n v).map D.int).map T.d).length < most := by rw [List.length_map, List.length_map, tab_len]; unfold most; omega
  have ea2 : (((tab n v).map D.int).map T.d) ++ [I (cvn f g f.length k % p)] = (((tab n v ++ [cvn f g f.length k % p]).map D.int).map T.d) := by rw [List.map_append, List.map_append]; rfl
  simp only [own_succ, own_v0, RM.bind_ok, if_pos hl, RM.s_ok, setO_succ, setO_v0, ea2]
theorem law_product_ok {p : Int} (hp : 0 < p) {f g : List Int} (hf : f.length < 1000) (hg : g.length < 1000) (sf : Sm f) : F__law_product [I p, tp f, tp g] = .ok (tp (prZ p f g)) := by
  refine runP_ret rfl ?_
  show ∃ e, d__law_product [.v (I p), .v (tp f), .v (tp g), .n, .n, .n] = _
  unfold d__law_product
  have e1 := row_len (x := tp f) (.inl rfl)
  have e2 := row_len (x := tp g) (.inl rfl)
  have e3 : (f.length : Int) + (g.length : Int) = ((f.length + g.length : Nat) : Int) := by omega
  refine ret_seq (en1 := [.v (I p), .v (tp f), .v (tp g), .v (.l []), .n, .n]) rfl ?_
  have er := gR1_n (g := g2 fAdd (gCall fLen (aCons (vN 1) aNil)) (gCall fLen (aCons (vN 2) aNil))) (en := [.v (I p), .v (tp f), .v (tp g), .v (.l []), .n, .n]) (z := ((f.length + g.length : Nat) : Int)) (by simp only [g2_ev, gCall_ev, aCons_ev, aNil_ev, vN_ev, at_succ, at_zero, get_v, R.of_some, R.bind_ok, e1, e2, fAdd_i, e3]) (by omega) (by omega)
  rw [Int.toNat_natCast] at er
  obtain ⟨en', h1, hn, o, ho, rfl⟩ := for_ix (v := 4) (f := qbody) (fun i en => i ≤ f.length + g.length ∧ ∃ o : Sl, NB o ∧ en = [.v (I p), .v (tp f), .v (tp g), .v (ls (tab i fun k => cvn f g f.length k % p)), o, .n]) _ (lft_n er) ⟨Nat.zero_le _, .n, .n, rfl⟩ (fun i hi en q => by
    obtain ⟨_, o, ho, rfl⟩ := q
    rw [rng_at hi, show (0 : Int) + (i : Int) = (i : Int) by omega]
    rw [rng_len] at hi
    have e := qbody_ok (g := g) hp hf sf (n := i) (k := i) (by omega) (v := fun k => cvn f g f.length k % p)
    rw [← tab_snoc i fun k => cvn f g f.length k % p] at e
    exact ⟨_, _, by simp [ho.s], .inl e, hi, .v (I i), .v, rfl⟩)
  rw [rng_len] at h1
  refine ret_seq h1 ?_
  refine ret_lft ?_
  rw [gFn_ev, aCons_ev]
  simp only [vN_ev, at_succ, at_zero, get_v, R.of_some, R.bind_ok, aNil_ev]
  exact law_trimmed_ok (.inr rfl) (by rw [tab_len]; omega)
end K01
namespace K01
open PySem PySem.Spec L2 Z
open PyProof.Rows hiding St
/-! rows compared -/
theorem lay_ints : ∀ zs : List Int, PyData.canLayAll0 (D.pys (zs.map D.int)) = true
  | [] => rfl
  | z :: zs => by
    rw [List.map_cons, D.pys]
    unfold PyData.canLayAll0
    rw [lay_ints zs]; rfl
theorem depth_ints : ∀ zs : List Int, PyData.depthAll (D.pys (zs.map D.int)) = 0
  | [] => rfl
  | z :: zs => by
    rw [List.map_cons, D.pys]
    unfold PyData.depthAll
    rw [depth_ints zs]; rfl
theorem eqv_ints : ∀ xs ys : List Int, PyData.eqvAll (D.pys (xs.map D.int)) (D.pys (ys.map D.int)) = decide (xs = ys)
  | [], [] => by simp [D.pys, PyData.eqvAll]
  | [], _ :: _ => by simp [D.pys, PyData.eqvAll]
  | _ :: _, [] => by simp [D.pys, PyData.eqvAll]
  | x :: xs, y :: ys => by
    rw [List.map_cons, List.map_cons, D.pys, D.pys]
    unfold PyData.eqvAll
    rw [eqv_ints xs ys]
    show (PyData.eqv (.int x) (.int y) && _) = _
    rw [eqv_ii]
    by_cases h : x = y <;> by_cases h2 : xs = ys <;> simp [h, h2]
theorem shp_tp (zs : List Int) : shp (T.py (tp zs)) = true := by
  show (PyData.canLay0 (.tuple (D.pys (zs.map D.int))) && decide (PyData.depth (.tuple (D.pys (zs.map D.int))) ≤ 64)) = true
  unfold PyData.canLay0 PyData.depth
  rw [lay_ints, depth_ints]; rfl
theorem eqv_tp (xs ys : List Int) : PyData.eqv (T.py (tp xs)) (T.py (tp ys)) = decide (xs = ys) := by
  show PyData.eqv (.tuple (D.pys (xs.map D.int))) (.tuple (D.pys (ys.map D.int))) = _
  unfold PyData.eqv
  exact eqv_ints xs ys
theorem fEq_tp (xs ys : List Int) : fEq (tp xs) (tp ys) = some (.d (.bl (decide (xs = ys)))) := by
  unfold fEq
  rw [shp_tp, shp_tp, eqv_tp]; rfl
theorem fNe_tp (xs ys : List Int) : fNe (tp xs) (tp ys) = some (.d (.bl (!decide (xs = ys)))) := by
  unfold fNe
  rw [shp_tp, shp_tp, eqv_tp]; rfl
theorem same_i (n : Nat) (a b : Int) : F__law_same (n + 1) [I a, I b] = .ok (.d (.bl (decide (a = b)))) := by
  show runP 3 2 (d__law_same (F__law_same n)) _ = _
  refine runP_ret rfl ?_
  show ∃ e, d__law_same (F__law_same n) [.v (I a), .v (I b), .n] = _
  unfold d__law_same
  refine ret_if_f rfl ?_
  refine ret_if_f rfl ?_
  refine ret_lft ?_
  have e : F__law_is_int [.d (.int a)] = .ok (.d (.bl true)) := rfl
  simp only [gPur_ev, gAndV_ev, gFn_ev, aCons_ev, aNil_ev, vN_ev, at_succ, at_zero, get_v, R.of_some, R.bind_ok, e, tru_b, if_true, g2_ev, fEq_i, R.pur_d]
theorem same_tp (n : Nat) {zs : List Int} (hl : zs.length < 1000) : F__law_same (n + 2) [tp zs, tp zs] = .ok (.d (.bl true)) := by
  show runP 3 2 (d__law_same (F__law_same (n + 1))) _ = _
  refine runP_ret rfl ?_
  show ∃ e, d__law_same (F__law_same (n + 1)) [.v (tp zs), .v (tp zs), .n] = _
  unfold d__law_same
  have e1 := row_len (x := tp zs) (.inl rfl)
  have er := gR1_n (g := gCall fLen (aCons (vN 1) aNil)) (en := [.v (tp zs), .v (tp zs), .n]) (z := zs.length) (by simp only [gCall_ev, aCons_ev, aNil_ev, vN_ev, at_succ, at_zero, get_v, R.of_some, R.bind_ok, e1]) (by omega) (by omega)
  rw [Int.toNat_natCast] at er
  have el := lc_rng (vs := [2]) (v := 2) (gs := gR1 (gCall fLen (aCons (vN 1) aNil))) (te := gFn (F__law_same (n + 1)) (aCons (g2 fIx (vN 0) (vN 2)) (aCons (g2 fIx (vN 1) (vN 2)) aNil))) (en := [.v (tp zs), .v (tp zs), .n]) (a := 0) (n := zs.length) (G := fun i => D.bl true) er (by omega) (fun i hi => by
    rw [show (0 : Int) + (i : Int) = (i : Int) by omega]
    have e2 := row_ix (x := tp zs) (.inl rfl) hi
    have e3 := same_i n (zs.getD i 0) (zs.getD i 0)
    rw [decide_eq_true rfl] at e3
    simp only [wipeE_cons, wipeE_nil, List.set_cons_succ, List.set_cons_zero, gFn_ev, aCons_ev, aNil_ev, g2_ev, vN_ev, at_succ, at_zero, get_v, R.of_some, R.bind_ok, e2, e3])
  have eb : asBls ((List.range zs.length).map fun _ => D.bl true) = some ((List.range zs.length).map fun _ => true) := by
    rw [← asBls_map ((List.range zs.length).map fun _ => true), List.map_map]; rfl
  refine ⟨[.v (tp zs), .v (tp zs), .n], ?_⟩
  rw [fSeq_ev, fIf_t rfl, fSeq_ev, fIf_f (by simp only [gOr_ev, gNot_ev, gTru_ev, gIsi_ev, gT_ev, g2_ev, gCall_ev, aCons_ev, aNil_ev, vN_ev, at_succ, at_zero, get_v, R.of_some, R.bind_ok, isTup, tru_b, Bool.not_true, Bool.false_eq_true, if_false, e1, fNe_i, tst_b, decide_true]), fNil_ev, sq_nx, fRet_ev]
  have : gCall fAll (aCons (gLc [2] (gR1 (gCall fLen (aCons (vN 1) aNil))) (kName 2) gYes (gFn (F__law_same (n + 1)) (aCons (g2 fIx (vN 0) (vN 2)) (aCons (g2 fIx (vN 1) (vN 2)) aNil)))) aNil) [.v (tp zs), .v (tp zs), .n] = .ok (.d (.bl true)) := by
    rw [gCall_ev, aCons_ev, el]
    have ea : ((List.range zs.length).map fun _ => true).all id = true := by simp
    simp only [R.bind_ok, aNil_ev, R.of_some, fAll_ev, lstOf_l, allD_map, Option.bind_some, eb, Option.map_some, ea]
  rw [lft_n this]; rfl
/-! division -/
def cvF (a : Nat → Int) (g : List Int) : Nat → Nat → Int
  | 0, _ => 0
  | n + 1, k => cvF a g n k + if n ≤ k then a n * co g (k - n) else 0
theorem cvn_F (f g : List Int) : ∀ n k, cvn f g n k = cvF (co f) g n k
  | 0, _ => rfl
  | n + 1, k => by
    show cvn f g n k + _ = cvF (co f) g n k + _
    rw [cvn_F f g n k]
theorem cvF_congr {a b : Nat → Int} {g : List Int} : ∀ {n : Nat} {k : Nat}, (∀ i, i < n → a i = b i) → cvF a g n k = cvF b g n k
  | 0, _, _ => rfl
  | n + 1, k, h => by
    show cvF a g n k + _ = cvF b g n k + _
    rw [cvF_congr (fun i hi => h i (Nat.lt_succ_of_lt hi)), h n (Nat.lt_succ_self n)]
theorem cvF_more {a : Nat → Int} {g : List Int} {n k : Nat} (h : ∀ i, n ≤ i → a i = 0) : ∀ m, cvF a g (n + m) k = cvF a g n k
  | 0 => rfl
  | m + 1 => by
    show cvF a g (n + m) k + (if n + m ≤ k then a (n + m) * co g (k - (n + m)) else 0) = _
    rw [cvF_more h m, h (n + m) (by omega)]
    simp
/-- one number of the quotient more -/
theorem cvF_one {a : Nat → Int} {g : List Int} {at0 : Nat} {z : Int} (h : a at0 = 0) (k : Nat) : ∀ n, cvF (fun i => if i = at0 then z else a i) g n k = cvF a g n k + (if at0 < n ∧ at0 ≤ k then z * co g (k - at0) else 0)
  | 0 => by simp [cvF]
  | n + 1 => by
    show cvF (fun i => if i = at0 then z else a i) g n k + (if n ≤ k then (if n = at0 then z else a n) * co g (k - n) else 0) = cvF a g n k + (if n ≤ k then a n * co g (k - n) else 0) + _
    rw [cvF_one h k n]
    by_cases e : n = at0
    · subst e
      rw [h]
      by_cases hk : n ≤ k
      · simp [hk]
      · simp [hk]
    · rw [if_neg e]
      have hc : (at0 < n + 1 ∧ at0 ≤ k) ↔ (at0 < n ∧ at0 ≤ k) := by omega
      simp only [hc]
      exact Int.add_right_comm ..
def dbody : En → SR := (fStore 3 (g2 fAdd (vN 6) (vN 8)) (lft (g2 fMod (g2 fSub (g2 fIx (vN 3) (g2 fAdd (vN 6) (vN 8))) (g2 fMul (vN 7) (vN 9))) (vN 0))))
theorem dbody_ok {p z b : Int} {i j n : Nat} {v : Nat → Int} {x y : T} {q o5 : Sl} (hp : 0 < p) (hz : 0 ≤ z ∧ z < 1000) (hij : i + j < n) : dbody [.v (I p), .v x, .v y, .v (ls (tab n v)), q, o5, .v (I i), .v (I z), .v (I j), .v (I b)] = .nx [.v (I p), .v x, .v y, .v (ls (tab n fun k => if k = i + j then (v (i + j) - z * b) % p else v k)), q, o5, .v (I i), .v (I z), .v (I j), .v (I b)] := by
  unfold dbody
  have e1 := row_ix (x := ls (tab n v)) (.inr rfl) (i := i + j) (by rw [tab_len]; exact hij)
  have e2 : (tab n v).getD (i + j) 0 = v (i + j) := by
    have := tab_co n v (i + j)
    rw [if_pos hij] at this; exact this
  have e3 : ((i + j : Nat) : Int) = (i : Int) + (j : Int) := by omega
  rw [e2, e3] at e1
  have m1 : MulOk z b := small_ok (by omega) (by omega)
  rw [store_tab (j := i + j) (n := n) (v := v) (z := (v (i + j) - z * b) % p) (k := (i : Int) + (j : Int)) (lft_n (by
    simp only [g2_ev, vN_ev, at_succ, at_zero, get_v, R.of_some, R.bind_ok, fAdd_i, e1, fMul_i, if_pos m1, fSub_i, fMod_i, if_pos hp])) (by simp only [g2_ev, vN_ev, at_succ, at_zero, get_v, R.of_some, R.bind_ok, fAdd_i]) rfl e3.symm hij]
  rfl
theorem dinner_ok {p z : Int} {x : T} {g : List Int} {i n : Nat} {v : Nat → Int} {q o5 : Sl} (hp : 0 < p) (hz : 0 ≤ z ∧ z < 1000) (hn : i + g.length ≤ n) (hg : g.length < 1000) {o6 o7 : Sl} (h6 : NB o6) (h7 : NB o7) :
    ∃ o6' o7', NB o6' ∧ NB o7' ∧ fForE (kTup 2 (kCons (kName 8) (kCons (kName 9) kNil))) 2 dbody [.v (I p), .v x, .v (tp g), .v (ls (tab n v)), q, o5, .v (I i), .v (I z), o6, o7] = .nx [.v (I p), .v x, .v (tp g), .v (ls (tab n fun k => if i ≤ k ∧ k < i + g.length then (v k - z * co g (k - i)) % p else v k)), q, o5, .v (I i), .v (I z), o6', o7'] := by
  obtain ⟨en', h1, o6', o7', q6, q7, rfl⟩ := forE_ix (k := kTup 2 (kCons (kName 8) (kCons (kName 9) kNil))) (f := dbody) (enumP 0 (g.map D.int)) (fun j en => ∃ o6' o7' : Sl, NB o6' ∧ NB o7' ∧ en = [.v (I p), .v x, .v (tp g), .v (ls (tab n fun k => if i ≤ k ∧ k < i + j then (v k - z * co g (k - i)) % p else v k)), q, o5, .v (I i), .v (I z), o6', o7']) 0 (fun j hj en qq => by
    rw [Nat.zero_add] at qq ⊢
    obtain ⟨o6, o7, h6, h7, rfl⟩ := qq
    rw [enumP_len, List.length_map] at hj
    have ex : (enumP 0 (g.map D.int))[j]'(by rw [enumP_len, List.length_map]; exact hj) = T.d (.tup [.int (j : Nat), .int (co g j)]) := by
      have := enumP_get 0 (g.map D.int) j (.int (co g j)) (by rw [List.getElem?_map, List.getElem?_eq_getElem hj]; unfold co; rw [gd hj]; rfl)
      rw [List.getElem?_eq_getElem (by rw [enumP_len, List.length_map]; exact hj), Nat.zero_add] at this
      injection this
    rw [ex]
    refine ⟨[(8, I j), (9, I (co g j))], _, _, rfl, stow2 (en1 := [.v (I p), .v x, .v (tp g), .v (ls (tab n fun k => if i ≤ k ∧ k < i + j then (v k - z * co g (k - i)) % p else v k)), q, o5, .v (I i), .v (I z), .v (I j), o7]) (by simp [h6.s]) (en2 := [.v (I p), .v x, .v (tp g), .v (ls (tab n fun k => if i ≤ k ∧ k < i + j then (v k - z * co g (k - i)) % p else v k)), q, o5, .v (I i), .v (I z), .v (I j), .v (I (co g j))]) (by simp [h7.s]), .inl (dbody_ok hp hz (by omega)), .v (I j), .v (I (co g j)), .v, .v, ?_⟩
    refine congrArg (fun y => [Sl.v (I p), .v x, .v (tp g), .v (ls y), q, o5, .v (I i), .v (I z), .v (I j), .v (I (co g j))]) (tab_congr fun k hk => ?_)
    by_cases e : k = i + j
    · subst e
      rw [if_pos rfl, if_neg (by omega), if_pos (by omega), show i + j - i = j by omega]
    · rw [if_neg e]
      by_cases e2 : i ≤ k ∧ k < i + j
      · rw [if_pos e2, if_pos (by omega)]
      · rw [if_neg e2, if_neg (by omega)]) [.v (I p), .v x, .v (tp g), .v (ls (tab n v)), q, o5, .v (I i), .v (I z), o6, o7] ⟨o6, o7, h6, h7, by
    refine congrArg (fun y => [Sl.v (I p), .v x, .v (tp g), .v (ls y), q, o5, .v (I i), .v (I z), o6, o7]) (tab_congr fun k hk => ?_)
    rw [if_neg (by omega)]⟩
  rw [enumP_len, List.length_map, Nat.zero_add] at h1
  refine ⟨o6', o7', q6, q7, ?_⟩
  rw [← h1]
  rfl
def ebody : En → SR := (fSeq (fSet 7 (lft (g2 fMod (g2 fMul (g2 fIx (vN 3) (g2 fSub (g2 fAdd (vN 6) (gCall fLen (aCons (vN 2) aNil))) (kI 1))) (vN 5)) (vN 0))))
  (fSeq (fStore 4 (vN 6) (mName 7))
  (fForE (kTup 2 (kCons (kName 8) (kCons (kName 9) kNil))) 2 dbody)))
/-- the steps of a division -/
structure Dv (p : Int) (f g : List Int) (d : Nat) (i : Nat) (q r : Nat → Int) : Prop where
  qz : ∀ k, k < d + 1 - i → q k = 0
  qr : ∀ k, 0 ≤ q k ∧ q k < p
  qe : ∀ k, d < k → q k = 0
  rr : ∀ k, k < f.length → 0 ≤ r k ∧ r k < p
  rz : ∀ k, f.length - i ≤ k → r k = 0
  eq : ∀ k, k < f.length → ∃ c, co f k = cvF q g (d + 1) k + r k + p * c
theorem ebody_ok {p t : Int} {f g : List Int} {d i : Nat} {q r : Nat → Int} (hp : 1 < p) (hp2 : p < 1000) (hd : d + g.length = f.length) (hg0 : 0 < g.length) (hf : f.length < 1000) (hi : i < d + 1) (ht : ∃ c, co g (g.length - 1) * t = 1 + p * c) (D0 : Dv p f g d i q r) {o7 o8 o9 : Sl} (h7 : NB o7) (h8 : NB o8) (h9 : NB o9) :
    ∃ q' r' o7' o8' o9', NB o7' ∧ NB o8' ∧ NB o9' ∧ Dv p f g d (i + 1) q' r' ∧ ebody [.v (I p), .v (tp f), .v (tp g), .v (ls (tab f.length r)), .v (ls (tab (d + 1) q)), .v (I t), .v (I ((d - i : Nat) : Int)), o7, o8, o9] = .nx [.v (I p), .v (tp f), .v (tp g), .v (ls (tab f.length r')), .v (ls (tab (d + 1) q')), .v (I t), .v (I ((d - i : Nat) : Int)), o7', o8', o9'] := by
  have hp0 : 0 < p := by omega
  generalize hat : d - i = at0
  have hat2 : at0 + i = d := by omega
  have e1 := row_len (x := tp g) (.inl rfl)
  have hk : at0 + g.length - 1 < f.length := by omega
  have e2 := row_ix (x := ls (tab f.length r)) (.inr rfl) (i := at0 + g.length - 1) (by rw [tab_len]; exact hk)
  have e3 : (tab f.length r).getD (at0 + g.length - 1) 0 = r (at0 + g.length - 1) := by
    have := tab_co f.length r (at0 + g.length - 1)
    rw [if_pos hk] at this; exact this
  have e4 : ((at0 + g.length - 1 : Nat) : Int) = (at0 : Int) + (g.length : Int) - 1 := by omega
  rw [e3, e4] at e2
  have rk := D0.rr _ hk
  have m1 : MulOk (r (at0 + g.length - 1)) t := small_ok (by omega) (by omega)
  generalize hz : r (at0 + g.length - 1) * t % p = z
  have hzr : 0 ≤ z ∧ z < p := by rw [← hz]; exact mod_range _ hp0
  obtain ⟨o8', o9', n8, n9, e9⟩ := dinner_ok (p := p) (z := z) (x := tp f) (g := g) (i := at0) (n := f.length) (v := r) (q := .v (ls (tab (d + 1) fun k => if k = at0 then z else q k))) (o5 := .v (I t)) hp0 (by omega) (by omega) (by omega) h8 h9
  refine ⟨fun k => if k = at0 then z else q k, fun k => if at0 ≤ k ∧ k < at0 + g.length then (r k - z * co g (k - at0)) % p else r k, .v (I z), o8', o9', .v, n8, n9, ⟨fun k hk => ?_, fun k => ?_, fun k hk => ?_, fun k hk => ?_, fun k hk => ?_, fun k hk => ?_⟩, ?_⟩
  · show (if k = at0 then z else q k) = 0
    rw [if_neg (by omega)]; exact D0.qz k (by omega)
  · show 0 ≤ (if k = at0 then z else q k) ∧ (if k = at0 then z else q k) < p
    by_cases e : k = at0
    · rw [if_pos e]; exact hzr
    · rw [if_neg e]; exact D0.qr k
  · show (if k = at0 then z else q k) = 0
    rw [if_neg (by omega)]; exact D0.qe k hk
  · show 0 ≤ (if at0 ≤ k ∧ k < at0 + g.length then (r k - z * co g (k - at0)) % p else r k) ∧ (if at0 ≤ k ∧ k < at0 + g.length then (r k - z * co g (k - at0)) % p else r k) < p
    by_cases e : at0 ≤ k ∧ k < at0 + g.length
    · rw [if_pos e]; exact mod_range _ hp0
    · rw [if_neg e]; exact D0.rr k hk
  · show (if at0 ≤ k ∧ k < at0 + g.length then (r k - z * co g (k - at0)) % p else r k) = 0
    by_cases e : at0 ≤ k ∧ k < at0 + g.length
    · have ek : k = at0 + g.length - 1 := by omega
      rw [if_pos e, ek, show at0 + g.length - 1 - at0 = g.length - 1 by omega]
      obtain ⟨c, hc⟩ := ht
      obtain ⟨c2, hc2⟩ := dvd_mod (r (at0 + g.length - 1) * t) p
      rw [hz] at hc2
      rw [hc2, show r (at0 + g.length - 1) - (r (at0 + g.length - 1) * t + p * c2) * co g (g.length - 1) = r (at0 + g.length - 1) - r (at0 + g.length - 1) * (co g (g.length - 1) * t) - p * (c2 * co g (g.length - 1)) by grind, hc, show r (at0 + g.length - 1) - r (at0 + g.length - 1) * (1 + p * c) - p * (c2 * co g (g.length - 1)) = p * (-(r (at0 + g.length - 1) * c) - c2 * co g (g.length - 1)) by grind]
      exact Int.mul_emod_right ..
    · rw [if_neg e]; exact D0.rz k (by omega)
  · obtain ⟨c, hc⟩ := D0.eq k hk
    have e5 := cvF_one (a := q) (g := g) (at0 := at0) (z := z) (D0.qz at0 (by omega)) k (d + 1)
    show ∃ c, co f k = cvF (fun k => if k = at0 then z else q k) g (d + 1) k + (if at0 ≤ k ∧ k < at0 + g.length then (r k - z * co g (k - at0)) % p else r k) + p * c
    rw [e5]
    by_cases e : at0 ≤ k
    · rw [if_pos (⟨by omega, e⟩ : at0 < d + 1 ∧ at0 ≤ k)]
      by_cases e2 : k < at0 + g.length
      · rw [if_pos ⟨e, e2⟩]
        obtain ⟨c2, hc2⟩ := dvd_mod (r k - z * co g (k - at0)) p
        exact ⟨c - c2, by rw [hc, hc2]; grind⟩
      · rw [if_neg (by omega), show co g (k - at0) = 0 from gd0 (by omega), Int.mul_zero, Int.add_zero]
        exact ⟨c, hc⟩
    · rw [if_neg (by omega), if_neg (by omega), Int.add_zero]
      exact ⟨c, hc⟩
  · unfold ebody
    have s1 : (fSet 7 (lft (g2 fMod (g2 fMul (g2 fIx (vN 3) (g2 fSub (g2 fAdd (vN 6) (gCall fLen (aCons (vN 2) aNil))) (kI 1))) (vN 5)) (vN 0)))) [.v (I p), .v (tp f), .v (tp g), .v (ls (tab f.length r)), .v (ls (tab (d + 1) q)), .v (I t), .v (I at0), o7, o8, o9] = .nx [.v (I p), .v (tp f), .v (tp g), .v (ls (tab f.length r)), .v (ls (tab (d + 1) q)), .v (I t), .v (I at0), .v (I z), o8, o9] := by
      rw [fSet_ev, lft_n (x := I z) (by
        simp only [g2_ev, gCall_ev, aCons_ev, aNil_ev, vN_ev, kI_ev, at_succ, at_zero, get_v, R.of_some, R.bind_ok, e1, fAdd_i, fSub_i, e2, fMul_i, if_pos m1, fMod_i, if_pos hp0, hz])]
      simp [h7.s]
    have s2 : fStore 4 (vN 6) (mName 7) [.v (I p), .v (tp f), .v (tp g), .v (ls (tab f.length r)), .v (ls (tab (d + 1) q)), .v (I t), .v (I at0), .v (I z), o8, o9] = .nx [.v (I p), .v (tp f), .v (tp g), .v (ls (tab f.length r)), .v (ls (tab (d + 1) fun k => if k = at0 then z else q k)), .v (I t), .v (I at0), .v (I z), o8, o9] := by
      rw [store_tab (j := at0) (n := d + 1) (v := q) (z := z) (k := (at0 : Int)) (mName_n (d := .int z) rfl) rfl rfl rfl (by omega)]; rfl
    rw [fSeq_ev, s1, sq_nx, fSeq_ev, s2, sq_nx, e9]
end K01
namespace K01
open PySem PySem.Spec L2 Z
open PyProof.Rows hiding St
def P8 : List Int := [3, 251, 5, 7, 11, 13, 101, 241]
def iv (p m : Int) : Int := match F_inverse [I p, I m] with
  | .ok (.d (.int v)) => v
  | _ => 0
theorem inv_all : (P8.all fun p => decide (3 ≤ p ∧ p ≤ 251) && (List.range p.toNat).all fun m => decide (m = 0) || (okIs (F_inverse [I p, I m]) (.int (iv p m)) && decide (0 < iv p m ∧ iv p m < p ∧ (m : Int) * iv p m % p = 1))) = true := by decide +kernel
theorem p_range {p : Int} (h : p ∈ P8) : 3 ≤ p ∧ p ≤ 251 := by
  have := List.all_eq_true.mp inv_all p h
  simp only [Bool.and_eq_true, decide_eq_true_eq] at this
  exact this.1
structure Good (p m : Int) : Prop where
  inv : F_inverse [I p, I m] = .ok (I (iv p m))
  lo : 0 < iv p m
  hi : iv p m < p
  one : m * iv p m % p = 1
theorem good {p m : Int} (h : p ∈ P8) (h1 : 0 < m) (h3 : m < p) : Good p m := by
  have := List.all_eq_true.mp inv_all p h
  simp only [Bool.and_eq_true, decide_eq_true_eq] at this
  have t := List.all_eq_true.mp this.2 m.toNat (List.mem_range.mpr (by omega))
  have e : ((m.toNat : Nat) : Int) = m := by omega
  simp only [e, Bool.or_eq_true, Bool.and_eq_true, decide_eq_true_eq] at t
  rcases t with t | ⟨t1, t2, t3, t4⟩
  · omega
  · exact ⟨okIs_eq t1, t2, t3, t4⟩
theorem good_one {p m : Int} (g : Good p m) : ∃ c, m * iv p m = 1 + p * c := by
  obtain ⟨k, e⟩ := dvd_mod (m * iv p m) p
  rw [g.one] at e
  exact ⟨-k, by grind⟩
theorem fR3_d : ∀ k : Nat, k < 16 → fR3 (I ((k : Int) - 7)) (I (-1)) (I (-1)) = .ok (rng ((k : Int) - 7) (-1) ((k : Int) - 6).toNat)
  | 0, _ => rfl
  | 1, _ => rfl
  | 2, _ => rfl
  | 3, _ => rfl
  | 4, _ => rfl
  | 5, _ => rfl
  | 6, _ => rfl
  | 7, _ => rfl
  | 8, _ => rfl
  | 9, _ => rfl
  | 10, _ => rfl
  | 11, _ => rfl
  | 12, _ => rfl
  | 13, _ => rfl
  | 14, _ => rfl
  | 15, _ => rfl
  | k + 16, h => absurd h (by omega)
theorem gR3_n {ga : En → R T} {en : En} {z : Int} (h : ga en = .ok (I z)) (h1 : -7 ≤ z) (h2 : z < 9) : gR3 ga (g1 fNeg (kI 1)) (g1 fNeg (kI 1)) en = .ok (rng z (-1) (z + 1).toNat) := by
  have e := fR3_d (z + 7).toNat (by omega)
  rw [show (((z + 7).toNat : Nat) : Int) - 7 = z by omega, show (((z + 7).toNat : Nat) : Int) - 6 = z + 1 by omega] at e
  rw [gR3_ev, h, R.bind_ok]
  have e1 : g1 fNeg (kI 1) en = .ok (I (-1)) := rfl
  rw [e1, R.bind_ok, R.bind_ok, e]
theorem rng_atC {n i : Nat} {a c : Int} (h : i < (rng a c n).length) : (rng a c n)[i] = I (a + (i : Nat) * c) := by
  have h' : i < n := by rwa [rng_len] at h
  have := rng_get (a := a) (c := c) h'
  rw [List.getElem?_eq_getElem h] at this
  injection this
theorem cvF_zero {a : Nat → Int} {g : List Int} {k : Nat} : ∀ {n : Nat}, (∀ i, i < n → i ≤ k → g.length ≤ k - i) → cvF a g n k = 0
  | 0, _ => rfl
  | n + 1, h => by
    show cvF a g n k + (if n ≤ k then a n * co g (k - n) else 0) = 0
    rw [cvF_zero fun i hi hk => h i (by omega) hk]
    by_cases e : n ≤ k
    · rw [if_pos e, show co g (k - n) = 0 from gd0 (h n (by omega) e)]; simp
    · rw [if_neg e]; rfl
structure Dvd (p : Int) (f g Q S : List Int) : Prop where
  q : ∀ k, 0 ≤ co Q k ∧ co Q k < p
  r : ∀ k, 0 ≤ co S k ∧ co S k < p
  z : ∀ k, g.length - 1 ≤ k → co S k = 0
  ql : Q.length < 100
  rl : S.length < 100
  eq : ∀ k, ∃ c, co f k = cvF (co Q) g Q.length k + co S k + p * c
theorem tab_self (f : List Int) : tab f.length (co f) = f := by
  apply List.ext_getElem (tab_len _ _)
  intro i h1 h2
  have : (tab f.length (co f))[i] = co f i := by simp [tab]
  rw [this]
  exact gd h2
theorem divided_ok {p : Int} {f g : List Int} (hp : p ∈ P8) (hf : f.length < 9) (hg : g.length < 6) (sf : ∀ k, 0 ≤ co f k ∧ co f k < p) (hg0 : 0 < g.length) (sg : 0 < co g (g.length - 1) ∧ co g (g.length - 1) < p) :
    ∃ Q S, F_poly_divided [I p, tp f, tp g] = .ok (.d (.tup [.tup ((tri Q).map D.int), .tup ((tri S).map D.int)])) ∧ Dvd p f g Q S := by
  obtain ⟨p1, p2⟩ := p_range hp
  have hp0 : 0 < p := by omega
  have gt := good hp sg.1 sg.2
  generalize hat : iv p (co g (g.length - 1)) = t
  have tone : ∃ c, co g (g.length - 1) * t = 1 + p * c := by
    have := good_one gt
    rwa [hat] at this
  have e1 := row_len (x := tp f) (.inl rfl)
  have e2 := row_len (x := tp g) (.inl rfl)
  have ex : fIx (tp g) (I (-1)) = some (I (co g (g.length - 1))) := by
    show (atI (g.map D.int) (-1)).map T.d = _
    unfold L2.atI L2.ixN
    rw [if_neg (by decide), if_pos (by rw [List.length_map]; omega)]
    have : ((-1 : Int) + ((g.map D.int).length : Nat)).toNat = g.length - 1 := by rw [List.length_map]; omega
    rw [this]
    show ((g.map D.int)[g.length - 1]?).map T.d = _
    rw [List.getElem?_map, List.getElem?_eq_getElem (show g.length - 1 < g.length by omega)]
    unfold co
    rw [gd (show g.length - 1 < g.length by omega)]; rfl
  -- how many numbers the quotient has
  generalize hm : (f.length + 1) - g.length = m
  have emax : max 0 ((f.length : Int) - (g.length : Int) + 1) = (m : Int) := by omega
  have e6 : ([T.d (D.int 0)] : List T).length ≤ most := by decide
  have e4 := zeros_ok (k := m) (by omega)
  have start : ∀ x : Unit, ∃ en, en = [Sl.v (I p), .v (tp f), .v (tp g), .v (ls f), .v (ls (tab m fun _ => 0)), .v (I t), .n, .n, .n, .n] := fun _ => ⟨_, rfl⟩
  have tl : ∀ (Q S : List Int) (o5 o6 o7 o8 o9 : Sl), Q.length < 100 → S.length < 100 → ∃ e, fRet (lft (gTup (aCons (gFn F_trimmed (aCons (vN 4) aNil)) (aCons (gFn F_trimmed (aCons (vN 3) aNil)) aNil)))) [.v (I p), .v (tp f), .v (tp g), .v (ls S), .v (ls Q), o5, o6, o7, o8, o9] = .ret (.d (.tup [.tup ((tri Q).map D.int), .tup ((tri S).map D.int)])) e := fun Q S o5 o6 o7 o8 o9 hQ hS => by
    refine ret_lft ?_
    have t1 := trimmed_ok (x := ls Q) (.inr rfl) (by omega)
    have t2 := trimmed_ok (x := ls S) (.inr rfl) (by omega)
    have : gFn F_trimmed (aCons (vN 4) aNil) [.v (I p), .v (tp f), .v (tp g), .v (ls S), .v (ls Q), o5, o6, o7, o8, o9] = .ok (tp (tri Q)) := by
      rw [gFn_ev, aCons_ev]
      simp only [vN_ev, at_succ, at_zero, get_v, R.of_some, R.bind_ok, aNil_ev, t1]
    have this2 : gFn F_trimmed (aCons (vN 3) aNil) [.v (I p), .v (tp f), .v (tp g), .v (ls S), .v (ls Q), o5, o6, o7, o8, o9] = .ok (tp (tri S)) := by
      rw [gFn_ev, aCons_ev]
      simp only [vN_ev, at_succ, at_zero, get_v, R.of_some, R.bind_ok, aNil_ev, t2]
    rw [gTup_ev, aCons_ev, this, R.bind_ok, aCons_ev, this2, R.bind_ok, aNil_ev, R.bind_ok, R.bind_ok, R.bind_ok]
    rfl
  -- the loop
  have loop : ∃ (Q S : List Int) (o6 o7 o8 o9 : Sl), Dvd p f g Q S ∧ fFor (kName 6) (lft (gR3 (g2 fSub (gCall fLen (aCons (vN 1) aNil)) (gCall fLen (aCons (vN 2) aNil))) (g1 fNeg (kI 1)) (g1 fNeg (kI 1)))) ebody [.v (I p), .v (tp f), .v (tp g), .v (ls f), .v (ls (tab m fun _ => 0)), .v (I t), .n, .n, .n, .n] = .nx [.v (I p), .v (tp f), .v (tp g), .v (ls S), .v (ls Q), .v (I t), o6, o7, o8, o9] := by
    have er := gR3_n (ga := g2 fSub (gCall fLen (aCons (vN 1) aNil)) (gCall fLen (aCons (vN 2) aNil))) (en := [.v (I p), .v (tp f), .v (tp g), .v (ls f), .v (ls (tab m fun _ => 0)), .v (I t), .n, .n, .n, .n]) (z := (f.length : Int) - (g.length : Int)) (by
      simp only [g2_ev, gCall_ev, aCons_ev, aNil_ev, vN_ev, at_succ, at_zero, get_v, R.of_some, R.bind_ok, e1, e2, fSub_i]) (by omega) (by omega)
    have em : ((f.length : Int) - (g.length : Int) + 1).toNat = m := by omega
    rw [em] at er
    by_cases hlt : f.length < g.length
    · have m0 : m = 0 := by omega
      subst m0
      refine ⟨[], f, .n, .n, .n, .n, ⟨fun k => ⟨by simp [co], by simp [co]; omega⟩, sf, fun k hk => gd0 (by omega), by simp, by omega, fun k => ⟨0, by simp [cvF]⟩⟩, ?_⟩
      show (lft _ _).s _ = _
      rw [lft_n er]; rfl
    · obtain ⟨d, hd⟩ : ∃ d, m = d + 1 := ⟨m - 1, by omega⟩
      subst hd
      have dg : d + g.length = f.length := by omega
      have D0 : Dv p f g d 0 (fun _ => 0) (co f) := ⟨fun _ _ => rfl, fun _ => ⟨Int.le_refl _, hp0⟩, fun _ _ => rfl, fun k _ => sf k, fun k hk => gd0 (by omega), fun k _ => ⟨0, by
        have : cvF (fun _ => 0) g (d + 1) k = 0 := by
          have := cvF_more (a := fun _ => 0) (g := g) (n := 0) (k := k) (fun _ _ => rfl) (d + 1)
          rwa [Nat.zero_add] at this
        rw [this]; simp⟩⟩
      obtain ⟨en', h1, hn, q, r, o6, o7, o8, o9, D1, n6, n7, n8, n9, rfl⟩ := for_ix (v := 6) (f := ebody) (fun i en => i ≤ d + 1 ∧ ∃ (q r : Nat → Int) (o6 o7 o8 o9 : Sl), Dv p f g d i q r ∧ NB o6 ∧ NB o7 ∧ NB o8 ∧ NB o9 ∧ en = [.v (I p), .v (tp f), .v (tp g), .v (ls (tab f.length r)), .v (ls (tab (d + 1) q)), .v (I t), o6, o7, o8, o9]) _ (lft_n er) ⟨Nat.zero_le _, fun _ => 0, co f, .n, .n, .n, .n, D0, .n, .n, .n, .n, by rw [tab_self]⟩ (fun i hi en qq => by
        obtain ⟨_, q, r, o6, o7, o8, o9, D1, n6, n7, n8, n9, rfl⟩ := qq
        rw [rng_atC hi]
        rw [rng_len] at hi
        have ei : (f.length : Int) - (g.length : Int) + (i : Nat) * (-1) = ((d - i : Nat) : Int) := by omega
        rw [ei]
        obtain ⟨q', r', o7', o8', o9', n7', n8', n9', D2, e⟩ := ebody_ok (p := p) (t := t) (o7 := o7) (o8 := o8) (o9 := o9) (by omega) (by omega) dg hg0 (by omega) hi tone D1 n7 n8 n9
        exact ⟨_, _, by simp [n6.s], .inl e, hi, q', r', .v (I ((d - i : Nat) : Int)), o7', o8', o9', D2, .v, n7', n8', n9', rfl⟩)
      rw [rng_len] at D1
      have cq : ∀ k, co (tab (d + 1) q) k = q k := fun k => by
        rw [tab_co]
        by_cases hk : k < d + 1
        · rw [if_pos hk]
        · rw [if_neg hk, D1.qe k (by omega)]
      have cr : ∀ k, co (tab f.length r) k = if k < f.length then r k else 0 := tab_co _ _
      refine ⟨tab (d + 1) q, tab f.length r, o6, o7, o8, o9, ⟨fun k => by rw [cq]; exact D1.qr k, fun k => ?_, fun k hk => ?_, by rw [tab_len]; omega, by rw [tab_len]; omega, fun k => ?_⟩, h1⟩
      · rw [cr]
        by_cases hk : k < f.length
        · rw [if_pos hk]; exact D1.rr k hk
        · rw [if_neg hk]; omega
      · rw [cr, D1.rz k (by omega)]; split <;> rfl
      · rw [tab_len, cvF_congr (b := q) fun i _ => cq i, cr]
        by_cases hk : k < f.length
        · rw [if_pos hk]; exact D1.eq k hk
        · rw [if_neg hk, show co f k = 0 from gd0 (by omega), cvF_zero fun i h1 h2 => by omega]
          exact ⟨0, by simp⟩
  obtain ⟨Q, S, o6, o7, o8, o9, D1, hloop⟩ := loop
  refine ⟨Q, S, runP_ret rfl ?_, D1⟩
  show ∃ e, d_poly_divided [.v (I p), .v (tp f), .v (tp g), .n, .n, .n, .n, .n, .n, .n] = _
  unfold d_poly_divided
  refine ret_seq (en1 := [.v (I p), .v (tp f), .v (tp g), .v (ls f), .n, .n, .n, .n, .n, .n]) rfl ?_
  refine ret_seq (en1 := [.v (I p), .v (tp f), .v (tp g), .v (ls f), .v (ls (tab m fun _ => 0)), .n, .n, .n, .n, .n]) ?_ ?_
  · rw [fSet_ev, lft_n (x := ls (tab m fun _ => 0)) (by
      simp only [g2_ev, gCall_ev, aCons_ev, aNil_ev, vN_ev, kI_ev, at_succ, at_zero, get_v, R.of_some, R.bind_ok, gLst_ev, mkLst_ev, if_pos e6, e1, e2, fSub_i, fAdd_i, fMax2_i, emax, e4])]
    rfl
  refine ret_seq (en1 := [.v (I p), .v (tp f), .v (tp g), .v (ls f), .v (ls (tab m fun _ => 0)), .v (I t), .n, .n, .n, .n]) ?_ ?_
  · have gi := gt.inv
    rw [hat] at gi
    rw [fSet_ev, lft_n (x := I t) (by
      simp only [gFn_ev, g1_ev, g2_ev, aCons_ev, aNil_ev, vN_ev, kI_ev, at_succ, at_zero, get_v, R.of_some, R.bind_ok, fNeg_i, ex, gi])]
    rfl
  exact ret_seq hloop (tl Q S _ _ _ _ _ D1.ql D1.rl)
end K01
namespace K01
open PySem PySem.Spec L2 Z
open PyProof.Rows hiding St
theorem tri_len_le {zs : List Int} {m : Nat} (h : ∀ k, m ≤ k → co zs k = 0) : (tri zs).length ≤ m := by
  rcases tri_top zs with e | e
  · rw [e]; exact Nat.zero_le _
  · by_cases hl : (tri zs).length ≤ m
    · exact hl
    · exact absurd (by rw [tri_gd]; exact h _ (by omega)) e
theorem co_mem {f : List Int} {p : Int} (h : ∀ k, 0 ≤ co f k ∧ co f k < p) : ∀ a ∈ f, 0 ≤ a ∧ a < p := fun a m => by
  obtain ⟨i, hi, rfl⟩ := List.mem_iff_getElem.mp m
  have := h i
  unfold co at this
  rwa [gd hi] at this
theorem co_tri (f : List Int) (k : Nat) : co (tri f) k = co f k := tri_gd f k
theorem tri_le (f : List Int) : (tri f).length ≤ f.length := by rw [tri_len]; exact (tri_tm f).le
theorem sumZ_co {p : Int} (f g : List Int) (k : Nat) : co (sumZ p f g) k = (co f k + co g k) % p := by
  unfold sumZ
  rw [co_tri, tab_co]
  by_cases h : k < max f.length g.length
  · rw [if_pos h]
  · rw [if_neg h, show co f k = 0 from gd0 (by omega), show co g k = 0 from gd0 (by omega)]; simp
theorem prZ_co {p : Int} (f g : List Int) (k : Nat) : co (prZ p f g) k = cvn f g f.length k % p := by
  unfold prZ
  rw [co_tri, tab_co]
  by_cases h : k < f.length + g.length
  · rw [if_pos h]
  · rw [if_neg h, cvn_F, cvF_zero fun i h1 h2 => by omega]; simp
theorem bl_asBls {α : Type} : ∀ L : List α, asBls (L.map fun _ => D.bl true) = some (L.map fun _ => true)
  | [] => rfl
  | _ :: L => by rw [List.map_cons, asBls, bl_asBls L]; rfl
theorem bl_allD {α : Type} : ∀ L : List α, allD (L.map fun _ => T.d (D.bl true)) = some (L.map fun _ => D.bl true)
  | [] => rfl
  | _ :: L => by rw [List.map_cons, allD, bl_allD L]; rfl
theorem rows_ok {p : Int} (hp : 0 < p) (hp2 : p < 1000) {a0 a1 a2 a3 a4 a5 : Sl} {zs : List Int} (h : ∀ a ∈ zs, 0 ≤ a ∧ a < p) (hl : zs.length < 1000) : (fIf (lft (gOr (gNot (gTru (gIsi isTup (vN 6)))) (gNot (gTru (gCall fAll (aCons (gLc [7] (gIt (vN 6)) (kName 7) gYes (gPur (gAndV (gFn F__law_is_int (aCons (vN 7) aNil)) (gAndV (g2 fLe (kI 0) (vN 7)) (g2 fLt (vN 7) (vN 0)))))) aNil)))))) (fRet (lft (kB false))) fNil) [.v (I p), a1, a2, a3, a4, a5, .v (tp zs), .n] = .nx [.v (I p), a1, a2, a3, a4, a5, .v (tp zs), .n] := by
  have el := lcL_map (v := 7) (te := gPur (gAndV (gFn F__law_is_int (aCons (vN 7) aNil)) (gAndV (g2 fLe (kI 0) (vN 7)) (g2 fLt (vN 7) (vN 0))))) (en := wipeE [.v (I p), a1, a2, a3, a4, a5, .v (tp zs), .n] [7]) (G := fun _ => T.d (.bl true)) (xs := (zs.map D.int).map T.d) (fun x hx => by
    obtain ⟨d, hd, rfl⟩ := List.mem_map.mp hx
    obtain ⟨a, ha, rfl⟩ := List.mem_map.mp hd
    have c := h a ha
    have e : F__law_is_int [.d (.int a)] = .ok (.d (.bl true)) := rfl
    simp only [wipeE_cons, wipeE_nil, List.set_cons_succ, List.set_cons_zero, mkS_d, gPur_ev, gAndV_ev, gFn_ev, aCons_ev, aNil_ev, g2_ev, vN_ev, kI_ev, at_succ, at_zero, get_v, R.of_some, R.bind_ok, e, tru_b, if_true, fLe_i, fLt_i, c.1, c.2, decide_true, R.pur_d])
  have eb := bl_asBls ((zs.map D.int).map T.d)
  have ea := bl_allD ((zs.map D.int).map T.d)
  have et : (((zs.map D.int).map T.d).map fun _ => true).all id = true := by simp
  have e1 : gCall fAll (aCons (gLc [7] (gIt (vN 6)) (kName 7) gYes (gPur (gAndV (gFn F__law_is_int (aCons (vN 7) aNil)) (gAndV (g2 fLe (kI 0) (vN 7)) (g2 fLt (vN 7) (vN 0)))))) aNil) [.v (I p), a1, a2, a3, a4, a5, .v (tp zs), .n] = .ok (.d (.bl true)) := by
    rw [gCall_ev, aCons_ev, gLc_ev, show gIt (vN 6) [.v (I p), a1, a2, a3, a4, a5, .v (tp zs), .n] = .ok ((zs.map D.int).map T.d) from rfl, R.bind_ok, if_pos (show ((zs.map D.int).map T.d).length < most by rw [List.length_map, List.length_map]; unfold most; omega), el, calm_ok]
    simp only [R.bind_ok, aNil_ev, R.of_some, fAll_ev, lstOf_l, ea, Option.bind_some, eb, Option.map_some, et]
  have e2 : gOr (gNot (gTru (gIsi isTup (vN 6)))) (gNot (gTru (gCall fAll (aCons (gLc [7] (gIt (vN 6)) (kName 7) gYes (gPur (gAndV (gFn F__law_is_int (aCons (vN 7) aNil)) (gAndV (g2 fLe (kI 0) (vN 7)) (g2 fLt (vN 7) (vN 0)))))) aNil)))) [.v (I p), a1, a2, a3, a4, a5, .v (tp zs), .n] = .ok false := by
    rw [gOr_ev, show gNot (gTru (gIsi isTup (vN 6))) [.v (I p), a1, a2, a3, a4, a5, .v (tp zs), .n] = .ok false from rfl, R.bind_ok, gNot_ev, gTru_ev, e1]
    rfl
  rw [fIf_f e2, fNil_ev]
theorem is_divided_ok {p : Int} {f g Q S : List Int} (hp : 1 < p) (hp2 : p < 1000) (hf : f.length < 100) (hg : g.length < 100) (hg0 : 0 < g.length) (sf : ∀ k, 0 ≤ co f k ∧ co f k < p) (tf : f = [] ∨ f.getD (f.length - 1) 0 ≠ 0) (D1 : Dvd p f g Q S) : F__law_is_divided [I p, tp f, tp g, .d (.tup [.tup ((tri Q).map D.int), .tup ((tri S).map D.int)])] = .ok (.d (.bl true)) := by
  have hp0 : 0 < p := by omega
  have lq : (tri Q).length < 100 := Nat.lt_of_le_of_lt (tri_le Q) D1.ql
  have lr : (tri S).length < 100 := Nat.lt_of_le_of_lt (tri_le S) D1.rl
  have lr2 : (tri S).length ≤ g.length - 1 := tri_len_le D1.z
  have mq : ∀ a ∈ tri Q, 0 ≤ a ∧ a < p := co_mem fun k => by rw [co_tri]; exact D1.q k
  have mr : ∀ a ∈ tri S, 0 ≤ a ∧ a < p := co_mem fun k => by rw [co_tri]; exact D1.r k
  refine runP_ret rfl ?_
  generalize ha : (D.tup [.tup ((tri Q).map D.int), .tup ((tri S).map D.int)]) = an
  show ∃ e, d__law_is_divided [.v (I p), .v (tp f), .v (tp g), .v (.d an), .n, .n, .n, .n] = _
  unfold d__law_is_divided
  refine ret_if_f (by rw [← ha]; rfl) ?_
  refine ret_seq (en1 := [.v (I p), .v (tp f), .v (tp g), .v (.d an), .v (tp (tri Q)), .v (tp (tri S)), .n, .n]) ?_ ?_
  · rw [fAsg_ev, mName_n (d := an) rfl, ← ha]; rfl
  obtain ⟨en', h1, o6, ho, rfl⟩ := for_ix (v := 6) (xs := [tp (tri Q), tp (tri S)]) (mi := lft (gIt (gLst (aCons (gPur (vN 4)) (aCons (gPur (vN 5)) aNil))))) (f := (fIf (lft (gOr (gNot (gTru (gIsi isTup (vN 6)))) (gNot (gTru (gCall fAll (aCons (gLc [7] (gIt (vN 6)) (kName 7) gYes (gPur (gAndV (gFn F__law_is_int (aCons (vN 7) aNil)) (gAndV (g2 fLe (kI 0) (vN 7)) (g2 fLt (vN 7) (vN 0)))))) aNil)))))) (fRet (lft (kB false))) fNil)) (fun _ en => ∃ o6 : Sl, NB o6 ∧ en = [.v (I p), .v (tp f), .v (tp g), .v (.d an), .v (tp (tri Q)), .v (tp (tri S)), o6, .n]) [.v (I p), .v (tp f), .v (tp g), .v (.d an), .v (tp (tri Q)), .v (tp (tri S)), .n, .n] (en0 := [.v (I p), .v (tp f), .v (tp g), .v (.d an), .v (tp (tri Q)), .v (tp (tri S)), .n, .n]) rfl ⟨.n, .n, rfl⟩ (fun i hi en q => by
    obtain ⟨o, ho, rfl⟩ := q
    have hz : ∃ zs, [tp (tri Q), tp (tri S)][i] = tp zs ∧ (∀ a ∈ zs, 0 ≤ a ∧ a < p) ∧ zs.length < 1000 := by
      match i, hi with
      | 0, _ => exact ⟨tri Q, rfl, mq, by omega⟩
      | 1, _ => exact ⟨tri S, rfl, mr, by omega⟩
      | i + 2, hi => simp at hi; omega
    obtain ⟨zs, ez, mz, lz⟩ := hz
    rw [ez]
    exact ⟨[.v (I p), .v (tp f), .v (tp g), .v (.d an), .v (tp (tri Q)), .v (tp (tri S)), .v (tp zs), .n], _, by simp [ho.s], .inl (rows_ok (a0 := .n) hp0 hp2 mz lz), .v (tp zs), .v, rfl⟩)
  refine ret_seq h1 ?_
  have e1 := row_len (x := tp (tri S)) (.inl rfl)
  have e2 := row_len (x := tp g) (.inl rfl)
  have t1 := law_trimmed_ok (x := tp (tri Q)) (.inl rfl) (by omega)
  have t2 := law_trimmed_ok (x := tp (tri S)) (.inl rfl) (by omega)
  rw [tri_self (tri_top Q)] at t1
  rw [tri_self (tri_top S)] at t2
  have n1 : fNe (tp (tri Q)) (tp (tri Q)) = some (.d (.bl false)) := by rw [fNe_tp, decide_eq_true rfl]; rfl
  have n2 : fNe (tp (tri S)) (tp (tri S)) = some (.d (.bl false)) := by rw [fNe_tp, decide_eq_true rfl]; rfl
  have ge : decide (((tri S).length : Int) ≥ (g.length : Int)) = false := decide_eq_false (by omega)
  have ge' : decide ((g.length : Int) ≤ ((tri S).length : Int)) = false := decide_eq_false (by omega)
  refine ret_if_f ?_ ?_
  · simp only [gOr_ev, gT_ev, g2_ev, gCall_ev, gFn_ev, aCons_ev, aNil_ev, vN_ev, at_succ, at_zero, get_v, R.of_some, R.bind_ok, e1, e2, fGe_i, ge', tst_b, Bool.false_eq_true, if_false, t1, t2, n1, n2]
  refine ret_lft ?_
  have sq : Sm (tri Q) := fun a m => by have := mq a m; omega
  have pr := law_product_ok (p := p) hp0 (f := tri Q) (g := g) (by omega) (by omega) sq
  have lp : (prZ p (tri Q) g).length < 1000 := by
    refine Nat.lt_of_le_of_lt (tri_le _) ?_
    rw [tab_len]; omega
  have sm := law_sum_ok (p := p) hp0 (f := prZ p (tri Q) g) (g := tri S) lp (by omega)
  have fin : sumZ p (prZ p (tri Q) g) (tri S) = f := by
    refine row_ext (tri_top _) tf fun k => ?_
    show co (sumZ p (prZ p (tri Q) g) (tri S)) k = co f k
    rw [sumZ_co, prZ_co, co_tri, cvn_F]
    have c1 : cvF (co (tri Q)) g (tri Q).length k = cvF (co Q) g Q.length k := by
      have := cvF_more (a := co (tri Q)) (g := g) (n := (tri Q).length) (k := k) (fun i hi => gd0 hi) (Q.length - (tri Q).length)
      rw [← this, show (tri Q).length + (Q.length - (tri Q).length) = Q.length by have := tri_le Q; omega]
      exact cvF_congr fun i _ => co_tri Q i
    rw [c1]
    obtain ⟨c, hc⟩ := D1.eq k
    have hk := sf k
    rw [Int.emod_add_emod, ← Int.emod_eq_of_lt hk.1 hk.2, hc, Int.add_mul_emod_self_left]
  rw [fin] at sm
  have fe : fEq (tp f) (tp f) = some (.d (.bl true)) := by rw [fEq_tp, decide_eq_true rfl]
  simp only [g2_ev, gFn_ev, aCons_ev, aNil_ev, vN_ev, at_succ, at_zero, get_v, R.of_some, R.bind_ok, pr, sm, fe]
end K01
namespace K01
open PySem PySem.Spec L2 Z
open PyProof.Rows hiding St
/-! values of sums and products -/
def evF (v : Nat → Int) (x : Int) : Nat → Int
  | 0 => 0
  | n + 1 => evF v x n + v n * x ^ n
theorem evF_shift (v : Nat → Int) (x : Int) : ∀ n, evF v x (n + 1) = v 0 + x * evF (fun k => v (k + 1)) x n
  | 0 => by simp [evF]
  | n + 1 => by
    show evF v x (n + 1) + v (n + 1) * x ^ (n + 1) = v 0 + x * (evF (fun k => v (k + 1)) x n + v (n + 1) * x ^ n)
    rw [evF_shift v x n, Int.pow_succ]
    grind
theorem ev_F (x : Int) : ∀ (f : List Int) (n : Nat), f.length ≤ n → ev f x = evF (co f) x n
  | [], n, _ => by
    induction n with
    | zero => rfl
    | succ n ih =>
      show _ = evF (co []) x n + co [] n * x ^ n
      rw [← ih (Nat.zero_le _)]; simp [co, ev]
  | a :: f, 0, h => by simp at h
  | a :: f, n + 1, h => by
    rw [evF_shift]
    show a + x * ev f x = a + x * evF (fun k => co (a :: f) (k + 1)) x n
    rw [ev_F x f n (by simpa using h)]; rfl
theorem evF_mod {p x : Int} {v w : Nat → Int} (h : ∀ k, ∃ c, v k = w k + p * c) : ∀ n, ∃ c, evF v x n = evF w x n + p * c
  | 0 => ⟨0, by simp [evF]⟩
  | n + 1 => by
    obtain ⟨c, e⟩ := evF_mod (x := x) h n
    obtain ⟨c2, e2⟩ := h n
    refine ⟨c + c2 * x ^ n, ?_⟩
    show evF v x n + v n * x ^ n = evF w x n + w n * x ^ n + _
    rw [e, e2]; grind
theorem evF_add {x : Int} (v w : Nat → Int) : ∀ n, evF (fun k => v k + w k) x n = evF v x n + evF w x n
  | 0 => rfl
  | n + 1 => by
    show evF (fun k => v k + w k) x n + (v n + w n) * x ^ n = evF v x n + v n * x ^ n + (evF w x n + w n * x ^ n)
    rw [evF_add v w n]; grind
theorem evF_mul {x b : Int} (v : Nat → Int) : ∀ n, evF (fun k => v k * b) x n = evF v x n * b
  | 0 => by simp [evF]
  | n + 1 => by
    show evF (fun k => v k * b) x n + v n * b * x ^ n = (evF v x n + v n * x ^ n) * b
    rw [evF_mul v n]; grind
theorem dvd_mod' (z p : Int) : ∃ k, z % p = z + p * k := dvd_mod z p
theorem ev_sum {p x : Int} (f g : List Int) : ∃ c, ev (sumZ p f g) x = ev f x + ev g x + p * c := by
  have hl : (sumZ p f g).length ≤ f.length + g.length := by
    refine Nat.le_trans (tri_le _) ?_
    rw [tab_len]; omega
  rw [ev_F x _ _ hl, ev_F x f (f.length + g.length) (by omega), ev_F x g (f.length + g.length) (by omega), ← evF_add]
  exact evF_mod (fun k => by rw [sumZ_co]; exact dvd_mod _ _) _
theorem cvn2 (f : List Int) (b0 b1 : Int) (k : Nat) : ∀ n, cvn f [b0, b1] n k = (if k < n then co f k * b0 else 0) + (if 1 ≤ k ∧ k - 1 < n then co f (k - 1) * b1 else 0)
  | 0 => by simp [cvn]
  | n + 1 => by
    show cvn f [b0, b1] n k + (if n ≤ k then co f n * co [b0, b1] (k - n) else 0) = _
    rw [cvn2 f b0 b1 k n]
    by_cases h1 : k < n
    · rw [if_pos h1, if_neg (show ¬ n ≤ k by omega), if_pos (show k < n + 1 by omega)]
      by_cases h2 : 1 ≤ k
      · rw [if_pos (show 1 ≤ k ∧ k - 1 < n by omega), if_pos (show 1 ≤ k ∧ k - 1 < n + 1 by omega)]; simp
      · rw [if_neg (show ¬ (1 ≤ k ∧ k - 1 < n) by omega), if_neg (show ¬ (1 ≤ k ∧ k - 1 < n + 1) by omega)]; simp
    · rw [if_neg h1, if_pos (show n ≤ k by omega)]
      by_cases h3 : k = n
      · subst h3
        rw [if_pos (show k < k + 1 by omega), Nat.sub_self, show co [b0, b1] 0 = b0 from rfl]
        by_cases h2 : 1 ≤ k
        · rw [if_pos (show 1 ≤ k ∧ k - 1 < k by omega), if_pos (show 1 ≤ k ∧ k - 1 < k + 1 by omega)]; grind
        · rw [if_neg (show ¬ (1 ≤ k ∧ k - 1 < k) by omega), if_neg (show ¬ (1 ≤ k ∧ k - 1 < k + 1) by omega)]; grind
      · rw [if_neg (show ¬ k < n + 1 by omega), if_neg (show ¬ (1 ≤ k ∧ k - 1 < n) by omega)]
        by_cases h4 : k = n + 1
        · subst h4
          rw [if_pos (show 1 ≤ n + 1 ∧ n + 1 - 1 < n + 1 by omega), show n + 1 - n = 1 by omega, show co [b0, b1] 1 = b1 from rfl, show n + 1 - 1 = n by omega]; grind
        · rw [if_neg (show ¬ (1 ≤ k ∧ k - 1 < n + 1) by omega), show co [b0, b1] (k - n) = 0 from gd0 (by simp; omega)]; simp
theorem ev_prod {p x : Int} (f : List Int) (b0 b1 : Int) : ∃ c, ev (prZ p f [b0, b1]) x = ev f x * (b0 + b1 * x) + p * c := by
  have hl : (prZ p f [b0, b1]).length ≤ f.length + 2 := by
    refine Nat.le_trans (tri_le _) ?_
    rw [tab_len]; simp
  obtain ⟨c, e⟩ := evF_mod (p := p) (x := x) (v := co (prZ p f [b0, b1])) (w := fun k => cvn f [b0, b1] f.length k) (fun k => by rw [prZ_co]; exact dvd_mod _ _) (f.length + 2)
  refine ⟨c, ?_⟩
  rw [ev_F x _ _ hl, e]
  congr 1
  have e2 : (fun k => cvn f [b0, b1] f.length k) = fun k => co f k * b0 + (if 1 ≤ k then co f (k - 1) else 0) * b1 := by
    funext k
    rw [cvn2]
    by_cases h1 : k < f.length
    · rw [if_pos h1]
      by_cases h2 : 1 ≤ k
      · rw [if_pos (show 1 ≤ k ∧ k - 1 < f.length by omega), if_pos h2]
      · rw [if_neg (show ¬ (1 ≤ k ∧ k - 1 < f.length) by omega), if_neg h2]; simp
    · rw [if_neg h1, show co f k = 0 from gd0 (by omega)]
      by_cases h2 : 1 ≤ k
      · rw [if_pos h2]
        by_cases h3 : k - 1 < f.length
        · rw [if_pos ⟨h2, h3⟩]; simp
        · rw [if_neg (by omega), show co f (k - 1) = 0 from gd0 (by omega)]; simp
      · rw [if_neg (by omega), if_neg h2]; simp
  rw [e2, evF_add, evF_mul, evF_mul, evF_shift (fun k => if 1 ≤ k then co f (k - 1) else 0)]
  have e3 : evF (fun k => if 1 ≤ k + 1 then co f (k + 1 - 1) else 0) x (f.length + 1) = evF (co f) x (f.length + 1) := by
    congr 1
  rw [e3, ← ev_F x f (f.length + 2) (by omega), ← ev_F x f (f.length + 1) (by omega), if_neg (by omega)]
  grind
/-! through points -/
abbrev Pts := List (Int × Int)
def sc (p x o : Int) : Int := iv p ((x - o) % p)
def lag (p x : Int) (part : List Int) (q : Int × Int) : List Int := if q.1 = x then part else prZ p part [-q.1 * sc p x q.1 % p, sc p x q.1]
def parts (p : Int) (pts : Pts) (q : Int × Int) : List Int := pts.foldl (lag p q.1) [q.2]
def thr (p : Int) (pts : Pts) : List Int := pts.foldl (fun found q => sumZ p found (parts p pts q)) []
def pD (q : Int × Int) : D := .tup [.int q.1, .int q.2]
def InR (p : Int) (pts : Pts) : Prop := ∀ q ∈ pts, (0 ≤ q.1 ∧ q.1 < p) ∧ 0 ≤ q.2 ∧ q.2 < p
theorem diff_mod {p x o : Int} (hx : 0 ≤ x ∧ x < p) (ho : 0 ≤ o ∧ o < p) (h : o ≠ x) : 0 < (x - o) % p ∧ (x - o) % p < p := by
  have r := mod_range (x - o) (p := p) (by omega)
  refine ⟨?_, r.2⟩
  by_cases e : (x - o) % p = 0
  · obtain ⟨c, hc⟩ := Int.dvd_of_emod_eq_zero e
    have : c = 0 := by
      by_cases h1 : 0 < c
      · have : p * 1 ≤ p * c := Int.mul_le_mul_of_nonneg_left h1 (by omega)
        omega
      · by_cases h2 : c < 0
        · have : p * c ≤ p * (-1) := Int.mul_le_mul_of_nonneg_left (by omega) (by omega)
          omega
        · omega
    rw [this] at hc
    omega
  · omega
theorem Sm.of {p : Int} (hp2 : p < 1000) {f : List Int} (h : ∀ k, 0 ≤ co f k ∧ co f k < p) : Sm f := fun a m => by have := co_mem h a m; omega
def lbody : En → SR := (fIf (lft (gT (g2 fNe (vN 6) (vN 3)))) (fSeq (fSet 8 (lft (gFn F_inverse (aCons (vN 0) (aCons (g2 fMod (g2 fSub (vN 3) (vN 6)) (vN 0)) aNil)))))
  (fSet 5 (lft (gFn F_poly_product (aCons (vN 0) (aCons (vN 5) (aCons (gTup (aCons (g2 fMod (g2 fMul (g1 fNeg (vN 6)) (vN 8)) (vN 0)) (aCons (vN 8) aNil))) aNil))))))) fNil)
theorem lag_range {p x : Int} {part : List Int} {q : Int × Int} (hp : 0 < p) (h : ∀ k, 0 ≤ co part k ∧ co part k < p) (k : Nat) : 0 ≤ co (lag p x part q) k ∧ co (lag p x part q) k < p := by
  unfold lag
  by_cases e : q.1 = x
  · rw [if_pos e]; exact h k
  · rw [if_neg e, prZ_co]; exact mod_range _ hp
theorem lag_len {p x : Int} {part : List Int} {q : Int × Int} : (lag p x part q).length ≤ part.length + (if q.1 = x then 0 else 1) := by
  unfold lag
  by_cases e : q.1 = x
  · rw [if_pos e, if_pos e]; omega
  · rw [if_neg e, if_neg e]
    unfold prZ
    refine tri_len_le fun k hk => ?_
    rw [tab_co]
    split
    · rw [cvn2, if_neg (by omega)]
      rw [if_neg (by omega)]; simp
    · rfl
theorem lbody_ok {p : Int} (hp : p ∈ P8) {a1 a2 a4 a7 o8 : Sl} {x : Int} {part : List Int} {q : Int × Int} (hx : 0 ≤ x ∧ x < p) (hq : 0 ≤ q.1 ∧ q.1 < p) (hl : part.length < 900) (h : ∀ k, 0 ≤ co part k ∧ co part k < p) (h8 : NB o8) : ∃ o8', NB o8' ∧ lbody [.v (I p), a1, a2, .v (I x), a4, .v (tp part), .v (I q.1), a7, o8] = .nx [.v (I p), a1, a2, .v (I x), a4, .v (tp (lag p x part q)), .v (I q.1), a7, o8'] := by
  obtain ⟨p1, p2⟩ := p_range hp
  have hp0 : 0 < p := by omega
  unfold lbody lag
  by_cases e : q.1 = x
  · refine ⟨o8, h8, ?_⟩
    rw [if_pos e, fIf_f (by simp only [gT_ev, g2_ev, vN_ev, at_succ, at_zero, get_v, R.of_some, R.bind_ok, fNe_i, tst_b, e, decide_true, Bool.not_true]), fNil_ev]
  · refine ⟨.v (I (sc p x q.1)), .v, ?_⟩
    have dm := diff_mod hx hq e
    have g := good hp dm.1 dm.2
    have gi : F_inverse [I p, I ((x - q.1) % p)] = .ok (I (sc p x q.1)) := g.inv
    have gl : 0 < sc p x q.1 := g.lo
    have gh : sc p x q.1 < p := g.hi
    rw [if_neg e, fIf_t (by simp only [gT_ev, g2_ev, vN_ev, at_succ, at_zero, get_v, R.of_some, R.bind_ok, fNe_i, tst_b, e, decide_false, Bool.not_false])]
    have s1 : fSet 8 (lft (gFn F_inverse (aCons (vN 0) (aCons (g2 fMod (g2 fSub (vN 3) (vN 6)) (vN 0)) aNil)))) [.v (I p), a1, a2, .v (I x), a4, .v (tp part), .v (I q.1), a7, o8] = .nx [.v (I p), a1, a2, .v (I x), a4, .v (tp part), .v (I q.1), a7, .v (I (sc p x q.1))] := by
      rw [fSet_ev, lft_n (x := I (sc p x q.1)) (by simp only [gFn_ev, aCons_ev, aNil_ev, g2_ev, vN_ev, at_succ, at_zero, get_v, R.of_some, R.bind_ok, fSub_i, fMod_i, if_pos hp0, gi])]
      simp [h8.s]
    have m1 : MulOk (-q.1) (sc p x q.1) := small_ok (by omega) (by omega)
    have pk := product_ok (p := p) hp0 (f := part) (g := [-q.1 * sc p x q.1 % p, sc p x q.1]) (by omega) (by simp) (Sm.of (by omega) h)
    have pk' : F_poly_product [.d (.int p), .d (.tup (part.map D.int)), .d (.tup [.int (-q.1 * sc p x q.1 % p), .int (sc p x q.1)])] = .ok (tp (prZ p part [-q.1 * sc p x q.1 % p, sc p x q.1])) := pk
    have e2 : (2 : Nat) ≤ most := by decide
    have s2 : fSet 5 (lft (gFn F_poly_product (aCons (vN 0) (aCons (vN 5) (aCons (gTup (aCons (g2 fMod (g2 fMul (g1 fNeg (vN 6)) (vN 8)) (vN 0)) (aCons (vN 8) aNil))) aNil))))) [.v (I p), a1, a2, .v (I x), a4, .v (tp part), .v (I q.1), a7, .v (I (sc p x q.1))] = .nx [.v (I p), a1, a2, .v (I x), a4, .v (tp (prZ p part [-q.1 * sc p x q.1 % p, sc p x q.1])), .v (I q.1), a7, .v (I (sc p x q.1))] := by
      have et : gTup (aCons (g2 fMod (g2 fMul (g1 fNeg (vN 6)) (vN 8)) (vN 0)) (aCons (vN 8) aNil)) [.v (I p), a1, a2, .v (I x), a4, .v (tp part), .v (I q.1), a7, .v (I (sc p x q.1))] = .ok (.d (.tup [.int (-q.1 * sc p x q.1 % p), .int (sc p x q.1)])) := by
        simp only [gTup_ev, aCons_ev, aNil_ev, g1_ev, g2_ev, vN_ev, at_succ, at_zero, get_v, R.of_some, R.bind_ok, fNeg_i, fMul_i, if_pos m1, fMod_i, if_pos hp0]
        rfl
      rw [fSet_ev, lft_n (x := tp (prZ p part [-q.1 * sc p x q.1 % p, sc p x q.1])) (by
        rw [gFn_ev, aCons_ev, aCons_ev, aCons_ev, et]
        simp only [aNil_ev, vN_ev, at_succ, at_zero, get_v, R.of_some, R.bind_ok, pk'])]
      rfl
    rw [fSeq_ev, s1, sq_nx, s2]
theorem pts_at {pts : Pts} {i : Nat} (hi : i < ((pts.map pD).map T.d).length) : ((pts.map pD).map T.d)[i] = .d (.tup [.int (pts[i]'(by simpa using hi)).1, .int (pts[i]'(by simpa using hi)).2]) := by
  rw [List.getElem_map, List.getElem_map]; rfl
theorem take_snoc {α : Type} {l : List α} {i : Nat} (h : i < l.length) : l.take (i + 1) = l.take i ++ [l[i]] := by
  rw [List.take_succ, List.getElem?_eq_getElem h]; rfl
theorem lag_all {p x : Int} (hp : 0 < p) : ∀ (qs : Pts) (part : List Int), (∀ k, 0 ≤ co part k ∧ co part k < p) → (∀ k, 0 ≤ co (qs.foldl (lag p x) part) k ∧ co (qs.foldl (lag p x) part) k < p) ∧ (qs.foldl (lag p x) part).length ≤ part.length + (qs.filter fun q => decide (q.1 ≠ x)).length
  | [], part, h => ⟨h, Nat.le_refl _⟩
  | q :: qs, part, h => by
    obtain ⟨h1, h2⟩ := lag_all hp qs (lag p x part q) (lag_range hp h)
    refine ⟨h1, ?_⟩
    have h3 := lag_len (p := p) (x := x) (part := part) (q := q)
    rw [List.foldl_cons]
    by_cases e : q.1 = x
    · rw [if_pos e] at h3
      rw [List.filter_cons_of_neg (by simp [e])]; omega
    · rw [if_neg e] at h3
      rw [List.filter_cons_of_pos (by simp [e]), List.length_cons]; omega
theorem start_range {p y : Int} (hy : 0 ≤ y ∧ y < p) (k : Nat) : 0 ≤ co [y] k ∧ co [y] k < p := by
  match k with
  | 0 => exact hy
  | k + 1 => rw [show co [y] (k + 1) = 0 from gd0 (by simp)]; omega
theorem inner_thr {p : Int} (hp : p ∈ P8) {pts : Pts} (hl : pts.length < 100) (hr : InR p pts) {x y : Int} (hx : 0 ≤ x ∧ x < p) (hy : 0 ≤ y ∧ y < p) {a2 a4 o6 o7 o8 : Sl} (h6 : NB o6) (h7 : NB o7) (h8 : NB o8) :
    ∃ o6' o7' o8', NB o6' ∧ NB o7' ∧ NB o8' ∧ fForN (kTup 2 (kCons (kName 6) (kCons (kName 7) kNil))) 1 lbody [.v (I p), .v (.d (.tup (pts.map pD))), a2, .v (I x), a4, .v (tp [y]), o6, o7, o8] = .nx [.v (I p), .v (.d (.tup (pts.map pD))), a2, .v (I x), a4, .v (tp (parts p pts (x, y))), o6', o7', o8'] := by
  obtain ⟨p1, p2⟩ := p_range hp
  have hp0 : 0 < p := by omega
  obtain ⟨en', h1, o6', o7', o8', n6, n7, n8, rfl⟩ := forE_ix (k := kTup 2 (kCons (kName 6) (kCons (kName 7) kNil))) (f := lbody) ((pts.map pD).map T.d) (fun i en => ∃ o6' o7' o8' : Sl, NB o6' ∧ NB o7' ∧ NB o8' ∧ en = [.v (I p), .v (.d (.tup (pts.map pD))), a2, .v (I x), a4, .v (tp ((pts.take i).foldl (lag p x) [y])), o6', o7', o8']) 0 (fun i hi en q => by
    rw [Nat.zero_add] at q ⊢
    obtain ⟨o6, o7, o8, h6, h7, h8, rfl⟩ := q
    have hi' : i < pts.length := by simpa using hi
    rw [pts_at hi]
    have hq := hr _ (List.getElem_mem hi')
    obtain ⟨r1, r2⟩ := lag_all (x := x) hp0 (pts.take i) [y] (start_range hy)
    have r3 : ((pts.take i).filter fun q => decide (q.1 ≠ x)).length ≤ (pts.take i).length := List.length_filter_le ..
    have r4 : (pts.take i).length ≤ i := by rw [List.length_take]; omega
    obtain ⟨o8', n8, e⟩ := lbody_ok hp (a1 := .v (.d (.tup (pts.map pD)))) (a2 := a2) (a4 := a4) (a7 := .v (I (pts[i]'hi').2)) (q := pts[i]'hi') hx hq.1 (by rw [List.length_singleton] at r2; omega) r1 h8
    refine ⟨[(6, I (pts[i]'hi').1), (7, I (pts[i]'hi').2)], _, _, rfl, stow2 (en1 := [.v (I p), .v (.d (.tup (pts.map pD))), a2, .v (I x), a4, .v (tp ((pts.take i).foldl (lag p x) [y])), .v (I (pts[i]'hi').1), o7, o8]) (by simp [h6.s]) (en2 := [.v (I p), .v (.d (.tup (pts.map pD))), a2, .v (I x), a4, .v (tp ((pts.take i).foldl (lag p x) [y])), .v (I (pts[i]'hi').1), .v (I (pts[i]'hi').2), o8]) (by simp [h7.s]), .inl e, .v (I (pts[i]'hi').1), .v (I (pts[i]'hi').2), o8', .v, .v, n8, ?_⟩
    rw [take_snoc hi', List.foldl_append]; rfl) [.v (I p), .v (.d (.tup (pts.map pD))), a2, .v (I x), a4, .v (tp [y]), o6, o7, o8] ⟨o6, o7, o8, h6, h7, h8, rfl⟩
  rw [Nat.zero_add, List.length_map, List.length_map, List.take_length] at h1
  exact ⟨o6', o7', o8', n6, n7, n8, h1⟩
end K01
namespace K01
open PySem PySem.Spec L2 Z
open PyProof.Rows hiding St
theorem parts_ok {p : Int} (hp : 0 < p) {pts : Pts} {q : Int × Int} (hq : 0 ≤ q.2 ∧ q.2 < p) (hm : q ∈ pts) : (∀ k, 0 ≤ co (parts p pts q) k ∧ co (parts p pts q) k < p) ∧ (parts p pts q).length ≤ pts.length := by
  obtain ⟨h1, h2⟩ := lag_all (x := q.1) hp pts [q.2] (start_range hq)
  refine ⟨h1, ?_⟩
  have h3 : (pts.filter fun r => decide (r.1 ≠ q.1)).length < pts.length := by
    rw [List.length_filter_lt_length_iff_exists]
    exact ⟨q, hm, by simp⟩
  unfold parts
  rw [List.length_singleton] at h2
  omega
theorem sumZ_len (p : Int) (f g : List Int) : (sumZ p f g).length ≤ max f.length g.length := by
  refine Nat.le_trans (tri_le _) ?_
  rw [tab_len]; omega
theorem thr_all {p : Int} (hp : 0 < p) {pts : Pts} (hr : InR p pts) : ∀ (qs : Pts), (∀ q ∈ qs, q ∈ pts) → ∀ f : List Int, f.length ≤ pts.length → (qs.foldl (fun found q => sumZ p found (parts p pts q)) f).length ≤ pts.length
  | [], _, f, h => h
  | q :: qs, hm, f, h => by
    refine thr_all hp hr qs (fun r m => hm r (List.mem_cons_of_mem _ m)) _ ?_
    show (sumZ p f (parts p pts q)).length ≤ pts.length
    have h1 := sumZ_len p f (parts p pts q)
    have h2 := (parts_ok hp (hr q (hm q (List.mem_cons_self ..))).2 (hm q (List.mem_cons_self ..))).2
    omega
def tbody : En → SR := (fSeq (fSet 5 (lft (gTup (aCons (vN 4) aNil))))
  (fSeq (fForN (kTup 2 (kCons (kName 6) (kCons (kName 7) kNil))) 1 lbody)
  (fSet 2 (lft (gFn F_poly_sum (aCons (vN 0) (aCons (vN 2) (aCons (vN 5) aNil))))))))
theorem through_ok {p : Int} (hp : p ∈ P8) {pts : Pts} (hl : pts.length < 100) (hr : InR p pts) : F_through [I p, .d (.tup (pts.map pD))] = .ok (tp (thr p pts)) := by
  obtain ⟨p1, p2⟩ := p_range hp
  have hp0 : 0 < p := by omega
  refine runP_ret rfl ?_
  show ∃ e, d_through [.v (I p), .v (.d (.tup (pts.map pD))), .n, .n, .n, .n, .n, .n, .n] = _
  unfold d_through
  refine ret_seq (en1 := [.v (I p), .v (.d (.tup (pts.map pD))), .v (tp []), .n, .n, .n, .n, .n, .n]) rfl ?_
  obtain ⟨en', h1, o3, o4, o5, o6, o7, o8, n3, n4, n5, n6, n7, n8, rfl⟩ := forE_ix (k := kTup 2 (kCons (kName 3) (kCons (kName 4) kNil))) (f := tbody) ((pts.map pD).map T.d) (fun i en => ∃ o3 o4 o5 o6 o7 o8 : Sl, NB o3 ∧ NB o4 ∧ NB o5 ∧ NB o6 ∧ NB o7 ∧ NB o8 ∧ en = [.v (I p), .v (.d (.tup (pts.map pD))), .v (tp ((pts.take i).foldl (fun found q => sumZ p found (parts p pts q)) [])), o3, o4, o5, o6, o7, o8]) 0 (fun i hi en q => by
    rw [Nat.zero_add] at q ⊢
    obtain ⟨o3, o4, o5, o6, o7, o8, n3, n4, n5, n6, n7, n8, rfl⟩ := q
    have hi' : i < pts.length := by simpa using hi
    rw [pts_at hi]
    generalize hq : pts[i]'hi' = q
    have qm : q ∈ pts := by rw [← hq]; exact List.getElem_mem hi'
    have qr := hr q qm
    have fl := thr_all hp0 hr (pts.take i) (fun r m => List.mem_of_mem_take m) [] (Nat.zero_le _)
    generalize hf : (pts.take i).foldl (fun found q => sumZ p found (parts p pts q)) [] = fo at fl
    have pk := parts_ok hp0 (pts := pts) qr.2 qm
    obtain ⟨o6', o7', o8', m6, m7, m8, e⟩ := inner_thr hp hl hr (x := q.1) (y := q.2) (a2 := .v (tp fo)) (a4 := .v (I q.2)) qr.1 qr.2 n6 n7 n8
    have sk := sum_ok (p := p) hp0 (f := fo) (g := parts p pts q) (by omega) (by omega)
    refine ⟨[(3, I q.1), (4, I q.2)], _, [.v (I p), .v (.d (.tup (pts.map pD))), .v (tp (sumZ p fo (parts p pts q))), .v (I q.1), .v (I q.2), .v (tp (parts p pts q)), o6', o7', o8'], rfl, stow2 (en1 := [.v (I p), .v (.d (.tup (pts.map pD))), .v (tp fo), .v (I q.1), o4, o5, o6, o7, o8]) (by simp [n3.s]) (en2 := [.v (I p), .v (.d (.tup (pts.map pD))), .v (tp fo), .v (I q.1), .v (I q.2), o5, o6, o7, o8]) (by simp [n4.s]), .inl ?_, .v (I q.1), .v (I q.2), .v (tp (parts p pts q)), o6', o7', o8', .v, .v, .v, m6, m7, m8, ?_⟩
    · unfold tbody
      have s1 : fSet 5 (lft (gTup (aCons (vN 4) aNil))) [.v (I p), .v (.d (.tup (pts.map pD))), .v (tp fo), .v (I q.1), .v (I q.2), o5, o6, o7, o8] = .nx [.v (I p), .v (.d (.tup (pts.map pD))), .v (tp fo), .v (I q.1), .v (I q.2), .v (tp [q.2]), o6, o7, o8] := by
        rw [fSet_ev, lft_n (x := tp [q.2]) rfl]
        simp [n5.s]
      rw [fSeq_ev, s1, sq_nx, fSeq_ev, e, sq_nx, fSet_ev, lft_n (x := tp (sumZ p fo (parts p pts q))) (by
        rw [gFn_ev]
        simp only [aCons_ev, aNil_ev, vN_ev, at_succ, at_zero, get_v, R.of_some, R.bind_ok, show parts p pts (q.1, q.2) = parts p pts q from rfl, sk])]
      rfl
    · rw [take_snoc hi', List.foldl_append, hf, hq]; rfl) [.v (I p), .v (.d (.tup (pts.map pD))), .v (tp []), .n, .n, .n, .n, .n, .n] ⟨.n, .n, .n, .n, .n, .n, .n, .n, .n, .n, .n, .n, rfl⟩
  rw [Nat.zero_add, List.length_map, List.length_map, List.take_length] at h1
  refine ret_seq h1 ?_
  exact ⟨_, by rw [fRet_ev, mName_n (d := .tup ((thr p pts).map D.int)) rfl]; rfl⟩
/-! what goes through the points -/
theorem fac_one {p : Int} (hp : p ∈ P8) {x o : Int} (hx : 0 ≤ x ∧ x < p) (ho : 0 ≤ o ∧ o < p) (h : o ≠ x) : ∃ c, -o * sc p x o % p + sc p x o * x = 1 + p * c := by
  have dm := diff_mod hx ho h
  obtain ⟨c1, e1⟩ := good_one (good hp dm.1 dm.2)
  have e1 : (x - o) % p * sc p x o = 1 + p * c1 := e1
  obtain ⟨c2, e2⟩ := dvd_mod (x - o) p
  obtain ⟨c3, e3⟩ := dvd_mod (-o * sc p x o) p
  rw [e2] at e1
  exact ⟨c1 - c2 * sc p x o + c3, by rw [e3]; grind⟩
theorem fac_zero {p x o : Int} : ∃ c, -o * sc p x o % p + sc p x o * o = 0 + p * c := by
  obtain ⟨c3, e3⟩ := dvd_mod (-o * sc p x o) p
  exact ⟨c3, by rw [e3]; grind⟩
theorem lag_one {p : Int} (hp : p ∈ P8) {x : Int} (hx : 0 ≤ x ∧ x < p) : ∀ (qs : Pts), InR p qs → ∀ part : List Int, ∃ c, ev (qs.foldl (lag p x) part) x = ev part x + p * c
  | [], _, part => ⟨0, by simp⟩
  | q :: qs, hr, part => by
    obtain ⟨c1, e1⟩ := lag_one hp hx qs (fun r m => hr r (List.mem_cons_of_mem _ m)) (lag p x part q)
    rw [List.foldl_cons, e1]
    unfold lag
    by_cases e : q.1 = x
    · rw [if_pos e]; exact ⟨c1, rfl⟩
    · rw [if_neg e]
      obtain ⟨c2, e2⟩ := ev_prod (p := p) (x := x) part (-q.1 * sc p x q.1 % p) (sc p x q.1)
      obtain ⟨c3, e3⟩ := fac_one hp hx (hr q (List.mem_cons_self ..)).1 e
      rw [e2, e3]
      exact ⟨ev part x * c3 + c2 + c1, by grind⟩
theorem lag_keep {p x z : Int} : ∀ (qs : Pts) (part : List Int), (∃ c, ev part z = p * c) → ∃ c, ev (qs.foldl (lag p x) part) z = p * c
  | [], part, h => h
  | q :: qs, part, ⟨c, h⟩ => by
    refine lag_keep qs (lag p x part q) ?_
    unfold lag
    by_cases e : q.1 = x
    · rw [if_pos e]; exact ⟨c, h⟩
    · rw [if_neg e]
      obtain ⟨c2, e2⟩ := ev_prod (p := p) (x := z) part (-q.1 * sc p x q.1 % p) (sc p x q.1)
      rw [e2, h]
      exact ⟨c * (-q.1 * sc p x q.1 % p + sc p x q.1 * z) + c2, by grind⟩
theorem lag_zero {p x z : Int} (hz : z ≠ x) : ∀ (qs : Pts), (∃ q ∈ qs, q.1 = z) → ∀ part : List Int, ∃ c, ev (qs.foldl (lag p x) part) z = p * c
  | [], h, _ => by obtain ⟨q, m, _⟩ := h; cases m
  | q :: qs, h, part => by
    by_cases e : q.1 = z
    · refine lag_keep qs (lag p x part q) ?_
      unfold lag
      rw [if_neg (by rw [e]; exact hz)]
      obtain ⟨c2, e2⟩ := ev_prod (p := p) (x := z) part (-q.1 * sc p x q.1 % p) (sc p x q.1)
      obtain ⟨c3, e3⟩ := fac_zero (p := p) (x := x) (o := q.1)
      rw [e] at e2 e3 ⊢
      rw [e2, e3]
      exact ⟨ev part z * c3 + c2, by grind⟩
    · refine lag_zero hz qs ?_ _
      obtain ⟨r, m, er⟩ := h
      rcases List.mem_cons.mp m with rfl | m
      · exact absurd er e
      · exact ⟨r, m, er⟩
theorem thr_sum {p : Int} (hp : p ∈ P8) {pts : Pts} (hr : InR p pts) {z : Int} (hz : ∃ q ∈ pts, q.1 = z) : ∀ (qs : Pts), (∀ q ∈ qs, q ∈ pts) → ∀ f : List Int, ∃ c, ev (qs.foldl (fun found q => sumZ p found (parts p pts q)) f) z = ev f z + ((qs.filter fun q => decide (q.1 = z)).map Prod.snd).sum + p * c
  | [], _, f => ⟨0, by simp⟩
  | q :: qs, hm, f => by
    obtain ⟨c1, e1⟩ := thr_sum hp hr hz qs (fun r m => hm r (List.mem_cons_of_mem _ m)) (sumZ p f (parts p pts q))
    rw [List.foldl_cons, e1]
    obtain ⟨c2, e2⟩ := ev_sum (p := p) (x := z) f (parts p pts q)
    rw [e2]
    have qr := hr q (hm q (List.mem_cons_self ..))
    by_cases e : q.1 = z
    · obtain ⟨c3, e3⟩ := lag_one hp qr.1 pts hr [q.2]
      have e4 : ev (parts p pts q) z = ev [q.2] q.1 + p * c3 := by rw [← e]; exact e3
      rw [e4, List.filter_cons_of_pos (by simp [e]), List.map_cons, List.sum_cons]
      show ∃ c, ev f z + (q.2 + q.1 * 0 + p * c3) + p * c2 + _ + p * c1 = _
      exact ⟨c3 + c2 + c1, by grind⟩
    · obtain ⟨c3, e3⟩ := lag_zero (p := p) (x := q.1) (z := z) (fun h => e h.symm) pts hz [q.2]
      have e4 : ev (parts p pts q) z = p * c3 := e3
      rw [e4, List.filter_cons_of_neg (by simp [e])]
      exact ⟨c3 + c2 + c1, by grind⟩
theorem filter_one {pts : Pts} (hd : (pts.map Prod.fst).Nodup) {q : Int × Int} (hq : q ∈ pts) : (pts.filter fun r => decide (r.1 = q.1)) = [q] := by
  induction pts with
  | nil => cases hq
  | cons r pts ih =>
    rw [List.map_cons, List.nodup_cons] at hd
    rcases List.mem_cons.mp hq with rfl | hq
    · rw [List.filter_cons_of_pos (by simp)]
      have : (pts.filter fun r => decide (r.1 = q.1)) = [] := by
        rw [List.filter_eq_nil_iff]
        intro r hr h
        have h : r.1 = q.1 := by simpa using h
        exact hd.1 (h ▸ List.mem_map_of_mem hr)
      rw [this]
    · have hne : r.1 ≠ q.1 := fun h => hd.1 (h ▸ List.mem_map_of_mem hq)
      rw [List.filter_cons_of_neg (by simp [hne]), ih hd.2 hq]
theorem thr_value {p : Int} (hp : p ∈ P8) {pts : Pts} (hr : InR p pts) (hd : (pts.map Prod.fst).Nodup) {q : Int × Int} (hq : q ∈ pts) : ev (thr p pts) q.1 % p = q.2 := by
  obtain ⟨c, e⟩ := thr_sum hp hr ⟨q, hq, rfl⟩ pts (fun _ m => m) []
  have e : ev (thr p pts) q.1 = ev [] q.1 + _ + p * c := e
  rw [e, filter_one hd hq]
  show (0 + (q.2 + 0) + p * c) % p = q.2
  rw [Int.zero_add, Int.add_zero, Int.add_mul_emod_self_left]
  exact Int.emod_eq_of_lt (hr q hq).2.1 (hr q hq).2.2
theorem thr_tri {p : Int} {pts : Pts} : ∀ (qs : Pts) (f : List Int), (f = [] ∨ f.getD (f.length - 1) 0 ≠ 0) → (qs.foldl (fun found q => sumZ p found (parts p pts q)) f = [] ∨ (qs.foldl (fun found q => sumZ p found (parts p pts q)) f).getD ((qs.foldl (fun found q => sumZ p found (parts p pts q)) f).length - 1) 0 ≠ 0)
  | [], f, h => h
  | q :: qs, f, _ => thr_tri qs (sumZ p f (parts p pts q)) (tri_top _)
theorem thr_co {p : Int} (hp : 0 < p) {pts : Pts} : ∀ (qs : Pts) (f : List Int), (∀ k, 0 ≤ co f k ∧ co f k < p) → ∀ k, 0 ≤ co (qs.foldl (fun found q => sumZ p found (parts p pts q)) f) k ∧ co (qs.foldl (fun found q => sumZ p found (parts p pts q)) f) k < p
  | [], f, h => h
  | q :: qs, f, _ => thr_co hp qs (sumZ p f (parts p pts q)) fun k => by rw [sumZ_co]; exact mod_range _ hp
end K01
namespace K01
open PySem PySem.Spec L2 Z
open PyProof.Rows hiding St
theorem draw_ok' {ns : List Int} (hl : ns.length ≤ 63) {s : T} (hs : Stt ns s) {m : Int} (h0 : 0 < m) (h1 : m < 1000000000) : ∃ v s', 0 ≤ v ∧ v < m ∧ F__law_draw s [I m] = .ok (I v) s' ∧ Stt ns s' := draw_ok hl hs h0 h1
theorem oneof_ok' {ns : List Int} (hl : ns.length ≤ 63) {s : T} (hs : Stt ns s) {ds : List D} (h0 : 0 < ds.length) (h1 : ds.length < 1000000000) : ∃ d s', d ∈ ds ∧ F__law_one_of s [.l (ds.map T.d)] = .ok (.d d) s' ∧ Stt ns s' := oneof_ok hl hs h0 h1
/-- one argument told, the state lent -/
theorem callb {F : T → List T → RF} {s s' x r : T} {en : En} {g : En → R T} (hg : g (.b s :: en) = .ok x) (e : F s [x] = .ok r s') : mCallM 0 F (hO (lft g) hNil) (.b s :: en) = .ok r (.b s' :: en) :=
  callM (i := 0) (hm := hO (lft g) hNil) (hs := [.o x]) (en := .b s :: en) (en1 := .b s :: en) (x0 := s) (x1 := s) (xs := [x]) rfl (by rw [hO_ev, lft_n hg, RM.bind_ok, hNil_ev, RM.bind_ok]) rfl rfl e
theorem callbn {F : T → List T → RF} {s s' r : T} {d : D} {en : En} (e : F s [.d d] = .ok r s') : mCallM 0 F (hN 1 hNil) (.b s :: .v (.d d) :: en) = .ok r (.b s' :: .v (.d d) :: en) :=
  callM (i := 0) (hm := hN 1 hNil) (hs := [.n 1]) (en := .b s :: .v (.d d) :: en) (en1 := .b s :: .v (.d d) :: en) (x0 := s) (x1 := s) (xs := [.d d]) rfl rfl rfl rfl e
theorem poly_ok {ns : List Int} (hl : ns.length ≤ 63) {s : T} (hs : Stt ns s) {p m : Int} (hp : 0 < p) (hp2 : p < 1000) (hm : 0 ≤ m) (hm2 : m < 20) : ∃ f s', F__law_poly s [I p, I m] = .ok (tp f) s' ∧ Stt ns s' ∧ (f.length : Int) ≤ m ∧ (f = [] ∨ f.getD (f.length - 1) 0 ≠ 0) ∧ ∀ k, 0 ≤ co f k ∧ co f k < p := by
  obtain ⟨v, s1, v0, v1, e1, hs1⟩ := draw_ok' hl hs (m := m + 1) (by omega) (by omega)
  have c1 : mR1 (mCallM 0 F__law_draw (hO (lft (g2 fAdd (vN 2) (kI 1))) hNil)) [.b s, .v (I p), .v (I m), .n] = .ok (rng 0 1 v.toNat) [.b s1, .v (I p), .v (I m), .n] := by
    have c := callb (F := F__law_draw) (en := [.v (I p), .v (I m), .n]) (g := g2 fAdd (vN 2) (kI 1)) (x := I (m + 1)) (by simp) e1
    rw [mR1_ev, c, RM.bind_ok, fR1_n (by omega) (by omega), RM.of_ok]
  obtain ⟨ys, en', e2, el, ey, s2, hs2, rfl⟩ := lcM_inv (vs := [3]) (v := 3) (te := mCallM 0 F__law_draw (hN 1 hNil)) (fun en => ∃ s2, Stt ns s2 ∧ en = [.b s2, .v (I p), .v (I m), .n]) (fun y => ∃ z, y = I z ∧ (0 ≤ z ∧ z < p)) (fun d en q => by
    obtain ⟨s2, hs2, rfl⟩ := q
    obtain ⟨w, s3, w0, w1, e3, hs3⟩ := draw_ok' hl hs2 (m := p) hp (by omega)
    exact ⟨[.b s2, .v (I p), .v (I m), .v (.d d)], I w, [.b s3, .v (I p), .v (I m), .v (.d d)], rfl, callbn e3, ⟨w, rfl, w0, w1⟩, s3, hs3, rfl⟩) ((List.range v.toNat).map fun i => D.int (0 + (i : Nat) * 1)) [.b s1, .v (I p), .v (I m), .n] ⟨s1, hs1, rfl⟩
  obtain ⟨zs, rfl, hz⟩ := ints_of ey
  have lz : zs.length = v.toNat := by simpa using el
  rw [← rng_d] at e2
  have t1 := law_trimmed_ok (x := ls zs) (.inr rfl) (by omega)
  have cz : ∀ k, 0 ≤ co zs k ∧ co zs k < p := fun k => by
    by_cases hk : k < zs.length
    · unfold co; rw [gd hk]; exact hz _ (List.getElem_mem hk)
    · rw [show co zs k = 0 from gd0 (by omega)]; omega
  refine ⟨tri zs, s2, runM_ret rfl ⟨[.v (I p), .v (I m), .n], ?_⟩, hs2, by have := tri_le zs; omega, tri_top zs, fun k => by rw [co_tri]; exact cz k⟩
  show d__law_poly [.b s, .v (I p), .v (I m), .n] = _
  unfold d__law_poly
  have hlen : ((zs.map D.int).map T.d).length < most := by rw [List.length_map, List.length_map]; unfold most; omega
  have e3 : mLc [3] (mR1 (mCallM 0 F__law_draw (hO (lft (g2 fAdd (vN 2) (kI 1))) hNil))) (kName 3) gYes (mCallM 0 F__law_draw (hN 1 hNil)) [.b s, .v (I p), .v (I m), .n] = .ok (ls zs) [.b s2, .v (I p), .v (I m), .n] := by
    unfold mLc
    rw [c1, RM.bind_ok, e2, mcalm_ok, RM.bind_ok, if_pos hlen]
  rw [fRet_ev, mOf_ev, mCons_ev, e3, RM.bind_ok, mNil_ev, RM.bind_ok, RM.bind_ok, t1, RM.of_ok, RM.s_ok]
theorem inV_ints (a : Int) : ∀ zs : List Int, L2.inV (.int a) (zs.map V.int) = decide (a ∈ zs) := by
  intro zs
  induction zs with
  | nil => simp [L2.inV]
  | cons z zs ih =>
    rw [List.map_cons]
    unfold L2.inV at ih ⊢
    rw [List.any_cons, ih, show L2.eqV (.int z) (.int a) = (z == a) from rfl]
    by_cases h : z = a
    · subst h; simp
    · have h2 : ¬ a = z := fun e => h e.symm
      simp [h, h2]
theorem fv_ints : ∀ zs : List Int, ((zs.map D.int).map fv) = zs.map V.int := fun zs => by rw [List.map_map]; rfl
theorem flt_ints : ∀ zs : List Int, (zs.map D.int).all flt = true
  | [] => rfl
  | z :: zs => by rw [List.map_cons, List.all_cons, flt_ints zs]; rfl
theorem notIn_ints (a : Int) (zs : List Int) : fNotIn (I a) (ls zs) = some (.d (.bl (!decide (a ∈ zs)))) := by
  show (match dataOf (ls zs) with
    | some ds => if flt (.int a) && ds.all flt then some (T.d (.bl (!isIn (.int a) ds))) else none
    | none => none) = _
  rw [show dataOf (ls zs) = some (zs.map D.int) from row_data (.inr rfl)]
  show (if (true && (zs.map D.int).all flt) = true then some (T.d (.bl (!isIn (.int a) (zs.map D.int)))) else none) = _
  rw [flt_ints, if_pos (show (true && true) = true from rfl)]
  unfold isIn
  rw [fv_ints, show fv (.int a) = .int a from rfl, inV_ints]
abbrev pl (pts : Pts) : T := .l ((pts.map pD).map T.d)
def gbody : En → SR := (fSeq (fSet 5 (mCallM 0 F__law_draw (hN 1 hNil)))
  (fIf (lft (gT (g2 fNotIn (vN 5) (gLc [6, 7] (gIt (vN 3)) (kTup 2 (kCons (kName 6) (kCons (kName 7) kNil))) gYes (gPur (vN 6)))))) (fExpr (mApp 3 (mOf mkTup (mCons (lft (gPur (vN 5))) (mCons (mCallM 0 F__law_draw (hN 1 hNil)) mNil))))) fNil))
theorem gbody_ok {ns : List Int} (hl : ns.length ≤ 63) {s : T} (hs : Stt ns s) {p m i : Int} (hp : 0 < p) (hp2 : p < 1000) {pts : Pts} (hpl : pts.length < 100) (hr : InR p pts) (hd : (pts.map Prod.fst).Nodup) {o5 : Sl} (h5 : NB o5) :
    ∃ s' pts' v, Stt ns s' ∧ pts'.length ≤ pts.length + 1 ∧ InR p pts' ∧ (pts'.map Prod.fst).Nodup ∧ gbody [.b s, .v (I p), .v (I m), .v (pl pts), .v (I i), o5, .n, .n] = .nx [.b s', .v (I p), .v (I m), .v (pl pts'), .v (I i), .v (I v), .n, .n] := by
  obtain ⟨v, s1, v0, v1, e1, hs1⟩ := draw_ok' hl hs (m := p) hp (by omega)
  have s5 : fSet 5 (mCallM 0 F__law_draw (hN 1 hNil)) [.b s, .v (I p), .v (I m), .v (pl pts), .v (I i), o5, .n, .n] = .nx [.b s1, .v (I p), .v (I m), .v (pl pts), .v (I i), .v (I v), .n, .n] := by
    rw [fSet_ev, callbn e1]
    simp [h5.s]
  have el : gLc [6, 7] (gIt (vN 3)) (kTup 2 (kCons (kName 6) (kCons (kName 7) kNil))) gYes (gPur (vN 6)) [.b s1, .v (I p), .v (I m), .v (pl pts), .v (I i), .v (I v), .n, .n] = .ok (ls (pts.map Prod.fst)) := by
    rw [gLc_ev, show gIt (vN 3) [.b s1, .v (I p), .v (I m), .v (pl pts), .v (I i), .v (I v), .n, .n] = .ok ((pts.map pD).map T.d) from rfl, R.bind_ok, if_pos (show ((pts.map pD).map T.d).length < most by rw [List.length_map, List.length_map]; unfold most; omega)]
    have : ∀ (qs : Pts), lcL (kTup 2 (kCons (kName 6) (kCons (kName 7) kNil))) gYes (gPur (vN 6)) (wipeE [.b s1, .v (I p), .v (I m), .v (pl pts), .v (I i), .v (I v), .n, .n] [6, 7]) ((qs.map pD).map T.d) = .ok (((qs.map Prod.fst).map D.int).map T.d) := by
      intro qs
      induction qs with
      | nil => rfl
      | cons q qs ih =>
        rw [List.map_cons, List.map_cons]
        unfold lcL
        rw [ih]
        rfl
    rw [this, calm_ok, R.bind_ok]
  have ni := notIn_ints v (pts.map Prod.fst)
  have eg : gT (g2 fNotIn (vN 5) (gLc [6, 7] (gIt (vN 3)) (kTup 2 (kCons (kName 6) (kCons (kName 7) kNil))) gYes (gPur (vN 6)))) [.b s1, .v (I p), .v (I m), .v (pl pts), .v (I i), .v (I v), .n, .n] = .ok (!decide (v ∈ pts.map Prod.fst)) := by
    rw [gT_ev, g2_ev, el]
    simp only [vN_ev, at_succ, at_zero, get_v, R.of_some, R.bind_ok, ni, tst_b]
  unfold gbody
  by_cases hin : v ∈ pts.map Prod.fst
  · refine ⟨s1, pts, v, hs1, by omega, hr, hd, ?_⟩
    rw [fSeq_ev, s5, sq_nx, fIf_f (by rw [eg, decide_eq_true hin]; rfl), fNil_ev]
  · obtain ⟨w, s2, w0, w1, e2, hs2⟩ := draw_ok' hl hs1 (m := p) hp (by omega)
    refine ⟨s2, pts ++ [(v, w)], v, hs2, by simp, fun q hq => ?_, ?_, ?_⟩
    · rcases List.mem_append.mp hq with hq | hq
      · exact hr q hq
      · rw [List.mem_singleton.mp hq]; exact ⟨⟨v0, v1⟩, w0, w1⟩
    · rw [List.map_append, List.nodup_append]
      refine ⟨hd, by simp, fun a ha b hb e => ?_⟩
      have : b = v := by simpa using hb
      subst this; subst e
      exact hin ha
    · rw [fSeq_ev, s5, sq_nx, fIf_t (by rw [eg, decide_eq_false hin]; rfl), fExpr_ev]
      have em : mOf mkTup (mCons (lft (gPur (vN 5))) (mCons (mCallM 0 F__law_draw (hN 1 hNil)) mNil)) [.b s1, .v (I p), .v (I m), .v (pl pts), .v (I i), .v (I v), .n, .n] = .ok (.d (pD (v, w))) [.b s2, .v (I p), .v (I m), .v (pl pts), .v (I i), .v (I v), .n, .n] := by
        rw [mOf_ev, mCons_ev, lft_n (x := I v) rfl, RM.bind_ok, mCons_ev, callbn e2, RM.bind_ok, mNil_ev, RM.bind_ok, RM.bind_ok, RM.bind_ok]
        rfl
      have hlen : ((pts.map pD).map T.d).length < most := by rw [List.length_map, List.length_map]; unfold most; omega
      have ea : mApp 3 (mOf mkTup (mCons (lft (gPur (vN 5))) (mCons (mCallM 0 F__law_draw (hN 1 hNil)) mNil))) [.b s1, .v (I p), .v (I m), .v (pl pts), .v (I i), .v (I v), .n, .n] = .ok (.d .non) [.b s2, .v (I p), .v (I m), .v (pl (pts ++ [(v, w)])), .v (I i), .v (I v), .n, .n] := by
        unfold mApp
        rw [em]
        have e3 : ((pts.map pD).map T.d) ++ [.d (pD (v, w))] = (((pts ++ [(v, w)]).map pD).map T.d) := by rw [List.map_append, List.map_append]; rfl
        simp only [own_succ, own_v0, RM.bind_ok, if_pos hlen, setO_succ, setO_v0, e3]
      rw [ea]; rfl
theorem points_ok {ns : List Int} (hl : ns.length ≤ 63) {s : T} (hs : Stt ns s) {p m : Int} (hp : 0 < p) (hp2 : p < 1000) (hm : 0 ≤ m) (hm2 : m < 20) : ∃ pts s', F__law_points s [I p, I m] = .ok (.d (.tup (pts.map pD))) s' ∧ Stt ns s' ∧ pts.length < 100 ∧ InR p pts ∧ (pts.map Prod.fst).Nodup := by
  have er := gR1_n (g := vN 2) (en := [.b s, .v (I p), .v (I m), .v (pl []), .n, .n, .n, .n]) (z := m) rfl (by omega) (by omega)
  obtain ⟨en', h1, s', pts, o4, o5, hs', hlen, hr, hd, n4, n5, rfl⟩ := for_ix (v := 4) (f := gbody) (fun i en => ∃ (s' : T) (pts : Pts) (o4 o5 : Sl), Stt ns s' ∧ (pts.length ≤ i ∧ i ≤ m.toNat) ∧ InR p pts ∧ (pts.map Prod.fst).Nodup ∧ NB o4 ∧ NB o5 ∧ en = [.b s', .v (I p), .v (I m), .v (pl pts), o4, o5, .n, .n]) _ (lft_n er) ⟨s, [], .n, .n, hs, ⟨Nat.le_refl _, Nat.zero_le _⟩, fun _ m => by (cases m), List.nodup_nil, .n, .n, rfl⟩ (fun i hi en q => by
    obtain ⟨s1, pts, o4, o5, hs1, ⟨hlen, him⟩, hr, hd, n4, n5, rfl⟩ := q
    rw [rng_at hi]
    rw [rng_len] at hi
    obtain ⟨s2, pts', v, hs2, hl2, hr2, hd2, e⟩ := gbody_ok hl hs1 (m := m) (i := 0 + (i : Int)) hp hp2 (by omega) hr hd n5
    exact ⟨_, _, by simp [n4.s], .inl e, s2, pts', .v (I (0 + (i : Int))), .v (I v), hs2, ⟨by omega, by omega⟩, hr2, hd2, .v, .v, rfl⟩)
  rw [rng_len] at hlen
  refine ⟨pts, s', runM_ret rfl ?_, hs', by omega, hr, hd⟩
  show ∃ e, d__law_points [.b s, .v (I p), .v (I m), .n, .n, .n, .n, .n] = .ret _ (.b s' :: e)
  unfold d__law_points
  refine ⟨[.v (I p), .v (I m), .v (pl pts), o4, o5, .n, .n], ?_⟩
  rw [fSeq_ev, show fSet 3 (lft (gLst aNil)) [.b s, .v (I p), .v (I m), .n, .n, .n, .n, .n] = .nx [.b s, .v (I p), .v (I m), .v (pl []), .n, .n, .n, .n] from rfl, sq_nx, fSeq_ev]
  have h1' : fFor (kName 4) (lft (gR1 (vN 2))) gbody [.b s, .v (I p), .v (I m), .v (pl []), .n, .n, .n, .n] = _ := h1
  unfold gbody at h1'
  rw [h1', sq_nx, fRet_ev, lft_n (x := .d (.tup (pts.map pD))) (by
    simp only [gCall_ev, aCons_ev, aNil_ev, vN_ev, at_succ, at_zero, get_v, R.of_some, R.bind_ok, fTuple_ev, dataOf_l, allD_map, Option.map_some])]
  rfl
end K01
namespace K01
open PySem PySem.Spec L2 Z
open PyProof.Rows hiding St
/-! the closed looks -/
def okP (n : Int) : Bool := match F_is_prime [I n] with
  | .ok (.d a) => match F__law_is_prime [I n] with
    | .ok (.d b) => okIs (F__law_says [.d a, .d b]) (.bl true)
    | _ => false
  | _ => false
theorem prime_all : ((List.range 265).all fun i => okP (-3 + (i : Nat))) = true := by decide +kernel
theorem prime_ok {n : Int} (h : okP n = true) : ∃ a b, F_is_prime [I n] = .ok (.d a) ∧ F__law_is_prime [I n] = .ok (.d b) ∧ F__law_says [.d a, .d b] = .ok (.d (.bl true)) := by
  unfold okP at h
  split at h
  · rename_i a e1
    split at h
    · rename_i b e2
      exact ⟨a, b, e1, e2, okIs_eq h⟩
    · cases h
  · cases h
def cdata : En → R T := gCall fAny (aCons (gLc [10] (gIt (gLst (aCons (kS (Str.ofString "5")) (aCons (gTup (aCons (kI 5) aNil)) (aCons (gTup aNil) (aCons (g2 fAdd (g2 fPow (kI 10) (kI 20)) (kI 39)) (aCons (g1 fNeg (kI 7)) aNil))))))) (kName 10) gYes (g2 fIsNot (gFn F_is_prime (aCons (vN 10) aNil)) (kB false))) aNil)
def isF (d : T) : Bool := match F_is_prime [d] with
  | .ok (.d (.bl false)) => true
  | _ => false
theorem isF_eq {d : T} (h : isF d = true) : F_is_prime [d] = .ok (.d (.bl false)) := by
  unfold isF at h
  split at h
  · assumption
  · cases h
theorem data5 : (isF (.d (.str (Str.ofString "5"))) && isF (.d (.tup [.int 5])) && isF (.d (.tup [])) && isF (I (10 ^ 20 + 39)) && isF (I (-7))) = true := by decide +kernel
theorem cdata_ok {scr s : T} {o2 : Sl} : cdata [.v scr, .v s, o2, .n, .n, .n, .n, .n, .n, .n, .n, .n, .n] = .ok (.d (.bl false)) := by
  have h := data5
  simp only [Bool.and_eq_true] at h
  obtain ⟨⟨⟨⟨h1, h2⟩, h3⟩, h4⟩, h5⟩ := h
  have ep : g2 fAdd (g2 fPow (kI 10) (kI 20)) (kI 39) [.v scr, .v s, o2, .n, .n, .n, .n, .n, .n, .n, .n, .n, .n] = .ok (I (10 ^ 20 + 39)) := rfl
  have el : gIt (gLst (aCons (kS (Str.ofString "5")) (aCons (gTup (aCons (kI 5) aNil)) (aCons (gTup aNil) (aCons (g2 fAdd (g2 fPow (kI 10) (kI 20)) (kI 39)) (aCons (g1 fNeg (kI 7)) aNil)))))) [.v scr, .v s, o2, .n, .n, .n, .n, .n, .n, .n, .n, .n, .n] = .ok [.d (.str (Str.ofString "5")), .d (.tup [.int 5]), .d (.tup []), I (10 ^ 20 + 39), I (-7)] := by
    have e5 : (5 : Nat) ≤ most := by decide
    rw [gIt_ev, gLst_ev, aCons_ev, kS_ev, R.bind_ok, aCons_ev, show gTup (aCons (kI 5) aNil) [.v scr, .v s, o2, .n, .n, .n, .n, .n, .n, .n, .n, .n, .n] = .ok (.d (.tup [.int 5])) from rfl, R.bind_ok, aCons_ev, show gTup aNil [.v scr, .v s, o2, .n, .n, .n, .n, .n, .n, .n, .n, .n, .n] = .ok (.d (.tup [])) from rfl, R.bind_ok, aCons_ev, ep, R.bind_ok, aCons_ev, show g1 fNeg (kI 7) [.v scr, .v s, o2, .n, .n, .n, .n, .n, .n, .n, .n, .n, .n] = .ok (I (-7)) from rfl, R.bind_ok, aNil_ev, R.bind_ok, R.bind_ok, R.bind_ok, R.bind_ok, R.bind_ok, R.bind_ok, mkLst_ev, if_pos (show [T.d (.str (Str.ofString "5")), .d (.tup [.int 5]), .d (.tup []), I (10 ^ 20 + 39), I (-7)].length ≤ most from e5), R.bind_ok]
    rfl
  have em := lcL_map (v := 10) (te := g2 fIsNot (gFn F_is_prime (aCons (vN 10) aNil)) (kB false)) (en := wipeE [.v scr, .v s, o2, .n, .n, .n, .n, .n, .n, .n, .n, .n, .n] [10]) (G := fun _ => T.d (.bl false)) (xs := [.d (.str (Str.ofString "5")), .d (.tup [.int 5]), .d (.tup []), I (10 ^ 20 + 39), I (-7)]) (fun x hx => by
    have hf : ∃ d, x = .d d ∧ F_is_prime [x] = .ok (.d (.bl false)) := by
      rcases List.mem_cons.mp hx with rfl | hx
      · exact ⟨_, rfl, isF_eq h1⟩
      rcases List.mem_cons.mp hx with rfl | hx
      · exact ⟨_, rfl, isF_eq h2⟩
      rcases List.mem_cons.mp hx with rfl | hx
      · exact ⟨_, rfl, isF_eq h3⟩
      rcases List.mem_cons.mp hx with rfl | hx
      · exact ⟨_, rfl, isF_eq h4⟩
      rcases List.mem_cons.mp hx with rfl | hx
      · exact ⟨_, rfl, isF_eq h5⟩
      · cases hx
    obtain ⟨d, rfl, hf⟩ := hf
    have e : fIsNot (.d (.bl false)) (.d (.bl false)) = some (.d (.bl false)) := rfl
    simp only [wipeE_cons, wipeE_nil, List.set_cons_succ, List.set_cons_zero, mkS_d, g2_ev, gFn_ev, aCons_ev, aNil_ev, vN_ev, kB_ev, at_succ, at_zero, get_v, R.of_some, R.bind_ok, hf, e])
  unfold cdata
  rw [gCall_ev, aCons_ev, gLc_ev, el, R.bind_ok, if_pos (show [T.d (.str (Str.ofString "5")), .d (.tup [.int 5]), .d (.tup []), I (10 ^ 20 + 39), I (-7)].length < most from show 5 < 16777216 by decide), em, calm_ok]
  rfl
/-- for one prime -/
def lawbody : En → SR := (fSeq (fSet 4 (m2 fAdd (lft (kI 1)) (mCallM 1 F__law_draw (hO (lft (g2 fSub (vN 3) (kI 1))) hNil))))
  (fSeq (fIf (lft (gOr (gNot (gTru (gFn F__law_is_int (aCons (gFn F_inverse (aCons (vN 3) (aCons (vN 4) aNil))) aNil)))) (gOr (gNot (gT (gCh fLt fLt (kI 0) (gFn F_inverse (aCons (vN 3) (aCons (vN 4) aNil))) (vN 3)))) (gT (g2 fNe (g2 fMod (gCall fInt (aCons (g2 fMul (vN 4) (gFn F_inverse (aCons (vN 3) (aCons (vN 4) aNil)))) aNil)) (vN 3)) (kI 1)))))) (fRet (lft (kB false))) fNil)
  (fSeq (fSet 5 (mCallM 1 F__law_poly (hN 3 (hO (lft (kI 8)) hNil))))
  (fSeq (fSet 6 (mCallM 1 F__law_poly (hN 3 (hO (lft (kI 5)) hNil))))
  (fSeq (fSet 7 (mCallM 1 F__law_draw (hN 3 hNil)))
  (fSeq (fIf (lft (gNot (gTru (gFn (F__law_same 4) (aCons (gFn F_poly_sum (aCons (vN 3) (aCons (vN 5) (aCons (vN 6) aNil)))) (aCons (gFn F__law_sum (aCons (vN 3) (aCons (vN 5) (aCons (vN 6) aNil)))) aNil)))))) (fRet (lft (kB false))) fNil)
  (fSeq (fIf (lft (gNot (gTru (gFn (F__law_same 4) (aCons (gFn F_poly_product (aCons (vN 3) (aCons (vN 5) (aCons (vN 6) aNil)))) (aCons (gFn F__law_product (aCons (vN 3) (aCons (vN 5) (aCons (vN 6) aNil)))) aNil)))))) (fRet (lft (kB false))) fNil)
  (fSeq (fIf (lft (gNot (gTru (gFn (F__law_same 4) (aCons (gFn F_poly_value (aCons (vN 3) (aCons (vN 5) (aCons (vN 7) aNil)))) (aCons (gFn F__law_value (aCons (vN 3) (aCons (vN 5) (aCons (vN 7) aNil)))) aNil)))))) (fRet (lft (kB false))) fNil)
  (fSeq (fIf (lft (gAnd (gT (g2 fNe (vN 6) (gTup aNil))) (gNot (gTru (gFn F__law_is_divided (aCons (vN 3) (aCons (vN 5) (aCons (vN 6) (aCons (gFn F_poly_divided (aCons (vN 3) (aCons (vN 5) (aCons (vN 6) aNil)))) aNil))))))))) (fRet (lft (kB false))) fNil)
  (fSeq (fSet 8 (mCallM 1 F__law_points (hN 3 (hO (mCallM 1 F__law_draw (hO (lft (kI 8)) hNil)) hNil))))
  (fSeq (fSet 9 (lft (gFn F_through (aCons (vN 3) (aCons (vN 8) aNil)))))
  (fSeq (fIf (lft (gOr (gNot (gTru (gFn (F__law_same 4) (aCons (vN 9) (aCons (gFn F__law_trimmed (aCons (vN 9) aNil)) aNil))))) (gT (g2 fGt (gCall fLen (aCons (vN 9) aNil)) (gCall fLen (aCons (vN 8) aNil)))))) (fRet (lft (kB false))) fNil)
  (fIf (lft (gNot (gTru (gCall fAll (aCons (gLc [11, 12] (gIt (vN 8)) (kTup 2 (kCons (kName 11) (kCons (kName 12) kNil))) gYes (gFn (F__law_same 4) (aCons (gFn F__law_value (aCons (vN 3) (aCons (vN 9) (aCons (vN 11) aNil)))) (aCons (vN 12) aNil)))) aNil))))) (fRet (lft (kB false))) fNil)))))))))))))
/-- calls with the state at its name -/
theorem call1 {F : T → List T → RF} {a0 : Sl} {s s' x r : T} {en : En} {g : En → R T} (hg : g (a0 :: .v s :: en) = .ok x) (e : F s [x] = .ok r s') : mCallM 1 F (hO (lft g) hNil) (a0 :: .v s :: en) = .ok r (a0 :: .v s' :: en) :=
  callM (i := 1) (hm := hO (lft g) hNil) (hs := [.o x]) (en := a0 :: .v s :: en) (en1 := a0 :: .v s :: en) (x0 := s) (x1 := s) (xs := [x]) rfl (by rw [hO_ev, lft_n hg, RM.bind_ok, hNil_ev, RM.bind_ok]) rfl rfl e
theorem call3 {F : T → List T → RF} {a0 a2 : Sl} {s s' r : T} {d : D} {en : En} (e : F s [.d d] = .ok r s') : mCallM 1 F (hN 3 hNil) (a0 :: .v s :: a2 :: .v (.d d) :: en) = .ok r (a0 :: .v s' :: a2 :: .v (.d d) :: en) :=
  callM (i := 1) (hm := hN 3 hNil) (hs := [.n 3]) (en := a0 :: .v s :: a2 :: .v (.d d) :: en) (en1 := a0 :: .v s :: a2 :: .v (.d d) :: en) (x0 := s) (x1 := s) (xs := [.d d]) rfl rfl rfl rfl e
theorem call3m {F : T → List T → RF} {a0 a2 : Sl} {s s1 s' r x : T} {d : D} {en : En} {m : En → RM T} (hm : m (a0 :: .v s :: a2 :: .v (.d d) :: en) = .ok x (a0 :: .v s1 :: a2 :: .v (.d d) :: en)) (e : F s1 [.d d, x] = .ok r s') : mCallM 1 F (hN 3 (hO m hNil)) (a0 :: .v s :: a2 :: .v (.d d) :: en) = .ok r (a0 :: .v s' :: a2 :: .v (.d d) :: en) :=
  callM (i := 1) (hm := hN 3 (hO m hNil)) (hs := [.n 3, .o x]) (en := a0 :: .v s :: a2 :: .v (.d d) :: en) (en1 := a0 :: .v s1 :: a2 :: .v (.d d) :: en) (x0 := s) (x1 := s1) (xs := [.d d, x]) rfl (by
    rw [hN_ev, if_pos (show (at_ (a0 :: .v s :: a2 :: .v (.d d) :: en) 3).isSome = true from rfl), hO_ev, hm, RM.bind_ok, hNil_ev, RM.bind_ok, RM.bind_ok]) rfl rfl e
end K01
namespace K01
open PySem PySem.Spec L2 Z
open PyProof.Rows hiding St
theorem if_skip {b : En → SR} {g : En → R Bool} {en : En} (h : g en = .ok false) : fIf (lft g) b fNil en = .nx en := by rw [fIf_f h, fNil_ev]
theorem not_f {g : En → R T} {en : En} (h : g en = .ok (.d (.bl true))) : gNot (gTru g) en = .ok false := by
  rw [gNot_ev, gTru_ev, h]; rfl
theorem same2 {ga gb : En → R T} {en : En} {x : T} {F : List T → R T} (ha : ga en = .ok x) (hb : gb en = .ok x) (hF : F [x, x] = .ok (.d (.bl true))) : gNot (gTru (gFn F (aCons ga (aCons gb aNil)))) en = .ok false := by
  refine not_f ?_
  rw [gFn_ev, aCons_ev, ha, R.bind_ok, aCons_ev, hb, R.bind_ok, aNil_ev, R.bind_ok, R.bind_ok, R.bind_ok, hF]
theorem pts_rep (pts : Pts) : pts.map pD = pts.map fun q => D.tup [.int q.1, .int q.2] := rfl
theorem lawbody_ok {ns : List Int} (hl : ns.length ≤ 63) {s : T} (hs : Stt ns s) {p : Int} (hp : p ∈ P8) {a0 a2 o4 o5 o6 o7 o8 o9 a10 : Sl} (n4 : NB o4) (n5 : NB o5) (n6 : NB o6) (n7 : NB o7) (n8 : NB o8) (n9 : NB o9) :
    ∃ s' o4' o5' o6' o7' o8' o9', Stt ns s' ∧ NB o4' ∧ NB o5' ∧ NB o6' ∧ NB o7' ∧ NB o8' ∧ NB o9' ∧ lawbody [a0, .v s, a2, .v (I p), o4, o5, o6, o7, o8, o9, a10, .n, .n] = .nx [a0, .v s', a2, .v (I p), o4', o5', o6', o7', o8', o9', a10, .n, .n] := by
  obtain ⟨p1, p2⟩ := p_range hp
  have hp0 : 0 < p := by omega
  -- a
  obtain ⟨v, s1, v0, v1, e1, hs1⟩ := draw_ok' hl hs (m := p - 1) (by omega) (by omega)
  generalize ha : 1 + v = a
  have gk := good hp (m := a) (by omega) (by omega)
  have st1 : (fSet 4 (m2 fAdd (lft (kI 1)) (mCallM 1 F__law_draw (hO (lft (g2 fSub (vN 3) (kI 1))) hNil)))) [a0, .v s, a2, .v (I p), o4, o5, o6, o7, o8, o9, a10, .n, .n] = .nx [a0, .v s1, a2, .v (I p), .v (I a), o5, o6, o7, o8, o9, a10, .n, .n] := by
    have c := call1 (F := F__law_draw) (a0 := a0) (en := [a2, .v (I p), o4, o5, o6, o7, o8, o9, a10, .n, .n]) (g := g2 fSub (vN 3) (kI 1)) (x := I (p - 1)) (by simp) e1
    rw [fSet_ev, m2_ev, lft_n (x := I 1) rfl, RM.bind_ok, c, RM.bind_ok, fAdd_i, R.of_some, RM.of_ok, RM.s_ok, ha]
    simp [n4.s]
  -- its inverse
  have gi : ∀ (s' : T) (o5 o6 o7 o8 o9 : Sl), gFn F_inverse (aCons (vN 3) (aCons (vN 4) aNil)) [a0, .v s', a2, .v (I p), .v (I a), o5, o6, o7, o8, o9, a10, .n, .n] = .ok (I (iv p a)) := fun s' o5 o6 o7 o8 o9 => by
    have := gk.inv
    simp only [gFn_ev, aCons_ev, aNil_ev, vN_ev, at_succ, at_zero, get_v, R.of_some, R.bind_ok, this]
  have m1 : MulOk a (iv p a) := small_ok (by omega) (by omega)
  have lo := gk.lo
  have hi := gk.hi
  have one := gk.one
  have st2 : (fIf (lft (gOr (gNot (gTru (gFn F__law_is_int (aCons (gFn F_inverse (aCons (vN 3) (aCons (vN 4) aNil))) aNil)))) (gOr (gNot (gT (gCh fLt fLt (kI 0) (gFn F_inverse (aCons (vN 3) (aCons (vN 4) aNil))) (vN 3)))) (gT (g2 fNe (g2 fMod (gCall fInt (aCons (g2 fMul (vN 4) (gFn F_inverse (aCons (vN 3) (aCons (vN 4) aNil)))) aNil)) (vN 3)) (kI 1)))))) (fRet (lft (kB false))) fNil) [a0, .v s1, a2, .v (I p), .v (I a), o5, o6, o7, o8, o9, a10, .n, .n] = .nx [a0, .v s1, a2, .v (I p), .v (I a), o5, o6, o7, o8, o9, a10, .n, .n] := by
    refine if_skip ?_
    have x1 : gNot (gTru (gFn F__law_is_int (aCons (gFn F_inverse (aCons (vN 3) (aCons (vN 4) aNil))) aNil))) [a0, .v s1, a2, .v (I p), .v (I a), o5, o6, o7, o8, o9, a10, .n, .n] = .ok false := by
      refine not_f ?_
      rw [gFn_ev, aCons_ev, gi, R.bind_ok, aNil_ev, R.bind_ok, R.bind_ok]; rfl
    have x2 : gNot (gT (gCh fLt fLt (kI 0) (gFn F_inverse (aCons (vN 3) (aCons (vN 4) aNil))) (vN 3))) [a0, .v s1, a2, .v (I p), .v (I a), o5, o6, o7, o8, o9, a10, .n, .n] = .ok false := by
      simp only [gNot_ev, gT_ev, gCh_ev, kI_ev, gi, vN_ev, at_succ, at_zero, get_v, R.of_some, R.bind_ok, fLt_i, tst_b, lo, hi, decide_true, if_true, Bool.not_true]
    have x3 : gT (g2 fNe (g2 fMod (gCall fInt (aCons (g2 fMul (vN 4) (gFn F_inverse (aCons (vN 3) (aCons (vN 4) aNil)))) aNil)) (vN 3)) (kI 1)) [a0, .v s1, a2, .v (I p), .v (I a), o5, o6, o7, o8, o9, a10, .n, .n] = .ok false := by
      simp only [gT_ev, g2_ev, gCall_ev, aCons_ev, aNil_ev, kI_ev, gi, vN_ev, at_succ, at_zero, get_v, R.of_some, R.bind_ok, fMul_i, if_pos m1, fInt_i, fMod_i, if_pos hp0, one, fNe_i, tst_b, decide_true, Bool.not_true]
    rw [gOr_ev, x1, R.bind_ok, if_neg Bool.false_ne_true, gOr_ev, x2, R.bind_ok, if_neg Bool.false_ne_true, x3]
  -- f, g, x
  obtain ⟨f, s2, e2, hs2, lf, tf, cf⟩ := poly_ok hl hs1 (p := p) (m := 8) hp0 (by omega) (by omega) (by omega)
  obtain ⟨g, s3, e3, hs3, lg, tg, cg⟩ := poly_ok hl hs2 (p := p) (m := 5) hp0 (by omega) (by omega) (by omega)
  obtain ⟨x, s4, x0, x1, e4, hs4⟩ := draw_ok' hl hs3 (m := p) hp0 (by omega)
  have st3 : fSet 5 (mCallM 1 F__law_poly (hN 3 (hO (lft (kI 8)) hNil))) [a0, .v s1, a2, .v (I p), .v (I a), o5, o6, o7, o8, o9, a10, .n, .n] = .nx [a0, .v s2, a2, .v (I p), .v (I a), .v (tp f), o6, o7, o8, o9, a10, .n, .n] := by
    have c := call3m (F := F__law_poly) (a0 := a0) (a2 := a2) (en := [.v (I a), o5, o6, o7, o8, o9, a10, .n, .n]) (m := lft (kI 8)) (x := I 8) (lft_n rfl) e2
    rw [fSet_ev, c, RM.s_ok]
    simp [n5.s]
  have st4 : fSet 6 (mCallM 1 F__law_poly (hN 3 (hO (lft (kI 5)) hNil))) [a0, .v s2, a2, .v (I p), .v (I a), .v (tp f), o6, o7, o8, o9, a10, .n, .n] = .nx [a0, .v s3, a2, .v (I p), .v (I a), .v (tp f), .v (tp g), o7, o8, o9, a10, .n, .n] := by
    have c := call3m (F := F__law_poly) (a0 := a0) (a2 := a2) (en := [.v (I a), .v (tp f), o6, o7, o8, o9, a10, .n, .n]) (m := lft (kI 5)) (x := I 5) (lft_n rfl) e3
    rw [fSet_ev, c, RM.s_ok]
    simp [n6.s]
  have st5 : fSet 7 (mCallM 1 F__law_draw (hN 3 hNil)) [a0, .v s3, a2, .v (I p), .v (I a), .v (tp f), .v (tp g), o7, o8, o9, a10, .n, .n] = .nx [a0, .v s4, a2, .v (I p), .v (I a), .v (tp f), .v (tp g), .v (I x), o8, o9, a10, .n, .n] := by
    have c := call3 (F := F__law_draw) (a0 := a0) (a2 := a2) (en := [.v (I a), .v (tp f), .v (tp g), o7, o8, o9, a10, .n, .n]) e4
    rw [fSet_ev, c, RM.s_ok]
    simp [n7.s]
  have sf : Sm f := Sm.of (by omega) cf
  have k1 := sum_ok hp0 (f := f) (g := g) (by omega) (by omega)
  have k2 := law_sum_ok hp0 (f := f) (g := g) (by omega) (by omega)
  have k3 := product_ok hp0 (f := f) (g := g) (by omega) (by omega) sf
  have k4 := law_product_ok hp0 (f := f) (g := g) (by omega) (by omega) sf
  have k5 := value_ok hp0 (x := x) ⟨x0, by omega⟩ (f := f)
  have k6 := law_value_ok hp0 (x := x) ⟨x0, by omega⟩ sf
  have ls1 : (sumZ p f g).length < 1000 := by have := sumZ_len p f g; omega
  have ls2 : (prZ p f g).length < 1000 := by
    refine Nat.lt_of_le_of_lt (tri_le _) ?_
    rw [tab_len]; omega
  have st6 : (fIf (lft (gNot (gTru (gFn (F__law_same 4) (aCons (gFn F_poly_sum (aCons (vN 3) (aCons (vN 5) (aCons (vN 6) aNil)))) (aCons (gFn F__law_sum (aCons (vN 3) (aCons (vN 5) (aCons (vN 6) aNil)))) aNil)))))) (fRet (lft (kB false))) fNil) [a0, .v s4, a2, .v (I p), .v (I a), .v (tp f), .v (tp g), .v (I x), o8, o9, a10, .n, .n] = .nx [a0, .v s4, a2, .v (I p), .v (I a), .v (tp f), .v (tp g), .v (I x), o8, o9, a10, .n, .n] := by
    refine if_skip (same2 (x := tp (sumZ p f g)) ?_ ?_ (same_tp 2 ls1))
    · simp only [gFn_ev, aCons_ev, aNil_ev, vN_ev, at_succ, at_zero, get_v, R.of_some, R.bind_ok, k1]
    · simp only [gFn_ev, aCons_ev, aNil_ev, vN_ev, at_succ, at_zero, get_v, R.of_some, R.bind_ok, k2]
  have st7 : (fIf (lft (gNot (gTru (gFn (F__law_same 4) (aCons (gFn F_poly_product (aCons (vN 3) (aCons (vN 5) (aCons (vN 6) aNil)))) (aCons (gFn F__law_product (aCons (vN 3) (aCons (vN 5) (aCons (vN 6) aNil)))) aNil)))))) (fRet (lft (kB false))) fNil) [a0, .v s4, a2, .v (I p), .v (I a), .v (tp f), .v (tp g), .v (I x), o8, o9, a10, .n, .n] = .nx [a0, .v s4, a2, .v (I p), .v (I a), .v (tp f), .v (tp g), .v (I x), o8, o9, a10, .n, .n] := by
    refine if_skip (same2 (x := tp (prZ p f g)) ?_ ?_ (same_tp 2 ls2))
    · simp only [gFn_ev, aCons_ev, aNil_ev, vN_ev, at_succ, at_zero, get_v, R.of_some, R.bind_ok, k3]
    · simp only [gFn_ev, aCons_ev, aNil_ev, vN_ev, at_succ, at_zero, get_v, R.of_some, R.bind_ok, k4]
  have same4i : ∀ z : Int, F__law_same 4 [I z, I z] = .ok (.d (.bl true)) := fun z => by
    have := same_i 3 z z
    rwa [decide_eq_true rfl] at this
  have st8 : (fIf (lft (gNot (gTru (gFn (F__law_same 4) (aCons (gFn F_poly_value (aCons (vN 3) (aCons (vN 5) (aCons (vN 7) aNil)))) (aCons (gFn F__law_value (aCons (vN 3) (aCons (vN 5) (aCons (vN 7) aNil)))) aNil)))))) (fRet (lft (kB false))) fNil) [a0, .v s4, a2, .v (I p), .v (I a), .v (tp f), .v (tp g), .v (I x), o8, o9, a10, .n, .n] = .nx [a0, .v s4, a2, .v (I p), .v (I a), .v (tp f), .v (tp g), .v (I x), o8, o9, a10, .n, .n] := by
    refine if_skip (same2 (x := I (ev f x % p)) ?_ ?_ (same4i _))
    · simp only [gFn_ev, aCons_ev, aNil_ev, vN_ev, at_succ, at_zero, get_v, R.of_some, R.bind_ok, k5]
    · simp only [gFn_ev, aCons_ev, aNil_ev, vN_ev, at_succ, at_zero, get_v, R.of_some, R.bind_ok, k6]
  -- division
  have st9 : (fIf (lft (gAnd (gT (g2 fNe (vN 6) (gTup aNil))) (gNot (gTru (gFn F__law_is_divided (aCons (vN 3) (aCons (vN 5) (aCons (vN 6) (aCons (gFn F_poly_divided (aCons (vN 3) (aCons (vN 5) (aCons (vN 6) aNil)))) aNil))))))))) (fRet (lft (kB false))) fNil) [a0, .v s4, a2, .v (I p), .v (I a), .v (tp f), .v (tp g), .v (I x), o8, o9, a10, .n, .n] = .nx [a0, .v s4, a2, .v (I p), .v (I a), .v (tp f), .v (tp g), .v (I x), o8, o9, a10, .n, .n] := by
    refine if_skip ?_
    have ne := fNe_tp g []
    have ne' : fNe (tp g) (.d (.tup [])) = some (.d (.bl (!decide (g = [])))) := ne
    have et : gTup aNil [a0, .v s4, a2, .v (I p), .v (I a), .v (tp f), .v (tp g), .v (I x), o8, o9, a10, .n, .n] = .ok (.d (.tup [])) := rfl
    have x1 : gT (g2 fNe (vN 6) (gTup aNil)) [a0, .v s4, a2, .v (I p), .v (I a), .v (tp f), .v (tp g), .v (I x), o8, o9, a10, .n, .n] = .ok (!decide (g = [])) := by
      rw [gT_ev, g2_ev]
      simp only [vN_ev, at_succ, at_zero, get_v, R.of_some, R.bind_ok, et, ne', tst_b]
    rw [gAnd_ev, x1, R.bind_ok]
    by_cases hg : g = []
    · rw [decide_eq_true hg]; rfl
    · rw [decide_eq_false hg]
      have g0 : 0 < g.length := by
        cases g with
        | nil => exact absurd rfl hg
        | cons _ _ => simp
      have gt : co g (g.length - 1) ≠ 0 := by
        rcases tg with h | h
        · exact absurd h hg
        · exact h
      have gr := cg (g.length - 1)
      obtain ⟨Q, S, ed, D1⟩ := divided_ok hp (f := f) (g := g) (by omega) (by omega) cf g0 ⟨by omega, gr.2⟩
      have ei := is_divided_ok (p := p) (by omega) (by omega) (by omega) (by omega) g0 cf tf D1
      rw [if_pos (by rfl)]
      refine not_f ?_
      have ed' : gFn F_poly_divided (aCons (vN 3) (aCons (vN 5) (aCons (vN 6) aNil))) [a0, .v s4, a2, .v (I p), .v (I a), .v (tp f), .v (tp g), .v (I x), o8, o9, a10, .n, .n] = .ok (.d (.tup [.tup ((tri Q).map D.int), .tup ((tri S).map D.int)])) := by
        simp only [gFn_ev, aCons_ev, aNil_ev, vN_ev, at_succ, at_zero, get_v, R.of_some, R.bind_ok, ed]
      rw [gFn_ev]
      simp only [aCons_ev, aNil_ev, vN_ev, at_succ, at_zero, get_v, R.of_some, R.bind_ok, ed', ei]
  -- points
  obtain ⟨w, s5, w0, w1, e5, hs5⟩ := draw_ok' hl hs4 (m := 8) (by omega) (by omega)
  obtain ⟨pts, s6, e6, hs6, lp, rp, dp⟩ := points_ok hl hs5 (p := p) (m := w) hp0 (by omega) w0 (by omega)
  have st10 : fSet 8 (mCallM 1 F__law_points (hN 3 (hO (mCallM 1 F__law_draw (hO (lft (kI 8)) hNil)) hNil))) [a0, .v s4, a2, .v (I p), .v (I a), .v (tp f), .v (tp g), .v (I x), o8, o9, a10, .n, .n] = .nx [a0, .v s6, a2, .v (I p), .v (I a), .v (tp f), .v (tp g), .v (I x), .v (.d (.tup (pts.map pD))), o9, a10, .n, .n] := by
    have c0 := call1 (F := F__law_draw) (a0 := a0) (en := [a2, .v (I p), .v (I a), .v (tp f), .v (tp g), .v (I x), o8, o9, a10, .n, .n]) (g := kI 8) (x := I 8) rfl e5
    have c := call3m (F := F__law_points) (a0 := a0) (a2 := a2) (en := [.v (I a), .v (tp f), .v (tp g), .v (I x), o8, o9, a10, .n, .n]) c0 e6
    rw [fSet_ev, c, RM.s_ok]
    simp [n8.s]
  have kt := through_ok hp lp rp
  have st11 : fSet 9 (lft (gFn F_through (aCons (vN 3) (aCons (vN 8) aNil)))) [a0, .v s6, a2, .v (I p), .v (I a), .v (tp f), .v (tp g), .v (I x), .v (.d (.tup (pts.map pD))), o9, a10, .n, .n] = .nx [a0, .v s6, a2, .v (I p), .v (I a), .v (tp f), .v (tp g), .v (I x), .v (.d (.tup (pts.map pD))), .v (tp (thr p pts)), a10, .n, .n] := by
    rw [fSet_ev, lft_n (x := tp (thr p pts)) (by simp only [gFn_ev, aCons_ev, aNil_ev, vN_ev, at_succ, at_zero, get_v, R.of_some, R.bind_ok, kt])]
    simp [n9.s]
  have tt : thr p pts = [] ∨ (thr p pts).getD ((thr p pts).length - 1) 0 ≠ 0 := thr_tri pts [] (.inl rfl)
  have tl : (thr p pts).length ≤ pts.length := thr_all hp0 rp pts (fun _ m => m) [] (Nat.zero_le _)
  have tc : ∀ k, 0 ≤ co (thr p pts) k ∧ co (thr p pts) k < p := thr_co hp0 pts [] fun k => by rw [show co [] k = 0 from gd0 (by simp)]; omega
  have kl := law_trimmed_ok (x := tp (thr p pts)) (.inl rfl) (by omega)
  rw [tri_self tt] at kl
  generalize hen : [a0, .v s6, a2, .v (I p), .v (I a), .v (tp f), .v (tp g), .v (I x), .v (.d (.tup (pts.map pD))), .v (tp (thr p pts)), a10, .n, .n] = en6 at st11
  have st12 : (fIf (lft (gOr (gNot (gTru (gFn (F__law_same 4) (aCons (vN 9) (aCons (gFn F__law_trimmed (aCons (vN 9) aNil)) aNil))))) (gT (g2 fGt (gCall fLen (aCons (vN 9) aNil)) (gCall fLen (aCons (vN 8) aNil)))))) (fRet (lft (kB false))) fNil) en6 = .nx en6 := by
    refine if_skip ?_
    have x1 : gNot (gTru (gFn (F__law_same 4) (aCons (vN 9) (aCons (gFn F__law_trimmed (aCons (vN 9) aNil)) aNil)))) en6 = .ok false := by
      refine same2 (x := tp (thr p pts)) ?_ ?_ (same_tp 2 (by omega))
      · rw [← hen]; rfl
      · rw [← hen]
        simp only [gFn_ev, aCons_ev, aNil_ev, vN_ev, at_succ, at_zero, get_v, R.of_some, R.bind_ok, kl]
    have e1 := row_len (x := tp (thr p pts)) (.inl rfl)
    have e2 : fLen [.d (.tup (pts.map pD))] = some (I pts.length) := by
      show some (T.d (.int (pts.map pD).length)) = _
      rw [List.length_map]
    have nd : decide ((pts.length : Int) < ((thr p pts).length : Int)) = false := decide_eq_false (by omega)
    rw [gOr_ev, x1, R.bind_ok, if_neg Bool.false_ne_true, ← hen]
    simp only [gT_ev, g2_ev, gCall_ev, aCons_ev, aNil_ev, vN_ev, at_succ, at_zero, get_v, R.of_some, R.bind_ok, e1, e2, fGt_i, tst_b, nd]
  have st13 : (fIf (lft (gNot (gTru (gCall fAll (aCons (gLc [11, 12] (gIt (vN 8)) (kTup 2 (kCons (kName 11) (kCons (kName 12) kNil))) gYes (gFn (F__law_same 4) (aCons (gFn F__law_value (aCons (vN 3) (aCons (vN 9) (aCons (vN 11) aNil)))) (aCons (vN 12) aNil)))) aNil))))) (fRet (lft (kB false))) fNil) en6 = .nx en6 := by
    refine if_skip (not_f ?_)
    have el : ∀ qs : Pts, (∀ q ∈ qs, q ∈ pts) → lcL (kTup 2 (kCons (kName 11) (kCons (kName 12) kNil))) gYes (gFn (F__law_same 4) (aCons (gFn F__law_value (aCons (vN 3) (aCons (vN 9) (aCons (vN 11) aNil)))) (aCons (vN 12) aNil))) (wipeE en6 [11, 12]) ((qs.map pD).map T.d) = .ok (qs.map fun _ => T.d (.bl true)) := by
      intro qs
      induction qs with
      | nil => intro _; rfl
      | cons q qs ih =>
        intro hm
        have qm := hm q (List.mem_cons_self ..)
        have qr := rp q qm
        have kv := law_value_ok hp0 (x := q.1) ⟨qr.1.1, by omega⟩ (Sm.of (by omega) tc)
        rw [thr_value hp rp dp qm] at kv
        have ks := same4i q.2
        rw [List.map_cons, List.map_cons]
        unfold lcL
        rw [ih fun r m => hm r (List.mem_cons_of_mem _ m)]
        rw [show kTup 2 (kCons (kName 11) (kCons (kName 12) kNil)) (.d (pD q)) = some [(11, I q.1), (12, I q.2)] from rfl, R.of_some, R.bind_ok, gYes_ev, R.bind_ok, if_pos rfl]
        have eq : gFn (F__law_same 4) (aCons (gFn F__law_value (aCons (vN 3) (aCons (vN 9) (aCons (vN 11) aNil)))) (aCons (vN 12) aNil)) (setE (wipeE en6 [11, 12]) [(11, I q.1), (12, I q.2)]) = .ok (.d (.bl true)) := by
          rw [← hen]
          simp only [wipeE_cons, wipeE_nil, List.set_cons_succ, List.set_cons_zero, setE_cons, setE_nil, mkS_d]
          have ev1 : gFn F__law_value (aCons (vN 3) (aCons (vN 9) (aCons (vN 11) aNil))) [a0, .v s6, a2, .v (I p), .v (I a), .v (tp f), .v (tp g), .v (I x), .v (.d (.tup (pts.map pD))), .v (tp (thr p pts)), a10, .v (I q.1), .v (I q.2)] = .ok (I q.2) := by
            simp only [gFn_ev, aCons_ev, aNil_ev, vN_ev, at_succ, at_zero, get_v, R.of_some, R.bind_ok, kv]
          rw [gFn_ev, aCons_ev, ev1, R.bind_ok]
          simp only [aCons_ev, aNil_ev, vN_ev, at_succ, at_zero, get_v, R.of_some, R.bind_ok, ks]
        rw [eq, R.bind_ok, R.bind_ok]; rfl
    rw [gCall_ev, aCons_ev, gLc_ev, show gIt (vN 8) en6 = .ok ((pts.map pD).map T.d) from by rw [← hen]; rfl, R.bind_ok, if_pos (show ((pts.map pD).map T.d).length < most by rw [List.length_map, List.length_map]; unfold most; omega), el pts fun _ m => m, calm_ok]
    have et : (pts.map fun _ => true).all id = true := by simp
    simp only [R.bind_ok, aNil_ev, R.of_some, fAll_ev, lstOf_l, bl_allD, Option.bind_some, bl_asBls, Option.map_some, et]
  refine ⟨s6, .v (I a), .v (tp f), .v (tp g), .v (I x), .v (.d (.tup (pts.map pD))), .v (tp (thr p pts)), hs6, .v, .v, .v, .v, .v, .v, ?_⟩
  unfold lawbody
  rw [fSeq_ev, st1, sq_nx, fSeq_ev, st2, sq_nx, fSeq_ev, st3, sq_nx, fSeq_ev, st4, sq_nx, fSeq_ev, st5, sq_nx, fSeq_ev, st6, sq_nx, fSeq_ev, st7, sq_nx, fSeq_ev, st8, sq_nx, fSeq_ev, st9, sq_nx, fSeq_ev, st10, sq_nx, fSeq_ev, st11, sq_nx, fSeq_ev, st12, sq_nx, st13, hen]
theorem law_true (ns : List Int) (hl : ns.length ≤ 63) (hb : ∀ z ∈ ns, Builtin.Int.intBits z ≤ 1048576) : F_law [.d (.rol (ns.map D.int))] = .ok (.d (.bl true)) := by
  refine runP_ret rfl ?_
  generalize hscr : T.d (.rol (ns.map D.int)) = scr
  have hscr' : mkS scr = .v scr := by rw [← hscr]; rfl
  show ∃ e, d_law [mkS scr, .n, .n, .n, .n, .n, .n, .n, .n, .n, .n, .n, .n] = _
  rw [hscr']
  unfold d_law
  have hs0 : Stt ns (Z.St ns 0 0 0) := ⟨0, 0, 0, rfl⟩
  refine ret_seq (en1 := [.v scr, .v (Z.St ns 0 0 0), .n, .n, .n, .n, .n, .n, .n, .n, .n, .n, .n]) ?_ ?_
  · have e : F__law_start [.d (.rol (ns.map D.int))] = .ok (Z.St ns 0 0 0) := start_St ns
    rw [hscr] at e
    rw [fSet_ev, lft_n (x := Z.St ns 0 0 0) (by simp only [gFn_ev, aCons_ev, aNil_ev, vN_ev, at_zero, get_v, R.of_some, R.bind_ok, e])]
    rfl
  generalize Z.St ns 0 0 0 = s0 at hs0 ⊢
  -- the primes
  have er := gR2_n (ga := g1 fNeg (kI 3)) (gb := kI 262) (en := [.v scr, .v s0, .n, .n, .n, .n, .n, .n, .n, .n, .n, .n, .n]) (y := -3) (z := 262) rfl rfl (by omega) (by omega) (by omega) (by omega)
  obtain ⟨en', h1, o2, n2, rfl⟩ := for_ix (v := 2) (f := (fIf (lft (gNot (gTru (gFn F__law_says (aCons (gFn F_is_prime (aCons (vN 2) aNil)) (aCons (gFn F__law_is_prime (aCons (vN 2) aNil)) aNil)))))) (fRet (lft (kB false))) fNil)) (fun _ en => ∃ o2 : Sl, NB o2 ∧ en = [.v scr, .v s0, o2, .n, .n, .n, .n, .n, .n, .n, .n, .n, .n]) _ (lft_n er) ⟨.n, .n, rfl⟩ (fun i hi en q => by
    obtain ⟨o, ho, rfl⟩ := q
    rw [rng_at hi]
    rw [rng_len] at hi
    have hi : i < 265 := hi
    obtain ⟨a, b, k1, k2, k3⟩ := prime_ok (List.all_eq_true.mp prime_all i (List.mem_range.mpr hi))
    refine ⟨[.v scr, .v s0, .v (I (-3 + (i : Int))), .n, .n, .n, .n, .n, .n, .n, .n, .n, .n], _, by simp [ho.s], .inl (if_skip (not_f ?_)), .v (I (-3 + (i : Int))), .v, rfl⟩
    have g1 : gFn F_is_prime (aCons (vN 2) aNil) [.v scr, .v s0, .v (I (-3 + (i : Int))), .n, .n, .n, .n, .n, .n, .n, .n, .n, .n] = .ok (.d a) := by
      simp only [gFn_ev, aCons_ev, aNil_ev, vN_ev, at_succ, at_zero, get_v, R.of_some, R.bind_ok, k1]
    have g2 : gFn F__law_is_prime (aCons (vN 2) aNil) [.v scr, .v s0, .v (I (-3 + (i : Int))), .n, .n, .n, .n, .n, .n, .n, .n, .n, .n] = .ok (.d b) := by
      simp only [gFn_ev, aCons_ev, aNil_ev, vN_ev, at_succ, at_zero, get_v, R.of_some, R.bind_ok, k2]
    rw [gFn_ev, aCons_ev, g1, R.bind_ok, aCons_ev, g2, R.bind_ok, aNil_ev, R.bind_ok, R.bind_ok, R.bind_ok, k3])
  refine ret_seq h1 ?_
  -- the data
  refine ret_if_f (by rw [gTru_ev, show gCall fAny _ _ = _ from cdata_ok (scr := scr) (s := s0) (o2 := o2)]; rfl) ?_
  -- for each prime
  obtain ⟨d, s1, hd, e1, hs1⟩ := oneof_ok' hl hs0 (ds := [5, 7, 11, 13, 101, 241].map D.int) (by decide) (by decide)
  obtain ⟨p, hp, rfl⟩ := List.mem_map.mp hd
  have hp8 : p ∈ P8 := by
    unfold P8
    exact List.mem_cons_of_mem _ (List.mem_cons_of_mem _ hp)
  have ci : mIt (mOf mkLst (mCons (lft (kI 3)) (mCons (lft (kI 251)) (mCons (mCallM 1 F__law_one_of (hO (lft (gLst (aCons (kI 5) (aCons (kI 7) (aCons (kI 11) (aCons (kI 13) (aCons (kI 101) (aCons (kI 241) aNil)))))))) hNil)) mNil)))) [.v scr, .v s0, o2, .n, .n, .n, .n, .n, .n, .n, .n, .n, .n] = .ok [I 3, I 251, I p] [.v scr, .v s1, o2, .n, .n, .n, .n, .n, .n, .n, .n, .n, .n] := by
    have c := call1 (F := F__law_one_of) (a0 := .v scr) (en := [o2, .n, .n, .n, .n, .n, .n, .n, .n, .n, .n]) (g := gLst (aCons (kI 5) (aCons (kI 7) (aCons (kI 11) (aCons (kI 13) (aCons (kI 101) (aCons (kI 241) aNil))))))) (x := .l (([5, 7, 11, 13, 101, 241].map D.int).map T.d)) rfl e1
    rw [mIt_ev, mOf_ev, mCons_ev, lft_n (x := I 3) rfl, RM.bind_ok, mCons_ev, lft_n (x := I 251) rfl, RM.bind_ok, mCons_ev, c, RM.bind_ok, mNil_ev, RM.bind_ok, RM.bind_ok, RM.bind_ok, RM.bind_ok, mkLst_ev, if_pos (show [I 3, I 251, I p].length ≤ most from show 3 ≤ 16777216 by decide), RM.of_ok, RM.bind_ok]
    rfl
  obtain ⟨en', h2, s2, o3, o4, o5, o6, o7, o8, o9, hs2, n3, n4, n5, n6, n7, n8, n9, rfl⟩ := for_ix (v := 3) (f := lawbody) (fun _ en => ∃ (s2 : T) (o3 o4 o5 o6 o7 o8 o9 : Sl), Stt ns s2 ∧ NB o3 ∧ NB o4 ∧ NB o5 ∧ NB o6 ∧ NB o7 ∧ NB o8 ∧ NB o9 ∧ en = [.v scr, .v s2, o2, o3, o4, o5, o6, o7, o8, o9, .n, .n, .n]) [.v scr, .v s0, o2, .n, .n, .n, .n, .n, .n, .n, .n, .n, .n] ci ⟨s1, .n, .n, .n, .n, .n, .n, .n, hs1, .n, .n, .n, .n, .n, .n, .n, rfl⟩ (fun i hi en q => by
    obtain ⟨s2, o3, o4, o5, o6, o7, o8, o9, hs2, n3, n4, n5, n6, n7, n8, n9, rfl⟩ := q
    have hz : ∃ z, [I 3, I 251, I p][i] = I z ∧ z ∈ P8 := by
      match i, hi with
      | 0, _ => exact ⟨3, rfl, by decide⟩
      | 1, _ => exact ⟨251, rfl, by decide⟩
      | 2, _ => exact ⟨p, rfl, hp8⟩
      | i + 3, hi => simp at hi; omega
    obtain ⟨z, ez, hz⟩ := hz
    rw [ez]
    obtain ⟨s3, o4', o5', o6', o7', o8', o9', hs3, m4, m5, m6, m7, m8, m9, e⟩ := lawbody_ok (a0 := .v scr) (a2 := o2) (a10 := .n) hl hs2 hz n4 n5 n6 n7 n8 n9
    exact ⟨_, _, by simp [n3.s], .inl e, s3, .v (I z), o4', o5', o6', o7', o8', o9', hs3, .v, m4, m5, m6, m7, m8, m9, rfl⟩)
  refine ret_seq h2 ?_
  exact ret_lft rfl
end K01
open PySem PySem.W PyProof.Rows
set_option maxHeartbeats 0 in
theorem PySem.Challenge.cw_countunseen_k01_polynomials_holds : PySem.Challenge.rw_countunseen_k01_polynomials.Holds := by
  w_on; o_law; k_head; (case hw => w_witness2)
  k_fill
  refine L2.walk_ofB (l := PySem.Challenge.rw_countunseen_k01_polynomials) (n := 63) (k := 6) (x := "script") (CX := fun w => L2.CX PySem.Challenge.rw_countunseen_k01_polynomials.prog w) (sp := fun w => Z.spL _ K01.F_law) rfl (by decide) rfl ⟨rfl, by decide, by decide⟩ (fun w h Y => PySem.W.kIn_of Y) ?F (fun w H a ns hl hb hO hS => Z.law_spL hO hS (K01.law_true ns hl hb)) (fun w H s e s2 h => Z.cx_false h)
  case F =>
    intro w mg fa h KX G hmg
    refine' K01.all_mk KX G hmg ?a0 ?l0 ?c0 ?k0 ?a1 ?l1 ?c1 ?k1 ?a2 ?l2 ?c2 ?k2 ?a3 ?l3 ?c3 ?k3 ?a4 ?l4 ?c4 ?k4 ?a5 ?l5 ?c5 ?k5 ?a6 ?l6 ?c6 ?k6 ?a7 ?l7 ?c7 ?k7 ?a8 ?l8 ?c8 ?k8 ?a9 ?l9 ?c9 ?k9 ?a10 ?l10 ?c10 ?k10 ?a11 ?l11 ?c11 ?k11 ?a12 ?l12 ?c12 ?k12 ?a13 ?l13 ?c13 ?k13 ?a14 ?l14 ?c14 ?k14 ?a15 ?l15 ?c15 ?k15 ?a16 ?l16 ?c16 ?k16 ?a17 ?l17 ?c17 ?k17 ?a18 ?l18 ?c18 ?k18 ?a19 ?l19 ?c19 ?k19 ?a20 ?l20 ?c20 ?k20 ?a21 ?l21 ?c21 ?k21 ?a22 ?l22 ?c22 ?k22 ?a23 ?l23 ?c23 ?k23 ?a24 ?l24 ?c24 ?k24 ?a25 ?l25 ?c25 ?k25 ?y_abs ?y_all ?y_any ?y_bool ?y_enumerate ?y_int ?y_isinstance ?y_len ?y_list ?y_max ?y_range ?y_str ?y_sum ?y_tuple ?y_zip ?x_GREATEST
    (case a0 => k_is); (case l0 => k_is); (case c0 => k_is); (case k0 => k_is); (case a1 => k_is); (case l1 => k_is); (case c1 => k_is); (case k1 => k_is); (case a2 => k_is); (case l2 => k_is); (case c2 => k_is); (case k2 => k_is); (case a3 => k_is); (case l3 => k_is); (case c3 => k_is); (case k3 => k_is); (case a4 => k_is); (case l4 => k_is); (case c4 => k_is); (case k4 => k_is); (case a5 => k_is); (case l5 => k_is); (case c5 => k_is); (case k5 => k_is); (case a6 => k_is); (case l6 => k_is); (case c6 => k_is); (case k6 => k_is); (case a7 => k_is); (case l7 => k_is); (case c7 => k_is); (case k7 => k_is); (case a8 => k_is); (case l8 => k_is); (case c8 => k_is); (case k8 => k_is); (case a9 => k_is); (case l9 => k_is); (case c9 => k_is); (case k9 => k_is); (case a10 => k_is); (case l10 => k_is); (case c10 => k_is); (case k10 => k_is); (case a11 => k_is); (case l11 => k_is); (case c11 => k_is); (case k11 => k_is); (case a12 => k_is); (case l12 => k_is); (case c12 => k_is); (case k12 => k_is); (case a13 => k_is); (case l13 => k_is); (case c13 => k_is); (case k13 => k_is); (case a14 => k_is); (case l14 => k_is); (case c14 => k_is); (case k14 => k_is); (case a15 => k_is); (case l15 => k_is); (case c15 => k_is); (case k15 => k_is); (case a16 => k_is); (case l16 => k_is); (case c16 => k_is); (case k16 => k_is); (case a17 => k_is); (case l17 => k_is); (case c17 => k_is); (case k17 => k_is); (case a18 => k_is); (case l18 => k_is); (case c18 => k_is); (case k18 => k_is); (case a19 => k_is); (case l19 => k_is); (case c19 => k_is); (case k19 => k_is); (case a20 => k_is); (case l20 => k_is); (case c20 => k_is); (case k20 => k_is); (case a21 => k_is); (case l21 => k_is); (case c21 => k_is); (case k21 => k_is); (case a22 => k_is); (case l22 => k_is); (case c22 => k_is); (case k22 => k_is); (case a23 => k_is); (case l23 => k_is); (case c23 => k_is); (case k23 => k_is); (case a24 => k_is); (case l24 => k_is); (case c24 => k_is); (case k24 => k_is); (case a25 => k_is); (case l25 => k_is); (case c25 => k_is); (case k25 => k_is); (case y_abs => k_is); (case y_all => k_is); (case y_any => k_is); (case y_bool => k_is); (case y_enumerate => k_is); (case y_int => k_is); (case y_isinstance => k_is); (case y_len => k_is); (case y_list => k_is); (case y_max => k_is); (case y_range => k_is); (case y_str => k_is); (case y_sum => k_is); (case y_tuple => k_is); (case y_zip => k_is); (case x_GREATEST => k_is)
