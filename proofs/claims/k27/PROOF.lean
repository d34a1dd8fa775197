import PyProof.Rows.All
import PySem.Challenge.RW_countunseen_k27_sets_and_weights
import HandS.ForMost
import HandS.ForExc
import HandS.TupAny
import HandS.Flow
import HandS.IsInst
import HandS.EndBits
import HandS.Wide
import HandS.Style
import HandS.Conv
import HandS.RevRange
import HandS.Walk
import HandS.CallSlots
set_option Elab.async false
set_option linter.all false
set_option maxRecDepth 100000
set_option maxHeartbeats 4000000
/-! Z: what a def of the program computes, as a plain function. Data, things, views, ownership. -/
namespace Z
open PySem PySem.Spec L2
open PyProof.Rows hiding St

/-- data that never change -/
inductive D where
  | non | bl (b : Bool) | int (i : Int) | str (s : Str) | tup (ds : List D) | rol (ds : List D)
/-- a datum, or a list that may change -/
inductive T where
  | d (d : D) | l (xs : List T)
/-- tuples and frozen things stay -/
def Pst (H H' : Hp) : Prop := (∀ a vs, H a = some (.tup vs) → H' a = some (.tup vs)) ∧ ∀ a o u, H a = some (.frz o u) → H' a = some (.frz o u)
theorem Pst.refl (H : Hp) : Pst H H := ⟨fun _ _ h => h, fun _ _ _ h => h⟩
theorem Pst.trans {H H1 H2 : Hp} (a : Pst H H1) (b : Pst H1 H2) : Pst H H2 := ⟨fun c o h => b.1 c o (a.1 c o h), fun c o u h => b.2 c o u (a.2 c o u h)⟩
theorem Pst.of {H H' : Hp} (s : Same H H') : Pst H H' := ⟨fun a vs h => s a _ h, fun a o u h => s a _ h⟩
theorem sqT_pst {K : PySem.W.Frag} {H H' : Hp} {a : Addr} {xs : List V} (p : Pst H H') (h : SqT K H a xs) : SqT K H' a xs := by
  rcases h with (h | ⟨o, h⟩) | h
  · exact .inl (.inl (p.1 _ _ h))
  · exact .inl (.inr ⟨o, p.2 _ _ _ h⟩)
  · exact .inr h
/-- a list that nobody writes -/
def RO (K : PySem.W.Frag) (H : Hp) (a : Addr) (vs : List V) : Prop := ∀ H', Pst H H' → SqL K H' a vs
theorem RO.mono {K : PySem.W.Frag} {H H' : Hp} {a : Addr} {xs : List V} (p : Pst H H') (h : RO K H a xs) : RO K H' a xs := fun H2 q => h H2 (p.trans q)
mutual
inductive RepD (K : PySem.W.Frag) (H : Hp) : V → D → Prop
  | non : RepD K H .non .non
  | bl (b : Bool) : RepD K H (.bl b) (.bl b)
  | int (i : Int) : RepD K H (.int i) (.int i)
  | str (s : Str) : RepD K H (.str s) (.str s)
  | tup {a : Addr} {vs : List V} {ds : List D} : SqT K H a vs → RepDs K H vs ds → RepD K H (.ref a) (.tup ds)
  | rol {a : Addr} {vs : List V} {ds : List D} : RO K H a vs → RepDs K H vs ds → RepD K H (.ref a) (.rol ds)
inductive RepDs (K : PySem.W.Frag) (H : Hp) : List V → List D → Prop
  | nil : RepDs K H [] []
  | cons {v : V} {vs : List V} {d : D} {ds : List D} : RepD K H v d → RepDs K H vs ds → RepDs K H (v :: vs) (d :: ds)
end
mutual
theorem RepD.mono {K : PySem.W.Frag} {H H' : Hp} (p : Pst H H') : ∀ {v : V} {d : D}, RepD K H v d → RepD K H' v d
  | _, _, .non => .non
  | _, _, .bl b => .bl b
  | _, _, .int i => .int i
  | _, _, .str s => .str s
  | _, _, .tup h r => .tup (sqT_pst p h) (RepDs.mono p r)
  | _, _, .rol h r => .rol (h.mono p) (RepDs.mono p r)
theorem RepDs.mono {K : PySem.W.Frag} {H H' : Hp} (p : Pst H H') : ∀ {vs : List V} {ds : List D}, RepDs K H vs ds → RepDs K H' vs ds
  | _, _, .nil => .nil
  | _, _, .cons r t => .cons (RepD.mono p r) (RepDs.mono p t)
end
/-! a thing, and the addresses of its lists -/
mutual
inductive Own (K : PySem.W.Frag) (H : Hp) : V → T → List Addr → Prop
  | d {v : V} {d : D} : RepD K H v d → Own K H v (.d d) []
  | l {a : Addr} {vs : List V} {xs : List T} {F : List Addr} : H a = some (.lst vs) → Owns K H vs xs F → Own K H (.ref a) (.l xs) (a :: F)
inductive Owns (K : PySem.W.Frag) (H : Hp) : List V → List T → List Addr → Prop
  | nil : Owns K H [] [] []
  | cons {v : V} {vs : List V} {x : T} {xs : List T} {F G : List Addr} : Own K H v x F → Owns K H vs xs G → Owns K H (v :: vs) (x :: xs) (F ++ G)
end
mutual
theorem Own.frame {K : PySem.W.Frag} {H H' : Hp} (p : Pst H H') : ∀ {v : V} {x : T} {F : List Addr}, Own K H v x F → (∀ a ∈ F, ∀ o, H a = some o → H' a = some o) → Own K H' v x F
  | _, _, _, .d r, _ => .d (r.mono p)
  | _, _, _, .l h r, k => .l (k _ List.mem_cons_self _ h) (Owns.frame p r fun a m => k a (List.mem_cons_of_mem _ m))
theorem Owns.frame {K : PySem.W.Frag} {H H' : Hp} (p : Pst H H') : ∀ {vs : List V} {xs : List T} {F : List Addr}, Owns K H vs xs F → (∀ a ∈ F, ∀ o, H a = some o → H' a = some o) → Owns K H' vs xs F
  | _, _, _, .nil, _ => .nil
  | _, _, _, .cons r t, k => .cons (Own.frame p r fun a m => k a (List.mem_append_left _ m)) (Owns.frame p t fun a m => k a (List.mem_append_right _ m))
end
mutual
theorem Own.dom {K : PySem.W.Frag} {H : Hp} : ∀ {v : V} {x : T} {F : List Addr}, Own K H v x F → ∀ a ∈ F, ∃ vs, H a = some (.lst vs)
  | _, _, _, .d _, a, m => absurd m List.not_mem_nil
  | _, _, _, .l h r, a, m => (List.mem_cons.mp m).elim (fun e => ⟨_, e ▸ h⟩) (Owns.dom r a)
theorem Owns.dom {K : PySem.W.Frag} {H : Hp} : ∀ {vs : List V} {xs : List T} {F : List Addr}, Owns K H vs xs F → ∀ a ∈ F, ∃ vs, H a = some (.lst vs)
  | _, _, _, .nil, a, m => absurd m List.not_mem_nil
  | _, _, _, .cons r t, a, m => (List.mem_append.mp m).elim (Own.dom r a) (Owns.dom t a)
end
theorem Own.mono {K : PySem.W.Frag} {H H' : Hp} (s : Same H H') {v : V} {x : T} {F : List Addr} (h : Own K H v x F) : Own K H' v x F := h.frame (.of s) fun a _ o e => s a o e
theorem Owns.mono {K : PySem.W.Frag} {H H' : Hp} (s : Same H H') {vs : List V} {xs : List T} {F : List Addr} (h : Owns K H vs xs F) : Owns K H' vs xs F := h.frame (.of s) fun a _ o e => s a o e
theorem Owns.append {K : PySem.W.Frag} {H : Hp} : ∀ {vs us : List V} {xs ys : List T} {F G : List Addr}, Owns K H vs xs F → Owns K H us ys G → Owns K H (vs ++ us) (xs ++ ys) (F ++ G)
  | _, _, _, _, _, _, .nil, h => h
  | _, _, _, _, _, _, .cons r t, h => by
    rw [List.append_assoc]
    exact .cons r (Owns.append t h)
theorem Owns.length {K : PySem.W.Frag} {H : Hp} : ∀ {vs : List V} {xs : List T} {F : List Addr}, Owns K H vs xs F → vs.length = xs.length
  | _, _, _, .nil => rfl
  | _, _, _, .cons _ t => congrArg Nat.succ (Owns.length t)
theorem RepDs.length {K : PySem.W.Frag} {H : Hp} : ∀ {vs : List V} {ds : List D}, RepDs K H vs ds → vs.length = ds.length
  | _, _, .nil => rfl
  | _, _, .cons _ t => congrArg Nat.succ (RepDs.length t)
theorem RepDs.owns {K : PySem.W.Frag} {H : Hp} : ∀ {vs : List V} {ds : List D}, RepDs K H vs ds → Owns K H vs (ds.map T.d) []
  | _, _, .nil => .nil
  | _, _, .cons r t => .cons (.d r) (RepDs.owns t)
theorem RepDs.append {K : PySem.W.Frag} {H : Hp} : ∀ {vs us : List V} {ds es : List D}, RepDs K H vs ds → RepDs K H us es → RepDs K H (vs ++ us) (ds ++ es)
  | _, _, _, _, .nil, h => h
  | _, _, _, _, .cons r t, h => .cons r (RepDs.append t h)
theorem RepDs.get {K : PySem.W.Frag} {H : Hp} : ∀ {vs : List V} {ds : List D} {i : Nat} {d : D}, RepDs K H vs ds → ds[i]? = some d → ∃ v, vs[i]? = some v ∧ RepD K H v d
  | _, _, _, _, .nil, e => by simp at e
  | _, _, 0, _, .cons r _, e => by simp at e; subst e; exact ⟨_, rfl, r⟩
  | _, _, i + 1, d, .cons _ t, e => by
    obtain ⟨v, h1, h2⟩ := RepDs.get (i := i) (d := d) t (by simpa using e)
    exact ⟨v, by simpa using h1, h2⟩
theorem RepDs.take {K : PySem.W.Frag} {H : Hp} : ∀ {vs : List V} {ds : List D} (n : Nat), RepDs K H vs ds → RepDs K H (vs.take n) (ds.take n)
  | _, _, 0, _ => .nil
  | _, _, _ + 1, .nil => .nil
  | _, _, n + 1, .cons r t => .cons r (RepDs.take n t)
theorem RepDs.drop {K : PySem.W.Frag} {H : Hp} : ∀ {vs : List V} {ds : List D} (n : Nat), RepDs K H vs ds → RepDs K H (vs.drop n) (ds.drop n)
  | _, _, 0, r => r
  | _, _, _ + 1, .nil => .nil
  | _, _, n + 1, .cons _ t => RepDs.drop n t
theorem Owns.get {K : PySem.W.Frag} {H : Hp} : ∀ {vs : List V} {xs : List T} {F : List Addr} {i : Nat} {x : T}, Owns K H vs xs F → xs[i]? = some x → ∃ v G, vs[i]? = some v ∧ Own K H v x G ∧ ∀ a ∈ G, a ∈ F
  | _, _, _, _, _, .nil, e => by simp at e
  | _, _, _, 0, _, .cons r _, e => by simp at e; subst e; exact ⟨_, _, rfl, r, fun a m => List.mem_append_left _ m⟩
  | _, _, _, i + 1, x, .cons _ t, e => by
    obtain ⟨v, G, h1, h2, h3⟩ := Owns.get (i := i) (x := x) t (by simpa using e)
    exact ⟨v, G, by simpa using h1, h2, fun a m => List.mem_append_right _ (h3 a m)⟩
/-- a list of things that are all data -/
def allD : List T → Option (List D)
  | [] => some []
  | .d d :: r => (allD r).map (d :: ·)
  | .l _ :: _ => none
@[simp] theorem allD_map : ∀ ds : List D, allD (ds.map T.d) = some ds
  | [] => rfl
  | d :: r => by rw [List.map_cons, allD, allD_map r]; rfl
theorem allD_eq : ∀ {xs : List T} {ds : List D}, allD xs = some ds → xs = ds.map T.d
  | [], ds, h => by cases h; rfl
  | .d d :: r, ds, h => by
    unfold allD at h
    cases e : allD r with
    | none => rw [e] at h; cases h
    | some es => rw [e] at h; cases h; rw [allD_eq e]; rfl
  | .l _ :: _, ds, h => by cases h
theorem Owns.data {K : PySem.W.Frag} {H : Hp} : ∀ {vs : List V} {ds : List D} {F : List Addr}, Owns K H vs (ds.map T.d) F → RepDs K H vs ds ∧ F = []
  | _, [], _, .nil => ⟨.nil, rfl⟩
  | _, d :: ds, _, .cons (.d r) t => let ⟨a, b⟩ := Owns.data t; ⟨.cons r a, by rw [b]; rfl⟩

/-! ### the frame's things -/
inductive Sl where
  /-- nothing; our own; seen, not ours; lent to us, to be given back -/
  | n | v (x : T) | w (x : T) | b (x : T)
abbrev En := List Sl
def Sl.get : Sl → Option T
  | .n => none
  | .v x => some x
  | .w x => some x
  | .b x => some x
def at_ (en : En) (i : Nat) : Option T := match en[i]? with
  | some s => s.get
  | none => none
/-- an error: its class's name, its fields -/
structure Exc where
  tag : Str
  fl : Option (List (Str × D))
inductive R (α : Type) where
  | ok (a : α) | ex (c : Exc) | no
def R.bind {α β : Type} (r : R α) (f : α → R β) : R β := match r with
  | .ok a => f a
  | .ex c => .ex c
  | .no => .no
def R.of {α : Type} : Option α → R α
  | some a => .ok a
  | none => .no
/-- a datum alone -/
def R.pur : R T → R T
  | .ok (.d d) => .ok (.d d)
  | .ok (.l _) => .no
  | .ex c => .ex c
  | .no => .no
@[simp] theorem R.bind_ok {α β : Type} (a : α) (f : α → R β) : (R.ok a).bind f = f a := Eq.trans (b := f a) (Eq.refl _) (Eq.refl _)
@[simp] theorem R.bind_ex {α β : Type} (c : Exc) (f : α → R β) : (R.ex c).bind f = .ex c := rfl
@[simp] theorem R.bind_no {α β : Type} (f : α → R β) : (R.no).bind f = .no := rfl
@[simp] theorem R.of_some {α : Type} (a : α) : R.of (some a) = .ok a := rfl
@[simp] theorem R.of_none {α : Type} : R.of (none : Option α) = .no := rfl
@[simp] theorem R.pur_d (d : D) : R.pur (.ok (.d d)) = .ok (.d d) := rfl
@[simp] theorem R.pur_ex (c : Exc) : R.pur (.ex c) = .ex c := rfl

/-- each name's thing is seen -/
structure VEn (K : PySem.W.Frag) (H : Hp) (σ : St) (en : En) : Prop where
  len : en.length ≤ σ.length
  see : ∀ i x, at_ en i = some x → ∃ v G, σ[i]? = some (some v) ∧ Own K H v x G
theorem VEn.mono {K : PySem.W.Frag} {H H' : Hp} {σ : St} {en : En} (s : Same H H') (h : VEn K H σ en) : VEn K H' σ en := ⟨h.len, fun i x e =>
  let ⟨v, G, h1, h2⟩ := h.see i x e
  ⟨v, G, h1, h2.mono s⟩⟩
/-- how an error stands -/
def ExIs (K : PySem.W.Frag) (mg : Str → Option Value) (H : Hp) (c : Exc) (cls : Value) (dx : Option Addr) : Prop := mg c.tag = some cls ∧ match c.fl with
  | none => dx = none
  | some fs => ∃ a vs, dx = some a ∧ H a = some (.xd ((fs.map (·.1)).zip vs)) ∧ RepDs K H vs (fs.map (·.2))
theorem ExIs.mono {K : PySem.W.Frag} {mg : Str → Option Value} {H H' : Hp} {c : Exc} {cls : Value} {dx : Option Addr} (s : Same H H') (h : ExIs K mg H c cls dx) : ExIs K mg H' c cls dx := by
  obtain ⟨h1, h2⟩ := h
  refine ⟨h1, ?_⟩
  revert h2
  cases c.fl with
  | none => exact id
  | some fs => exact fun ⟨a, vs, e, h, r⟩ => ⟨a, vs, e, s a _ h, r.mono (.of s)⟩
/-- all new -/
def Fresh (H : Hp) (G : List Addr) : Prop := G.Nodup ∧ ∀ a ∈ G, H a = none
theorem Fresh.nil {H : Hp} : Fresh H [] := ⟨List.nodup_nil, fun _ h => absurd h List.not_mem_nil⟩

section
variable (X : Cx) (W : WX)
def XQ (σ : St) (H : Hp) (c : Exc) : Prop := ∀ cls dx H', Same H H' → ExIs X.K X.mg H' c cls dx → W cls dx σ H'
def VQ (σ : St) (H : Hp) (Q : VK) : R T → Prop
  | .ok x => ∀ v H' G, Same H H' → Own X.K H' v x G → Q v H'
  | .ex c => XQ X W σ H c
  | .no => False
def NQ (σ : St) (H : Hp) (Q : VK) : R T → Prop
  | .ok x => ∀ v H' G, Same H H' → Own X.K H' v x G → Fresh H G → Q v H'
  | .ex c => XQ X W σ H c
  | .no => False
def TQ (σ : St) (H : Hp) (Q : Bool → Hp → Prop) : R Bool → Prop
  | .ok b => ∀ H', Same H H' → Q b H'
  | .ex c => XQ X W σ H c
  | .no => False
/-- many things, seen -/
inductive Vws (K : PySem.W.Frag) (H : Hp) : List V → List T → Prop
  | nil : Vws K H [] []
  | cons {v : V} {vs : List V} {x : T} {xs : List T} {G : List Addr} : Own K H v x G → Vws K H vs xs → Vws K H (v :: vs) (x :: xs)
def AQ (σ : St) (H : Hp) (Q : List V → Hp → Prop) : R (List T) → Prop
  | .ok xs => ∀ vs H', Same H H' → Vws X.K H' vs xs → Q vs H'
  | .ex c => XQ X W σ H c
  | .no => False
def BQ (σ : St) (H : Hp) (Q : List V → Hp → Prop) : R (List T) → Prop
  | .ok xs => ∀ vs H' F, Same H H' → Owns X.K H' vs xs F → Fresh H F → Q vs H'
  | .ex c => XQ X W σ H c
  | .no => False
def SpV (g : En → R T) (t : TE) : Prop := ∀ σ H en Q, VEn X.K H σ en → VQ X W σ H Q (g en) → t σ H Q
def SpN (g : En → R T) (t : TE) : Prop := ∀ σ H en Q, VEn X.K H σ en → NQ X W σ H Q (g en) → t σ H Q
def SpT (g : En → R Bool) (t : TT) : Prop := ∀ σ H en Q, VEn X.K H σ en → TQ X W σ H Q (g en) → t σ H Q
def SpA (g : En → R (List T)) (t : TA) : Prop := ∀ σ H en Q, VEn X.K H σ en → AQ X W σ H Q (g en) → t σ H Q
def SpB (g : En → R (List T)) (t : TA) : Prop := ∀ σ H en Q, VEn X.K H σ en → BQ X W σ H Q (g en) → t σ H Q
/-- an expression that is seen; that is new (or a datum); a test; arguments seen; arguments new -/
def PV (e : Expr) (g : En → R T) : Prop := ∃ t, PE X e t ∧ SpV X W g t
def PN (e : Expr) (g : En → R T) : Prop := ∃ t, PE X e t ∧ SpN X W g t
def PC (e : Expr) (g : En → R Bool) : Prop := ∃ t, PT X e t ∧ SpT X W g t
def PWc (e : Expr) (g : En → R Bool) : Prop := ∃ t, PW X e t ∧ SpT X W g t
def PAv (es : List Expr) (g : En → R (List T)) : Prop := ∃ t, PA X es t ∧ SpA X W g t
def PAn (es : List Expr) (g : En → R (List T)) : Prop := ∃ t, PA X es t ∧ SpB X W g t
end
theorem Vws.mono {K : PySem.W.Frag} {H H' : Hp} (s : Same H H') : ∀ {vs : List V} {xs : List T}, Vws K H vs xs → Vws K H' vs xs
  | _, _, .nil => .nil
  | _, _, .cons h t => .cons (h.mono s) (Vws.mono s t)
theorem Vws.length {K : PySem.W.Frag} {H : Hp} : ∀ {vs : List V} {xs : List T}, Vws K H vs xs → vs.length = xs.length
  | _, _, .nil => rfl
  | _, _, .cons _ t => congrArg Nat.succ (Vws.length t)
theorem Owns.vws {K : PySem.W.Frag} {H : Hp} : ∀ {vs : List V} {xs : List T} {F : List Addr}, Owns K H vs xs F → Vws K H vs xs
  | _, _, _, .nil => .nil
  | _, _, _, .cons h t => .cons h (Owns.vws t)
theorem XQ.mono {X : Cx} {W : WX} {σ : St} {H H' : Hp} {c : Exc} (s : Same H H') (h : XQ X W σ H c) : XQ X W σ H' c := fun cls dx H2 s2 e => h cls dx H2 (s.trans s2) e
section
variable {X : Cx} {W : WX} {e : Expr} {g : En → R T}
theorem VQ.nq {σ : St} {H : Hp} {Q : VK} {r : R T} (h : VQ X W σ H Q r) : NQ X W σ H Q r := by
  cases r with
  | ok x => exact fun v H' G s o _ => h v H' G s o
  | ex c => exact h
  | no => exact h
theorem PN.v (h : PN X W e g) : PV X W e g := let ⟨t, p, s⟩ := h; ⟨t, p, fun σ H en Q v q => s σ H en Q v q.nq⟩
theorem PV.pur (h : PV X W e g) : PN X W e (fun en => (g en).pur) := by
  obtain ⟨t, p, s⟩ := h
  refine ⟨t, p, fun σ H en Q v q => s σ H en Q v ?_⟩
  have q : NQ X W σ H Q (g en).pur := q
  revert q
  cases g en with
  | ok x =>
    cases x with
    | d d => exact fun q v H' G sm o => q v H' G sm o (by cases o; exact Fresh.nil)
    | l xs => exact fun q => q.elim
  | ex c => exact id
  | no => exact id
/-! ### names, constants -/
theorem v_name (i : Nat) {x : Str} {pos : Pos} (hN : X.N[i]? = some x := by rfl) (hv : Vis X.env.scope x := by first | exact Or.inl rfl | exact Or.inr (Or.inl rfl) | exact Or.inr (Or.inr rfl)) (hd : (x == ("__debug__" : Str)) = false := by decide)
    (hcd : (x == ("__classdict__" : Str)) = false := by decide) : PV X W (.Name x pos) (fun en => R.of (at_ en i)) := by
  refine ⟨_, pe_var hN hv hd hcd, fun σ H en Q ve q => ?_⟩
  have q : VQ X W σ H Q (R.of (at_ en i)) := q
  revert q
  cases h : at_ en i with
  | none => exact fun q => q.elim
  | some x =>
    obtain ⟨v, G, h1, h2⟩ := ve.see i x h
    exact fun q => ⟨v, h1, q v H G (Same.refl H) h2⟩
theorem n_int {i : Int} {j pos} : PN X W (.Constant (.int i) j pos) (fun _ => .ok (.d (.int i))) := ⟨_, pe_int, fun _ H _ _ _ q => q _ H _ (Same.refl H) (.d (.int i)) Fresh.nil⟩
theorem n_bl {i : Bool} {j pos} : PN X W (.Constant (.bool i) j pos) (fun _ => .ok (.d (.bl i))) := ⟨_, pe_bl, fun _ H _ _ _ q => q _ H _ (Same.refl H) (.d (.bl i)) Fresh.nil⟩
theorem n_non {j pos} : PN X W (.Constant .none j pos) (fun _ => .ok (.d .non)) := ⟨_, pe_non, fun _ H _ _ _ q => q _ H _ (Same.refl H) (.d .non) Fresh.nil⟩
theorem n_str {x : Str} {j pos} : PN X W (.Constant (.str x) j pos) (fun _ => .ok (.d (.str x))) := ⟨_, pe_str, fun _ H _ _ _ q => q _ H _ (Same.refl H) (.d (.str x)) Fresh.nil⟩
/-- a module's constant -/
theorem n_glob {x : Str} {v : V} {u : Value} {d : D} {pos : Pos} (hg : Gl X x) (hm : X.mg x = some u) (r : RelV v u) (hr : ∀ H, RepD X.K H v d) (hd : (x == ("__debug__" : Str)) = false := by decide) : PN X W (.Name x pos) (fun _ => .ok (.d d)) :=
  ⟨_, pe_glob hg hm r hd, fun _ H _ _ _ q => q _ H _ (Same.refl H) (.d (hr H)) Fresh.nil⟩
/-! ### operations of two -/
/-- what an operation does with things that are seen -/
def Q2 (K : PySem.W.Frag) (r : R2) (f : T → T → Option T) : Prop := ∀ (H : Hp) (x y z : T) (vx vy : V) (Gx Gy : List Addr) (Q : VK), Own K H vx x Gx → Own K H vy y Gy → f x y = some z →
  (∀ v H' G, Same H H' → Own K H' v z G → Fresh H G → Q v H') → r vx vy H Q
/-- .. what it gives is seen in them -/
def Q2v (K : PySem.W.Frag) (r : R2) (f : T → T → Option T) : Prop := ∀ (H : Hp) (x y z : T) (vx vy : V) (Gx Gy : List Addr) (Q : VK), Own K H vx x Gx → Own K H vy y Gy → f x y = some z →
  (∀ v H' G, Same H H' → Own K H' v z G → Q v H') → r vx vy H Q
def g2 (f : T → T → Option T) (ga gb : En → R T) : En → R T := fun en => (ga en).bind fun x => (gb en).bind fun y => .of (f x y)
theorem Q2.v {K : PySem.W.Frag} {r : R2} {f : T → T → Option T} (h : Q2 K r f) : Q2v K r f := fun H x y z vx vy Gx Gy Q a b e q => h H x y z vx vy Gx Gy Q a b e fun v H' G s o _ => q v H' G s o
theorem sp2 {r : R2} {f : T → T → Option T} {ga gb : En → R T} {ta tb : TE} (q : Q2 X.K r f) (a : SpV X W ga ta) (b : SpV X W gb tb) : SpN X W (g2 f ga gb) (tOp r ta tb) := by
  intro σ H en Q ve h
  refine a σ H en _ ve ?_
  unfold g2 at h
  cases ea : ga en with
  | ok x =>
    rw [ea] at h
    intro v1 H1 G1 s1 o1
    refine b σ H1 en _ (ve.mono s1) ?_
    cases eb : gb en with
    | ok y =>
      rw [eb] at h
      intro v2 H2 G2 s2 o2
      cases ef : f x y with
      | none => simp only [R.bind_ok, ef, R.of_none] at h; exact h.elim
      | some z =>
        simp only [R.bind_ok, ef, R.of_some] at h
        refine q H2 x y z v1 v2 G1 G2 Q (o1.mono s2) o2 ef fun v H' G s o fr => h v H' G ((s1.trans s2).trans s) o ⟨fr.1, fun c m => ?_⟩
        exact (s1.trans s2).free (fr.2 c m)
    | ex c => rw [eb] at h; exact XQ.mono (W := W) s1 h
    | no => rw [eb] at h; exact h
  | ex c => rw [ea] at h; exact h
  | no => rw [ea] at h; exact h
theorem sp2v {r : R2} {f : T → T → Option T} {ga gb : En → R T} {ta tb : TE} (q : Q2v X.K r f) (a : SpV X W ga ta) (b : SpV X W gb tb) : SpV X W (g2 f ga gb) (tOp r ta tb) := by
  intro σ H en Q ve h
  refine a σ H en _ ve ?_
  unfold g2 at h
  cases ea : ga en with
  | ok x =>
    rw [ea] at h
    intro v1 H1 G1 s1 o1
    refine b σ H1 en _ (ve.mono s1) ?_
    cases eb : gb en with
    | ok y =>
      rw [eb] at h
      intro v2 H2 G2 s2 o2
      cases ef : f x y with
      | none => simp only [R.bind_ok, ef, R.of_none] at h; exact h.elim
      | some z =>
        simp only [R.bind_ok, ef, R.of_some] at h
        exact q H2 x y z v1 v2 G1 G2 Q (o1.mono s2) o2 ef fun v H' G s o => h v H' G ((s1.trans s2).trans s) o
    | ex c => rw [eb] at h; exact XQ.mono (W := W) s1 h
    | no => rw [eb] at h; exact h
  | ex c => rw [ea] at h; exact h
  | no => rw [ea] at h; exact h
variable {a b : Expr} {ga gb : En → R T} {pos : Pos}
/-- a rule of the layer beside what it computes -/
structure Bn (X : Cx) (op : Operator) (f : T → T → Option T) : Prop where
  p : ∃ r, OpR X (binaryOp op) r ∧ Q2 X.K r f
structure Cm (X : Cx) (op : CmpOp) (f : T → T → Option T) : Prop where
  p : ∃ r, OpR X (compareOp op) r ∧ Q2 X.K r f
theorem n_bin {op : Operator} {f : T → T → Option T} (o : Bn X op f) (ha : PV X W a ga) (hb : PV X W b gb) : PN X W (.BinOp a op b pos) (g2 f ga gb) := by
  obtain ⟨r, ho, q⟩ := o.p
  obtain ⟨ta, pa, sa⟩ := ha
  obtain ⟨tb, pb, sb⟩ := hb
  exact ⟨_, pe_op ho pa pb, sp2 q sa sb⟩
theorem n_cmp {op : CmpOp} {f : T → T → Option T} (o : Cm X op f) (ha : PV X W a ga) (hb : PV X W b gb) (hm : behindInMarks op b = false := by first | exact nomark _ | with_unfolding_all rfl) : PN X W (.Compare a [op] [b] pos) (g2 f ga gb) := by
  obtain ⟨r, ho, q⟩ := o.p
  obtain ⟨ta, pa, sa⟩ := ha
  obtain ⟨tb, pb, sb⟩ := hb
  exact ⟨_, pe_cmpR ho pa pb hm, sp2 q sa sb⟩
/-- a value as a test -/
def tst : T → Option Bool
  | .d (.bl b) => some b
  | _ => none
def gT (g : En → R T) : En → R Bool := fun en => (g en).bind fun x => .of (tst x)
theorem spTest {t : TE} (a : SpV X W g t) : SpT X W (gT g) (tTest t) := by
  intro σ H en Q ve h
  refine a σ H en _ ve ?_
  unfold gT at h
  cases ea : g en with
  | ok x =>
    rw [ea] at h
    intro v H' G s o
    cases x with
    | d d =>
      cases o with
      | d r =>
        cases r with
        | bl k => exact ⟨k, rfl, h H' s⟩
        | _ => exact h.elim
    | l xs => exact h.elim
  | ex c => rw [ea] at h; exact h
  | no => rw [ea] at h; exact h
theorem c_cmp {op : CmpOp} {f : T → T → Option T} (o : Cm X op f) (ha : PV X W a ga) (hb : PV X W b gb) (hm : behindInMarks op b = false := by first | exact nomark _ | with_unfolding_all rfl) : PC X W (.Compare a [op] [b] pos) (gT (g2 f ga gb)) := by
  obtain ⟨r, ho, q⟩ := o.p
  obtain ⟨ta, pa, sa⟩ := ha
  obtain ⟨tb, pb, sb⟩ := hb
  exact ⟨_, pt_cmpR ho pa pb hm, spTest (sp2v q.v sa sb)⟩
end
end Z
/-! Z: operations on things. -/
namespace Z
open PySem PySem.Spec L2
open PyProof.Rows hiding St

theorem same_new {H : Hp} {p : Addr} {o : HO} (h : H p = none) : Same H (upd H p o) := fun b x e => by
  rw [upd_ne (ne_of_none e h)]
  exact e
/-- how big a list or a text may be -/
abbrev most : Nat := 16777216
theorem most_eq : sizeLine = most := sizeLine_eq
def MulOk (i j : Int) : Prop := (i.natAbs < 18446744073709551616 ∨ j.natAbs < 18446744073709551616) ∨ i.natAbs.log2 + j.natAbs.log2 < 1000000
instance {i j : Int} : Decidable (MulOk i j) := by unfold MulOk; infer_instance
theorem MulOk.l {i j : Int} (h : i.natAbs < 18446744073709551616) : MulOk i j := .inl (.inl h)
theorem MulOk.r {i j : Int} (h : j.natAbs < 18446744073709551616) : MulOk i j := .inl (.inr h)
def fAdd : T → T → Option T
  | .d (.int i), .d (.int j) => some (.d (.int (i + j)))
  | .d (.str a), .d (.str b) => if a.length + b.length ≤ most then some (.d (.str (a ++ b))) else none
  | .d (.tup a), .d (.tup b) => if a.length + b.length ≤ most then some (.d (.tup (a ++ b))) else none
  | .l a, .l b => match allD a, allD b with
    | some a, some b => if a.length + b.length ≤ most then some (.l ((a ++ b).map T.d)) else none
    | _, _ => none
  | _, _ => none
def fSub : T → T → Option T
  | .d (.int i), .d (.int j) => some (.d (.int (i - j)))
  | _, _ => none
def fMul : T → T → Option T
  | .d (.int i), .d (.int j) => if MulOk i j then some (.d (.int (i * j))) else none
  | .l a, .d (.int k) => match allD a with
    | some a => if -9223372036854775808 ≤ k ∧ k < 9223372036854775808 ∧ a.length * k.toNat ≤ most then some (.l ((List.replicate k.toNat a).flatten.map T.d)) else none
    | none => none
  | _, _ => none
def fMod : T → T → Option T
  | .d (.int i), .d (.int j) => if 0 < j then some (.d (.int (i % j))) else none
  | _, _ => none
def fDiv : T → T → Option T
  | .d (.int i), .d (.int j) => if 0 < j ∧ j.natAbs.log2 < 9000 then some (.d (.int (i / j))) else none
  | _, _ => none
def fPow : T → T → Option T
  | .d (.int i), .d (.int j) => if 0 ≤ j ∧ j ≤ 1000000 ∧ i.natAbs < 18446744073709551616 then some (.d (.int (i ^ j.toNat))) else none
  | _, _ => none
/-! a datum as the library's data -/
mutual
def D.py : D → PyData
  | .non => .none
  | .bl b => .bool b
  | .int i => .int i
  | .str s => .str s
  | .tup ds => .tuple (D.pys ds)
  | .rol ds => .list (D.pys ds)
def D.pys : List D → List PyData
  | [] => []
  | d :: ds => d.py :: D.pys ds
end
mutual
def T.py : T → PyData
  | .d e => D.py e
  | .l xs => .list (T.pys xs)
def T.pys : List T → List PyData
  | [] => []
  | x :: xs => x.py :: T.pys xs
end
theorem Pst.same {H : Hp} : Pst H H := Pst.refl H
mutual
theorem RepD.dp {K : PySem.W.Frag} {H : Hp} : ∀ {v : V} {d : D}, RepD K H v d → Dp K H v d.py
  | _, _, .non => .non
  | _, _, .bl b => .bl b
  | _, _, .int i => .int i
  | _, _, .str s => .str s
  | _, _, .tup h r => .tup h (RepDs.dp r)
  | _, _, .rol h r => .lst (h H (Pst.refl H)) (RepDs.dp r)
theorem RepDs.dp {K : PySem.W.Frag} {H : Hp} : ∀ {vs : List V} {ds : List D}, RepDs K H vs ds → DpAll K H vs (D.pys ds)
  | _, _, .nil => .nil
  | _, _, .cons r t => .cons (RepD.dp r) (RepDs.dp t)
end
mutual
theorem Own.dp {K : PySem.W.Frag} {H : Hp} : ∀ {v : V} {x : T} {F : List Addr}, Own K H v x F → Dp K H v x.py
  | _, _, _, .d r => r.dp
  | _, _, _, .l h r => .lst (SqL.of h) (Owns.dp r)
theorem Owns.dp {K : PySem.W.Frag} {H : Hp} : ∀ {vs : List V} {xs : List T} {F : List Addr}, Owns K H vs xs F → DpAll K H vs (T.pys xs)
  | _, _, _, .nil => .nil
  | _, _, _, .cons r t => .cons (Own.dp r) (Owns.dp t)
end
def shp (d : PyData) : Bool := SeqAt.shaped d
def fEq (x y : T) : Option T := if shp x.py && shp y.py then some (.d (.bl (PyData.eqv x.py y.py))) else none
def fNe (x y : T) : Option T := if shp x.py && shp y.py then some (.d (.bl (!PyData.eqv x.py y.py))) else none
def fLt : T → T → Option T
  | .d (.int i), .d (.int j) => some (.d (.bl (decide (i < j))))
  | .d (.str i), .d (.str j) => some (.d (.bl (decide (i.cps.toList < j.cps.toList))))
  | _, _ => none
def fLe : T → T → Option T
  | .d (.int i), .d (.int j) => some (.d (.bl (decide (i ≤ j))))
  | _, _ => none
def fGt : T → T → Option T
  | .d (.int i), .d (.int j) => some (.d (.bl (decide (j < i))))
  | _, _ => none
def fGe : T → T → Option T
  | .d (.int i), .d (.int j) => some (.d (.bl (decide (j ≤ i))))
  | _, _ => none
/-- data that are no tuples, no lists -/
def flt : D → Bool
  | .tup _ => false
  | .rol _ => false
  | _ => true
def fv : D → V
  | .non => .non
  | .bl b => .bl b
  | .int i => .int i
  | .str s => .str s
  | _ => .non
theorem RepD.flat {K : PySem.W.Frag} {H : Hp} {v : V} {d : D} (r : RepD K H v d) (h : flt d = true) : v = fv d ∧ flatV v = true := by
  cases r with
  | tup _ _ => cases h
  | rol _ _ => cases h
  | _ => exact ⟨rfl, rfl⟩
theorem RepDs.flat {K : PySem.W.Frag} {H : Hp} : ∀ {vs : List V} {ds : List D}, RepDs K H vs ds → ds.all flt = true → vs = ds.map fv ∧ vs.all flatV = true
  | _, _, .nil, _ => ⟨rfl, rfl⟩
  | _, _, .cons r t, h => by
    rw [List.all_cons, Bool.and_eq_true] at h
    obtain ⟨e1, f1⟩ := r.flat h.1
    obtain ⟨e2, f2⟩ := RepDs.flat t h.2
    exact ⟨by rw [e1, e2]; rfl, by rw [List.all_cons, f1, f2]; rfl⟩
/-- the items of a list or tuple that are data -/
def dataOf : T → Option (List D)
  | .d (.tup ds) => some ds
  | .d (.rol ds) => some ds
  | .l xs => allD xs
  | _ => none
theorem dataOf_ok {K : PySem.W.Frag} {H : Hp} {v : V} {x : T} {G : List Addr} {ds : List D} (o : Own K H v x G) (h : dataOf x = some ds) : ∃ a vs, v = .ref a ∧ (SqL K H a vs ∨ SqT K H a vs) ∧ RepDs K H vs ds := by
  cases o with
  | d r =>
    cases r with
    | tup s r => cases h; exact ⟨_, _, rfl, .inr s, r⟩
    | rol s r => cases h; exact ⟨_, _, rfl, .inl (s H (Pst.refl H)), r⟩
    | _ => cases h
  | l s r =>
    have e := allD_eq h
    subst e
    exact ⟨_, _, rfl, .inl (SqL.of s), r.data.1⟩
def isIn (d : D) (ds : List D) : Bool := inV (fv d) (ds.map fv)
def strIn (a b : Str) : Bool := !(Builtin.Str.occurrences b a 0 b.length 1).isEmpty
def fIn : T → T → Option T
  | .d (.str a), .d (.str b) => some (.d (.bl (strIn a b)))
  | .d d, y => match dataOf y with
    | some ds => if flt d && ds.all flt then some (.d (.bl (isIn d ds))) else none
    | none => none
  | _, _ => none
def fNotIn : T → T → Option T
  | .d (.str a), .d (.str b) => some (.d (.bl (!strIn a b)))
  | .d d, y => match dataOf y with
    | some ds => if flt d && ds.all flt then some (.d (.bl (!isIn d ds))) else none
    | none => none
  | _, _ => none
def fIs : T → T → Option T
  | .d .non, .d .non => some (.d (.bl true))
  | .d (.bl a), .d (.bl b) => some (.d (.bl (decide (a = b))))
  | .d (.bl _), .d .non => some (.d (.bl false))
  | .d (.int _), .d .non => some (.d (.bl false))
  | .d (.str _), .d .non => some (.d (.bl false))
  | .d (.tup _), .d .non => some (.d (.bl false))
  | _, _ => none
def fIsNot : T → T → Option T
  | .d .non, .d .non => some (.d (.bl false))
  | .d (.bl a), .d (.bl b) => some (.d (.bl (!decide (a = b))))
  | .d (.bl _), .d .non => some (.d (.bl true))
  | .d (.int _), .d .non => some (.d (.bl true))
  | .d (.str _), .d .non => some (.d (.bl true))
  | .d (.tup _), .d .non => some (.d (.bl true))
  | _, _ => none
section
variable {X : Cx}
theorem fin_d {K : PySem.W.Frag} {H : Hp} {v : V} {d : D} {Q : VK} (r : RepD K H v d) (q : ∀ v H' G, Same H H' → Own K H' v (.d d) G → Fresh H G → Q v H') : Q v H := q v H [] (Same.refl H) (.d r) Fresh.nil
theorem b_sub : Bn X .Sub fSub := ⟨_, op_sub, fun H x y z vx vy Gx Gy Q ox oy e q => by
  unfold fSub at e
  split at e <;> cases e
  cases ox with | d r1 => cases oy with | d r2 => cases r1; cases r2; exact ⟨_, _, rfl, rfl, fin_d (.int _) q⟩⟩
theorem b_mod : Bn X .Mod fMod := ⟨_, op_mod, fun H x y z vx vy Gx Gy Q ox oy e q => by
  unfold fMod at e
  split at e
  · split at e <;> cases e
    rename_i h
    cases ox with | d r1 => cases oy with | d r2 => cases r1; cases r2; exact ⟨_, _, rfl, rfl, h, fin_d (.int _) q⟩
  · cases e⟩
theorem b_div : Bn X .FloorDiv fDiv := ⟨_, op_fdivW, fun H x y z vx vy Gx Gy Q ox oy e q => by
  unfold fDiv at e
  split at e
  · split at e <;> cases e
    rename_i h
    cases ox with | d r1 => cases oy with | d r2 => cases r1; cases r2; exact ⟨_, _, rfl, rfl, h, fin_d (.int _) q⟩
  · cases e⟩
theorem b_pow : Bn X .Pow fPow := ⟨_, op_pow, fun H x y z vx vy Gx Gy Q ox oy e q => by
  unfold fPow at e
  split at e
  · split at e <;> cases e
    rename_i h
    cases ox with | d r1 => cases oy with | d r2 => cases r1; cases r2; exact ⟨_, _, rfl, rfl, h, fin_d (.int _) q⟩
  · cases e⟩
theorem b_add : Bn X .Add fAdd := ⟨_, op_add.or (op_add_str.or (op_catA.or op_cat)), fun H x y z vx vy Gx Gy Q ox oy e q => by
  unfold fAdd at e
  split at e
  · cases e
    cases ox with | d r1 => cases oy with | d r2 => cases r1; cases r2; exact .inl ⟨_, _, rfl, rfl, fin_d (.int _) q⟩
  · split at e <;> cases e
    rename_i h
    cases ox with | d r1 => cases oy with | d r2 => cases r1; cases r2; exact .inr (.inl ⟨_, _, rfl, rfl, by rw [most_eq]; exact h, fin_d (.str _) q⟩)
  · split at e <;> cases e
    rename_i h
    cases ox with
    | d r1 => cases oy with
      | d r2 =>
        cases r1 with
        | tup s1 p1 => cases r2 with
          | tup s2 p2 =>
            refine .inr (.inr (.inl ⟨_, _, _, _, rfl, rfl, s1, s2, by rw [most_eq, p1.length, p2.length]; exact h, fun e => ?_, fun e1 e2 => ?_, fun _ _ p np => ?_⟩))
            · subst e; cases p1; exact fin_d (.tup s2 p2) q
            · subst e2; cases p2; rw [List.append_nil] at q; exact fin_d (.tup s1 p1) q
            · exact q _ _ [] (same_new np) (.d (.tup (SqT.of upd_same) ((p1.mono (.of (same_new np))).append (p2.mono (.of (same_new np)))))) Fresh.nil
  · rename_i a b
    split at e
    · rename_i a' b' e1 e2
      split at e <;> cases e
      rename_i h
      have e1 := allD_eq e1
      have e2 := allD_eq e2
      subst e1 e2
      cases ox with
      | l h1 o1 => cases oy with
        | l h2 o2 =>
          have d1 := o1.data.1
          have d2 := o2.data.1
          refine .inr (.inr (.inr ⟨_, _, _, _, rfl, rfl, h1, h2, by rw [most_eq, d1.length, d2.length]; exact h, fun p np => ?_⟩))
          refine q _ _ [p] (same_new np) (.l upd_same ((d1.mono (.of (same_new np))).append (d2.mono (.of (same_new np)))).owns) ⟨by simp, fun c m => ?_⟩
          have e : c = p := by simpa using m
          rw [e]; exact np
    · cases e
  · cases e⟩
theorem b_mul : Bn X .Mult fMul := ⟨_, op_mul.or (op_mulW.or op_rep), fun H x y z vx vy Gx Gy Q ox oy e q => by
  unfold fMul at e
  split at e
  · split at e <;> cases e
    rename_i h
    cases ox with
    | d r1 => cases oy with
      | d r2 =>
        cases r1; cases r2
        rcases h with (h | h) | h
        · exact .inl ⟨_, _, rfl, rfl, .inl (by omega), fin_d (.int _) q⟩
        · exact .inl ⟨_, _, rfl, rfl, .inr (by omega), fin_d (.int _) q⟩
        · exact .inr (.inl ⟨_, _, rfl, rfl, h, fin_d (.int _) q⟩)
  · split at e
    · rename_i a' e1
      split at e <;> cases e
      rename_i h
      have e1 := allD_eq e1
      subst e1
      cases ox with
      | l h1 o1 => cases oy with
        | d r2 =>
          cases r2
          have d1 := o1.data.1
          refine .inr (.inr ⟨_, _, _, rfl, rfl, h1, by omega, by omega, by rw [most_eq, d1.length]; exact h.2.2, fun p np => ?_⟩)
          have rr : ∀ k : Nat, RepDs X.K H (List.replicate k _).flatten (List.replicate k _).flatten := fun k => by
            induction k with
            | zero => exact .nil
            | succ k ih => rw [List.replicate_succ, List.replicate_succ, List.flatten_cons, List.flatten_cons]; exact d1.append ih
          refine q _ _ [p] (same_new np) (.l upd_same ((rr _).mono (.of (same_new np))).owns) ⟨by simp, fun c m => ?_⟩
          have e : c = p := by simpa using m
          rw [e]; exact np
    · cases e
  · cases e⟩
theorem m_lt : Cm X .Lt fLt := ⟨_, op_lt.or op_lt_str, fun H x y z vx vy Gx Gy Q ox oy e q => by
  unfold fLt at e
  split at e <;> cases e
  · cases ox with | d r1 => cases oy with | d r2 => cases r1; cases r2; exact .inl ⟨_, _, rfl, rfl, fin_d (.bl _) q⟩
  · cases ox with | d r1 => cases oy with | d r2 => cases r1; cases r2; exact .inr ⟨_, _, rfl, rfl, fin_d (.bl _) q⟩⟩
theorem m_le : Cm X .LtE fLe := ⟨_, op_le, fun H x y z vx vy Gx Gy Q ox oy e q => by
  unfold fLe at e
  split at e <;> cases e
  cases ox with | d r1 => cases oy with | d r2 => cases r1; cases r2; exact ⟨_, _, rfl, rfl, fin_d (.bl _) q⟩⟩
theorem m_gt : Cm X .Gt fGt := ⟨_, op_gt, fun H x y z vx vy Gx Gy Q ox oy e q => by
  unfold fGt at e
  split at e <;> cases e
  cases ox with | d r1 => cases oy with | d r2 => cases r1; cases r2; exact ⟨_, _, rfl, rfl, fin_d (.bl _) q⟩⟩
theorem m_ge : Cm X .GtE fGe := ⟨_, op_ge, fun H x y z vx vy Gx Gy Q ox oy e q => by
  unfold fGe at e
  split at e <;> cases e
  cases ox with | d r1 => cases oy with | d r2 => cases r1; cases r2; exact ⟨_, _, rfl, rfl, fin_d (.bl _) q⟩⟩
theorem m_eq (hu : X.A.units + 64 < cLine) : Cm X .Eq fEq := ⟨_, op_eqD hu, fun H x y z vx vy Gx Gy Q ox oy e q => by
  unfold fEq at e
  split at e <;> cases e
  rename_i h
  rw [Bool.and_eq_true] at h
  exact ⟨_, _, ox.dp, oy.dp, h.1, h.2, fin_d (.bl _) q⟩⟩
theorem m_ne (hu : X.A.units + 64 < cLine) : Cm X .NotEq fNe := ⟨_, op_neD hu, fun H x y z vx vy Gx Gy Q ox oy e q => by
  unfold fNe at e
  split at e <;> cases e
  rename_i h
  rw [Bool.and_eq_true] at h
  exact ⟨_, _, ox.dp, oy.dp, h.1, h.2, fin_d (.bl _) q⟩⟩
theorem m_in : Cm X .In fIn := ⟨_, op_in_str.or op_in_seq, fun H x y z vx vy Gx Gy Q ox oy e q => by
  unfold fIn at e
  split at e
  · cases e
    cases ox with | d r1 => cases oy with | d r2 => cases r1; cases r2; exact .inl ⟨_, _, rfl, rfl, fin_d (.bl _) q⟩
  · split at e
    · rename_i ds e1
      split at e <;> cases e
      rename_i h
      rw [Bool.and_eq_true] at h
      obtain ⟨a, vs, rfl, sq, rr⟩ := dataOf_ok oy e1
      cases ox with
      | d r1 =>
        obtain ⟨e2, f2⟩ := r1.flat h.1
        obtain ⟨e3, f3⟩ := rr.flat h.2
        refine .inr ⟨a, vs, rfl, sq, f2, f3, ?_⟩
        rw [e2, e3]
        exact fin_d (.bl _) q
    · cases e
  · cases e⟩
theorem m_notIn : Cm X .NotIn fNotIn := ⟨_, L2.op_notIn_str.or op_notIn_seq, fun H x y z vx vy Gx Gy Q ox oy e q => by
  unfold fNotIn at e
  split at e
  · cases e
    cases ox with | d r1 => cases oy with | d r2 => cases r1; cases r2; exact .inl ⟨_, _, rfl, rfl, fin_d (.bl _) q⟩
  · split at e
    · rename_i ds e1
      split at e <;> cases e
      rename_i h
      rw [Bool.and_eq_true] at h
      obtain ⟨a, vs, rfl, sq, rr⟩ := dataOf_ok oy e1
      cases ox with
      | d r1 =>
        obtain ⟨e2, f2⟩ := r1.flat h.1
        obtain ⟨e3, f3⟩ := rr.flat h.2
        refine .inr ⟨a, vs, rfl, sq, f2, f3, ?_⟩
        rw [e2, e3]
        exact fin_d (.bl _) q
    · cases e
  · cases e⟩
theorem m_is : Cm X .Is fIs := ⟨_, op_isN.or op_isBl, fun H x y z vx vy Gx Gy Q ox oy e q => by
  unfold fIs at e
  split at e <;> cases e
  · cases ox with | d r1 => cases oy with | d r2 => cases r1; cases r2; exact .inl ⟨rfl, fin_d (.bl _) q⟩
  · cases ox with | d r1 => cases oy with | d r2 => cases r1; cases r2; exact .inr ⟨_, _, rfl, rfl, fin_d (.bl _) q⟩
  · cases ox with | d r1 => cases oy with | d r2 => cases r1; cases r2; exact .inl ⟨rfl, fin_d (.bl _) q⟩
  · cases ox with | d r1 => cases oy with | d r2 => cases r1; cases r2; exact .inl ⟨rfl, fin_d (.bl _) q⟩
  · cases ox with | d r1 => cases oy with | d r2 => cases r1; cases r2; exact .inl ⟨rfl, fin_d (.bl _) q⟩
  · cases ox with | d r1 => cases oy with | d r2 => cases r1; cases r2; exact .inl ⟨rfl, fin_d (.bl _) q⟩⟩
theorem m_isNot : Cm X .IsNot fIsNot := ⟨_, op_notN.or op_notBl, fun H x y z vx vy Gx Gy Q ox oy e q => by
  unfold fIsNot at e
  split at e <;> cases e
  · cases ox with | d r1 => cases oy with | d r2 => cases r1; cases r2; exact .inl ⟨rfl, fin_d (.bl _) q⟩
  · cases ox with | d r1 => cases oy with | d r2 => cases r1; cases r2; exact .inr ⟨_, _, rfl, rfl, fin_d (.bl _) q⟩
  · cases ox with | d r1 => cases oy with | d r2 => cases r1; cases r2; exact .inl ⟨rfl, fin_d (.bl _) q⟩
  · cases ox with | d r1 => cases oy with | d r2 => cases r1; cases r2; exact .inl ⟨rfl, fin_d (.bl _) q⟩
  · cases ox with | d r1 => cases oy with | d r2 => cases r1; cases r2; exact .inl ⟨rfl, fin_d (.bl _) q⟩
  · cases ox with | d r1 => cases oy with | d r2 => cases r1; cases r2; exact .inl ⟨rfl, fin_d (.bl _) q⟩⟩
end
end Z
/-! Z: tests, chains, items, slices, displays, calls of built-ins. -/
namespace Z
open PySem PySem.Spec L2
open PyProof.Rows hiding St

/-- the truth of a thing -/
def tru : T → Option Bool
  | .d .non => some false
  | .d (.bl b) => some b
  | .d (.int i) => some (i != 0)
  | .d (.str y) => if y.length ≤ most then some ((y.length : Int) != 0) else none
  | .d (.tup ds) => some (!ds.isEmpty)
  | .d (.rol ds) => some (!ds.isEmpty)
  | .l xs => some (!xs.isEmpty)
theorem empty_len {α β : Type} {xs : List α} {ys : List β} (h : xs.length = ys.length) : xs.isEmpty = ys.isEmpty := by
  cases xs with
  | nil => cases ys with
    | nil => rfl
    | cons y r => cases h
  | cons x r => cases ys with
    | nil => cases h
    | cons y r => rfl
theorem tru_is {K : PySem.W.Frag} {H : Hp} {v : V} {x : T} {G : List Addr} {k : Bool} (o : Own K H v x G) (h : tru x = some k) : TruV K v H k := by
  cases o with
  | d r =>
    cases r with
    | non => cases h; exact rfl
    | bl b => cases h; exact rfl
    | int i => cases h; exact rfl
    | str y =>
      have h' : (if y.length ≤ most then some ((y.length : Int) != 0) else none) = some k := h
      by_cases hz : y.length ≤ most
      · rw [if_pos hz] at h'
        cases h'
        exact ⟨by rw [most_eq]; exact hz, rfl⟩
      · rw [if_neg hz] at h'
        cases h'
    | tup s r => cases h; exact .inr (.inl ⟨_, s, by rw [empty_len r.length]⟩)
    | rol s r => cases h; exact .inl ⟨_, s H (Pst.refl H), by rw [empty_len r.length]⟩
  | l s r => cases h; exact .inl ⟨_, SqL.of s, by rw [empty_len r.length]⟩
def gTru (g : En → R T) : En → R Bool := fun en => (g en).bind fun x => .of (tru x)
def gNot (g : En → R Bool) : En → R Bool := fun en => (g en).bind fun b => .ok (!b)
def gAnd (g h : En → R Bool) : En → R Bool := fun en => (g en).bind fun b => if b = true then h en else .ok false
def gOr (g h : En → R Bool) : En → R Bool := fun en => (g en).bind fun b => if b = true then .ok true else h en
def gNotV (g : En → R T) : En → R T := fun en => (g en).bind fun x => (R.of (tru x)).bind fun b => .ok (.d (.bl (!b)))
def gAndV (g h : En → R T) : En → R T := fun en => (g en).bind fun x => (R.of (tru x)).bind fun b => if b = true then h en else .ok x
def gOrV (g h : En → R T) : En → R T := fun en => (g en).bind fun x => (R.of (tru x)).bind fun b => if b = true then .ok x else h en
def gIf {α : Type} (c : En → R Bool) (g h : En → R α) : En → R α := fun en => (c en).bind fun b => if b = true then g en else h en
section
variable {X : Cx} {W : WX} {a b c : Expr} {rest : List Expr} {pos : Pos} {g h ga gb : En → R T} {tc td : En → R Bool}
theorem TQ.same {σ : St} {H H' : Hp} {Q : Bool → Hp → Prop} {r : R Bool} (s : Same H H') (h : TQ X W σ H Q r) : TQ X W σ H' Q r := by
  cases r with
  | ok b => exact fun H2 s2 => h H2 (s.trans s2)
  | ex c => exact XQ.mono (W := W) s h
  | no => exact h
theorem VQ.same {σ : St} {H H' : Hp} {Q : VK} {r : R T} (s : Same H H') (h : VQ X W σ H Q r) : VQ X W σ H' Q r := by
  cases r with
  | ok b => exact fun v H2 G s2 o => h v H2 G (s.trans s2) o
  | ex c => exact XQ.mono (W := W) s h
  | no => exact h
theorem Fresh.back {H H' : Hp} {G : List Addr} (s : Same H H') (f : Fresh H' G) : Fresh H G := ⟨f.1, fun c m => s.free (f.2 c m)⟩
theorem NQ.same {σ : St} {H H' : Hp} {Q : VK} {r : R T} (s : Same H H') (h : NQ X W σ H Q r) : NQ X W σ H' Q r := by
  cases r with
  | ok b => exact fun v H2 G s2 o f => h v H2 G (s.trans s2) o (f.back s)
  | ex c => exact XQ.mono (W := W) s h
  | no => exact h
theorem c_truth (ha : PV X W a g) (he : ∀ whole, isTrue a X.env whole = (do let v ← whole; standAt a.pos; holding [v] (truthy v)) := by intro _; rfl) : PC X W a (gTru g) := by
  obtain ⟨t, p, s⟩ := ha
  refine ⟨_, pt_truth p he, fun σ H en Q ve q => s σ H en _ ve ?_⟩
  unfold gTru at q
  cases e : g en with
  | ok x =>
    rw [e] at q
    intro v H' G sm o
    cases ek : tru x with
    | none => simp only [R.bind_ok, ek, R.of_none] at q; exact q.elim
    | some k =>
      simp only [R.bind_ok, ek, R.of_some] at q
      exact ⟨k, tru_is o ek, q H' sm⟩
  | ex c => rw [e] at q; exact q
  | no => rw [e] at q; exact q
theorem spNot {t : TT} (s : SpT X W tc t) : SpT X W (gNot tc) (tNot t) := fun σ H en Q ve q => s σ H en _ ve (by
  unfold gNot at q
  cases e : tc en with
  | ok x => rw [e] at q; exact q
  | ex c => rw [e] at q; exact q
  | no => rw [e] at q; exact q)
theorem c_not (ha : PC X W a tc) : PC X W (.UnaryOp .Not a pos) (gNot tc) := by
  obtain ⟨t, p, s⟩ := ha
  exact ⟨_, pt_not p, spNot s⟩
theorem n_not (ha : PV X W a g) : PN X W (.UnaryOp .Not a pos) (gNotV g) := by
  obtain ⟨t, p, s⟩ := ha
  refine ⟨_, pe_notT p, fun σ H en Q ve q => s σ H en _ ve ?_⟩
  unfold gNotV at q
  cases e : g en with
  | ok x =>
    rw [e] at q
    intro v H' G sm o
    cases ek : tru x with
    | none => simp only [R.bind_ok, ek, R.of_none] at q; exact q.elim
    | some k =>
      simp only [R.bind_ok, ek, R.of_some] at q
      exact ⟨k, tru_is o ek, q _ H' _ sm (.d (.bl _)) Fresh.nil⟩
  | ex c => rw [e] at q; exact q
  | no => rw [e] at q; exact q
theorem w_and1 (ha : PC X W a tc) : PWc X W (.BoolOp .And [a] pos) tc := let ⟨t, p, s⟩ := ha; ⟨t, pw_and1 p, s⟩
theorem w_or1 (ha : PC X W a tc) : PWc X W (.BoolOp .Or [a] pos) tc := let ⟨t, p, s⟩ := ha; ⟨t, pw_or1 p, s⟩
theorem w_and (ha : PC X W a tc) (hb : PWc X W (.BoolOp .And (b :: rest) pos) td) : PWc X W (.BoolOp .And (a :: b :: rest) pos) (gAnd tc td) := by
  obtain ⟨t, p, s⟩ := ha
  obtain ⟨t2, p2, s2⟩ := hb
  refine ⟨_, pw_and p p2, fun σ H en Q ve q => s σ H en _ ve ?_⟩
  unfold gAnd at q
  cases e : tc en with
  | ok x =>
    rw [e] at q
    intro H' sm
    cases x with
    | true => exact iteT (s2 σ H' en Q (ve.mono sm) (TQ.same (X := X) (W := W) sm q))
    | false => exact iteF (q H' sm)
  | ex c => rw [e] at q; exact q
  | no => rw [e] at q; exact q
theorem w_or (ha : PC X W a tc) (hb : PWc X W (.BoolOp .Or (b :: rest) pos) td) : PWc X W (.BoolOp .Or (a :: b :: rest) pos) (gOr tc td) := by
  obtain ⟨t, p, s⟩ := ha
  obtain ⟨t2, p2, s2⟩ := hb
  refine ⟨_, pw_or p p2, fun σ H en Q ve q => s σ H en _ ve ?_⟩
  unfold gOr at q
  cases e : tc en with
  | ok x =>
    rw [e] at q
    intro H' sm
    cases x with
    | false => exact iteF (s2 σ H' en Q (ve.mono sm) (TQ.same (X := X) (W := W) sm q))
    | true => exact iteT (q H' sm)
  | ex c => rw [e] at q; exact q
  | no => rw [e] at q; exact q
theorem c_w (h : PWc X W a tc) : PC X W a tc := let ⟨t, p, s⟩ := h; ⟨t, p.pt, s⟩
theorem v_one {op} (ha : PV X W a g) : PV X W (.BoolOp op [a] pos) g := let ⟨t, p, s⟩ := ha; ⟨t, pe_one p, s⟩
theorem v_and (ha : PV X W a ga) (hb : PV X W (.BoolOp .And (b :: rest) pos) gb) : PV X W (.BoolOp .And (a :: b :: rest) pos) (gAndV ga gb) := by
  obtain ⟨t, p, s⟩ := ha
  obtain ⟨t2, p2, s2⟩ := hb
  refine ⟨_, pe_andT p p2, fun σ H en Q ve q => s σ H en _ ve ?_⟩
  unfold gAndV at q
  cases e : ga en with
  | ok x =>
    rw [e] at q
    intro v H' G sm o
    cases ek : tru x with
    | none => simp only [R.bind_ok, ek, R.of_none] at q; exact q.elim
    | some k =>
      simp only [R.bind_ok, ek, R.of_some] at q
      refine ⟨k, tru_is o ek, ?_⟩
      cases k with
      | true => exact iteT (s2 σ H' en Q (ve.mono sm) (VQ.same (X := X) (W := W) sm q))
      | false => exact iteF (q v H' G sm o)
  | ex c => rw [e] at q; exact q
  | no => rw [e] at q; exact q
theorem v_or (ha : PV X W a ga) (hb : PV X W (.BoolOp .Or (b :: rest) pos) gb) : PV X W (.BoolOp .Or (a :: b :: rest) pos) (gOrV ga gb) := by
  obtain ⟨t, p, s⟩ := ha
  obtain ⟨t2, p2, s2⟩ := hb
  refine ⟨_, pe_orT p p2, fun σ H en Q ve q => s σ H en _ ve ?_⟩
  unfold gOrV at q
  cases e : ga en with
  | ok x =>
    rw [e] at q
    intro v H' G sm o
    cases ek : tru x with
    | none => simp only [R.bind_ok, ek, R.of_none] at q; exact q.elim
    | some k =>
      simp only [R.bind_ok, ek, R.of_some] at q
      refine ⟨k, tru_is o ek, ?_⟩
      cases k with
      | false => exact iteF (s2 σ H' en Q (ve.mono sm) (VQ.same (X := X) (W := W) sm q))
      | true => exact iteT (q v H' G sm o)
  | ex c => rw [e] at q; exact q
  | no => rw [e] at q; exact q
theorem v_if (hc : PC X W c tc) (ha : PV X W a ga) (hb : PV X W b gb) : PV X W (.IfExp c a b pos) (gIf tc ga gb) := by
  obtain ⟨t, p, s⟩ := hc
  obtain ⟨t1, p1, s1⟩ := ha
  obtain ⟨t2, p2, s2⟩ := hb
  refine ⟨_, pe_ifExp p p1 p2, fun σ H en Q ve q => s σ H en _ ve ?_⟩
  unfold gIf at q
  cases e : tc en with
  | ok x =>
    rw [e] at q
    intro H' sm
    cases x with
    | true => exact iteT (s1 σ H' en Q (ve.mono sm) (VQ.same (X := X) (W := W) sm q))
    | false => exact iteF (s2 σ H' en Q (ve.mono sm) (VQ.same (X := X) (W := W) sm q))
  | ex c => rw [e] at q; exact q
  | no => rw [e] at q; exact q
theorem n_if (hc : PC X W c tc) (ha : PN X W a ga) (hb : PN X W b gb) : PN X W (.IfExp c a b pos) (gIf tc ga gb) := by
  obtain ⟨t, p, s⟩ := hc
  obtain ⟨t1, p1, s1⟩ := ha
  obtain ⟨t2, p2, s2⟩ := hb
  refine ⟨_, pe_ifExp p p1 p2, fun σ H en Q ve q => s σ H en _ ve ?_⟩
  unfold gIf at q
  cases e : tc en with
  | ok x =>
    rw [e] at q
    intro H' sm
    cases x with
    | true => exact iteT (s1 σ H' en Q (ve.mono sm) (NQ.same (X := X) (W := W) sm q))
    | false => exact iteF (s2 σ H' en Q (ve.mono sm) (NQ.same (X := X) (W := W) sm q))
  | ex c => rw [e] at q; exact q
  | no => rw [e] at q; exact q
/-! ### chains -/
def gCh (f f' : T → T → Option T) (ga gb gc : En → R T) : En → R T := fun en => (ga en).bind fun x => (gb en).bind fun y => (R.of (f x y)).bind fun z => (R.of (tst z)).bind fun k =>
  if k = true then (gc en).bind fun w => .of (f' y w) else .ok (.d (.bl false))
theorem spCh {r r' : R2} {f f' : T → T → Option T} {ga gb gc : En → R T} {ta tb tc : TE} (q : Q2 X.K r f) (q' : Q2 X.K r' f') (a : SpV X W ga ta) (b : SpV X W gb tb) (c : SpV X W gc tc) : SpV X W (gCh f f' ga gb gc) (tChain r r' ta tb tc) := by
  intro σ H en Q ve h
  refine a σ H en _ ve ?_
  unfold gCh at h
  cases ea : ga en with
  | ok x =>
    rw [ea] at h
    intro v1 H1 G1 s1 o1
    refine b σ H1 en _ (ve.mono s1) ?_
    cases eb : gb en with
    | ok y =>
      rw [eb] at h
      intro v2 H2 G2 s2 o2
      cases ef : f x y with
      | none => simp only [R.bind_ok, ef, R.of_none] at h; exact h.elim
      | some z =>
        simp only [R.bind_ok, ef, R.of_some] at h
        refine q H2 x y z v1 v2 G1 G2 _ (o1.mono s2) o2 ef fun v3 H3 G3 s3 o3 _ => ?_
        cases z with
        | l xs => exact h.elim
        | d d =>
          cases o3 with
          | d r3 =>
            cases r3 with
            | bl k =>
              refine ⟨k, rfl, ?_⟩
              have s13 := (s1.trans s2).trans s3
              cases k with
              | false => exact iteF (h _ H3 _ s13 (.d (.bl _)))
              | true =>
                refine iteT (c σ H3 en _ (ve.mono s13) ?_)
                simp only [tst, R.of_some, R.bind_ok, if_true] at h
                cases ec : gc en with
                | ok w =>
                  rw [ec] at h
                  intro v4 H4 G4 s4 o4
                  cases eg : f' y w with
                  | none => simp only [R.bind_ok, eg, R.of_none] at h; exact h.elim
                  | some z =>
                    simp only [R.bind_ok, eg, R.of_some] at h
                    exact q' H4 y w z v2 v4 G2 G4 Q (o2.mono (s3.trans s4)) o4 eg fun v H' G s o _ => h v H' G ((s13.trans s4).trans s) o
                | ex c => rw [ec] at h; exact XQ.mono (W := W) s13 h
                | no => rw [ec] at h; exact h
            | _ => exact h.elim
    | ex c => rw [eb] at h; exact XQ.mono (W := W) s1 h
    | no => rw [eb] at h; exact h
  | ex c => rw [ea] at h; exact h
  | no => rw [ea] at h; exact h
theorem v_chain {op op' : CmpOp} {f f' : T → T → Option T} {gc : En → R T} (o : Cm X op f) (o' : Cm X op' f') (ha : PV X W a ga) (hb : PV X W b gb) (hc : PV X W c gc)
    (hm : lastMarks [op, op'] [b, c] = false := by with_unfolding_all rfl) : PV X W (.Compare a [op, op'] [b, c] pos) (gCh f f' ga gb gc) := by
  obtain ⟨r, ho, q⟩ := o.p
  obtain ⟨r', ho', q'⟩ := o'.p
  obtain ⟨ta, pa, sa⟩ := ha
  obtain ⟨tb, pb, sb⟩ := hb
  obtain ⟨tc, pc, sc⟩ := hc
  exact ⟨_, pe_chain ho ho' pa pb pc hm, spCh q q' sa sb sc⟩
theorem c_chain {op op' : CmpOp} {f f' : T → T → Option T} {gc : En → R T} (o : Cm X op f) (o' : Cm X op' f') (ha : PV X W a ga) (hb : PV X W b gb) (hc : PV X W c gc)
    (hm : lastMarks [op, op'] [b, c] = false := by with_unfolding_all rfl) : PC X W (.Compare a [op, op'] [b, c] pos) (gT (gCh f f' ga gb gc)) := by
  obtain ⟨r, ho, q⟩ := o.p
  obtain ⟨r', ho', q'⟩ := o'.p
  obtain ⟨ta, pa, sa⟩ := ha
  obtain ⟨tb, pb, sb⟩ := hb
  obtain ⟨tc, pc, sc⟩ := hc
  exact ⟨_, pt_chain ho ho' pa pb pc hm, spTest (spCh q q' sa sb sc)⟩
/-! ### minus -/
def fNeg : T → Option T
  | .d (.int i) => some (.d (.int (-i)))
  | _ => none
def g1 (f : T → Option T) (g : En → R T) : En → R T := fun en => (g en).bind fun x => .of (f x)
theorem n_neg (ha : PV X W a g) : PN X W (.UnaryOp .USub a pos) (g1 fNeg g) := by
  obtain ⟨t, p, s⟩ := ha
  refine ⟨_, pe_un un_neg p, fun σ H en Q ve q => s σ H en _ ve ?_⟩
  unfold g1 at q
  cases e : g en with
  | ok x =>
    rw [e] at q
    intro v H' G sm o
    cases x with
    | l xs => exact q.elim
    | d d =>
      cases o with
      | d r =>
        cases r with
        | int i => exact ⟨i, rfl, q _ H' _ sm (.d (.int _)) Fresh.nil⟩
        | _ => exact q.elim
  | ex c => rw [e] at q; exact q
  | no => rw [e] at q; exact q
/-! ### items -/
def fIx : T → T → Option T
  | .d (.tup ds), .d (.int i) => (atI ds i).map T.d
  | .d (.rol ds), .d (.int i) => (atI ds i).map T.d
  | .l xs, .d (.int i) => atI xs i
  | .d (.str z), .d (.int i) => if z.length ≤ most then (atI z.cps.toList i).map fun c => T.d (.str ⟨#[c]⟩) else none
  | _, _ => none
theorem atI_rep {K : PySem.W.Frag} {H : Hp} {vs : List V} {ds : List D} {i : Int} {d : D} (r : RepDs K H vs ds) (h : atI ds i = some d) : ∃ v, atI vs i = some v ∧ RepD K H v d := by
  unfold atI at h ⊢
  rw [r.length]
  cases e : ixN ds.length i with
  | none => rw [e] at h; cases h
  | some j =>
    rw [e] at h
    obtain ⟨v, h1, h2⟩ := r.get h
    exact ⟨v, h1, h2⟩
theorem atI_own {K : PySem.W.Frag} {H : Hp} {vs : List V} {ds : List T} {F : List Addr} {i : Int} {d : T} (r : Owns K H vs ds F) (h : atI ds i = some d) : ∃ v G, atI vs i = some v ∧ Own K H v d G ∧ ∀ a ∈ G, a ∈ F := by
  unfold atI at h ⊢
  rw [r.length]
  cases e : ixN ds.length i with
  | none => rw [e] at h; cases h
  | some j =>
    rw [e] at h
    obtain ⟨v, G, h1, h2, h3⟩ := r.get h
    exact ⟨v, G, h1, h2, h3⟩
theorem q_ix : Q2v X.K (rIx X.K) fIx := fun H x y z vx vy Gx Gy Q ox oy e q => by
  unfold fIx at e
  split at e
  · obtain ⟨d, e1, rfl⟩ := Option.map_eq_some_iff.mp e
    cases ox with | d r1 => cases oy with
      | d r2 =>
        cases r2
        cases r1 with
        | tup s r =>
          obtain ⟨v, h1, h2⟩ := atI_rep r e1
          exact .inr (.inl ⟨_, _, _, v, rfl, rfl, s, h1, q v H [] (Same.refl H) (.d h2)⟩)
  · obtain ⟨d, e1, rfl⟩ := Option.map_eq_some_iff.mp e
    cases ox with | d r1 => cases oy with
      | d r2 =>
        cases r2
        cases r1 with
        | rol s r =>
          obtain ⟨v, h1, h2⟩ := atI_rep r e1
          exact .inl ⟨_, _, _, v, rfl, rfl, s H (Pst.refl H), h1, q v H [] (Same.refl H) (.d h2)⟩
  · cases oy with
    | d r2 =>
      cases r2
      cases ox with
      | l s r =>
        obtain ⟨v, G, h1, h2, _⟩ := atI_own r e
        exact .inl ⟨_, _, _, v, rfl, rfl, SqL.of s, h1, q v H G (Same.refl H) h2⟩
  · split at e
    · rename_i hz
      obtain ⟨c, e1, rfl⟩ := Option.map_eq_some_iff.mp e
      cases ox with | d r1 => cases oy with
        | d r2 =>
          cases r2
          cases r1
          exact .inr (.inr ⟨_, _, c, rfl, rfl, by rw [most_eq]; exact hz, e1, q _ H [] (Same.refl H) (.d (.str _))⟩)
    · cases e
  · cases e
theorem v_ix (ha : PV X W a ga) (hb : PV X W b gb) (hs : PlainIx b := by exact fun _ _ => rfl) : PV X W (.Subscript a b pos) (g2 fIx ga gb) := by
  obtain ⟨ta, pa, sa⟩ := ha
  obtain ⟨tb, pb, sb⟩ := hb
  exact ⟨_, pe_ix ix_seq pa pb hs, sp2v q_ix sa sb⟩
/-! ### slices -/
def cutG {α : Type} (xs : List α) (lo hi : Option Int) : List α := (xs.drop (HT.sIx xs.length 0 lo)).take (HT.sIx xs.length xs.length hi - HT.sIx xs.length 0 lo)
theorem cutG_rep {K : PySem.W.Frag} {H : Hp} {vs : List V} {ds : List D} (lo hi : Option Int) (r : RepDs K H vs ds) : RepDs K H (cutV vs lo hi) (cutG ds lo hi) := by
  unfold cutV cutG
  rw [r.length]
  exact (r.drop _).take _
theorem cutG_whole {α : Type} {xs : List α} {lo hi : Option Int} (h1 : HT.sIx xs.length 0 lo = 0) (h2 : HT.sIx xs.length xs.length hi = xs.length) : cutG xs lo hi = xs := by
  unfold cutG
  rw [h1, h2, List.drop_zero, Nat.sub_zero, List.take_length]
def fSl : T → Option Int → Option Int → Option T
  | .d (.tup ds), lo, hi => some (.d (.tup (cutG ds lo hi)))
  | .d (.rol ds), lo, hi => some (.l ((cutG ds lo hi).map T.d))
  | .l xs, lo, hi => (allD xs).map fun ds => .l ((cutG ds lo hi).map T.d)
  | .d (.str z), lo, hi => if z.length ≤ most then some (.d (.str (cutS z lo hi))) else none
  | _, _, _ => none
def asI : T → Option Int
  | .d (.int i) => some i
  | _ => none
def oN : En → R (Option Int) := fun _ => .ok none
def oS (g : En → R T) : En → R (Option Int) := fun en => (g en).bind fun x => (R.of (asI x)).bind fun i => .ok (some i)
def OQ (σ : St) (H : Hp) (Q : Option Int → Hp → Prop) : R (Option Int) → Prop
  | .ok i => ∀ H', Same H H' → Q i H'
  | .ex c => XQ X W σ H c
  | .no => False
def SpO (X : Cx) (W : WX) (g : En → R (Option Int)) (t : TO) : Prop := ∀ σ H en Q, VEn X.K H σ en → OQ (X := X) (W := W) σ H Q (g en) → t σ H Q
def POv (X : Cx) (W : WX) (e : Option Expr) (g : En → R (Option Int)) : Prop := ∃ t, PO X e t ∧ SpO X W g t
theorem o_none : POv X W none oN := ⟨_, po_none, fun σ H en Q ve q => q H (Same.refl H)⟩
theorem o_some (ha : PV X W a g) : POv X W (some a) (oS g) := by
  obtain ⟨t, p, s⟩ := ha
  refine ⟨_, po_some p, fun σ H en Q ve q => s σ H en _ ve ?_⟩
  unfold oS at q
  cases e : g en with
  | ok x =>
    rw [e] at q
    intro v H' G sm o
    cases x with
    | l xs => exact q.elim
    | d d =>
      cases o with
      | d r =>
        cases r with
        | int i => exact ⟨i, rfl, q H' sm⟩
        | _ => exact q.elim
  | ex c => rw [e] at q; exact q
  | no => rw [e] at q; exact q
def gSl (g : En → R T) (lo hi : En → R (Option Int)) : En → R T := fun en => (g en).bind fun x => (lo en).bind fun l => (hi en).bind fun h => .of (fSl x l h)
theorem n_slice {lo hi : Option Expr} {gl gh : En → R (Option Int)} {p2 : Pos} (ha : PV X W a g) (hl : POv X W lo gl) (hh : POv X W hi gh) : PN X W (.Subscript a (.Slice lo hi none p2) pos) (gSl g gl gh) := by
  obtain ⟨t, p, s⟩ := ha
  obtain ⟨tl, pl, sl⟩ := hl
  obtain ⟨th, ph, sh⟩ := hh
  refine ⟨_, pe_slice (sl_list.or (sl_tupA.or sl_str)) p pl ph, fun σ H en Q ve q => s σ H en _ ve ?_⟩
  unfold gSl at q
  cases e : g en with
  | ok x =>
    rw [e] at q
    intro v H' G sm o
    refine sl σ H' en _ (ve.mono sm) ?_
    cases e2 : gl en with
    | ok l =>
      rw [e2] at q
      intro H2 s2
      refine sh σ H2 en _ (ve.mono (sm.trans s2)) ?_
      cases e3 : gh en with
      | ok h =>
        rw [e3] at q
        intro H3 s3
        have sm3 := (sm.trans s2).trans s3
        replace o := o.mono (s2.trans s3)
        simp only [R.bind_ok] at q
        cases o with
        | d r =>
          cases r with
          | tup sq rr =>
            refine .inr (.inl ⟨_, _, rfl, sq, fun hw => ?_, fun hw p np => ?_⟩)
            · rw [rr.length] at hw
              simp only [fSl, R.of_some, cutG_whole hw.1 hw.2] at q
              exact q _ H3 [] sm3 (.d (.tup sq rr)) Fresh.nil
            · exact q _ _ [] (sm3.trans (same_new np)) (.d (.tup (SqT.of upd_same) ((cutG_rep l h rr).mono (.of (same_new np))))) Fresh.nil
          | rol sq rr =>
            refine .inl ⟨_, _, rfl, sq H3 (Pst.refl H3), fun p np => ?_⟩
            refine q _ _ [p] (sm3.trans (same_new np)) (.l upd_same ((cutG_rep l h rr).mono (.of (same_new np))).owns) ⟨by simp, fun c m => ?_⟩
            have e : c = p := by simpa using m
            rw [e]; exact sm3.free np
          | str z =>
            simp only [fSl] at q
            split at q
            · rename_i hz
              exact .inr (.inr ⟨z, rfl, by rw [most_eq]; exact hz, q _ H3 [] sm3 (.d (.str _)) Fresh.nil⟩)
            · exact q.elim
          | _ => exact q.elim
        | @l a' vs xs F hs rr =>
          cases ea : allD xs with
          | none => simp only [fSl, ea, Option.map_none, R.of_none] at q; exact q.elim
          | some ds =>
            simp only [fSl, ea, Option.map_some, R.of_some] at q
            have e1 := allD_eq ea
            subst e1
            refine .inl ⟨_, _, rfl, SqL.of hs, fun p np => ?_⟩
            refine q _ _ [p] (sm3.trans (same_new np)) (.l upd_same ((cutG_rep l h rr.data.1).mono (.of (same_new np))).owns) ⟨by simp, fun c m => ?_⟩
            have e : c = p := by simpa using m
            rw [e]; exact sm3.free np
      | ex c => rw [e3] at q; exact XQ.mono (W := W) (sm.trans s2) q
      | no => rw [e3] at q; exact q
    | ex c => rw [e2] at q; exact XQ.mono (W := W) sm q
    | no => rw [e2] at q; exact q
  | ex c => rw [e] at q; exact q
  | no => rw [e] at q; exact q
/-! ### displays, arguments -/
def aNil {α : Type} : En → R (List α) := fun _ => .ok []
def aCons {α : Type} (g : En → R α) (h : En → R (List α)) : En → R (List α) := fun en => (g en).bind fun x => (h en).bind fun xs => .ok (x :: xs)
variable {es : List Expr} {gs : En → R (List T)}
theorem av_nil : PAv X W [] aNil := ⟨_, pa_nil, fun σ H en Q ve q => q [] H (Same.refl H) .nil⟩
theorem av_cons (ha : PV X W a g) (hr : PAv X W es gs) (hs : starEach (a :: es) X.env = (false, eval a X.env) :: starEach es X.env := by rfl) : PAv X W (a :: es) (aCons g gs) := by
  obtain ⟨t, p, s⟩ := ha
  obtain ⟨t2, p2, s2⟩ := hr
  refine ⟨_, pa_cons p p2 hs, fun σ H en Q ve q => s σ H en _ ve ?_⟩
  unfold aCons at q
  cases e : g en with
  | ok x =>
    rw [e] at q
    intro v H' G sm o
    refine s2 σ H' en _ (ve.mono sm) ?_
    cases e2 : gs en with
    | ok xs =>
      rw [e2] at q
      exact fun vs H2 sm2 w => q (v :: vs) H2 (sm.trans sm2) (.cons (o.mono sm2) w)
    | ex c => rw [e2] at q; exact XQ.mono (W := W) sm q
    | no => rw [e2] at q; exact q
  | ex c => rw [e] at q; exact q
  | no => rw [e] at q; exact q
theorem an_nil : PAn X W [] aNil := ⟨_, pa_nil, fun σ H en Q ve q => q [] H [] (Same.refl H) .nil Fresh.nil⟩
theorem Fresh.app {H H' : Hp} {F G : List Addr} (s : Same H H') (f : Fresh H F) (d : ∀ a ∈ F, H' a ≠ none) (g : Fresh H' G) : Fresh H (F ++ G) := by
  refine ⟨List.nodup_append.mpr ⟨f.1, g.1, fun a ha b hb e => ?_⟩, fun a m => (List.mem_append.mp m).elim (f.2 a) fun z => s.free (g.2 a z)⟩
  subst e
  exact d a ha (g.2 a hb)
theorem Own.there {K : PySem.W.Frag} {H : Hp} {v : V} {x : T} {F : List Addr} (o : Own K H v x F) : ∀ a ∈ F, H a ≠ none := fun a m e => by
  obtain ⟨vs, h⟩ := o.dom a m
  rw [e] at h; cases h
theorem Owns.there {K : PySem.W.Frag} {H : Hp} {vs : List V} {xs : List T} {F : List Addr} (o : Owns K H vs xs F) : ∀ a ∈ F, H a ≠ none := fun a m e => by
  obtain ⟨vs, h⟩ := o.dom a m
  rw [e] at h; cases h
theorem an_cons (ha : PN X W a g) (hr : PAn X W es gs) (hs : starEach (a :: es) X.env = (false, eval a X.env) :: starEach es X.env := by rfl) : PAn X W (a :: es) (aCons g gs) := by
  obtain ⟨t, p, s⟩ := ha
  obtain ⟨t2, p2, s2⟩ := hr
  refine ⟨_, pa_cons p p2 hs, fun σ H en Q ve q => s σ H en _ ve ?_⟩
  unfold aCons at q
  cases e : g en with
  | ok x =>
    rw [e] at q
    intro v H' G sm o f
    refine s2 σ H' en _ (ve.mono sm) ?_
    cases e2 : gs en with
    | ok xs =>
      rw [e2] at q
      exact fun vs H2 F sm2 w f2 => q (v :: vs) H2 (G ++ F) (sm.trans sm2) (.cons (o.mono sm2) w) (f.app sm o.there f2)
    | ex c => rw [e2] at q; exact XQ.mono (W := W) sm q
    | no => rw [e2] at q; exact q
  | ex c => rw [e] at q; exact q
  | no => rw [e] at q; exact q
theorem Vws.data {K : PySem.W.Frag} {H : Hp} : ∀ {vs : List V} {ds : List D}, Vws K H vs (ds.map T.d) → RepDs K H vs ds
  | _, [], .nil => .nil
  | _, d :: ds, .cons (.d r) t => .cons r (Vws.data t)
def mkTup (xs : List T) : R T := match allD xs with
  | some ds => if ds.length ≤ most then .ok (.d (.tup ds)) else .no
  | none => .no
def mkLst (xs : List T) : R T := if xs.length ≤ most then .ok (.l xs) else .no
def gTup (g : En → R (List T)) : En → R T := fun en => (g en).bind mkTup
def gLst (g : En → R (List T)) : En → R T := fun en => (g en).bind mkLst
theorem n_tup {k} (ha : PAv X W es gs) : PN X W (.Tuple es k pos) (gTup gs) := by
  obtain ⟨t, p, s⟩ := ha
  refine ⟨_, pe_tup p, fun σ H en Q ve q => s σ H en _ ve ?_⟩
  unfold gTup at q
  cases e : gs en with
  | ok xs =>
    rw [e] at q
    intro vs H' sm w
    simp only [R.bind_ok, mkTup] at q
    cases ea : allD xs with
    | none => rw [ea] at q; exact q.elim
    | some ds =>
      rw [ea] at q
      have e1 := allD_eq ea
      subst e1
      have rr := w.data
      simp only at q
      split at q
      · rename_i hz
        refine ⟨by rw [most_eq, rr.length]; exact hz, fun p np => ?_⟩
        exact q _ _ [] (sm.trans (same_new np)) (.d (.tup (SqT.of upd_same) (rr.mono (.of (same_new np))))) Fresh.nil
      · exact q.elim
  | ex c => rw [e] at q; exact q
  | no => rw [e] at q; exact q
theorem n_lst (ha : PAn X W es gs) : PN X W (.List es pos) (gLst gs) := by
  obtain ⟨t, p, s⟩ := ha
  refine ⟨_, pe_lst p, fun σ H en Q ve q => s σ H en _ ve ?_⟩
  unfold gLst at q
  cases e : gs en with
  | ok xs =>
    rw [e] at q
    intro vs H' F sm w f
    simp only [R.bind_ok, mkLst] at q
    split at q
    · rename_i hz
      refine ⟨by rw [most_eq, w.length]; exact hz, fun p np => ?_⟩
      have np' : H p = none := sm.free np
      refine q _ _ (p :: F) (sm.trans (same_new np)) (.l upd_same (w.mono (same_new np))) ⟨List.nodup_cons.mpr ⟨fun m => w.there p m np, f.1⟩, fun c m => ?_⟩
      rcases List.mem_cons.mp m with rfl | m
      · exact np'
      · exact f.2 c m
    · exact q.elim
  | ex c => rw [e] at q; exact q
  | no => rw [e] at q; exact q
/-! ### built-ins -/
def QL (K : PySem.W.Frag) (r : List V → Hp → VK → Prop) (f : List T → Option T) : Prop := ∀ (H : Hp) (xs : List T) (vs : List V) (z : T) (Q : VK), Vws K H vs xs → f xs = some z → (∀ v H' G, Same H H' → Own K H' v z G → Fresh H G → Q v H') → r vs H Q
structure Bf (X : Cx) (u : Value) (f : List T → Option T) : Prop where
  p : ∃ r, CallR X u r ∧ QL X.K r f
def gCall (f : List T → Option T) (g : En → R (List T)) : En → R T := fun en => (g en).bind fun xs => .of (f xs)
theorem spCB {r : List V → Hp → VK → Prop} {f : List T → Option T} {t : TA} (q : QL X.K r f) (s : SpA X W gs t) : SpN X W (gCall f gs) (tCB r t) := by
  intro σ H en Q ve h
  refine s σ H en _ ve ?_
  unfold gCall at h
  cases e : gs en with
  | ok xs =>
    rw [e] at h
    intro vs H' sm w
    cases ef : f xs with
    | none => simp only [R.bind_ok, ef, R.of_none] at h; exact h.elim
    | some z =>
      simp only [R.bind_ok, ef, R.of_some] at h
      exact q H' xs vs z Q w ef fun v H2 G s2 o fr => h v H2 G (sm.trans s2) o (fr.back sm)
  | ex c => rw [e] at h; exact h
  | no => rw [e] at h; exact h
theorem n_callB {x id : String} {f : List T → Option T} {p : Pos} (o : Bf X (.builtin id) f) (hv : bootBuiltins x = some (.builtin id)) (hm : X.mg x = none) (ha : PAv X W (a :: es) gs) (hg : Gl X x := by rfl) (hn : (Str.ofString x) ≠ "__name__" := by decide) (hdb : ((Str.ofString x) == ("__debug__" : Str)) = false := by decide)
    (he : starEach (a :: es) X.env = (false, eval a X.env) :: starEach es X.env := by rfl) (hpl : (backTo pos (starEach es X.env)).any (·.1) = false := by rfl) : PN X W (.Call (.Name x p) (a :: es) [] pos) (gCall f gs) := by
  obtain ⟨r, hc, q⟩ := o.p
  obtain ⟨t, pa, s⟩ := ha
  exact ⟨_, pe_callB hc hg hm hv pa hn hdb he hpl, spCB q s⟩
theorem n_callT {x Ty : String} {f : List T → Option T} {p : Pos} (o : Bf X (.type Ty) f) (hv : bootBuiltins x = some (.type Ty)) (hm : X.mg x = none) (ha : PAv X W (a :: es) gs) (hg : Gl X x := by rfl) (hn : (Str.ofString x) ≠ "__name__" := by decide) (hdb : ((Str.ofString x) == ("__debug__" : Str)) = false := by decide)
    (he : starEach (a :: es) X.env = (false, eval a X.env) :: starEach es X.env := by rfl) (hpl : (backTo pos (starEach es X.env)).any (·.1) = false := by rfl) : PN X W (.Call (.Name x p) (a :: es) [] pos) (gCall f gs) := by
  obtain ⟨r, hc, q⟩ := o.p
  obtain ⟨t, pa, s⟩ := ha
  exact ⟨_, pe_callTy hc hg hm hv pa hn hdb he hpl, spCB q s⟩
def fLen : List T → Option T
  | [.d (.str y)] => if y.length ≤ most then some (.d (.int y.length)) else none
  | [.d (.tup ds)] => some (.d (.int ds.length))
  | [.d (.rol ds)] => some (.d (.int ds.length))
  | [.l xs] => some (.d (.int xs.length))
  | _ => none
theorem f_len : Bf X (.builtin "len") fLen := ⟨_, call_len, fun H xs vs z Q w e q => by
  unfold fLen at e
  split at e
  · split at e <;> cases e
    rename_i hz
    cases w with | cons o t => cases t; cases o with | d r => cases r; exact ⟨_, _, rfl, ⟨by rw [most_eq]; exact hz, rfl⟩, fin_d (.int _) q⟩
  · cases e
    cases w with | cons o t => cases t; cases o with | d r => cases r with | tup s r => exact ⟨_, _, rfl, .inr ⟨_, s, rfl⟩, by rw [r.length]; exact fin_d (.int _) q⟩
  · cases e
    cases w with | cons o t => cases t; cases o with | d r => cases r with | rol s r => exact ⟨_, _, rfl, .inl ⟨_, s H (Pst.refl H), rfl⟩, by rw [r.length]; exact fin_d (.int _) q⟩
  · cases e
    cases w with | cons o t => cases t; cases o with | l s r => exact ⟨_, _, rfl, .inl ⟨_, SqL.of s, rfl⟩, by rw [r.length]; exact fin_d (.int _) q⟩
  · cases e⟩
def fAbs : List T → Option T
  | [.d (.int i)] => some (.d (.int (if i < 0 then -i else i)))
  | _ => none
theorem f_abs : Bf X (.builtin "abs") fAbs := ⟨_, call_abs, fun H xs vs z Q w e q => by
  unfold fAbs at e
  split at e <;> cases e
  cases w with | cons o t => cases t; cases o with | d r => cases r; exact ⟨_, rfl, fin_d (.int _) q⟩⟩
def fInt : List T → Option T
  | [.d (.int i)] => some (.d (.int i))
  | [.d (.bl k)] => some (.d (.int (if k then 1 else 0)))
  | _ => none
theorem f_int : Bf X (.type "int") fInt := ⟨_, call_int1, fun H xs vs z Q w e q => by
  unfold fInt at e
  split at e <;> cases e
  · cases w with | cons o t => cases t; cases o with | d r => cases r; exact .inl ⟨_, rfl, fin_d (.int _) q⟩
  · cases w with | cons o t => cases t; cases o with | d r => cases r; exact .inr ⟨_, rfl, fin_d (.int _) q⟩⟩
def asInts : List D → Option (List Int)
  | [] => some []
  | .int i :: r => (asInts r).map (i :: ·)
  | _ :: _ => none
@[simp] theorem asInts_map : ∀ ns : List Int, asInts (ns.map D.int) = some ns
  | [] => rfl
  | n :: r => by rw [List.map_cons, asInts, asInts_map r]; rfl
theorem asInts_eq : ∀ {ds : List D} {ns : List Int}, asInts ds = some ns → ds = ns.map D.int
  | [], ns, h => by cases h; rfl
  | .int i :: r, ns, h => by
    unfold asInts at h
    cases e : asInts r with
    | none => rw [e] at h; cases h
    | some es => rw [e] at h; cases h; rw [asInts_eq e]; rfl
  | .non :: _, _, h => by cases h
  | .bl _ :: _, _, h => by cases h
  | .str _ :: _, _, h => by cases h
  | .tup _ :: _, _, h => by cases h
  | .rol _ :: _, _, h => by cases h
theorem RepDs.ints {K : PySem.W.Frag} {H : Hp} : ∀ {vs : List V} {ns : List Int}, RepDs K H vs (ns.map D.int) → vs = ns.map V.int
  | _, [], .nil => rfl
  | _, n :: r, .cons (.int _) t => by rw [RepDs.ints t]; rfl
def asBls : List D → Option (List Bool)
  | [] => some []
  | .bl i :: r => (asBls r).map (i :: ·)
  | _ :: _ => none
@[simp] theorem asBls_map : ∀ ns : List Bool, asBls (ns.map D.bl) = some ns
  | [] => rfl
  | n :: r => by rw [List.map_cons, asBls, asBls_map r]; rfl
theorem asBls_eq : ∀ {ds : List D} {ns : List Bool}, asBls ds = some ns → ds = ns.map D.bl
  | [], ns, h => by cases h; rfl
  | .bl i :: r, ns, h => by
    unfold asBls at h
    cases e : asBls r with
    | none => rw [e] at h; cases h
    | some es => rw [e] at h; cases h; rw [asBls_eq e]; rfl
  | .non :: _, _, h => by cases h
  | .int _ :: _, _, h => by cases h
  | .str _ :: _, _, h => by cases h
  | .tup _ :: _, _, h => by cases h
  | .rol _ :: _, _, h => by cases h
theorem RepDs.bls {K : PySem.W.Frag} {H : Hp} : ∀ {vs : List V} {ns : List Bool}, RepDs K H vs (ns.map D.bl) → vs = ns.map V.bl
  | _, [], .nil => rfl
  | _, n :: r, .cons (.bl _) t => by rw [RepDs.bls t]; rfl
/-- the items of a list that are data -/
def lstOf : T → Option (List D)
  | .d (.rol ds) => some ds
  | .l xs => allD xs
  | _ => none
theorem lstOf_ok {K : PySem.W.Frag} {H : Hp} {v : V} {x : T} {G : List Addr} {ds : List D} (o : Own K H v x G) (h : lstOf x = some ds) : ∃ a vs, v = .ref a ∧ SqL K H a vs ∧ RepDs K H vs ds := by
  cases o with
  | d r =>
    cases r with
    | rol s r => cases h; exact ⟨_, _, rfl, s H (Pst.refl H), r⟩
    | _ => cases h
  | l s r =>
    have e := allD_eq h
    subst e
    exact ⟨_, _, rfl, SqL.of s, r.data.1⟩
def fSum : List T → Option T
  | [x] => (lstOf x).bind fun ds => (asInts ds).map fun ns => .d (.int ns.sum)
  | _ => none
theorem f_sum (hc : X.calm = true) : Bf X (.builtin "sum") fSum := ⟨_, cr_sum hc, fun H xs vs z Q w e q => by
  unfold fSum at e
  split at e
  · obtain ⟨ds, e1, e⟩ := Option.bind_eq_some_iff.mp e
    obtain ⟨ns, e2, rfl⟩ := Option.map_eq_some_iff.mp e
    have e3 := asInts_eq e2
    subst e3
    cases w with
    | cons o t =>
      cases t
      obtain ⟨a, us, rfl, s, r⟩ := lstOf_ok o e1
      have e4 := r.ints
      subst e4
      exact ⟨a, ns, rfl, s, fin_d (.int _) q⟩
  · cases e⟩
def fAll : List T → Option T
  | [x] => (lstOf x).bind fun ds => (asBls ds).map fun ns => .d (.bl (ns.all id))
  | _ => none
theorem f_all (hc : X.calm = true) : Bf X (.builtin "all") fAll := ⟨_, cr_all hc, fun H xs vs z Q w e q => by
  unfold fAll at e
  split at e
  · obtain ⟨ds, e1, e⟩ := Option.bind_eq_some_iff.mp e
    obtain ⟨ns, e2, rfl⟩ := Option.map_eq_some_iff.mp e
    have e3 := asBls_eq e2
    subst e3
    cases w with
    | cons o t =>
      cases t
      obtain ⟨a, us, rfl, s, r⟩ := lstOf_ok o e1
      have e4 := r.bls
      subst e4
      exact ⟨a, ns, rfl, s, fin_d (.bl _) q⟩
  · cases e⟩
def truD (d : D) : Option Bool := tru (.d d)
def truDs : List D → Option (List Bool)
  | [] => some []
  | d :: r => (truD d).bind fun b => (truDs r).map (b :: ·)
def fMax2 : List T → Option T
  | [.d (.int i), .d (.int j)] => some (.d (.int (max i j)))
  | _ => none
theorem f_max2 (hc : X.calm = true) : Bf X (.builtin "max") fMax2 := ⟨_, call_max2 hc, fun H xs vs z Q w e q => by
  unfold fMax2 at e
  split at e <;> cases e
  cases w with | cons o t => cases o with | d r => cases r; cases t with | cons o2 t => cases t; cases o2 with | d r2 => cases r2; exact ⟨_, _, rfl, by
    have := fin_d (.int _) q
    rename_i i j
    rw [show (if j > i then j else i) = max i j by omega]
    exact this⟩⟩
def fMin2 : List T → Option T
  | [.d (.int i), .d (.int j)] => some (.d (.int (min i j)))
  | _ => none
theorem f_min2 (hc : X.calm = true) : Bf X (.builtin "min") fMin2 := ⟨_, call_min2 hc, fun H xs vs z Q w e q => by
  unfold fMin2 at e
  split at e <;> cases e
  cases w with | cons o t => cases o with | d r => cases r; cases t with | cons o2 t => cases t; cases o2 with | d r2 => cases r2; exact ⟨_, _, rfl, by
    have := fin_d (.int _) q
    rename_i i j
    rw [show (if j < i then j else i) = min i j by omega]
    exact this⟩⟩
def fList : List T → Option T
  | [x] => (dataOf x).map fun ds => .l (ds.map T.d)
  | _ => none
theorem f_list : Bf X (.type "list") fList := ⟨_, call_list_of, fun H xs vs z Q w e q => by
  unfold fList at e
  split at e
  · obtain ⟨ds, e1, rfl⟩ := Option.map_eq_some_iff.mp e
    cases w with
    | cons o t =>
      cases t
      obtain ⟨a, us, rfl, s, r⟩ := dataOf_ok o e1
      refine ⟨a, us, rfl, s, fun p np => ?_⟩
      refine q _ _ [p] (same_new np) (.l upd_same (r.mono (.of (same_new np))).owns) ⟨by simp, fun c m => ?_⟩
      have e : c = p := by simpa using m
      rw [e]; exact np
  · cases e⟩
def fTuple : List T → Option T
  | [x] => (dataOf x).map fun ds => .d (.tup ds)
  | _ => none
theorem f_tuple : Bf X (.type "tuple") fTuple := ⟨_, call_tuple_of, fun H xs vs z Q w e q => by
  unfold fTuple at e
  split at e
  · rename_i x
    obtain ⟨ds, e1, rfl⟩ := Option.map_eq_some_iff.mp e
    cases w with
    | cons o t =>
      cases t
      have viaL : ∀ {a us}, SqL X.K H a us → RepDs X.K H us ds → ∀ l, H l = none → Q (.ref l) (upd H l (.tup us)) := fun {a us} _ r p np =>
        q _ _ [] (same_new np) (.d (.tup (SqT.of upd_same) (r.mono (.of (same_new np))))) Fresh.nil
      cases o with
      | d r =>
        cases r with
        | tup s r => cases e1; exact ⟨_, _, rfl, .inr ⟨s, fin_d (.tup s r) q⟩⟩
        | rol s r => cases e1; exact ⟨_, _, rfl, .inl ⟨s H (Pst.refl H), viaL (s H (Pst.refl H)) r⟩⟩
        | _ => cases e1
      | l s r =>
        have e := allD_eq e1
        subst e
        exact ⟨_, _, rfl, .inl ⟨SqL.of s, viaL (SqL.of s) r.data.1⟩⟩
  · cases e⟩
/-! ### isinstance -/
def tyN : T → String
  | .d .non => "NoneType"
  | .d (.bl _) => "bool"
  | .d (.int _) => "int"
  | .d (.str _) => "str"
  | .d (.tup _) => "tuple"
  | .d (.rol _) => "list"
  | .l _ => "list"
theorem sqL_ty {K : PySem.W.Frag} {H : Hp} {a : Addr} {vs : List V} (h : SqL K H a vs) : TyX K H (.ref a) (.type "list") := by
  rcases h with (h | ⟨o, h⟩) | ⟨o, its, n, h, c, _⟩
  · exact .base (.lst h)
  · exact .base (.frz h)
  · exact .kList h c
theorem sqT_ty {K : PySem.W.Frag} {H : Hp} {a : Addr} {vs : List V} (h : SqT K H a vs) : TyX K H (.ref a) (.type "tuple") := by
  rcases h with (h | ⟨o, h⟩) | ⟨o, its, n, h, c, _⟩
  · exact .base (.tup h)
  · exact .fTuple h
  · exact .kTuple h c
theorem ty_of {K : PySem.W.Frag} {H : Hp} {v : V} {x : T} {G : List Addr} (o : Own K H v x G) : TyX K H v (.type (tyN x)) := by
  cases o with
  | d r =>
    cases r with
    | non => exact .base .non
    | bl b => exact .base (.bl b)
    | int b => exact .base (.int b)
    | str b => exact .base (.str b)
    | tup s r => exact sqT_ty s
    | rol s r => exact sqL_ty (s H (Pst.refl H))
  | l s r => exact sqL_ty (SqL.of s)
def isA (cls : String) (f : T → Bool) : Prop := ∀ x, kitB (tyN x) cls = some (f x)
def gIsi (f : T → Bool) (g : En → R T) : En → R T := fun en => (g en).bind fun x => .ok (.d (.bl (f x)))
theorem n_isi {cls : String} {f : T → Bool} {p p2 : Pos} (hf : isA cls f) (hm : X.mg "isinstance" = none) (hm2 : X.mg cls = none) (hv2 : bootBuiltins cls = some (.type cls)) (ha : PV X W a g) (hg : Gl X "isinstance" := by rfl) (hg2 : Gl X cls := by rfl)
    (hn2 : (Str.ofString cls) ≠ "__name__" := by decide) (hd2 : ((Str.ofString cls) == ("__debug__" : Str)) = false := by decide)
    (he : starEach [a, .Name cls p2] X.env = (false, eval a X.env) :: starEach [.Name cls p2] X.env := by rfl) (he2 : starEach [.Name cls p2] X.env = (false, eval (.Name cls p2) X.env) :: starEach [] X.env := by rfl) (hpl : (backTo pos (starEach [.Name cls p2] X.env)).any (·.1) = false := by rfl) :
    PN X W (.Call (.Name "isinstance" p) [a, .Name cls p2] [] pos) (gIsi f g) := by
  obtain ⟨t, pa, s⟩ := ha
  refine ⟨_, pe_callB call_isi hg hm boot_isinstance (pa_cons pa (pa_cons (pe_bltn hg2 hm2 hv2 (show RelV (.ty cls) (.type cls) from rfl) hn2 hd2) pa_nil he2) he) (by decide) (by decide) he hpl, fun σ H en Q ve q => s σ H en _ ve ?_⟩
  unfold gIsi at q
  cases e : g en with
  | ok x =>
    rw [e] at q
    intro v H' G sm o
    exact ⟨v, .ty cls, _, _, f x, rfl, .ty cls, ty_of o, kit_ty (hf x), q _ H' [] sm (.d (.bl _)) Fresh.nil⟩
  | ex c => rw [e] at q; exact q
  | no => rw [e] at q; exact q
def isInt : T → Bool
  | .d (.int _) => true
  | .d (.bl _) => true
  | _ => false
def isBl : T → Bool
  | .d (.bl _) => true
  | _ => false
def isStr : T → Bool
  | .d (.str _) => true
  | _ => false
def isTup : T → Bool
  | .d (.tup _) => true
  | _ => false
def isLst : T → Bool
  | .d (.rol _) => true
  | .l _ => true
  | _ => false
end
theorem kit_int : isA "int" isInt := fun x => match x with
  | .d .non => (by decide +kernel : kitB "NoneType" "int" = some false)
  | .d (.bl _) => (by decide +kernel : kitB "bool" "int" = some true)
  | .d (.int _) => (by decide +kernel : kitB "int" "int" = some true)
  | .d (.str _) => (by decide +kernel : kitB "str" "int" = some false)
  | .d (.tup _) => (by decide +kernel : kitB "tuple" "int" = some false)
  | .d (.rol _) => (by decide +kernel : kitB "list" "int" = some false)
  | .l _ => (by decide +kernel : kitB "list" "int" = some false)
theorem kit_bl : isA "bool" isBl := fun x => match x with
  | .d .non => (by decide +kernel : kitB "NoneType" "bool" = some false)
  | .d (.bl _) => (by decide +kernel : kitB "bool" "bool" = some true)
  | .d (.int _) => (by decide +kernel : kitB "int" "bool" = some false)
  | .d (.str _) => (by decide +kernel : kitB "str" "bool" = some false)
  | .d (.tup _) => (by decide +kernel : kitB "tuple" "bool" = some false)
  | .d (.rol _) => (by decide +kernel : kitB "list" "bool" = some false)
  | .l _ => (by decide +kernel : kitB "list" "bool" = some false)
theorem kit_str : isA "str" isStr := fun x => match x with
  | .d .non => (by decide +kernel : kitB "NoneType" "str" = some false)
  | .d (.bl _) => (by decide +kernel : kitB "bool" "str" = some false)
  | .d (.int _) => (by decide +kernel : kitB "int" "str" = some false)
  | .d (.str _) => (by decide +kernel : kitB "str" "str" = some true)
  | .d (.tup _) => (by decide +kernel : kitB "tuple" "str" = some false)
  | .d (.rol _) => (by decide +kernel : kitB "list" "str" = some false)
  | .l _ => (by decide +kernel : kitB "list" "str" = some false)
theorem kit_tup : isA "tuple" isTup := fun x => match x with
  | .d .non => (by decide +kernel : kitB "NoneType" "tuple" = some false)
  | .d (.bl _) => (by decide +kernel : kitB "bool" "tuple" = some false)
  | .d (.int _) => (by decide +kernel : kitB "int" "tuple" = some false)
  | .d (.str _) => (by decide +kernel : kitB "str" "tuple" = some false)
  | .d (.tup _) => (by decide +kernel : kitB "tuple" "tuple" = some true)
  | .d (.rol _) => (by decide +kernel : kitB "list" "tuple" = some false)
  | .l _ => (by decide +kernel : kitB "list" "tuple" = some false)
theorem kit_lst : isA "list" isLst := fun x => match x with
  | .d .non => (by decide +kernel : kitB "NoneType" "list" = some false)
  | .d (.bl _) => (by decide +kernel : kitB "bool" "list" = some false)
  | .d (.int _) => (by decide +kernel : kitB "int" "list" = some false)
  | .d (.str _) => (by decide +kernel : kitB "str" "list" = some false)
  | .d (.tup _) => (by decide +kernel : kitB "tuple" "list" = some false)
  | .d (.rol _) => (by decide +kernel : kitB "list" "list" = some true)
  | .l _ => (by decide +kernel : kitB "list" "list" = some true)
end Z
/-! Z: what is walked, targets, comprehensions, calls of the text's own defs. -/
namespace Z
open PySem PySem.Spec L2
open PyProof.Rows hiding St

/-! ### what is walked -/
def Kept (G : List Addr) (H H' : Hp) : Prop := Pst H H' ∧ ∀ a ∈ G, ∀ o, H a = some o → H' a = some o
theorem Kept.of {G : List Addr} {H H' : Hp} (s : Same H H') : Kept G H H' := ⟨.of s, fun a _ o e => s a o e⟩
theorem Kept.own {K : PySem.W.Frag} {G F : List Addr} {H H' : Hp} {v : V} {x : T} (k : Kept G H H') (o : Own K H v x F) (h : ∀ a ∈ F, a ∈ G) : Own K H' v x F := o.frame k.1 fun a m => k.2 a (h a m)
theorem Kept.trans {G : List Addr} {H H1 H2 : Hp} (a : Kept G H H1) (b : Kept G H1 H2) : Kept G H H2 := ⟨a.1.trans b.1, fun c m o e => b.2 c m o (a.2 c m o e)⟩
/-- it gives the things of xs, as long as the addresses of G are kept -/
def ItOk (K : PySem.W.Frag) (G : List Addr) (H0 : Hp) (J : It) (xs : List T) : Prop :=
  Walk J xs.length (Kept G H0) fun i H v H' => Same H H' ∧ ∃ x F, xs[i]? = some x ∧ Own K H' v x F ∧ ∀ a ∈ F, a ∈ G
section
variable (X : Cx) (W : WX)
def IQ (σ : St) (H : Hp) (Q : It → Hp → Prop) : R (List T) → Prop
  | .ok xs => ∀ J H' G, Same H H' → ItOk X.K G H' J xs → Q J H'
  | .ex c => XQ X W σ H c
  | .no => False
def JQ (σ : St) (H : Hp) (Q : It → Hp → Prop) : R (List T) → Prop
  | .ok xs => ∀ J H' G, Same H H' → ItOk X.K G H' J xs → Fresh H G → (∀ a ∈ G, H' a ≠ none) → Q J H'
  | .ex c => XQ X W σ H c
  | .no => False
def SpI (g : En → R (List T)) (t : TI) : Prop := ∀ σ H en Q, VEn X.K H σ en → IQ X W σ H Q (g en) → t σ H Q
def SpJ (g : En → R (List T)) (t : TI) : Prop := ∀ σ H en Q, VEn X.K H σ en → JQ X W σ H Q (g en) → t σ H Q
/-- what is walked, seen; .. new -/
def PIv (tg e : Expr) (g : En → R (List T)) : Prop := ∃ t, PI X tg e t ∧ SpI X W g t
def PIn (tg e : Expr) (g : En → R (List T)) : Prop := ∃ t, PI X tg e t ∧ SpJ X W g t
end
section
variable {X : Cx} {W : WX} {tg e : Expr} {g : En → R T} {gi : En → R (List T)}
theorem IQ.jq {σ : St} {H : Hp} {Q : It → Hp → Prop} {r : R (List T)} (h : IQ X W σ H Q r) : JQ X W σ H Q r := by
  cases r with
  | ok xs => exact fun J H' G s o _ _ => h J H' G s o
  | ex c => exact h
  | no => exact h
theorem PIn.v (h : PIn X W tg e gi) : PIv X W tg e gi := let ⟨t, p, s⟩ := h; ⟨t, p, fun σ H en Q v q => s σ H en Q v q.jq⟩
/-- a list, a tuple, a text, walked -/
def tSq (K : PySem.W.Frag) (tl : TE) : TI := fun σ H Q => tl σ H fun x H1 => (∃ a, x = .ref a ∧ (∃ xs, SqL K H1 a xs) ∧ Q (Itl K a) H1) ∨ (∃ a, x = .ref a ∧ (∃ xs, SqT K H1 a xs) ∧ Q (Itt K a) H1) ∨ ∃ z, x = .str z ∧ Q (Its z) H1
/-- an expression whose value is known to be one of three -/
theorem pe_cut {tl : TE} {P : V → Hp → Prop} (h : PE X e tl) : PE X e (fun σ H Q => tl σ H fun x H1 => P x H1 ∧ Q x H1) := ⟨fun pins s σ H Q I hw => thn (h.run pins s σ H _ I hw) fun u s1 ⟨x, H1, I1, r, q⟩ => ⟨x, H1, I1, r, q.2⟩⟩
theorem pi_sq {tl : TE} (hl : PE X e tl) : PI X tg e (tSq X.K tl) := by
  refine ⟨fun pins s σ H Q I h => thn (hl.run pins s σ H _ I h) fun u s1 q => ?_⟩
  obtain ⟨x, H1, I1, r1, q1⟩ := q
  rcases q1 with ⟨a, e1, ⟨xs, hq⟩, q⟩ | ⟨a, e1, ⟨xs, hq⟩, q⟩ | ⟨z, e1, q⟩
  · subst e1; cases r1
    obtain ⟨its, _, p, _⟩ := I1.list hq
    exact wpAny_pyIter_list p.isList (pi_one (tk := s1.toks) I1 _ (turn_list a _) ⟨_, Heap.get?_push_size _ rfl, rfl, rfl⟩ q)
  · subst e1; cases r1
    obtain ⟨its, _, p, _⟩ := I1.tuple hq
    exact wpAny_pyIter_tuple (show s1.heap.IsTuple a its.toArray from p) (pi_one (tk := s1.toks) I1 _ (turn_tuple a _) ⟨_, Heap.get?_push_size _ rfl, rfl, rfl⟩ q)
  · subst e1
    obtain ⟨t, rfl⟩ := r1
    cases ha : z.cps.all (· < 128)
    · exact wpAny_pyIter_wide ha (pi_one (tk := s1.toks) I1 _ (turn_str _ z t "str_iterator" (.inr rfl)) ⟨_, Heap.get?_push_size _ rfl, rfl, rfl⟩ q)
    · exact wpAny_pyIter_ascii ha (pi_one (tk := s1.toks) I1 _ (turn_str _ z t "str_ascii_iterator" (.inl rfl)) ⟨_, Heap.get?_push_size _ rfl, rfl, rfl⟩ q)
def signs (z : Str) : List T := z.cps.toList.map fun c => T.d (.str ⟨#[c]⟩)
/-- the things of a list, a tuple, a text -/
def items : T → Option (List T)
  | .d (.tup ds) => some (ds.map T.d)
  | .d (.rol ds) => some (ds.map T.d)
  | .d (.str z) => some (signs z)
  | .l xs => some xs
  | _ => none
def gIt (g : En → R T) : En → R (List T) := fun en => (g en).bind fun x => .of (items x)
theorem it_list {K : PySem.W.Frag} {H : Hp} {a : Addr} {vs : List V} {xs : List T} {F G : List Addr} (h : ∀ H', Kept G H H' → SqL K H' a vs) (o : Owns K H vs xs F) (s : ∀ c ∈ F, c ∈ G) : ItOk K G H (Itl K a) xs := by
  unfold ItOk
  rw [← o.length]
  refine walk_list.mono h fun i H1 v H2 hi k y => ?_
  obtain ⟨rfl, y⟩ := y
  refine ⟨Same.refl _, ?_⟩
  have hx : i < xs.length := by rw [← o.length]; exact hi
  obtain ⟨v', G', h1, h2, h3⟩ := o.get (List.getElem?_eq_getElem hx)
  rw [y] at h1; cases h1
  exact ⟨_, G', List.getElem?_eq_getElem hx, k.own h2 fun c m => s c (h3 c m), fun c m => s c (h3 c m)⟩
theorem it_tup {K : PySem.W.Frag} {H : Hp} {a : Addr} {vs : List V} {xs : List T} {F G : List Addr} (h : SqT K H a vs) (o : Owns K H vs xs F) (s : ∀ c ∈ F, c ∈ G) : ItOk K G H (Itt K a) xs := by
  unfold ItOk
  rw [← o.length]
  refine walk_tup.mono (fun H' k => sqT_pst k.1 h) fun i H1 v H2 hi k y => ?_
  obtain ⟨rfl, y⟩ := y
  refine ⟨Same.refl _, ?_⟩
  have hx : i < xs.length := by rw [← o.length]; exact hi
  obtain ⟨v', G', h1, h2, h3⟩ := o.get (List.getElem?_eq_getElem hx)
  rw [y] at h1; cases h1
  exact ⟨_, G', List.getElem?_eq_getElem hx, k.own h2 fun c m => s c (h3 c m), fun c m => s c (h3 c m)⟩
theorem it_str {K : PySem.W.Frag} {H : Hp} {z : Str} {G : List Addr} : ItOk K G H (Its z) (signs z) := by
  unfold ItOk
  have e : (signs z).length = z.cps.size := by unfold signs; rw [List.length_map, Array.length_toList]
  rw [e]
  refine walk_str.mono (fun _ _ => trivial) fun i H1 v H2 hi k y => ?_
  obtain ⟨rfl, c, hc, rfl⟩ := y
  refine ⟨Same.refl _, T.d (.str ⟨#[c]⟩), [], ?_, .d (.str _), fun _ m => absurd m List.not_mem_nil⟩
  unfold signs
  rw [List.getElem?_map, Array.getElem?_toList, hc]
  rfl
theorem it_own {K : PySem.W.Frag} {H : Hp} {v : V} {x : T} {G : List Addr} {xs : List T} {Q : It → Hp → Prop} (o : Own K H v x G) (h : items x = some xs) (q : ∀ J, ItOk K G H J xs → Q J H) :
    (∃ a, v = .ref a ∧ (∃ xs, SqL K H a xs) ∧ Q (Itl K a) H) ∨ (∃ a, v = .ref a ∧ (∃ xs, SqT K H a xs) ∧ Q (Itt K a) H) ∨ ∃ z, v = .str z ∧ Q (Its z) H := by
  cases o with
  | d r =>
    cases r with
    | tup s r => cases h; exact .inr (.inl ⟨_, rfl, ⟨_, s⟩, q _ (it_tup s r.owns fun _ m => m)⟩)
    | rol s r => cases h; exact .inl ⟨_, rfl, ⟨_, s H (Pst.refl H)⟩, q _ (it_list (fun H' k => s H' k.1) r.owns fun _ m => m)⟩
    | str z => cases h; exact .inr (.inr ⟨_, rfl, q _ it_str⟩)
    | _ => cases h
  | l s r => cases h; exact .inl ⟨_, rfl, ⟨_, SqL.of s⟩, q _ (it_list (fun H' k => SqL.of (k.2 _ List.mem_cons_self _ s)) r fun c m => List.mem_cons_of_mem _ m)⟩
theorem i_sq (h : PV X W e g) : PIv X W tg e (gIt g) := by
  obtain ⟨t, p, s⟩ := h
  refine ⟨_, pi_sq p, fun σ H en Q ve q => s σ H en _ ve ?_⟩
  unfold gIt at q
  cases e : g en with
  | ok x =>
    rw [e] at q
    intro v H' G sm o
    cases ef : items x with
    | none => simp only [R.bind_ok, ef, R.of_none] at q; exact q.elim
    | some xs =>
      simp only [R.bind_ok, ef, R.of_some] at q
      exact it_own o ef fun J j => q J H' G sm j
  | ex c => rw [e] at q; exact q
  | no => rw [e] at q; exact q
theorem j_sq (h : PN X W e g) : PIn X W tg e (gIt g) := by
  obtain ⟨t, p, s⟩ := h
  refine ⟨_, pi_sq p, fun σ H en Q ve q => s σ H en _ ve ?_⟩
  unfold gIt at q
  cases e : g en with
  | ok x =>
    rw [e] at q
    intro v H' G sm o fr
    cases ef : items x with
    | none => simp only [R.bind_ok, ef, R.of_none] at q; exact q.elim
    | some xs =>
      simp only [R.bind_ok, ef, R.of_some] at q
      exact it_own o ef fun J j => q J H' G sm j fr o.there
  | ex c => rw [e] at q; exact q
  | no => rw [e] at q; exact q
/-! ranges -/
def rng (a c : Int) (n : Nat) : List T := (List.range n).map fun i => T.d (.int (a + (i : Nat) * c))
theorem rng_get {a c : Int} {n i : Nat} (h : i < n) : (rng a c n)[i]? = some (T.d (.int (a + (i : Nat) * c))) := by
  unfold rng
  rw [List.getElem?_map, List.getElem?_range h]
  rfl
theorem rng_len {a c : Int} {n : Nat} : (rng a c n).length = n := by unfold rng; rw [List.length_map, List.length_range]
theorem it_rng {K : PySem.W.Frag} {H : Hp} {a : Int} {n : Nat} {G : List Addr} : ItOk K G H (Itr a n) (rng a 1 n) := by
  unfold ItOk
  rw [rng_len]
  refine walk_range.mono (fun _ _ => trivial) fun i H1 v H2 hi k y => ?_
  obtain ⟨rfl, rfl⟩ := y
  refine ⟨Same.refl _, _, [], rng_get hi, ?_, fun _ m => absurd m List.not_mem_nil⟩
  rw [Int.mul_one]
  exact .d (.int _)
theorem it_rngC {K : PySem.W.Frag} {H : Hp} {a c : Int} {n : Nat} {G : List Addr} : ItOk K G H (Itc a c n) (rng a c n) := by
  unfold ItOk
  rw [rng_len]
  refine walk_rangeC.mono (fun _ _ => trivial) fun i H1 v H2 hi k y => ?_
  obtain ⟨rfl, rfl⟩ := y
  exact ⟨Same.refl _, _, [], rng_get hi, .d (.int _), fun _ m => absurd m List.not_mem_nil⟩
abbrev far : Int := 4611686018427387904
def fR1 : T → R (List T)
  | .d (.int j) => if -far ≤ j ∧ j < far then .ok (rng 0 1 j.toNat) else .no
  | _ => .no
def fR2 : T → T → R (List T)
  | .d (.int i), .d (.int j) => if -far ≤ i ∧ i < far ∧ -far ≤ j ∧ j < far then .ok (rng i 1 (j - i).toNat) else .no
  | _, _ => .no
def fR3 : T → T → T → R (List T)
  | .d (.int i), .d (.int j), .d (.int c) => if c ≠ 0 ∧ c.natAbs < 1073741824 ∧ Builtin.Range.small i j c = true ∧ 0 ≤ Builtin.Range.rangeSize i j c then .ok (rng i c (Builtin.Range.rangeSize i j c).toNat) else .no
  | _, _, _ => .no
def gR1 (g : En → R T) : En → R (List T) := fun en => (g en).bind fR1
def gR2 (ga gb : En → R T) : En → R (List T) := fun en => (ga en).bind fun x => (gb en).bind fun y => fR2 x y
def gR3 (ga gb gc : En → R T) : En → R (List T) := fun en => (ga en).bind fun x => (gb en).bind fun y => (gc en).bind fun z => fR3 x y z
variable {a b c : Expr} {ga gb gc : En → R T} {gs : En → R (List T)} {p pos : Pos}
/-- the reading of arguments, told by what they are -/
theorem JQ.same {σ : St} {H H' : Hp} {Q : It → Hp → Prop} {r : R (List T)} (s : Same H H') (h : JQ X W σ H Q r) : JQ X W σ H' Q r := by
  cases r with
  | ok b => exact fun J H2 G s2 o f t => h J H2 G (s.trans s2) o (f.back s) t
  | ex c => exact XQ.mono (W := W) s h
  | no => exact h
theorem j_rng1 (hm : X.mg "range" = none) (h : PV X W a ga) (hg : Gl X "range" := by rfl) (hs : starEach [a] X.env = [(false, eval a X.env)] := by rfl) : PIn X W tg (.Call (.Name "range" p) [a] [] pos) (gR1 ga) := by
  obtain ⟨t, pp, s⟩ := h
  refine ⟨_, pi_range1 hg hm (pa_cons pp pa_nil (by rw [hs]; rfl)) hs, fun σ H en Q ve q => s σ H en _ ve ?_⟩
  unfold gR1 at q
  cases e : ga en with
  | ok x =>
    rw [e] at q
    intro v H' G sm o
    simp only [R.bind_ok] at q
    unfold fR1 at q
    split at q
    · split at q
      · rename_i hj
        cases o with | d r => cases r; exact ⟨_, rfl, hj.1, hj.2, q _ H' [] sm it_rng Fresh.nil fun _ m => absurd m List.not_mem_nil⟩
      · exact q.elim
    · exact q.elim
  | ex c => rw [e] at q; exact q
  | no => rw [e] at q; exact q
theorem j_rng2 (hm : X.mg "range" = none) (ha : PV X W a ga) (hb : PV X W b gb) (hg : Gl X "range" := by rfl) (hs : starEach [a, b] X.env = [(false, eval a X.env), (false, eval b X.env)] := by rfl) (hs2 : starEach [b] X.env = [(false, eval b X.env)] := by rfl) : PIn X W tg (.Call (.Name "range" p) [a, b] [] pos) (gR2 ga gb) := by
  obtain ⟨t, pp, s⟩ := ha
  obtain ⟨t2, pp2, s2⟩ := hb
  refine ⟨_, pi_range2 hg hm (pa_cons pp (pa_cons pp2 pa_nil (by rw [hs2]; rfl)) (by rw [hs, hs2])) hs hs2, fun σ H en Q ve q => s σ H en _ ve ?_⟩
  unfold gR2 at q
  cases e : ga en with
  | ok x =>
    rw [e] at q
    intro v H' G sm o
    refine s2 σ H' en _ (ve.mono sm) ?_
    cases e2 : gb en with
    | ok y =>
      rw [e2] at q
      intro v2 H2 G2 sm2 o2
      simp only [R.bind_ok] at q
      unfold fR2 at q
      split at q
      · split at q
        · rename_i hj
          cases o with | d r => cases r; cases o2 with | d r2 => cases r2; exact ⟨_, _, rfl, hj, q _ H2 [] (sm.trans sm2) it_rng Fresh.nil fun _ m => absurd m List.not_mem_nil⟩
        · exact q.elim
      · exact q.elim
    | ex c => rw [e2] at q; exact XQ.mono (W := W) sm q
    | no => rw [e2] at q; exact q
  | ex c => rw [e] at q; exact q
  | no => rw [e] at q; exact q
theorem j_rng3 (hm : X.mg "range" = none) (ha : PV X W a ga) (hb : PV X W b gb) (hc : PV X W c gc) (hg : Gl X "range" := by rfl) (hs : starEach [a, b, c] X.env = (false, eval a X.env) :: starEach [b, c] X.env := by rfl) (hs2 : starEach [b, c] X.env = (false, eval b X.env) :: starEach [c] X.env := by rfl) (hs3 : starEach [c] X.env = (false, eval c X.env) :: starEach [] X.env := by rfl)
    (hpl : (backTo pos (starEach [b, c] X.env)).any (·.1) = false := by rfl) : PIn X W tg (.Call (.Name "range" p) [a, b, c] [] pos) (gR3 ga gb gc) := by
  obtain ⟨t, pp, s⟩ := ha
  obtain ⟨t2, pp2, s2⟩ := hb
  obtain ⟨t3, pp3, s3⟩ := hc
  refine ⟨_, pi_range3 hg hm (pa_cons pp (pa_cons pp2 (pa_cons pp3 pa_nil hs3) hs2) hs) hs hpl, fun σ H en Q ve q => s σ H en _ ve ?_⟩
  unfold gR3 at q
  cases e : ga en with
  | ok x =>
    rw [e] at q
    intro v H' G sm o
    refine s2 σ H' en _ (ve.mono sm) ?_
    cases e2 : gb en with
    | ok y =>
      rw [e2] at q
      intro v2 H2 G2 sm2 o2
      refine s3 σ H2 en _ (ve.mono (sm.trans sm2)) ?_
      cases e3 : gc en with
      | ok z =>
        rw [e3] at q
        intro v3 H3 G3 sm3 o3
        simp only [R.bind_ok] at q
        unfold fR3 at q
        split at q
        · split at q
          · rename_i hj
            cases o with | d r => cases r; cases o2 with | d r2 => cases r2; cases o3 with | d r3 => cases r3; exact ⟨_, _, _, _, rfl, ⟨hj.1, hj.2.1, hj.2.2.1, (Int.toNat_of_nonneg hj.2.2.2).symm⟩, q _ H3 [] ((sm.trans sm2).trans sm3) it_rngC Fresh.nil fun _ m => absurd m List.not_mem_nil⟩
          · exact q.elim
        · exact q.elim
      | ex c => rw [e3] at q; exact XQ.mono (W := W) (sm.trans sm2) q
      | no => rw [e3] at q; exact q
    | ex c => rw [e2] at q; exact XQ.mono (W := W) sm q
    | no => rw [e2] at q; exact q
  | ex c => rw [e] at q; exact q
  | no => rw [e] at q; exact q
/-- list(range(..)) -/
def gLR1 (g : En → R T) : En → R T := fun en => (g en).bind fun x => match x with
  | .d (.int n) => if 0 ≤ n ∧ n ≤ 16777216 then .ok (.l (rng 0 1 n.toNat)) else .no
  | _ => .no
def gLR2 (ga gb : En → R T) : En → R T := fun en => (ga en).bind fun x => (gb en).bind fun y => match x, y with
  | .d (.int m), .d (.int n) => if 0 ≤ m ∧ m ≤ 16777216 ∧ 0 ≤ n ∧ n ≤ 16777216 then .ok (.l (rng m 1 (n - m).toNat)) else .no
  | _, _ => .no
theorem rg_rng {K : PySem.W.Frag} {H : Hp} (a b : Int) : RepDs K H (rgV a b) ((List.range (b - a).toNat).map fun i => D.int (a + (i : Nat) * 1)) := by
  unfold rgV
  generalize List.range (b - a).toNat = l
  induction l with
  | nil => exact .nil
  | cons x r ih => exact .cons (by show RepD K H (.int (a + (x : Nat))) (.int (a + (x : Nat) * 1)); rw [Int.mul_one]; exact .int _) ih
theorem rng_own {K : PySem.W.Frag} {H : Hp} (a b : Int) : Owns K H (rgV a b) (rng a 1 (b - a).toNat) [] := by
  have := (rg_rng (K := K) (H := H) a b).owns
  rw [List.map_map] at this
  exact this
theorem new_lst {K : PySem.W.Frag} {H : Hp} {p : Addr} {vs : List V} {xs : List T} (np : H p = none) (o : Owns K H vs xs []) : Own K (upd H p (.lst vs)) (.ref p) (.l xs) [p] := .l upd_same (o.mono (same_new np))
theorem fresh1 {H : Hp} {p : Addr} (np : H p = none) : Fresh H [p] := ⟨by simp, fun c m => by
  have e : c = p := by simpa using m
  rw [e]; exact np⟩
theorem n_lrng1 {p2 pos2 : Pos} (hc : X.calm = true) (hm : X.mg "range" = none) (hm2 : X.mg "list" = none) (ha : PV X W a ga) (hg : Gl X "range" := by rfl) (hg2 : Gl X "list" := by rfl) (hs : starEach [a] X.env = (false, eval a X.env) :: starEach [] X.env := by rfl)
    (hs2 : starEach [.Call (.Name "range" p) [a] [] pos] X.env = (false, eval (.Call (.Name "range" p) [a] [] pos) X.env) :: starEach [] X.env := by rfl) : PN X W (.Call (.Name "list" p2) [.Call (.Name "range" p) [a] [] pos] [] pos2) (gLR1 ga) := by
  obtain ⟨t, pp, s⟩ := ha
  refine ⟨_, pe_listRg hc hg2 hm2 (prg_1 hg hm pp hs) hs2, fun σ H en Q ve q => s σ H en _ ve ?_⟩
  unfold gLR1 at q
  cases e : ga en with
  | ok x =>
    rw [e] at q
    intro v H' G sm o
    simp only [R.bind_ok] at q
    split at q
    · split at q
      · rename_i n hn
        cases o with
        | d r =>
          cases r
          refine ⟨n, rfl, .of_le (by omega) (by omega) (by omega) (by omega), fun p np => ?_⟩
          have ow := rng_own (K := X.K) (H := H') 0 n
          rw [Int.sub_zero] at ow
          exact q _ _ [p] (sm.trans (same_new np)) (new_lst np ow) ((fresh1 np).back sm)
      · exact q.elim
    · exact q.elim
  | ex c => rw [e] at q; exact q
  | no => rw [e] at q; exact q
theorem n_lrng2 {p2 pos2 : Pos} (hc : X.calm = true) (hm : X.mg "range" = none) (hm2 : X.mg "list" = none) (ha : PV X W a ga) (hb : PV X W b gb) (hg : Gl X "range" := by rfl) (hg2 : Gl X "list" := by rfl) (hs : starEach [a, b] X.env = (false, eval a X.env) :: starEach [b] X.env := by rfl) (hsb : starEach [b] X.env = (false, eval b X.env) :: starEach [] X.env := by rfl)
    (hpl : (backTo pos (starEach [b] X.env)).any (·.1) = false := by rfl)
    (hs2 : starEach [.Call (.Name "range" p) [a, b] [] pos] X.env = (false, eval (.Call (.Name "range" p) [a, b] [] pos) X.env) :: starEach [] X.env := by rfl) : PN X W (.Call (.Name "list" p2) [.Call (.Name "range" p) [a, b] [] pos] [] pos2) (gLR2 ga gb) := by
  obtain ⟨t, pp, s⟩ := ha
  obtain ⟨t2, pp2, s2⟩ := hb
  refine ⟨_, pe_listRg hc hg2 hm2 (prg_2 hg hm pp pp2 hs hsb hpl) hs2, fun σ H en Q ve q => s σ H en _ ve ?_⟩
  unfold gLR2 at q
  cases e : ga en with
  | ok x =>
    rw [e] at q
    intro v H' G sm o
    refine s2 σ H' en _ (ve.mono sm) ?_
    cases e2 : gb en with
    | ok y =>
      rw [e2] at q
      intro v2 H2 G2 sm2 o2
      simp only [R.bind_ok] at q
      split at q
      · split at q
        · rename_i n hn
          cases o with
          | d r =>
            cases r
            cases o2 with
            | d r =>
              cases r
              refine ⟨_, _, rfl, rfl, .of_le (by omega) (by omega) (by omega) (by omega), fun p np => ?_⟩
              exact q _ _ [p] ((sm.trans sm2).trans (same_new np)) (new_lst np (rng_own _ _)) ((fresh1 np).back (sm.trans sm2))
        · exact q.elim
      · exact q.elim
    | ex c => rw [e2] at q; exact XQ.mono (W := W) sm q
    | no => rw [e2] at q; exact q
  | ex c => rw [e] at q; exact q
  | no => rw [e] at q; exact q
end
/-! ### targets -/
abbrev Ass := List (Nat × T)
def setS : St → List (Nat × V) → St
  | σ, [] => σ
  | σ, (i, v) :: r => setS (σ.set i (some v)) r
/-- a thing that is seen, or a datum -/
def mkS : T → Sl
  | .d d => .v (.d d)
  | .l xs => .w (.l xs)
theorem mkS_get (x : T) : (mkS x).get = some x := by cases x <;> rfl
def setE : En → Ass → En
  | en, [] => en
  | en, (i, x) :: r => setE (en.set i (mkS x)) r
inductive AsOk (K : PySem.W.Frag) (H : Hp) (G : List Addr) : List (Nat × V) → Ass → Prop
  | nil : AsOk K H G [] []
  | cons {i : Nat} {v : V} {x : T} {F : List Addr} {r : List (Nat × V)} {s : Ass} : Own K H v x F → (∀ a ∈ F, a ∈ G) → AsOk K H G r s → AsOk K H G ((i, v) :: r) ((i, x) :: s)
theorem AsOk.app {K : PySem.W.Frag} {H : Hp} {G : List Addr} : ∀ {r r2 : List (Nat × V)} {s s2 : Ass}, AsOk K H G r s → AsOk K H G r2 s2 → AsOk K H G (r ++ r2) (s ++ s2)
  | _, _, _, _, .nil, h => h
  | _, _, _, _, .cons o m t, h => .cons o m (AsOk.app t h)
theorem setS_app : ∀ (σ : St) (r r2 : List (Nat × V)), setS σ (r ++ r2) = setS (setS σ r) r2
  | _, [], _ => rfl
  | _, (i, v) :: r, r2 => setS_app _ r r2
def tgt (K : PySem.W.Frag) (k : T → Option Ass) : TG := fun v σ H Q => ∃ x G as, Own K H v x G ∧ k x = some as ∧ ∀ vs, AsOk K H G vs as → Q (setS σ vs) H
def PTg (X : Cx) (tg : Expr) (k : T → Option Ass) : Prop := PG X tg (tgt X.K k)
def kName (i : Nat) : T → Option Ass := fun x => some [(i, x)]
theorem t_name (i : Nat) {X : Cx} {x : Str} {pos : Pos} (hN : X.N.Nodup) (hi : X.N[i]? = some x := by rfl) (hx : Loc X.env.scope x := by first | exact .inl rfl | exact .inr rfl) (hf : X.fn x = true ∨ X.env.scope.names.lookup x = some .local := by first | exact .inl rfl | exact .inr rfl) : PTg X (.Name x pos) (kName i) := by
  refine ⟨fun pins s σ H v u Q I r h => (pg_name hN hi hx hf).run pins s σ H v u Q I r ?_⟩
  obtain ⟨x, G, as, o, e, q⟩ := h
  cases e
  exact q [(i, v)] (.cons o (fun _ m => m) .nil)
/-- the parts of a tuple's target -/
def kNil : List D → Option Ass
  | [] => some []
  | _ => none
def kCons (k : T → Option Ass) (r : List D → Option Ass) : List D → Option Ass
  | d :: ds => (k (.d d)).bind fun a => (r ds).map fun b => a ++ b
  | [] => none
def tgts (K : PySem.W.Frag) (k : List D → Option Ass) : TGs := fun vs σ H Q => ∃ ds as, RepDs K H vs ds ∧ k ds = some as ∧ ∀ ws, AsOk K H [] ws as → Q (setS σ ws) H
def PTgs (X : Cx) (ts : List Expr) (k : List D → Option Ass) : Prop := PGs X ts (tgts X.K k)
theorem ts_nil {X : Cx} : PTgs X [] kNil := by
  refine ⟨fun pins s σ H vs us Q I r h => pgs_nil.run pins s σ H vs us Q I r ?_⟩
  obtain ⟨ds, as, rr, e, q⟩ := h
  cases rr with
  | nil => cases e; exact ⟨rfl, q [] .nil⟩
  | cons _ _ => cases e
theorem ts_cons {X : Cx} {e : Expr} {es : List Expr} {k : T → Option Ass} {r : List D → Option Ass} (h1 : PTg X e k) (h2 : PTgs X es r) (hs : (assignEach (e :: es) X.env).map (·.2) = assign e X.env :: (assignEach es X.env).map (·.2) := by rfl) : PTgs X (e :: es) (kCons k r) := by
  refine ⟨fun pins s σ H vs us Q I r h => (pgs_cons h1 h2 hs).run pins s σ H vs us Q I r ?_⟩
  obtain ⟨ds, as, rr, e, q⟩ := h
  cases rr with
  | nil => cases e
  | @cons v vs d ds r1 r2 =>
    obtain ⟨a1, e1, e⟩ := Option.bind_eq_some_iff.mp e
    obtain ⟨a2, e2, rfl⟩ := Option.map_eq_some_iff.mp e
    exact ⟨v, vs, rfl, _, [], a1, .d r1, e1, fun ws w => ⟨ds, a2, r2, e2, fun ws2 w2 => by rw [← setS_app]; exact q _ (w.app w2)⟩⟩
def kTup (n : Nat) (k : List D → Option Ass) : T → Option Ass
  | .d (.tup ds) => if ds.length = n then k ds else none
  | _ => none
theorem t_tup {X : Cx} {es : List Expr} {j : Nat} {n : Nat} {k : List D → Option Ass} {pos : Pos} (hc : X.calm = true) (h : PTgs X es k) (hn : (assignEach es X.env).length = n := by rfl) (hst : (assignEach es X.env).findIdx? (·.1) = none := by rfl) : PTg X (.Tuple es j pos) (kTup n k) := by
  refine ⟨fun pins s σ H v u Q I r hh => (pg_tup hc h hn hst).run pins s σ H v u Q I r ?_⟩
  obtain ⟨x, G, as, o, e, q⟩ := hh
  unfold kTup at e
  split at e
  · split at e
    · rename_i hl
      cases o with
      | d r =>
        cases r with
        | tup s r =>
          refine ⟨_, _, rfl, s, by rw [r.length]; exact hl, _, _, r, e, fun ws w => q ws ?_⟩
          clear q e
          induction w with
          | nil => exact .nil
          | cons o m _ ih => exact .cons o (fun a z => absurd (m a z) List.not_mem_nil) ih
    · cases e
  · cases e
/-! ### the frame behind stores -/
theorem set_at {en : En} {i j : Nat} {s : Sl} {x : T} (h : at_ (en.set i s) j = some x) : (j = i ∧ i < en.length ∧ s.get = some x) ∨ (j ≠ i ∧ at_ en j = some x) := by
  unfold at_ at h
  by_cases e : j = i
  · subst e
    by_cases hl : j < en.length
    · rw [List.getElem?_set_self hl] at h
      exact .inl ⟨rfl, hl, h⟩
    · rw [List.getElem?_eq_none (by rw [List.length_set]; omega)] at h
      cases h
  · rw [List.getElem?_set_ne (Ne.symm e)] at h
    exact .inr ⟨e, h⟩
theorem VEn.set {K : PySem.W.Frag} {H : Hp} {σ : St} {en : En} {i : Nat} {v : V} {x : T} {G : List Addr} {s : Sl} (h : VEn K H σ en) (o : Own K H v x G) (hs : s.get = some x) : VEn K H (σ.set i (some v)) (en.set i s) := by
  refine ⟨by rw [List.length_set, List.length_set]; exact h.len, fun j y e => ?_⟩
  rcases set_at e with ⟨rfl, hl, e1⟩ | ⟨hj, e1⟩
  · rw [hs] at e1; cases e1
    have hz := h.len
    exact ⟨v, G, List.getElem?_set_self (by omega), o⟩
  · obtain ⟨w, F, h1, h2⟩ := h.see j y e1
    exact ⟨w, F, by rw [List.getElem?_set_ne (Ne.symm hj)]; exact h1, h2⟩
theorem VEn.sets {K : PySem.W.Frag} {H : Hp} {G : List Addr} : ∀ {vs : List (Nat × V)} {as : Ass} {σ : St} {en : En}, VEn K H σ en → AsOk K H G vs as → VEn K H (setS σ vs) (setE en as)
  | _, _, _, _, h, .nil => h
  | _, _, σ, en, h, .cons (i := i) (v := v) (x := x) o _ t => by
    show VEn K H (setS (σ.set i (some v)) _) (setE (en.set i (mkS x)) _)
    exact VEn.sets (h.set o (mkS_get x)) t
def wipeE (en : En) : List Nat → En
  | [] => en
  | v :: vs => (wipeE en vs).set v .n
theorem wipeE_len (en : En) : ∀ vs, (wipeE en vs).length = en.length
  | [] => rfl
  | v :: vs => by unfold wipeE; rw [List.length_set, wipeE_len en vs]
theorem VEn.wipe {K : PySem.W.Frag} {H : Hp} {σ : St} {en : En} (h : VEn K H σ en) : ∀ vs : List Nat, VEn K H (wipe σ vs) (wipeE en vs)
  | [] => h
  | v :: vs => by
    have ih := VEn.wipe h vs
    refine ⟨by unfold L2.wipe wipeE; rw [List.length_set, List.length_set]; exact ih.len, fun j y e => ?_⟩
    unfold wipeE at e
    rcases set_at e with ⟨rfl, hl, e1⟩ | ⟨hj, e1⟩
    · cases e1
    · obtain ⟨w, F, h1, h2⟩ := ih.see j y e1
      refine ⟨w, F, ?_, h2⟩
      unfold L2.wipe
      rw [List.getElem?_set_ne (Ne.symm hj)]
      exact h1
theorem wipe_get (σ : St) (i : Nat) : ∀ vs : List Nat, (wipe σ vs)[i]? = if i ∈ vs then (σ[i]?).map fun _ => none else σ[i]?
  | [] => by simp [L2.wipe]
  | v :: vs => by
    unfold L2.wipe
    by_cases e : v = i
    · subst e
      rw [if_pos List.mem_cons_self]
      by_cases hl : v < σ.length
      · rw [List.getElem?_set_self (by rw [wipe_length]; exact hl), List.getElem?_eq_getElem hl]; rfl
      · rw [List.getElem?_eq_none (by rw [List.length_set, wipe_length]; omega), List.getElem?_eq_none (by omega)]; rfl
    · rw [List.getElem?_set_ne e, wipe_get σ i vs]
      have : (i ∈ v :: vs) ↔ i ∈ vs := by simp only [List.mem_cons]; exact ⟨fun h => h.elim (fun z => absurd z.symm e) id, .inr⟩
      by_cases hm : i ∈ vs
      · rw [if_pos hm, if_pos (this.mpr hm)]
      · rw [if_neg hm, if_neg fun z => hm (this.mp z)]
theorem wipe_set {σ : St} {i : Nat} {o : Option V} {vs : List Nat} (h : i ∈ vs) : wipe (σ.set i o) vs = wipe σ vs := by
  apply List.ext_getElem?
  intro j
  rw [wipe_get, wipe_get]
  by_cases e : i = j
  · subst e
    rw [if_pos h, if_pos h]
    by_cases hl : i < σ.length
    · rw [List.getElem?_set_self hl, List.getElem?_eq_getElem hl]; rfl
    · rw [List.getElem?_eq_none (by rw [List.length_set]; omega), List.getElem?_eq_none (by omega)]
  · rw [List.getElem?_set_ne e]
theorem wipe_sets {K : PySem.W.Frag} {H : Hp} {G : List Addr} {ix : List Nat} : ∀ {vs : List (Nat × V)} {as : Ass} {σ : St}, AsOk K H G vs as → (∀ p ∈ as, p.1 ∈ ix) → wipe (setS σ vs) ix = wipe σ ix
  | _, _, _, .nil, _ => rfl
  | _, _, σ, .cons (i := i) (v := v) o _ t, h => by
    show wipe (setS (σ.set i (some v)) _) ix = _
    rw [wipe_sets t fun p m => h p (List.mem_cons_of_mem _ m)]
    exact wipe_set (h _ List.mem_cons_self)
theorem wipe_wipe (σ : St) (vs : List Nat) : wipe (wipe σ vs) vs = wipe σ vs := by
  apply List.ext_getElem?
  intro j
  rw [wipe_get, wipe_get]
  by_cases h : j ∈ vs
  · rw [if_pos h, if_pos h]; cases σ[j]? <;> rfl
  · rw [if_neg h, if_neg h]
end Z
/-! Z: comprehensions, calls of the text's own defs. -/
namespace Z
open PySem PySem.Spec L2
open PyProof.Rows hiding St

/-- nothing leaves a comprehension's block -/
abbrev W0 : WX := fun _ _ _ _ => False
/-! readings by what is computed alone -/
section
variable (X : Cx) (W : WX)
def cN (g : En → R T) : TE := fun σ H Q => ∃ en, VEn X.K H σ en ∧ NQ X W σ H Q (g en)
def cV (g : En → R T) : TE := fun σ H Q => ∃ en, VEn X.K H σ en ∧ VQ X W σ H Q (g en)
def cT (g : En → R Bool) : TT := fun σ H Q => ∃ en, VEn X.K H σ en ∧ TQ X W σ H Q (g en)
def cI (g : En → R (List T)) : TI := fun σ H Q => ∃ en, VEn X.K H σ en ∧ IQ X W σ H Q (g en)
end
section
variable {X : Cx} {W : WX} {e c : Expr} {tg : Expr} {g : En → R T} {gc : En → R Bool} {gi : En → R (List T)}
theorem PN.can (h : PN X W e g) : PE X e (cN X W g) := by
  obtain ⟨t, p, s⟩ := h
  exact ⟨fun pins st σ H Q I ⟨en, ve, q⟩ => p.run pins st σ H Q I (s σ H en Q ve q)⟩
theorem PV.can (h : PV X W e g) : PE X e (cV X W g) := by
  obtain ⟨t, p, s⟩ := h
  exact ⟨fun pins st σ H Q I ⟨en, ve, q⟩ => p.run pins st σ H Q I (s σ H en Q ve q)⟩
theorem PC.can (h : PC X W c gc) : PT X c (cT X W gc) := by
  obtain ⟨t, p, s⟩ := h
  exact ⟨fun pins st σ H Q I ⟨en, ve, q⟩ => p.run pins st σ H Q I (s σ H en Q ve q)⟩
theorem PIv.can (h : PIv X W tg e gi) : PI X tg e (cI X W gi) := by
  obtain ⟨t, p, s⟩ := h
  exact ⟨fun pins st σ H Q I ⟨en, ve, q⟩ => p.run pins st σ H Q I (s σ H en Q ve q)⟩
/-- a clause's tests -/
def PCs (X : Cx) (W : WX) (ifs : List Expr) (g : En → R Bool) : Prop := PTs X ifs (cT X W g)
def gYes : En → R Bool := fun _ => .ok true
theorem cs_nil : PCs X W [] gYes := ⟨fun pins s σ H Q I ⟨en, ve, q⟩ => pts_nil.run pins s σ H Q I (q H (Same.refl H))⟩
theorem cs_one (h : PC X W c gc) : PCs X W [c] gc := pts_one h.can
end
/-! ### [elt for tg in it if ..] -/
def lcL (k : T → Option Ass) (tt : En → R Bool) (te : En → R T) (en : En) : List T → R (List T)
  | [] => .ok []
  | x :: xs => (R.of (k x)).bind fun as => (tt (setE en as)).bind fun b => if b = true then (te (setE en as)).bind fun y => (lcL k tt te en xs).bind fun ys => .ok (y :: ys) else lcL k tt te en xs
/-- a comprehension lets no error out -/
def R.calm {α : Type} : R α → R α
  | .ok a => .ok a
  | _ => .no
def gLc (vs : List Nat) (gi : En → R (List T)) (k : T → Option Ass) (tt : En → R Bool) (te : En → R T) : En → R T := fun en => (gi en).bind fun xs =>
  if xs.length < most then (lcL k tt te (wipeE en vs) xs).calm.bind fun ys => .ok (.l ys) else .no
theorem lcL_len {k : T → Option Ass} {tt : En → R Bool} {te : En → R T} {en : En} : ∀ {xs ys : List T}, lcL k tt te en xs = .ok ys → ys.length ≤ xs.length
  | [], _, h => by cases h; exact Nat.le_refl _
  | x :: xs, ys, h => by
    unfold lcL at h
    cases e1 : k x with
    | none => rw [e1] at h; cases h
    | some as =>
      rw [e1] at h
      simp only [R.of_some, R.bind_ok] at h
      cases e2 : tt (setE en as) with
      | ok b =>
        rw [e2] at h
        simp only [R.bind_ok] at h
        cases b with
        | true =>
          simp only [if_true] at h
          cases e3 : te (setE en as) with
          | ok y =>
            rw [e3] at h
            simp only [R.bind_ok] at h
            cases e4 : lcL k tt te en xs with
            | ok zs => rw [e4] at h; cases h; exact Nat.succ_le_succ (lcL_len e4)
            | ex c => rw [e4] at h; cases h
            | no => rw [e4] at h; cases h
          | ex c => rw [e3] at h; cases h
          | no => rw [e3] at h; cases h
        | false =>
          simp only [Bool.false_eq_true, if_false] at h
          exact Nat.le_succ_of_le (lcL_len h)
      | ex c => rw [e2] at h; cases h
      | no => rw [e2] at h; cases h
theorem Owns.snoc {K : PySem.W.Frag} {H : Hp} {vs : List V} {xs : List T} {F G : List Addr} {v : V} {x : T} (o : Owns K H vs xs F) (p : Own K H v x G) : Owns K H (vs ++ [v]) (xs ++ [x]) (F ++ G) := by
  have := o.append (.cons p .nil)
  rwa [List.append_nil] at this
/-- the new list so far -/
structure Grown (K : PySem.W.Frag) (H0 H1 : Hp) (D : Addr) (ts : List T) (H : Hp) : Prop where
  same : Same H1 H
  own : ∃ vs F, H D = some (.lst vs) ∧ Owns K H vs ts F ∧ Fresh H0 (D :: F)
theorem Grown.more {K : PySem.W.Frag} {H0 H1 H2 H3 H4 : Hp} {D : Addr} {ts : List T} {v : V} {x : T} {G : List Addr} (nD : H1 D = none) (g : Grown K H0 H1 D ts H2) (s : Same H2 H3) (s2 : Same H3 H4) (o : Own K H4 v x G) (f : Fresh H3 G) (s01 : Same H0 H1) (hz : ts.length < most) :
    ∃ acc, H4 D = some (.lst acc) ∧ acc.length < sizeLine ∧ Grown K H0 H1 D (ts ++ [x]) (upd H4 D (.lst (acc ++ [v]))) := by
  obtain ⟨sm, vs, F, hD, ow, fr⟩ := g
  have s24 := s.trans s2
  have hD4 := s24 _ _ hD
  refine ⟨vs, hD4, by rw [most_eq, ow.length]; exact hz, ⟨?_, ?_⟩⟩
  · intro a o' e
    have e4 := s24 _ _ (sm _ _ e)
    rw [upd_ne (ne_of_none e nD)]
    exact e4
  · have nF : ∀ a ∈ F, a ≠ D := fun a m e => (List.nodup_cons.mp fr.1).1 (e ▸ m)
    have tF : ∀ a ∈ F, H2 a ≠ none := fun a m => ow.there a m
    have nG : ∀ a ∈ G, a ≠ D := fun a m e => by
      have := f.2 a m
      rw [e, s _ _ hD] at this; cases this
    have pst : Pst H4 (upd H4 D (.lst (vs ++ [v]))) := ⟨fun a us e => by
      by_cases h : a = D
      · rw [h, hD4] at e; cases e
      · rw [upd_ne h]; exact e, fun a ob u e => by
      by_cases h : a = D
      · rw [h, hD4] at e; cases e
      · rw [upd_ne h]; exact e⟩
    have ow4 : Owns K (upd H4 D (.lst (vs ++ [v]))) vs ts F := (ow.mono s24).frame pst fun a m o' e => by rw [upd_ne (nF a m)]; exact e
    have o4 : Own K (upd H4 D (.lst (vs ++ [v]))) v x G := o.frame pst fun a m o' e => by rw [upd_ne (nG a m)]; exact e
    have fr2 : Fresh H0 (D :: F ++ G) := by
      refine ⟨List.nodup_append.mpr ⟨fr.1, f.1, fun a ha b hb e => ?_⟩, fun a m => (List.mem_append.mp m).elim (fr.2 a) fun m => ((s01.trans sm).trans s).free (f.2 a m)⟩
      subst e
      rcases List.mem_cons.mp ha with rfl | ha
      · exact nG _ hb rfl
      · exact tF a ha (s.free (f.2 a hb))
    exact ⟨vs ++ [v], F ++ G, upd_same, ow4.snoc o4, by rw [List.cons_append] at fr2; exact fr2⟩
section
variable {X : Cx} {W : WX} {elt tg it : Expr} {ifs : List Expr} {scope : Scope} {pos : Pos} {gi : En → R (List T)} {k : T → Option Ass} {tt : En → R Bool} {te : En → R T}
/-- the reading -/
theorem sp_lc {own : List (Str × Nat)} (hk : ∀ x as, k x = some as → ∀ p ∈ as, p.1 ∈ own.map (·.2)) : ∀ σ H en Q, VEn X.K H σ en → NQ X W σ H Q (gLc (own.map (·.2)) gi k tt te en) → tLc (cI X W gi) (tgt X.K k) (cT X W0 tt) (cN X W0 te) (own.map (·.2)) σ H Q := by
  intro σ H en Q ve q
  refine ⟨en, ve, ?_⟩
  unfold gLc at q
  cases e : gi en with
  | ex c => rw [e] at q; exact q
  | no => rw [e] at q; exact q
  | ok xs =>
    rw [e] at q
    intro J H1 G s1 iok D nD
    simp only [R.bind_ok] at q
    split at q
    · rename_i hz
      cases el : lcL k tt te (wipeE en (own.map (·.2))) xs with
      | ex c => rw [el] at q; exact q.elim
      | no => rw [el] at q; exact q.elim
      | ok ys =>
        rw [el] at q
        simp only [R.calm, R.bind_ok] at q
        have yz : ys.length < most := Nat.lt_of_le_of_lt (lcL_len el) hz
        refine lc_it iok (fun i H2 => ∃ ts rest, Grown X.K H H1 D ts H2 ∧ lcL k tt te (wipeE en (own.map (·.2))) (xs.drop i) = .ok rest ∧ ts ++ rest = ys) ⟨[], ys, ⟨same_new nD, [], [], upd_same, .nil, (fresh1 nD).back s1⟩, by rw [List.drop_zero]; exact el, rfl⟩ (fun i H2 _ h => ?_) (fun i v H2 H3 hi h y => ?_) (fun H2 h => ?_)
        · obtain ⟨ts, rest, g, _, _⟩ := h
          exact .of g.same
        · obtain ⟨ts, rest, g, er, eq⟩ := h
          obtain ⟨s3, x, F, hx, ox, hF⟩ := y
          have hd : xs.drop i = x :: xs.drop (i + 1) := by
            rw [List.drop_eq_getElem_cons hi]
            rw [List.getElem?_eq_getElem hi] at hx
            rw [Option.some.inj hx]
          rw [hd] at er
          unfold lcL at er
          cases ek : k x with
          | none => rw [ek] at er; cases er
          | some as =>
            rw [ek] at er
            simp only [R.of_some, R.bind_ok] at er
            refine ⟨x, F, as, ox, ek, fun ws aok => ⟨by rw [wipe_sets aok (hk x as ek), wipe_wipe], ?_⟩⟩
            have s13 : Same H H3 := (s1.trans g.same).trans s3
            have ve3 : VEn X.K H3 (setS (wipe σ (own.map (·.2))) ws) (setE (wipeE en (own.map (·.2))) as) := ((ve.mono s13).wipe _).sets aok
            refine ⟨_, ve3, ?_⟩
            cases et : tt (setE (wipeE en (own.map (·.2))) as) with
            | ex c => rw [et] at er; cases er
            | no => rw [et] at er; cases er
            | ok b =>
              rw [et] at er
              simp only [R.bind_ok] at er
              intro H4 s4
              cases b with
              | false =>
                simp only [Bool.false_eq_true, if_false] at er ⊢
                obtain ⟨sm, vs, F', hD, ow, fr⟩ := g
                exact ⟨ts, rest, ⟨(sm.trans s3).trans s4, vs, F', s4 _ _ (s3 _ _ hD), ow.mono (s3.trans s4), fr⟩, er, eq⟩
              | true =>
                simp only [if_true] at er ⊢
                refine ⟨_, ve3.mono s4, ?_⟩
                cases ee : te (setE (wipeE en (own.map (·.2))) as) with
                | ex c => rw [ee] at er; cases er
                | no => rw [ee] at er; cases er
                | ok y =>
                  rw [ee] at er
                  simp only [R.bind_ok] at er
                  cases e2 : lcL k tt te (wipeE en (own.map (·.2))) (xs.drop (i + 1)) with
                  | ex c => rw [e2] at er; cases er
                  | no => rw [e2] at er; cases er
                  | ok rs =>
                    rw [e2] at er
                    simp only [R.bind_ok] at er
                    cases er
                    intro v2 H5 G2 s5 o5 f5
                    have tz : ts.length < most := by rw [← eq, List.length_append] at yz; omega
                    obtain ⟨acc, h1, h2, h3⟩ := g.more nD (s3.trans s4) s5 o5 f5 s1 tz
                    exact ⟨acc, h1, h2, ts ++ [y], rs, h3, rfl, by rw [← eq, List.append_assoc]; rfl⟩
        · obtain ⟨ts, rest, g, er, eq⟩ := h
          rw [List.drop_length] at er
          cases er
          rw [List.append_nil] at eq
          subst eq
          obtain ⟨sm, vs, F', hD, ow, fr⟩ := g
          exact q _ H2 (D :: F') (s1.trans sm) (.l hD ow) fr
    · exact q.elim
variable (own : List (Str × Nat))
theorem n_lc (hc : X.calm = true) (hN : X.N.Nodup) (hi : PIv X W tg it gi) (ok : blkC X.N X.env.scope scope own = true) (hk : ∀ x as, k x = some as → ∀ p ∈ as, p.1 ∈ own.map (·.2))
    (hg : ∀ (s : Shared) (H : Hp) (C : Addr) (cl : List (Str × Addr)) (fp : List Addr), PTg (X.blk s H scope (compEnvC scope cl C X.env) fp) tg k) (ht : ∀ (s : Shared) (H : Hp) (C : Addr) (cl : List (Str × Addr)) (fp : List Addr), PCs (X.blk s H scope (compEnvC scope cl C X.env) fp) W0 ifs tt)
    (he : ∀ (s : Shared) (H : Hp) (C : Addr) (cl : List (Str × Addr)) (fp : List Addr), PN (X.blk s H scope (compEnvC scope cl C X.env) fp) W0 elt te) (hs : ∀ x, foldedSetIterable it X.env x = pure x := by intro _; rfl) :
    PN X W (.ListComp elt [⟨tg, it, ifs, 0⟩] scope pos) (gLc (own.map (·.2)) gi k tt te) :=
  ⟨_, pe_lc (own := own) (g := tgt X.K k) (tt := cT X W0 tt) (te := cN X W0 te) hc hN hi.can (blkOk_by ok) hg ht (fun s H C cl fp => (he s H C cl fp).can) hs, sp_lc hk⟩
end
end Z
/-! Z: comprehensions of two clauses; calls of the text's own defs that change nothing. -/
namespace Z
open PySem PySem.Spec L2
open PyProof.Rows hiding St

section
variable (X : Cx) (W : WX)
def cJ (g : En → R (List T)) : TI := fun σ H Q => ∃ en, VEn X.K H σ en ∧ JQ X W σ H Q (g en)
end
theorem PIn.can {X : Cx} {W : WX} {tg e : Expr} {gi : En → R (List T)} (h : PIn X W tg e gi) : PI X tg e (cJ X W gi) := by
  obtain ⟨t, p, s⟩ := h
  exact ⟨fun pins st σ H Q I ⟨en, ve, q⟩ => p.run pins st σ H Q I (s σ H en Q ve q)⟩
/-- of data alone -/
def kD (k : T → Option Ass) : T → Option Ass
  | .d d => k (.d d)
  | .l _ => none
theorem AsOk.pst {K : PySem.W.Frag} {H H' : Hp} (p : Pst H H') : ∀ {vs : List (Nat × V)} {as : Ass}, AsOk K H [] vs as → AsOk K H' [] vs as
  | _, _, .nil => .nil
  | _, _, .cons o m t => .cons (o.frame p fun a z => absurd (m a z) List.not_mem_nil) m (AsOk.pst p t)
def lcL2 (k : T → Option Ass) (tt : En → R Bool) (gi1 : En → R (List T)) (vs1 : List Nat) (k1 : T → Option Ass) (tt1 : En → R Bool) (te : En → R T) (en : En) : List T → R (List T)
  | [] => .ok []
  | x :: xs => (R.of (kD k x)).bind fun as => (tt (setE en as)).bind fun b => if b = true then (gi1 (setE en as)).bind fun zs => (lcL k1 tt1 te (wipeE (setE en as) vs1) zs).bind fun ys => (lcL2 k tt gi1 vs1 k1 tt1 te en xs).bind fun r => .ok (ys ++ r)
    else lcL2 k tt gi1 vs1 k1 tt1 te en xs
def gLc2 (vs : List Nat) (gi : En → R (List T)) (k : T → Option Ass) (tt : En → R Bool) (gi1 : En → R (List T)) (vs1 : List Nat) (k1 : T → Option Ass) (tt1 : En → R Bool) (te : En → R T) : En → R T := fun en => (gi en).bind fun xs =>
  (lcL2 k tt gi1 vs1 k1 tt1 te (wipeE en vs) xs).calm.bind fun ys => if ys.length < most then .ok (.l ys) else .no
section
variable {X : Cx} {W : WX} {elt tg it tg1 it1 : Expr} {ifs ifs1 : List Expr} {scope : Scope} {pos : Pos} {gi gi1 : En → R (List T)} {k k1 : T → Option Ass} {tt tt1 : En → R Bool} {te : En → R T}
theorem Grown.stay {K : PySem.W.Frag} {H0 H1 H2 H3 : Hp} {D : Addr} {ts : List T} (g : Grown K H0 H1 D ts H2) (s : Same H2 H3) : Grown K H0 H1 D ts H3 := by
  obtain ⟨sm, vs, F, hD, ow, fr⟩ := g
  exact ⟨sm.trans s, vs, F, s _ _ hD, ow.mono s, fr⟩
/-- a list that others are not in has grown: what was there besides is there -/
theorem kept_grow {K : PySem.W.Frag} {H0 H1 H2 H3 : Hp} {D : Addr} {acc vs : List V} {G : List Addr} (k : Kept G H1 H2) (hD : H2 D = some (.lst acc)) (nD : D ∉ G) : Kept G H1 (upd H2 D (.lst vs)) := by
  refine ⟨k.1.trans ⟨fun a us e => ?_, fun a ob u e => ?_⟩, fun a m o e => ?_⟩
  · by_cases h : a = D
    · rw [h, hD] at e; cases e
    · rw [upd_ne h]; exact e
  · by_cases h : a = D
    · rw [h, hD] at e; cases e
    · rw [upd_ne h]; exact e
  · rw [upd_ne (fun z => nD (by rw [← z]; exact m))]
    exact k.2 a m o e
/-- the inner loop -/
theorem sp_in {σ2 : L2.St} {en2 : En} {vs1 : List Nat} {H0 H1 H3 H4 : Hp} {D : Addr} {J1 : It} {zs ys pre : List T} {G : List Addr} {Nx : Hp → Prop} (hk1 : ∀ x as, k1 x = some as → ∀ p ∈ as, p.1 ∈ vs1) (nD : H1 D = none) (s01 : Same H0 H1)
    (g : Grown X.K H0 H1 D pre H3) (s34 : Same H3 H4) (ve : ∀ H, Same H1 H → Pst H4 H → VEn X.K H σ2 en2) (iok : ItOk X.K G H4 J1 zs) (nDG : D ∉ G) (el : lcL k1 tt1 te (wipeE en2 vs1) zs = .ok ys) (hz : pre.length + ys.length < most) (nx : ∀ H, Grown X.K H0 H1 D (pre ++ ys) H → Nx H) :
    ∃ W1 : Nat → Nat → Hp → Prop, (∃ m, W1 0 m H4) ∧ ∀ j n H, W1 j n H → (J1.stop j H ∧ Nx H) ∨ (J1.go j H ∧ ∃ Nx1 : Hp → Prop, (∀ H', Nx1 H' → ∃ n', n' < n ∧ W1 (j + 1) n' H') ∧ ∀ x H', J1.yld j H x H' → tgt X.K k1 x (wipe σ2 vs1) H' fun σ3 H5 => wipe σ3 vs1 = wipe σ2 vs1 ∧ cT X W0 tt1 σ3 H5 fun b H6 =>
      if b = true then cN X W0 te σ3 H6 fun y H7 => ∃ acc, H7 D = some (.lst acc) ∧ acc.length < sizeLine ∧ Nx1 (upd H7 D (.lst (acc ++ [y]))) else Nx1 H6) := by
  refine ⟨fun j n H => n = zs.length - j ∧ j ≤ zs.length ∧ Kept G H4 H ∧ ∃ ts rest, Grown X.K H0 H1 D (pre ++ ts) H ∧ lcL k1 tt1 te (wipeE en2 vs1) (zs.drop j) = .ok rest ∧ ts ++ rest = ys,
    ⟨zs.length, by simp, Nat.zero_le _, .of (Same.refl _), [], ys, by rw [List.append_nil]; exact g.stay s34, by rw [List.drop_zero]; exact el, rfl⟩, ?_⟩
  rintro j n H ⟨rfl, hj, kp, ts, rest, gr, er, eq⟩
  by_cases hlt : j < zs.length
  · refine .inr ⟨iok.goes j H hlt kp, fun H' => Kept G H4 H' ∧ ∃ ts rest, Grown X.K H0 H1 D (pre ++ ts) H' ∧ lcL k1 tt1 te (wipeE en2 vs1) (zs.drop (j + 1)) = .ok rest ∧ ts ++ rest = ys, fun H' h => ⟨zs.length - (j + 1), by omega, rfl, hlt, h⟩, fun v H' y => ?_⟩
    obtain ⟨s5, x, F, hx, ox, hF⟩ := iok.yields j H v H' hlt kp y
    have hd : zs.drop j = x :: zs.drop (j + 1) := by
      rw [List.drop_eq_getElem_cons hlt]
      rw [List.getElem?_eq_getElem hlt] at hx
      rw [Option.some.inj hx]
    rw [hd] at er
    unfold lcL at er
    cases ek : k1 x with
    | none => rw [ek] at er; cases er
    | some as =>
      rw [ek] at er
      simp only [R.of_some, R.bind_ok] at er
      refine ⟨x, F, as, ox, ek, fun ws aok => ⟨by rw [wipe_sets aok (hk1 x as ek), wipe_wipe], ?_⟩⟩
      have s15 : Same H1 H' := gr.same.trans s5
      have ve3 : VEn X.K H' (setS (wipe σ2 vs1) ws) (setE (wipeE en2 vs1) as) := ((ve H' s15 (kp.1.trans (.of s5))).wipe _).sets aok
      refine ⟨_, ve3, ?_⟩
      cases et : tt1 (setE (wipeE en2 vs1) as) with
      | ex c => rw [et] at er; cases er
      | no => rw [et] at er; cases er
      | ok b =>
        rw [et] at er
        simp only [R.bind_ok] at er
        intro H6 s6
        cases b with
        | false =>
          simp only [Bool.false_eq_true, if_false] at er ⊢
          exact ⟨kp.trans (.of (s5.trans s6)), ts, rest, gr.stay (s5.trans s6), er, eq⟩
        | true =>
          simp only [if_true] at er ⊢
          refine ⟨_, ve3.mono s6, ?_⟩
          cases ee : te (setE (wipeE en2 vs1) as) with
          | ex c => rw [ee] at er; cases er
          | no => rw [ee] at er; cases er
          | ok y =>
            rw [ee] at er
            simp only [R.bind_ok] at er
            cases e2 : lcL k1 tt1 te (wipeE en2 vs1) (zs.drop (j + 1)) with
            | ex c => rw [e2] at er; cases er
            | no => rw [e2] at er; cases er
            | ok rs =>
              rw [e2] at er
              simp only [R.bind_ok] at er
              cases er
              intro v2 H7 G2 s7 o7 f7
              have tz : (pre ++ ts).length < most := by rw [← eq, List.length_append] at hz; rw [List.length_append]; omega
              obtain ⟨acc, h1, h2, h3⟩ := gr.more nD (s5.trans s6) s7 o7 f7 s01 tz
              refine ⟨acc, h1, h2, kept_grow (K := X.K) (H0 := H0) (H3 := H3) (kp.trans (.of ((s5.trans s6).trans s7))) h1 nDG, ts ++ [y], rs, by rw [← List.append_assoc]; exact h3, rfl, by rw [← eq, List.append_assoc]; rfl⟩
  · have e : j = zs.length := by omega
    subst e
    rw [List.drop_length] at er
    cases er
    rw [List.append_nil] at eq
    subst eq
    exact .inl ⟨iok.stops H kp, nx H gr⟩
theorem sp_lc2 {own : List (Str × Nat)} {vs1 : List Nat} (hk : ∀ x as, k x = some as → ∀ p ∈ as, p.1 ∈ own.map (·.2)) (hk1 : ∀ x as, k1 x = some as → ∀ p ∈ as, p.1 ∈ vs1) : ∀ σ H en Q, VEn X.K H σ en → NQ X W σ H Q (gLc2 (own.map (·.2)) gi k tt gi1 vs1 k1 tt1 te en) →
    tLc2 (cI X W gi) (tgt X.K k) (cT X W0 tt) (cJ X W0 gi1) (tgt X.K k1) (cT X W0 tt1) (cN X W0 te) (own.map (·.2)) vs1 σ H Q := by
  intro σ H en Q ve q
  refine ⟨en, ve, ?_⟩
  unfold gLc2 at q
  cases e : gi en with
  | ex c => rw [e] at q; exact q
  | no => rw [e] at q; exact q
  | ok xs =>
    rw [e] at q
    intro J H1 G s1 iok D nD
    simp only [R.bind_ok] at q
    cases el : lcL2 k tt gi1 vs1 k1 tt1 te (wipeE en (own.map (·.2))) xs with
    | ex c => rw [el] at q; exact q.elim
    | no => rw [el] at q; exact q.elim
    | ok ys =>
      rw [el] at q
      simp only [R.calm, R.bind_ok] at q
      split at q
      · rename_i yz
        refine ⟨fun i n H2 => n = xs.length - i ∧ i ≤ xs.length ∧ ∃ ts rest, Grown X.K H H1 D ts H2 ∧ lcL2 k tt gi1 vs1 k1 tt1 te (wipeE en (own.map (·.2))) (xs.drop i) = .ok rest ∧ ts ++ rest = ys,
          ⟨xs.length, by simp, Nat.zero_le _, [], ys, ⟨same_new nD, [], [], upd_same, .nil, (fresh1 nD).back s1⟩, by rw [List.drop_zero]; exact el, rfl⟩, ?_⟩
        rintro i n H2 ⟨rfl, hi, ts, rest, g, er, eq⟩
        by_cases hlt : i < xs.length
        · refine .inr ⟨iok.goes i H2 hlt (.of g.same), fun H' => ∃ ts rest, Grown X.K H H1 D ts H' ∧ lcL2 k tt gi1 vs1 k1 tt1 te (wipeE en (own.map (·.2))) (xs.drop (i + 1)) = .ok rest ∧ ts ++ rest = ys, fun H' h => ⟨xs.length - (i + 1), by omega, rfl, hlt, h⟩, fun v H3 y => ?_⟩
          obtain ⟨s3, x, F, hx, ox, hF⟩ := iok.yields i H2 v H3 hlt (.of g.same) y
          have hd : xs.drop i = x :: xs.drop (i + 1) := by
            rw [List.drop_eq_getElem_cons hlt]
            rw [List.getElem?_eq_getElem hlt] at hx
            rw [Option.some.inj hx]
          rw [hd] at er
          unfold lcL2 at er
          cases ek : kD k x with
          | none => rw [ek] at er; cases er
          | some as =>
            rw [ek] at er
            simp only [R.of_some, R.bind_ok] at er
            have ek : ∃ d, x = .d d ∧ k x = some as := by
              cases x with
              | d d => exact ⟨d, rfl, ek⟩
              | l _ => cases ek
            obtain ⟨d, rfl, ek⟩ := ek
            obtain ⟨ox, rfl⟩ : Own X.K H3 v (.d d) [] ∧ F = [] := by cases ox with | d r => exact ⟨.d r, rfl⟩
            refine ⟨_, [], as, ox, ek, fun ws aok => ⟨by rw [wipe_sets aok (hk _ as ek), wipe_wipe], ?_⟩⟩
            have s13 : Same H H3 := (s1.trans g.same).trans s3
            have ve3 : VEn X.K H3 (setS (wipe σ (own.map (·.2))) ws) (setE (wipeE en (own.map (·.2))) as) := ((ve.mono s13).wipe _).sets aok
            refine ⟨_, ve3, ?_⟩
            cases et : tt (setE (wipeE en (own.map (·.2))) as) with
            | ex c => rw [et] at er; cases er
            | no => rw [et] at er; cases er
            | ok b =>
              rw [et] at er
              simp only [R.bind_ok] at er
              intro H4 s4
              cases b with
              | false =>
                simp only [Bool.false_eq_true, if_false] at er ⊢
                exact ⟨ts, rest, g.stay (s3.trans s4), er, eq⟩
              | true =>
                simp only [if_true] at er ⊢
                refine ⟨_, ve3.mono s4, ?_⟩
                cases ej : gi1 (setE (wipeE en (own.map (·.2))) as) with
                | ex c => rw [ej] at er; cases er
                | no => rw [ej] at er; cases er
                | ok zs =>
                  rw [ej] at er
                  simp only [R.bind_ok] at er
                  intro J1 H5 G1 s5 iok1 f1 _
                  cases e1 : lcL k1 tt1 te (wipeE (setE (wipeE en (own.map (·.2))) as) vs1) zs with
                  | ex c => rw [e1] at er; cases er
                  | no => rw [e1] at er; cases er
                  | ok us =>
                    rw [e1] at er
                    simp only [R.bind_ok] at er
                    cases e2 : lcL2 k tt gi1 vs1 k1 tt1 te (wipeE en (own.map (·.2))) (xs.drop (i + 1)) with
                    | ex c => rw [e2] at er; cases er
                    | no => rw [e2] at er; cases er
                    | ok rs =>
                      rw [e2] at er
                      simp only [R.bind_ok] at er
                      cases er
                      have nDG : D ∉ G1 := fun m => by
                        have z := f1.2 D m
                        obtain ⟨_, vs, F', hD, _, _⟩ := g
                        rw [s4 _ _ (s3 _ _ hD)] at z; cases z
                      obtain ⟨_, vs, F', hD, _, _⟩ := id g
                      -- the inner frame is seen in the heap of the outer turn
                      have hz : ts.length + us.length < most := by rw [← eq, List.length_append, List.length_append] at yz; omega
                      exact sp_in (X := X) (H1 := H1) (pre := ts) hk1 nD s1 (g.stay (s3.trans s4)) s5 (fun H' a b => ((ve.mono (s1.trans a)).wipe _).sets (aok.pst ((Pst.of (s4.trans s5)).trans b))) iok1 nDG e1 hz fun H' g' => ⟨ts ++ us, rs, g', rfl, by rw [← eq, List.append_assoc]⟩
        · have e : i = xs.length := by omega
          subst e
          rw [List.drop_length] at er
          cases er
          rw [List.append_nil] at eq
          subst eq
          obtain ⟨sm, vs, F', hD, ow, fr⟩ := g
          exact .inl ⟨iok.stops H2 (.of sm), q _ H2 (D :: F') (s1.trans sm) (.l hD ow) fr⟩
      · exact q.elim
theorem n_lc2 (own : List (Str × Nat)) (vs1 : List Nat) (hc : X.calm = true) (hN : X.N.Nodup) (hi : PIv X W tg it gi) (ok : blkC X.N X.env.scope scope own = true) (hv : ∀ i ∈ vs1, i ∈ own.map (·.2)) (hk : ∀ x as, k x = some as → ∀ p ∈ as, p.1 ∈ own.map (·.2)) (hk1 : ∀ x as, k1 x = some as → ∀ p ∈ as, p.1 ∈ vs1)
    (hg : ∀ (s : Shared) (H : Hp) (C : Addr) (cl : List (Str × Addr)) (fp : List Addr), PTg (X.blk s H scope (compEnvC scope cl C X.env) fp) tg k) (ht : ∀ (s : Shared) (H : Hp) (C : Addr) (cl : List (Str × Addr)) (fp : List Addr), PCs (X.blk s H scope (compEnvC scope cl C X.env) fp) W0 ifs tt)
    (hi1 : ∀ (s : Shared) (H : Hp) (C : Addr) (cl : List (Str × Addr)) (fp : List Addr), PIn (X.blk s H scope (compEnvC scope cl C X.env) fp) W0 tg1 it1 gi1)
    (hg1 : ∀ (s : Shared) (H : Hp) (C : Addr) (cl : List (Str × Addr)) (fp : List Addr), PTg (X.blk s H scope (compEnvC scope cl C X.env) fp) tg1 k1) (ht1 : ∀ (s : Shared) (H : Hp) (C : Addr) (cl : List (Str × Addr)) (fp : List Addr), PCs (X.blk s H scope (compEnvC scope cl C X.env) fp) W0 ifs1 tt1)
    (he : ∀ (s : Shared) (H : Hp) (C : Addr) (cl : List (Str × Addr)) (fp : List Addr), PN (X.blk s H scope (compEnvC scope cl C X.env) fp) W0 elt te) (hs : ∀ x, foldedSetIterable it X.env x = pure x := by intro _; rfl) (hs1 : ∀ env x, foldedSetIterable it1 env x = pure x := by intro _ _; rfl) :
    PN X W (.ListComp elt [⟨tg, it, ifs, 0⟩, ⟨tg1, it1, ifs1, 0⟩] scope pos) (gLc2 (own.map (·.2)) gi k tt gi1 vs1 k1 tt1 te) :=
  ⟨_, pe_lc2 (own := own) (vs1 := vs1) (g := tgt X.K k) (tt := cT X W0 tt) (te := cN X W0 te) (wi1 := cJ X W0 gi1) (g1 := tgt X.K k1) (tt1 := cT X W0 tt1) hc hN hi.can (blkOk_by ok) hv hg ht (fun s H C cl fp => (hi1 s H C cl fp).can) hg1 ht1 (fun s H C cl fp => (he s H C cl fp).can) hs hs1, sp_lc2 hk hk1⟩
end
/-! ### a def that changes nothing -/
/-- its promise, by what it computes -/
def spP (K : PySem.W.Frag) (mg : Str → Option Value) (F : List T → R T) : Sp := fun vs H Q E => ∃ xs, Vws K H vs xs ∧ match F xs with
  | .ok r => ∀ v H' G, Same H H' → Own K H' v r G → Fresh H G → Q v H'
  | .ex c => ∀ cls dx H', Same H H' → ExIs K mg H' c cls dx → E cls dx H'
  | .no => False
/-- the def of this name keeps it -/
structure FnP (P : Program) (w : World) (K : PySem.W.Frag) (mg : Str → Option Value) (base : Heap) (x : Str) (k : Nat) (F : List T → R T) : Prop where
  ex : ∃ (f : Addr) (fd : FuncData) (ps : List Str), FnOk P w K mg base (L2.CX P w) k f fd ps (spP K mg F) ∧ mg x = some (.ref f) ∧ PySem.W.keepIn K (.ref f) = true ∧ Binds K fd ps []
def gFn (F : List T → R T) (g : En → R (List T)) : En → R T := fun en => (g en).bind F
theorem n_call {X : Cx} {W : WX} {x : Str} {k : Nat} {F : List T → R T} {p pos : Pos} {a : Expr} {es : List Expr} {gs : En → R (List T)} (f : FnP X.prog X.w X.K X.mg X.base x k F) (tk : Takes X W) (hr : Room k X.A) (ha : PAv X W (a :: es) gs) (hg : Gl X x := by rfl)
    (hdb : (x == ("__debug__" : Str)) = false := by decide) (he : starEach (a :: es) X.env = (false, eval a X.env) :: starEach es X.env := by rfl) (hpl : (backTo pos (starEach es X.env)).any (·.1) = false := by rfl) : PN X W (.Call (.Name x p) (a :: es) [] pos) (gFn F gs) := by
  obtain ⟨f, fd, ps, ok, hm, hk, hb⟩ := f.ex
  obtain ⟨t, pa, s⟩ := ha
  refine ⟨_, pe_callS (E := WE W) ok hr hg hm hk hb (fun σ => passAt tk σ) pa hdb he hpl, fun σ H en Q ve q => s σ H en _ ve ?_⟩
  unfold gFn at q
  cases e : gs en with
  | ok xs =>
    rw [e] at q
    intro vs H' sm w
    refine ⟨xs, w, ?_⟩
    simp only [R.bind_ok] at q
    cases ef : F xs with
    | ok r => rw [ef] at q; exact fun v H2 G s2 o fr => q v H2 G (sm.trans s2) o (fr.back sm)
    | ex c => rw [ef] at q; exact fun cls dx H2 s2 i => q cls dx H2 (sm.trans s2) i
    | no => rw [ef] at q; exact q
  | ex c => rw [e] at q; exact q
  | no => rw [e] at q; exact q
end Z
/-! Z: what is owned; expressions that change the frame's lists; statements. -/
namespace Z
open PySem PySem.Spec L2
open PyProof.Rows hiding St

abbrev Ft := Nat → List Addr
def InF (Fs : Ft) (a : Addr) : Prop := ∃ i, a ∈ Fs i
def ownAt (en : En) (i : Nat) : Option T := match en[i]? with
  | some (.v x) => some x
  | some (.b x) => some x
  | _ => none
def seeAt (en : En) (i : Nat) : Option T := match en[i]? with
  | some (.w x) => some x
  | _ => none
theorem at_split {en : En} {i : Nat} {x : T} (h : at_ en i = some x) : ownAt en i = some x ∨ seeAt en i = some x := by
  unfold at_ at h
  unfold ownAt seeAt
  cases e : en[i]? with
  | none => rw [e] at h; cases h
  | some s => rw [e] at h; cases s <;> first | (cases h; done) | exact .inl h | exact .inr h
/-- the things of the names, where their lists lie: what is ours lies apart from all else -/
structure EOk (K : PySem.W.Frag) (H : Hp) (σ : L2.St) (en : En) (Fs : Ft) : Prop where
  len : en.length ≤ σ.length
  has : ∀ i x, at_ en i = some x → ∃ v, σ[i]? = some (some v) ∧ Own K H v x (Fs i)
  nod : ∀ i, ownAt en i ≠ none → (Fs i).Nodup
  dis : ∀ i j a, i ≠ j → ownAt en i ≠ none → a ∈ Fs i → a ∉ Fs j
  emp : ∀ i, at_ en i = none → Fs i = []
def InO (en : En) (Fs : Ft) (a : Addr) : Prop := ∃ i, ownAt en i ≠ none ∧ a ∈ Fs i
theorem InO.a {en : En} {Fs : Ft} {a : Addr} (h : InO en Fs a) : InF Fs a := let ⟨i, _, m⟩ := h; ⟨i, m⟩
theorem EOk.ven {K : PySem.W.Frag} {H : Hp} {σ : L2.St} {en : En} {Fs : Ft} (h : EOk K H σ en Fs) : VEn K H σ en := ⟨h.len, fun i x e => let ⟨v, h1, h2⟩ := h.has i x e; ⟨v, _, h1, h2⟩⟩
theorem EOk.there {K : PySem.W.Frag} {H : Hp} {σ : L2.St} {en : En} {Fs : Ft} (h : EOk K H σ en Fs) {a : Addr} (m : InF Fs a) : ∃ vs, H a = some (.lst vs) := by
  obtain ⟨i, m⟩ := m
  cases e : at_ en i with
  | none => rw [h.emp i e] at m; cases m
  | some x =>
    obtain ⟨v, _, o⟩ := h.has i x e
    exact o.dom a m
/-- how a step changes the heap: what lies in P is ours before, what lies in P' behind; what lies in A is known before, what lies in A' behind -/
structure Stp (H : Hp) (P A : Addr → Prop) (H' : Hp) (P' A' : Addr → Prop) : Prop where
  pst : Pst H H'
  keep : ∀ a o, H a = some o → ¬ P a → H' a = some o
  dom : ∀ a, H' a = none → H a = none
  subO : ∀ a, P' a → P a ∨ H a = none
  subA : ∀ a, A' a → A a ∨ H a = none
theorem Stp.refl (H : Hp) (P A : Addr → Prop) : Stp H P A H P A := ⟨Pst.refl H, fun _ _ e _ => e, fun _ e => e, fun _ m => .inl m, fun _ m => .inl m⟩
theorem Stp.trans {H H1 H2 : Hp} {P P1 P2 A A1 A2 : Addr → Prop} (a : Stp H P A H1 P1 A1) (b : Stp H1 P1 A1 H2 P2 A2) : Stp H P A H2 P2 A2 where
  pst := a.pst.trans b.pst
  keep := fun c o e n => b.keep c o (a.keep c o e n) fun m => (a.subO c m).elim n fun z => by rw [e] at z; cases z
  dom := fun c e => a.dom c (b.dom c e)
  subO := fun c m => (b.subO c m).elim (a.subO c) fun z => .inr (a.dom c z)
  subA := fun c m => (b.subA c m).elim (a.subA c) fun z => .inr (a.dom c z)
theorem Stp.imp {H H1 : Hp} {P P1 P2 A A1 A2 : Addr → Prop} (a : Stp H P A H1 P1 A1) (h : ∀ c, P2 c → P1 c) (h' : ∀ c, A2 c → A1 c) : Stp H P A H1 P2 A2 := ⟨a.pst, a.keep, a.dom, fun c m => a.subO c (h c m), fun c m => a.subA c (h' c m)⟩
theorem Stp.of {H H' : Hp} {P A : Addr → Prop} {G : List Addr} (s : Same H H') (f : ∀ a ∈ G, H a = none) : Stp H P A H' (fun a => P a ∨ a ∈ G) (fun a => A a ∨ a ∈ G) :=
  ⟨.of s, fun a o e _ => s a o e, fun a e => s.free e, fun a m => m.elim .inl fun z => .inr (f a z), fun a m => m.elim .inl fun z => .inr (f a z)⟩
/-- what is held aside stays -/
theorem Stp.frame {K : PySem.W.Frag} {H H' : Hp} {P P' A A' : Addr → Prop} {v : V} {x : T} {G : List Addr} (s : Stp H P A H' P' A') (pa : ∀ a, P a → A a) (o : Own K H v x G) (d : ∀ a ∈ G, ¬ A a) : Own K H' v x G ∧ ∀ a ∈ G, ¬ A' a :=
  ⟨o.frame s.pst fun a m o' e => s.keep a o' e fun z => d a m (pa a z), fun a m z => (s.subA a z).elim (d a m) (o.there a m)⟩
theorem Stp.frames {K : PySem.W.Frag} {H H' : Hp} {P P' A A' : Addr → Prop} {vs : List V} {xs : List T} {G : List Addr} (s : Stp H P A H' P' A') (pa : ∀ a, P a → A a) (o : Owns K H vs xs G) (d : ∀ a ∈ G, ¬ A a) : Owns K H' vs xs G ∧ ∀ a ∈ G, ¬ A' a :=
  ⟨o.frame s.pst fun a m o' e => s.keep a o' e fun z => d a m (pa a z), fun a m z => (s.subA a z).elim (d a m) (o.there a m)⟩
/-- what is lent stays where it is -/
def BK (σ : L2.St) (en : En) (σ' : L2.St) (en' : En) : Prop := ∀ (i : Nat) (x' : T), en'[i]? = some (Sl.b x') → (∃ x, en[i]? = some (Sl.b x)) ∧ σ'[i]? = σ[i]?
structure Aft (K : PySem.W.Frag) (H : Hp) (Fs : Ft) (σ : L2.St) (en : En) (H' : Hp) (Fs' : Ft) (σ' : L2.St) (en' : En) (G : List Addr) : Prop where
  ok : EOk K H' σ' en' Fs'
  nod : G.Nodup
  dis : ∀ a ∈ G, ¬ InF Fs' a
  stp : Stp H (InO en Fs) (InF Fs) H' (fun a => InO en' Fs' a ∨ a ∈ G) (fun a => InF Fs' a ∨ a ∈ G)
  bk : BK σ en σ' en'
theorem BK.refl (σ : L2.St) (en : En) : BK σ en σ en := fun i x e => ⟨⟨x, e⟩, rfl⟩
theorem BK.trans {σ σ1 σ2 : L2.St} {en en1 en2 : En} (a : BK σ en σ1 en1) (b : BK σ1 en1 σ2 en2) : BK σ en σ2 en2 := fun i x e =>
  let ⟨⟨y, e1⟩, h1⟩ := b i x e
  let ⟨z, h2⟩ := a i y e1
  ⟨z, h1.trans h2⟩
theorem Aft.trans {K : PySem.W.Frag} {H H1 H2 : Hp} {Fs Fs1 Fs2 : Ft} {σ σ1 σ2 : L2.St} {en en1 en2 : En} {G : List Addr} (a : Aft K H Fs σ en H1 Fs1 σ1 en1 []) (b : Aft K H1 Fs1 σ1 en1 H2 Fs2 σ2 en2 G) : Aft K H Fs σ en H2 Fs2 σ2 en2 G :=
  ⟨b.ok, b.nod, b.dis, (a.stp.imp (fun _ m => .inl m) (fun _ m => .inl m)).trans b.stp, a.bk.trans b.bk⟩
theorem EOk.same {K : PySem.W.Frag} {H H' : Hp} {σ : L2.St} {en : En} {Fs : Ft} (h : EOk K H σ en Fs) (s : Same H H') : EOk K H' σ en Fs :=
  ⟨h.len, fun i x e => let ⟨v, a, b⟩ := h.has i x e; ⟨v, a, b.mono s⟩, h.nod, h.dis, h.emp⟩
/-- behind a quiet step -/
theorem Aft.quiet {K : PySem.W.Frag} {H H' : Hp} {Fs : Ft} {σ : L2.St} {en : En} {G : List Addr} (h : EOk K H σ en Fs) (s : Same H H') (f : Fresh H G) : Aft K H Fs σ en H' Fs σ en G :=
  ⟨h.same s, f.1, fun a m z => (by obtain ⟨vs, e⟩ := h.there z; rw [f.2 a m] at e; cases e), .of s f.2, BK.refl σ en⟩
theorem Aft.refl {K : PySem.W.Frag} {H : Hp} {Fs : Ft} {σ : L2.St} {en : En} (h : EOk K H σ en Fs) : Aft K H Fs σ en H Fs σ en [] := .quiet h (Same.refl H) Fresh.nil
/-- a second step, what the first one left held aside -/
theorem Aft.held {K : PySem.W.Frag} {H H1 H2 : Hp} {Fs Fs1 Fs2 : Ft} {σ σ1 σ2 : L2.St} {en en1 en2 : En} {F G : List Addr} (a : Aft K H Fs σ en H1 Fs1 σ1 en1 F) (tF : ∀ c ∈ F, H1 c ≠ none) (b : Aft K H1 Fs1 σ1 en1 H2 Fs2 σ2 en2 G) : Aft K H Fs σ en H2 Fs2 σ2 en2 (F ++ G) := by
  have nF : ∀ c ∈ F, ¬ (InF Fs2 c ∨ c ∈ G) := fun c m z => (b.stp.subA c z).elim (a.dis c m) (tF c m)
  refine ⟨b.ok, List.nodup_append.mpr ⟨a.nod, b.nod, fun c hc d hd e => nF c hc (.inr (e ▸ hd))⟩, fun c m => (List.mem_append.mp m).elim (fun z y => nF c z (.inl y)) (b.dis c), ⟨a.stp.pst.trans b.stp.pst, fun c o e n => ?_, fun c e => a.stp.dom c (b.stp.dom c e), fun c m => ?_, fun c m => ?_⟩, a.bk.trans b.bk⟩
  · exact b.stp.keep c o (a.stp.keep c o e n) fun z => (a.stp.subO c (.inl z)).elim n fun y => by rw [e] at y; cases y
  · rcases m with m | m
    · exact (b.stp.subO c (.inl m)).elim (fun z => a.stp.subO c (.inl z)) fun z => .inr (a.stp.dom c z)
    · rcases List.mem_append.mp m with m | m
      · exact a.stp.subO c (.inr m)
      · exact (b.stp.subO c (.inr m)).elim (fun z => a.stp.subO c (.inl z)) fun z => .inr (a.stp.dom c z)
  · rcases m with m | m
    · exact (b.stp.subA c (.inl m)).elim (fun z => a.stp.subA c (.inl z)) fun z => .inr (a.stp.dom c z)
    · rcases List.mem_append.mp m with m | m
      · exact a.stp.subA c (.inr m)
      · exact (b.stp.subA c (.inr m)).elim (fun z => a.stp.subA c (.inl z)) fun z => .inr (a.stp.dom c z)
/-- what a statement ends in -/
inductive SR where
  | nx (en : En) | ret (x : T) (en : En) | brk (en : En) | ct (en : En) | ex (c : Exc) (en : En) | no
inductive RM (α : Type) where
  | ok (a : α) (en : En) | ex (c : Exc) (en : En) | no
def RM.bind {α β : Type} (r : RM α) (f : α → En → RM β) : RM β := match r with
  | .ok a en => f a en
  | .ex c en => .ex c en
  | .no => .no
def RM.of {α : Type} (r : R α) (en : En) : RM α := match r with
  | .ok a => .ok a en
  | .ex c => .ex c en
  | .no => .no
def RM.s {α : Type} (r : RM α) (f : α → En → SR) : SR := match r with
  | .ok a en => f a en
  | .ex c en => .ex c en
  | .no => .no
@[simp] theorem RM.bind_ok {α β : Type} (a : α) (en : En) (f : α → En → RM β) : (RM.ok a en).bind f = f a en := Eq.trans (b := f a en) (Eq.refl _) (Eq.refl _)
@[simp] theorem RM.bind_no {α β : Type} (f : α → En → RM β) : (RM.no).bind f = .no := rfl
@[simp] theorem RM.bind_ex {α β : Type} (c : Exc) (en : En) (f : α → En → RM β) : (RM.ex c en).bind f = .ex c en := rfl
@[simp] theorem RM.s_ok {α : Type} (a : α) (en : En) (f : α → En → SR) : (RM.ok a en).s f = f a en := Eq.trans (b := f a en) (Eq.refl _) (Eq.refl _)
@[simp] theorem RM.s_no {α : Type} (f : α → En → SR) : (RM.no).s f = .no := rfl
@[simp] theorem RM.s_ex {α : Type} (c : Exc) (en : En) (f : α → En → SR) : (RM.ex c en).s f = .ex c en := rfl
@[simp] theorem RM.of_ok {α : Type} (a : α) (en : En) : RM.of (.ok a) en = .ok a en := rfl
@[simp] theorem RM.of_no {α : Type} (en : En) : RM.of (.no : R α) en = .no := rfl
@[simp] theorem RM.of_ex {α : Type} (c : Exc) (en : En) : RM.of (.ex c : R α) en = .ex c en := rfl
section
variable (X : Cx) (W : WX)
def XM (H : Hp) (Fs : Ft) (σ : L2.St) (en : En) (c : Exc) (en' : En) : Prop := ∀ cls dx H' Fs' σ', Aft X.K H Fs σ en H' Fs' σ' en' [] → ExIs X.K X.mg H' c cls dx → W cls dx σ' H'
def MQ (H : Hp) (Fs : Ft) (σ : L2.St) (en : En) (Q : VK) : RM T → Prop
  | .ok x en' => ∀ v H' Fs' G, Aft X.K H Fs σ en H' Fs' σ en' G → Own X.K H' v x G → Q v H'
  | .ex c en' => XM X W H Fs σ en c en'
  | .no => False
def MT (H : Hp) (Fs : Ft) (σ : L2.St) (en : En) (Q : Bool → Hp → Prop) : RM Bool → Prop
  | .ok b en' => ∀ H' Fs', Aft X.K H Fs σ en H' Fs' σ en' [] → Q b H'
  | .ex c en' => XM X W H Fs σ en c en'
  | .no => False
def MA (H : Hp) (Fs : Ft) (σ : L2.St) (en : En) (Q : List V → Hp → Prop) : RM (List T) → Prop
  | .ok xs en' => ∀ vs H' Fs' G, Aft X.K H Fs σ en H' Fs' σ en' G → Owns X.K H' vs xs G → Q vs H'
  | .ex c en' => XM X W H Fs σ en c en'
  | .no => False
def MI (H : Hp) (Fs : Ft) (σ : L2.St) (en : En) (Q : It → Hp → Prop) : RM (List T) → Prop
  | .ok xs en' => ∀ J H' Fs' G, Aft X.K H Fs σ en H' Fs' σ en' G → ItOk X.K G H' J xs → (∀ a ∈ G, H' a ≠ none) → Q J H'
  | .ex c en' => XM X W H Fs σ en c en'
  | .no => False
def SQ (H : Hp) (Fs : Ft) (σ : L2.St) (en : En) (D : Ends) : SR → Prop
  | .nx en' => ∀ H' Fs' σ', Aft X.K H Fs σ en H' Fs' σ' en' [] → D.nx σ' H'
  | .ret x en' => ∀ v H' Fs' σ' G, Aft X.K H Fs σ en H' Fs' σ' en' G → Own X.K H' v x G → D.rt v H'
  | .brk en' => ∀ H' Fs' σ', Aft X.K H Fs σ en H' Fs' σ' en' [] → D.bk σ' H'
  | .ct en' => ∀ H' Fs' σ', Aft X.K H Fs σ en H' Fs' σ' en' [] → D.ct σ' H'
  | .ex c en' => XM X W H Fs σ en c en'
  | .no => False
def SpM (m : En → RM T) (t : TE) : Prop := ∀ σ H en Fs Q, EOk X.K H σ en Fs → MQ X W H Fs σ en Q (m en) → t σ H Q
def SpMT (m : En → RM Bool) (t : TT) : Prop := ∀ σ H en Fs Q, EOk X.K H σ en Fs → MT X W H Fs σ en Q (m en) → t σ H Q
def SpMA (m : En → RM (List T)) (t : TA) : Prop := ∀ σ H en Fs Q, EOk X.K H σ en Fs → MA X W H Fs σ en Q (m en) → t σ H Q
def SpMI (m : En → RM (List T)) (t : TI) : Prop := ∀ σ H en Fs Q, EOk X.K H σ en Fs → MI X W H Fs σ en Q (m en) → t σ H Q
def SpS (f : En → SR) (t : TS) : Prop := ∀ σ H en Fs D, EOk X.K H σ en Fs → SQ X W H Fs σ en D (f en) → t D σ H
/-- an expression that may change the frame's lists: a value of our own; a test; arguments; what is walked; a statement; a block -/
def PM (e : Expr) (m : En → RM T) : Prop := ∃ t, PE X e t ∧ SpM X W m t
def PMT (e : Expr) (m : En → RM Bool) : Prop := ∃ t, PT X e t ∧ SpMT X W m t
def PMA (es : List Expr) (m : En → RM (List T)) : Prop := ∃ t, PA X es t ∧ SpMA X W m t
def PMI (tg e : Expr) (m : En → RM (List T)) : Prop := ∃ t, PI X tg e t ∧ SpMI X W m t
def PSt (st : Stmt) (f : En → SR) : Prop := ∃ t, PS X st t ∧ SpS X W f t
def PBl (st : List Stmt) (f : En → SR) : Prop := ∃ t, PSs X st t ∧ SpS X W f t
end
section
variable {X : Cx} {W : WX} {e c : Expr} {st : Stmt} {sts : List Stmt} {pos : Pos} {g : En → R T} {gc : En → R Bool} {m : En → RM T} {f h : En → SR} {mc : En → RM Bool}
theorem XQ.xm {H : Hp} {Fs : Ft} {σ : L2.St} {en : En} {c : Exc} (ok : EOk X.K H σ en Fs) (h : XM X W H Fs σ en c en) : XQ X W σ H c := fun cls dx H' s i => h cls dx H' Fs σ (.quiet ok s Fresh.nil) i
def lft {α : Type} (g : En → R α) : En → RM α := fun en => RM.of (g en) en
theorem PN.up (h : PN X W e g) : PM X W e (lft g) := by
  obtain ⟨t, p, s⟩ := h
  refine ⟨t, p, fun σ H en Fs Q ok q => s σ H en Q ok.ven ?_⟩
  unfold lft at q
  cases e : g en with
  | ok x => rw [e] at q; exact fun v H' G sm o fr => q v H' Fs G (.quiet ok sm fr) o
  | ex c => rw [e] at q; exact XQ.xm (W := W) ok q
  | no => rw [e] at q; exact q
theorem PC.up (h : PC X W c gc) : PMT X W c (lft gc) := by
  obtain ⟨t, p, s⟩ := h
  refine ⟨t, p, fun σ H en Fs Q ok q => s σ H en Q ok.ven ?_⟩
  unfold lft at q
  cases e : gc en with
  | ok x => rw [e] at q; exact fun H' sm => q H' Fs (.quiet ok sm Fresh.nil)
  | ex c => rw [e] at q; exact XQ.xm (W := W) ok q
  | no => rw [e] at q; exact q
theorem PIn.up {tg : Expr} {gi : En → R (List T)} (h : PIn X W tg e gi) : PMI X W tg e (lft gi) := by
  obtain ⟨t, p, s⟩ := h
  refine ⟨t, p, fun σ H en Fs Q ok q => s σ H en Q ok.ven ?_⟩
  unfold lft at q
  cases e : gi en with
  | ok x => rw [e] at q; exact fun J H' G sm o fr th => q J H' Fs G (.quiet ok sm fr) o th
  | ex c => rw [e] at q; exact XQ.xm (W := W) ok q
  | no => rw [e] at q; exact q
/-! ### blocks -/
def fNil : En → SR := fun en => .nx en
def fSeq (f h : En → SR) : En → SR := fun en => match f en with
  | .nx en' => h en'
  | r => r
theorem SQ.after {H H1 : Hp} {Fs Fs1 : Ft} {σ σ1 : L2.St} {en en1 : En} {D : Ends} {r : SR} (a : Aft X.K H Fs σ en H1 Fs1 σ1 en1 []) (q : SQ X W H Fs σ en D r) : SQ X W H1 Fs1 σ1 en1 D r := by
  cases r with
  | nx en' => exact fun H' Fs' σ' b => q H' Fs' σ' (a.trans b)
  | ret x en' => exact fun v H' Fs' σ' G b o => q v H' Fs' σ' G (a.trans b) o
  | brk en' => exact fun H' Fs' σ' b => q H' Fs' σ' (a.trans b)
  | ct en' => exact fun H' Fs' σ' b => q H' Fs' σ' (a.trans b)
  | ex c en' => exact fun cls dx H' Fs' σ' b i => q cls dx H' Fs' σ' (a.trans b) i
  | no => exact q
theorem b_nil : PBl X W [] fNil := ⟨_, pss_nil, fun σ H en Fs D ok q => q H Fs σ (.refl ok)⟩
theorem b_cons (h1 : PSt X W st f) (h2 : PBl X W sts h) : PBl X W (st :: sts) (fSeq f h) := by
  obtain ⟨t, p, s⟩ := h1
  obtain ⟨t2, p2, s2⟩ := h2
  refine ⟨_, pss_cons p p2, fun σ H en Fs D ok q => s σ H en Fs _ ok ?_⟩
  unfold fSeq at q
  cases e : f en with
  | nx en' => rw [e] at q; exact fun H' Fs' σ' a => s2 σ' H' en' Fs' D a.ok (SQ.after (X := X) (W := W) a q)
  | ret x en' => rw [e] at q; exact q
  | brk en' => rw [e] at q; exact q
  | ct en' => rw [e] at q; exact q
  | ex c en' => rw [e] at q; exact q
  | no => rw [e] at q; exact q
theorem b_one (h1 : PSt X W st f) : PBl X W [st] f := let ⟨t, p, s⟩ := h1; ⟨t, pss_one p, s⟩
theorem s_pass : PSt X W (.Pass pos) fNil := ⟨_, ps_pass, fun σ H en Fs D ok q => q H Fs σ (.refl ok)⟩
theorem s_break : PSt X W (.Break pos) (fun en => .brk en) := ⟨_, ps_break, fun σ H en Fs D ok q => q H Fs σ (.refl ok)⟩
theorem s_cont : PSt X W (.Continue pos) (fun en => .ct en) := ⟨_, ps_continue, fun σ H en Fs D ok q => q H Fs σ (.refl ok)⟩
def fExpr (m : En → RM T) : En → SR := fun en => (m en).s fun _ en' => .nx en'
def fRet (m : En → RM T) : En → SR := fun en => (m en).s fun x en' => .ret x en'
/-- what is left aside is forgotten -/
theorem Aft.drop {K : PySem.W.Frag} {H H1 : Hp} {Fs Fs1 : Ft} {σ σ1 : L2.St} {en en1 : En} {G : List Addr} (a : Aft K H Fs σ en H1 Fs1 σ1 en1 G) : Aft K H Fs σ en H1 Fs1 σ1 en1 [] :=
  ⟨a.ok, List.nodup_nil, fun _ m => absurd m List.not_mem_nil, a.stp.imp (fun _ z => z.elim .inl fun y => absurd y List.not_mem_nil) (fun _ z => z.elim .inl fun y => absurd y List.not_mem_nil), a.bk⟩
theorem s_expr (h : PM X W e m) (hs : swapsWith e none pos.line X.env = pure false := by rfl) : PSt X W (.Expr e pos) (fExpr m) := by
  obtain ⟨t, p, s⟩ := h
  refine ⟨_, ps_expr p hs, fun σ H en Fs D ok q => s σ H en Fs _ ok ?_⟩
  unfold fExpr at q
  cases e : m en with
  | ok x en' => rw [e] at q; exact fun v H' Fs' G a _ => q H' Fs' σ a.drop
  | ex c en' => rw [e] at q; exact q
  | no => rw [e] at q; exact q
theorem s_ret (h : PM X W e m) : PSt X W (.Return (some e) pos) (fRet m) := by
  obtain ⟨t, p, s⟩ := h
  refine ⟨_, ps_ret p, fun σ H en Fs D ok q => s σ H en Fs _ ok ?_⟩
  unfold fRet at q
  cases e : m en with
  | ok x en' => rw [e] at q; exact fun v H' Fs' G a o => q v H' Fs' σ G a o
  | ex c en' => rw [e] at q; exact q
  | no => rw [e] at q; exact q
theorem s_retN : PSt X W (.Return none pos) (fun en => .ret (.d .non) en) := ⟨_, ps_retN, fun σ H en Fs D ok q => q .non H Fs σ [] (.refl ok) (.d .non)⟩
def fIf (c : En → RM Bool) (f h : En → SR) : En → SR := fun en => (c en).s fun b en' => if b = true then f en' else h en'
theorem s_if {a b : List Stmt} (hc : PMT X W c mc) (ha : PBl X W a f) (hb : PBl X W b h) : PSt X W (.If c a b pos) (fIf mc f h) := by
  obtain ⟨t, p, s⟩ := hc
  obtain ⟨t1, p1, s1⟩ := ha
  obtain ⟨t2, p2, s2⟩ := hb
  refine ⟨_, ps_if p p1 p2, fun σ H en Fs D ok q => s σ H en Fs _ ok ?_⟩
  unfold fIf at q
  cases e : mc en with
  | ok k en' =>
    rw [e] at q
    intro H' Fs' a
    simp only [RM.s_ok] at q
    cases k with
    | true => exact iteT (s1 σ H' en' Fs' D a.ok (SQ.after (X := X) (W := W) a q))
    | false => exact iteF (s2 σ H' en' Fs' D a.ok (SQ.after (X := X) (W := W) a q))
  | ex c en' => rw [e] at q; exact q
  | no => rw [e] at q; exact q
end
end Z
/-! Z: stores, loops. -/
namespace Z
open PySem PySem.Spec L2
open PyProof.Rows hiding St

/-- what the rules of a body ask of where they stand -/
structure Cz (X : Cx) (W : WX) : Prop where
  tk : Takes X W
  hp : PassesOwn (model X.prog X.w) X.A X.env X.xe
  calm : X.calm = true
  nd : X.N.Nodup
def stow (en : En) (i : Nat) (s : Sl) : Option En := match en[i]? with
  | some (.b _) => none
  | some _ => some (en.set i s)
  | none => none
theorem stow_ok {en en' : En} {i : Nat} {s : Sl} (h : stow en i s = some en') : i < en.length ∧ en' = en.set i s ∧ ∀ x, en[i]? ≠ some (.b x) := by
  unfold stow at h
  cases e : en[i]? with
  | none => rw [e] at h; cases h
  | some y =>
    rw [e] at h
    obtain ⟨hl, _⟩ := List.getElem?_eq_some_iff.mp e
    cases y <;> first | (cases h; done) | (cases h; exact ⟨hl, rfl, fun x z => by cases z⟩)
def updF (Fs : Ft) (i : Nat) (G : List Addr) : Ft := fun j => if j = i then G else Fs j
theorem updF_same {Fs : Ft} {i : Nat} {G : List Addr} : updF Fs i G i = G := if_pos rfl
theorem updF_ne {Fs : Ft} {i j : Nat} {G : List Addr} (h : j ≠ i) : updF Fs i G j = Fs j := if_neg h
theorem ownAt_set {en : En} {i j : Nat} {s : Sl} (h : j ≠ i) : ownAt (en.set i s) j = ownAt en j := by unfold ownAt; rw [List.getElem?_set_ne (Ne.symm h)]
theorem at_set {en : En} {i j : Nat} {s : Sl} (h : j ≠ i) : at_ (en.set i s) j = at_ en j := by unfold at_; rw [List.getElem?_set_ne (Ne.symm h)]
theorem at_set_same {en : En} {i : Nat} {s : Sl} (h : i < en.length) : at_ (en.set i s) i = s.get := by unfold at_; rw [List.getElem?_set_self h]
theorem own_at {en : En} {i : Nat} {x : T} (h : ownAt en i = some x) : at_ en i = some x := by
  unfold ownAt at h
  unfold at_
  cases e : en[i]? with
  | none => rw [e] at h; cases h
  | some s => rw [e] at h; cases s <;> first | (cases h; done) | exact h
theorem Own.rep {K : PySem.W.Frag} {H : Hp} {v : V} {d : D} {F : List Addr} (h : Own K H v (.d d) F) : RepD K H v d := by cases h with | d r => exact r
theorem Own.dnil {K : PySem.W.Frag} {H : Hp} {v : V} {d : D} {F : List Addr} (h : Own K H v (.d d) F) : F = [] := by cases h with | d r => rfl
/-- a thing of our own, or one that is seen, put at a name -/
theorem Aft.put {K : PySem.W.Frag} {H H1 : Hp} {Fs Fs1 : Ft} {σ σ1 : L2.St} {en en1 en2 : En} {F G : List Addr} {i : Nat} {v : V} {x : T} {s : Sl} (a : Aft K H Fs σ en H1 Fs1 σ1 en1 G) (o : Own K H1 v x F) (hp : stow en1 i s = some en2) (hs : s.get = some x)
    (hs2 : ∀ y, s ≠ .b y) (hF : (F.Nodup ∧ (∀ c ∈ F, ¬ InF Fs1 c) ∧ ∀ c ∈ F, H c = none ∨ InO en Fs c) ∨ ((∀ y, s ≠ .v y) ∧ (∀ c ∈ F, ¬ InO en1 Fs1 c) ∧ ∀ c ∈ F, InF Fs c ∨ H c = none)) (hG : ∀ c ∈ F, c ∉ G) : Aft K H Fs σ en H1 (updF Fs1 i F) (σ1.set i (some v)) en2 G := by
  obtain ⟨hl, rfl, hb⟩ := stow_ok hp
  have hσ := a.ok.len
  have sub : ∀ {c j}, c ∈ updF Fs1 i F j → (j = i ∧ c ∈ F) ∨ (j ≠ i ∧ c ∈ Fs1 j) := fun {c j} m => by
    by_cases e : j = i
    · subst e; rw [updF_same] at m; exact .inl ⟨rfl, m⟩
    · rw [updF_ne e] at m; exact .inr ⟨e, m⟩
  have own_i : ownAt (en1.set i s) i ≠ none → ∃ y, s = .v y := fun h => by
    unfold ownAt at h
    rw [List.getElem?_set_self hl] at h
    cases s with
    | v y => exact ⟨y, rfl⟩
    | b y => exact absurd rfl (hs2 y)
    | n => exact absurd rfl h
    | w y => exact absurd rfl h
  refine ⟨⟨by rw [List.length_set, List.length_set]; exact hσ, fun j y e => ?_, fun j h => ?_, fun j l c ne h m => ?_, fun j e => ?_⟩, a.nod, fun c m z => ?_, ⟨a.stp.pst, a.stp.keep, a.stp.dom, fun c m => ?_, fun c m => ?_⟩, fun j y e => ?_⟩
  · by_cases hj : j = i
    · subst hj
      rw [at_set_same hl, hs] at e; cases e
      exact ⟨v, List.getElem?_set_self (by omega), by rw [updF_same]; exact o⟩
    · rw [at_set hj] at e
      obtain ⟨w, h1, h2⟩ := a.ok.has j y e
      exact ⟨w, by rw [List.getElem?_set_ne (Ne.symm hj)]; exact h1, by rw [updF_ne hj]; exact h2⟩
  · by_cases hj : j = i
    · subst hj
      rw [updF_same]
      rcases hF with hF | hF
      · exact hF.1
      · obtain ⟨y, e⟩ := own_i h; exact absurd e (hF.1 y)
    · rw [updF_ne hj]; rw [ownAt_set hj] at h; exact a.ok.nod j h
  · by_cases hj : j = i
    · subst hj
      rw [updF_same] at m
      rw [updF_ne (Ne.symm ne)]
      rcases hF with hF | hF
      · exact fun z => hF.2.1 c m ⟨l, z⟩
      · obtain ⟨y, e⟩ := own_i h; exact absurd e (hF.1 y)
    · rw [updF_ne hj] at m
      rw [ownAt_set hj] at h
      by_cases hl' : l = i
      · subst hl'
        rw [updF_same]
        rcases hF with hF | hF
        · exact fun z => hF.2.1 c z ⟨j, m⟩
        · exact fun z => hF.2.1 c z ⟨j, h, m⟩
      · rw [updF_ne hl']
        exact a.ok.dis j l c ne h m
  · by_cases hj : j = i
    · subst hj
      rw [at_set_same hl, hs] at e; cases e
    · rw [updF_ne hj]; rw [at_set hj] at e; exact a.ok.emp j e
  · obtain ⟨j, z⟩ := z
    rcases sub z with ⟨_, z⟩ | ⟨_, z⟩
    · exact hG c z m
    · exact a.dis c m ⟨j, z⟩
  · rcases m with ⟨j, h, m⟩ | m
    · rcases sub m with ⟨e, m2⟩ | ⟨e, m2⟩
      · rw [e] at h
        rcases hF with hF | hF
        · exact (hF.2.2 c m2).symm
        · obtain ⟨y, e⟩ := own_i h; exact absurd e (hF.1 y)
      · rw [ownAt_set e] at h
        exact a.stp.subO c (.inl ⟨j, h, m2⟩)
    · exact a.stp.subO c (.inr m)
  · rcases m with ⟨j, m⟩ | m
    · rcases sub m with ⟨e, m⟩ | ⟨e, m⟩
      · rcases hF with hF | hF
        · exact (hF.2.2 c m).elim .inr fun z => .inl z.a
        · exact hF.2.2 c m
      · exact a.stp.subA c (.inl ⟨j, m⟩)
    · exact a.stp.subA c (.inr m)
  · by_cases hj : j = i
    · subst hj
      rw [List.getElem?_set_self hl] at e
      exact absurd (Option.some.inj e) (hs2 y)
    · rw [List.getElem?_set_ne (Ne.symm hj)] at e
      obtain ⟨h1, h2⟩ := a.bk j y e
      exact ⟨h1, by rw [List.getElem?_set_ne (Ne.symm hj)]; exact h2⟩
/-- .. of what a step left aside -/
theorem Aft.keep {K : PySem.W.Frag} {H H1 : Hp} {Fs Fs1 : Ft} {σ σ1 : L2.St} {en en1 en2 : En} {F : List Addr} {i : Nat} {v : V} {x : T} (a : Aft K H Fs σ en H1 Fs1 σ1 en1 F) (o : Own K H1 v x F) (hp : stow en1 i (.v x) = some en2) : Aft K H Fs σ en H1 (updF Fs1 i F) (σ1.set i (some v)) en2 [] :=
  a.drop.put o hp rfl (fun _ z => by cases z) (.inl ⟨a.nod, a.dis, fun c m => (a.stp.subO c (.inr m)).symm⟩) fun _ _ m => absurd m List.not_mem_nil
section
variable {X : Cx} {W : WX} {e c : Expr} {st : Stmt} {sts : List Stmt} {pos : Pos} {m : En → RM T} {f h : En → SR} {mc : En → RM Bool}
def toS : Option En → SR
  | some en => .nx en
  | none => .no
def fSet (i : Nat) (m : En → RM T) : En → SR := fun en => (m en).s fun x en' => toS (stow en' i (.v x))
theorem sp_set {i : Nat} {t : TE} (s : SpM X W m t) : SpS X W (fSet i m) (tAsg t (gName i)) := by
  intro σ H en Fs D ok q
  refine s σ H en Fs _ ok ?_
  unfold fSet at q
  cases e : m en with
  | ok x en' =>
    rw [e] at q
    simp only [RM.s_ok] at q
    intro v H' Fs' G a o
    cases ep : stow en' i (.v x) with
    | none => rw [ep] at q; exact q.elim
    | some en2 => rw [ep] at q; exact q H' _ _ (a.keep o ep)
  | ex c en' => rw [e] at q; exact q
  | no => rw [e] at q; exact q
theorem s_set (i : Nat) {x : Str} {p : Pos} (cz : Cz X W) (h : PM X W e m) (hi : X.N[i]? = some x := by rfl) (hx : Loc X.env.scope x := by first | exact .inl rfl | exact .inr rfl) (hs : swapsWith e (some (.Name x p)) pos.line X.env = pure false := by rfl) (hf : X.fn x = true ∨ X.env.scope.names.lookup x = some .local := by first | exact .inl rfl | exact .inr rfl) :
    PSt X W (.Assign [.Name x p] e pos) (fSet i m) := by
  obtain ⟨t, pp, s⟩ := h
  exact ⟨_, ps_set cz.nd hi hx pp hs hf, sp_set s⟩
/-- many names -/
def stowD (en : En) : Ass → Option En
  | [] => some en
  | (i, .d d) :: r => (stow en i (.v (.d d))).bind fun en' => stowD en' r
  | (_, .l _) :: _ => none
theorem Aft.putD {K : PySem.W.Frag} {H H1 : Hp} {Fs : Ft} {σ : L2.St} {en : En} {G F : List Addr} : ∀ {as : Ass} {vs : List (Nat × V)} {Fs1 : Ft} {σ1 : L2.St} {en1 en2 : En}, Aft K H Fs σ en H1 Fs1 σ1 en1 G → AsOk K H1 F vs as → stowD en1 as = some en2 → ∃ Fs2, Aft K H Fs σ en H1 Fs2 (setS σ1 vs) en2 G
  | [], _, _, _, _, _, a, .nil, h => by cases h; exact ⟨_, a⟩
  | (i, .d d) :: r, _, _, σ1, _, _, a, .cons (v := v) (r := r') o _ t, h => by
    obtain ⟨en', h1, h2⟩ := Option.bind_eq_some_iff.mp h
    cases o with
    | d r => exact Aft.putD (vs := r') (σ1 := σ1.set i (some v)) (a.put (.d r) h1 rfl (fun _ z => by cases z) (.inl ⟨List.nodup_nil, fun _ m => absurd m List.not_mem_nil, fun _ m => absurd m List.not_mem_nil⟩) fun _ m => absurd m List.not_mem_nil) t h2
  | (_, .l _) :: _, _, _, _, _, _, _, _, h => by cases h
def fAsg (k : T → Option Ass) (m : En → RM T) : En → SR := fun en => (m en).s fun x en' => toS ((k x).bind fun as => stowD en' as)
theorem s_asg {tg : Expr} {k : T → Option Ass} (h : PM X W e m) (hg : PTg X tg k) (hs : swapsWithSole [tg] e pos.line X.env = pure false := by rfl) (hw : swappedStores [tg] e X.env = pure none := by rfl)
    (h1 : (assignEach [tg] X.env).map (·.2) = [assign tg X.env] := by rfl) : PSt X W (.Assign [tg] e pos) (fAsg k m) := by
  obtain ⟨t, pp, s⟩ := h
  refine ⟨_, ps_asg pp hg hs hw h1, fun σ H en Fs D ok q => s σ H en Fs _ ok ?_⟩
  unfold fAsg at q
  cases e : m en with
  | ok x en' =>
    rw [e] at q
    simp only [RM.s_ok] at q
    intro v H' Fs' G a o
    cases ek : k x with
    | none => rw [ek] at q; exact q.elim
    | some as =>
      rw [ek] at q
      simp only [Option.bind_some] at q
      cases ep : stowD en' as with
      | none => rw [ep] at q; exact q.elim
      | some en2 =>
        rw [ep] at q
        refine ⟨x, G, as, o, ek, fun vs aok => ?_⟩
        obtain ⟨Fs2, a2⟩ := a.drop.putD aok ep
        exact q H' Fs2 _ a2
  | ex c en' => rw [e] at q; exact q
  | no => rw [e] at q; exact q
/-- a, b = x, y -/
def fPar (i j : Nat) (m : En → RM (List T)) : En → SR := fun en => (m en).s fun xs en' => match xs with
  | [.d a, .d b] => toS (stowD en' [(i, .d a), (j, .d b)])
  | _ => .no
theorem s_par (i j : Nat) {x y : Str} {a b : Expr} {px py pt : Pos} {kt k2 pt2} {ma : En → RM (List T)} (cz : Cz X W) (h : PMA X W [a, b] ma) (hi : X.N[i]? = some x := by rfl) (hj : X.N[j]? = some y := by rfl) (hij : i ≠ j := by decide) (hx : X.env.scope.names.lookup x = some .local := by rfl) (hy : X.env.scope.names.lookup y = some .local := by rfl)
    (hw : swappedStores [.Tuple [.Name x px, .Name y py] kt pt] (.Tuple [a, b] k2 pt2) X.env = pure (some [x, y]) := by rfl) (hs : swapsWithSole [.Tuple [.Name x px, .Name y py] kt pt] (.Tuple [a, b] k2 pt2) pos.line X.env = pure false := by rfl) :
    PSt X W (.Assign [.Tuple [.Name x px, .Name y py] kt pt] (.Tuple [a, b] k2 pt2) pos) (fPar i j ma) := by
  obtain ⟨t, pp, s⟩ := h
  refine ⟨_, ps_par cz.calm cz.nd hi hj hij hx hy pp hw hs, fun σ H en Fs D ok q => s σ H en Fs _ ok ?_⟩
  unfold fPar at q
  cases e : ma en with
  | ok xs en' =>
    rw [e] at q
    simp only [RM.s_ok] at q
    intro vs H' Fs' G a o
    split at q
    · rename_i a' b'
      cases ep : stowD en' [(i, .d a'), (j, .d b')] with
      | none => rw [ep] at q; exact q.elim
      | some en2 =>
        rw [ep] at q
        cases o with
        | cons o1 o =>
          cases o with
          | cons o2 o =>
            cases o
            cases o1 with
            | d r1 =>
              cases o2 with
              | d r2 =>
                obtain ⟨Fs2, a2⟩ := a.drop.putD (F := []) (.cons (.d r1) (fun _ m => m) (.cons (.d r2) (fun _ m => m) .nil)) ep
                exact ⟨_, _, rfl, q H' Fs2 _ a2⟩
    · exact q.elim
  | ex c en' => rw [e] at q; exact q
  | no => rw [e] at q; exact q
/-! ### name op= e -/
structure Ib (X : Cx) (op : Operator) (f : T → T → Option T) : Prop where
  p : ∃ r, OpR X (inplaceOp op) r ∧ Q2 X.K r f
def datAt (en : En) (i : Nat) : R T := (R.of (at_ en i)).pur
def fAug (i : Nat) (op : T → T → Option T) (m : En → RM T) : En → SR := fun en => match datAt en i with
  | .ok x => (m en).s fun y en' => match op x y with
    | some z => toS (stow en' i (.v z))
    | none => .no
  | _ => .no
theorem datAt_ok {en : En} {i : Nat} {x : T} (h : datAt en i = .ok x) : ∃ d, x = .d d ∧ at_ en i = some (.d d) := by
  unfold datAt at h
  cases e : at_ en i with
  | none => rw [e] at h; cases h
  | some y =>
    rw [e] at h
    cases y with
    | d d => cases h; exact ⟨d, rfl, rfl⟩
    | l xs => cases h
/-- behind a step that left something aside, a quiet one -/
theorem Aft.fin {K : PySem.W.Frag} {H H1 H2 : Hp} {Fs Fs1 : Ft} {σ σ1 : L2.St} {en en1 : En} {F G : List Addr} (a : Aft K H Fs σ en H1 Fs1 σ1 en1 F) (s : Same H1 H2) (f : Fresh H1 G) : Aft K H Fs σ en H2 Fs1 σ1 en1 G := a.drop.trans (.quiet a.ok s f)
theorem s_aug (i : Nat) {x : Str} {p : Pos} {op : Operator} {fo : T → T → Option T} (cz : Cz X W) (ob : Ib X op fo) (h : PM X W e m) (hi : X.N[i]? = some x := by rfl) (hx : Loc X.env.scope x := by first | exact .inl rfl | exact .inr rfl) (hf : X.fn x = true ∨ X.env.scope.names.lookup x = some .local := by first | exact .inl rfl | exact .inr rfl) :
    PSt X W (.AugAssign (.Name x p) op e pos) (fAug i fo m) := by
  obtain ⟨t, pp, s⟩ := h
  obtain ⟨r, ho, qq⟩ := ob.p
  refine ⟨_, ps_aug (ti := r) cz.nd hi hx pp ho hf, fun σ H en Fs D ok q => ?_⟩
  unfold fAug at q
  cases ed : datAt en i with
  | ex c => rw [ed] at q; exact q.elim
  | no => rw [ed] at q; exact q.elim
  | ok x0 =>
    rw [ed] at q
    obtain ⟨d, rfl, hd⟩ := datAt_ok ed
    obtain ⟨v, h1, h2⟩ := ok.has i _ hd
    have h2 : RepD X.K H v d := h2.rep
    refine ⟨v, h1, s σ H en Fs _ ok ?_⟩
    cases e : m en with
    | ok y en' =>
      rw [e] at q
      simp only [RM.s_ok] at q
      intro v2 H' Fs' G a o
      cases ef : fo (.d d) y with
      | none => rw [ef] at q; exact q.elim
      | some z =>
        rw [ef] at q
        simp only at q
        cases ep : stow en' i (.v z) with
        | none => rw [ep] at q; exact q.elim
        | some en2 =>
          rw [ep] at q
          exact qq H' (.d d) y z v v2 [] G _ (.d (h2.mono a.stp.pst)) o ef fun v3 H3 G3 s3 o3 f3 => q H3 _ _ ((a.fin s3 f3).keep o3 ep)
    | ex c en' => rw [e] at q; exact q
    | no => rw [e] at q; exact q
/-! ### for -/
/-- a thing of what is walked, put at a name -/
def stows (en : En) : Ass → Option En
  | [] => some en
  | (i, x) :: r => (stow en i (mkS x)).bind fun en' => stows en' r
theorem mkS_b (x y : T) : mkS x ≠ .b y := by cases x <;> exact fun z => by cases z
theorem Aft.puts {K : PySem.W.Frag} {H H1 : Hp} {Fs : Ft} {σ : L2.St} {en : En} {G : List Addr} : ∀ {as : Ass} {vs : List (Nat × V)} {Fs1 : Ft} {σ1 : L2.St} {en1 en2 : En}, Aft K H Fs σ en H1 Fs1 σ1 en1 [] → AsOk K H1 G vs as → (∀ c ∈ G, ¬ InO en1 Fs1 c) → (∀ c ∈ G, InF Fs c ∨ H c = none) → stows en1 as = some en2 →
    ∃ Fs2, Aft K H Fs σ en H1 Fs2 (setS σ1 vs) en2 [] ∧ ∀ c, InO en2 Fs2 c → InO en1 Fs1 c
  | [], _, _, _, _, _, a, .nil, hG, _, h => by cases h; exact ⟨_, a, fun _ z => z⟩
  | (i, x) :: r, _, Fs1, σ1, en1, _, a, .cons (v := v) (r := r') (F := F) o m t, hG, hG2, h => by
    obtain ⟨en', h1, h2⟩ := Option.bind_eq_some_iff.mp h
    have case : (F.Nodup ∧ (∀ c ∈ F, ¬ InF Fs1 c) ∧ ∀ c ∈ F, H c = none ∨ InO en Fs c) ∨ ((∀ y, mkS x ≠ .v y) ∧ (∀ c ∈ F, ¬ InO en1 Fs1 c) ∧ ∀ c ∈ F, InF Fs c ∨ H c = none) := by
      cases x with
      | d d => cases o with | d r => exact .inl ⟨List.nodup_nil, fun _ m => absurd m List.not_mem_nil, fun _ m => absurd m List.not_mem_nil⟩
      | l xs => exact .inr ⟨fun y z => (by cases z), fun c n => hG c (m c n), fun c n => hG2 c (m c n)⟩
    have a2 := a.put o h1 (mkS_get x) (mkS_b x) case fun _ _ m => absurd m List.not_mem_nil
    have back : ∀ c, InO en' (updF Fs1 i F) c → InO en1 Fs1 c := fun c z => by
      obtain ⟨j, z1, z2⟩ := z
      obtain ⟨hl, e2, _⟩ := stow_ok h1
      subst e2
      by_cases hj : j = i
      · subst hj
        rw [updF_same] at z2
        cases x with
        | d d => rw [o.dnil] at z2; cases z2
        | l xs =>
          unfold ownAt at z1
          rw [List.getElem?_set_self hl] at z1
          exact absurd rfl z1
      · rw [updF_ne hj] at z2
        rw [ownAt_set hj] at z1
        exact ⟨j, z1, z2⟩
    obtain ⟨Fs2, a3, b3⟩ := Aft.puts (vs := r') (σ1 := σ1.set i (some v)) a2 t (fun c n z => hG c n (back c z)) hG2 h2
    exact ⟨Fs2, a3, fun c z => back c (b3 c z)⟩
def forE (k : T → Option Ass) (f : En → SR) : List T → En → SR
  | [], en => .nx en
  | x :: xs, en => match (k x).bind fun as => stows en as with
    | none => .no
    | some en1 => match f en1 with
      | .nx en2 => forE k f xs en2
      | .ct en2 => forE k f xs en2
      | .brk en2 => .nx en2
      | r => r
def fFor (k : T → Option Ass) (mi : En → RM (List T)) (f : En → SR) : En → SR := fun en => (mi en).s fun xs en' => forE k f xs en'
/-- what is left of a loop -/
abbrev forQ (K : PySem.W.Frag) (k : T → Option Ass) (tb : TS) (D : Ends) (σ : L2.St) : It → Hp → Prop := fun J H1 => ∃ W' : Nat → Nat → L2.St → Hp → Prop, (∃ n, W' 0 n σ H1) ∧ ∀ i n σ H, W' i n σ H →
  (J.stop i H ∧ D.nx σ H) ∨ (J.go i H ∧ ∃ N : L2.St → Hp → Prop, (∀ σ' H', N σ' H' → ∃ n', n' < n ∧ W' (i + 1) n' σ' H') ∧ ∀ x H', J.yld i H x H' → tgt K k x σ H' fun σ2 H2 => tb { D with nx := N, ct := N, bk := D.nx } σ2 H2)
/-- the loop, from where what is walked has come -/
theorem sp_for {k : T → Option Ass} {tb : TS} (s : SpS X W f tb) {σ0 σ : L2.St} {H0 H1 : Hp} {en0 en : En} {Fs0 Fs : Ft} {D : Ends} {J : It} {xs : List T} {G : List Addr} (a : Aft X.K H0 Fs0 σ0 en0 H1 Fs σ en []) (iok : ItOk X.K G H1 J xs) (tG : ∀ c ∈ G, H1 c ≠ none) (hG : ∀ c ∈ G, ¬ InO en Fs c) (hG2 : ∀ c ∈ G, InF Fs0 c ∨ H0 c = none) (q : SQ X W H0 Fs0 σ0 en0 D (forE k f xs en)) :
    forQ X.K k tb D σ J H1 := by
  refine ⟨fun i n σ H => n = xs.length - i ∧ i ≤ xs.length ∧ ∃ en Fs, Aft X.K H0 Fs0 σ0 en0 H Fs σ en [] ∧ Kept G H1 H ∧ (∀ c ∈ G, ¬ InO en Fs c) ∧ SQ X W H0 Fs0 σ0 en0 D (forE k f (xs.drop i) en),
    ⟨xs.length, by simp, Nat.zero_le _, en, Fs, a, .of (Same.refl _), hG, by rw [List.drop_zero]; exact q⟩, ?_⟩
  rintro i n σ1 H ⟨rfl, hi, en1, Fs1, a1, kp, hG1, q1⟩
  by_cases hlt : i < xs.length
  · refine .inr ⟨iok.goes i H hlt kp, fun σ' H' => ∃ en' Fs', Aft X.K H0 Fs0 σ0 en0 H' Fs' σ' en' [] ∧ Kept G H1 H' ∧ (∀ c ∈ G, ¬ InO en' Fs' c) ∧ SQ X W H0 Fs0 σ0 en0 D (forE k f (xs.drop (i + 1)) en'), fun σ' H' h => ⟨xs.length - (i + 1), by omega, rfl, hlt, h⟩, fun v H' y => ?_⟩
    obtain ⟨s5, x, F, hx, ox, hF⟩ := iok.yields i H v H' hlt kp y
    have hd : xs.drop i = x :: xs.drop (i + 1) := by
      rw [List.drop_eq_getElem_cons hlt]
      rw [List.getElem?_eq_getElem hlt] at hx
      rw [Option.some.inj hx]
    rw [hd] at q1
    unfold forE at q1
    have a2 : Aft X.K H0 Fs0 σ0 en0 H' Fs1 σ1 en1 [] := a1.trans (.quiet a1.ok s5 Fresh.nil)
    have kp2 : Kept G H1 H' := kp.trans (.of s5)
    cases ek : k x with
    | none => rw [ek] at q1; exact q1.elim
    | some as =>
      rw [ek] at q1
      simp only [Option.bind_some] at q1
      cases ep : stows en1 as with
      | none => rw [ep] at q1; exact q1.elim
      | some en2 =>
        rw [ep] at q1
        simp only at q1
        refine ⟨x, F, as, ox, ek, fun ws aok => ?_⟩
        obtain ⟨Fs2, a3, hG3⟩ := a2.puts aok (fun c m => hG1 c (hF c m)) (fun c m => hG2 c (hF c m)) ep
        have hG4 : ∀ c ∈ G, ¬ InO en2 Fs2 c := fun c m z => hG1 c m (hG3 c z)
        have tG3 : ∀ c ∈ G, H' c ≠ none := fun c m z => by
          cases e1 : H1 c with
          | none => exact tG c m e1
          | some o => rw [kp2.2 c m o e1] at z; cases z
        -- behind the body
        have fin : ∀ {H4 : Hp} {Fs4 : Ft} {σ4 : L2.St} {en4 : En}, Aft X.K H' Fs2 (setS σ1 ws) en2 H4 Fs4 σ4 en4 [] → Aft X.K H0 Fs0 σ0 en0 H4 Fs4 σ4 en4 [] ∧ Kept G H1 H4 ∧ ∀ c ∈ G, ¬ InO en4 Fs4 c := fun {H4 Fs4 σ4 en4} b =>
          ⟨a3.trans b, kp2.trans ⟨b.stp.pst, fun c m o e => b.stp.keep c o e (hG4 c m)⟩, fun c m z => (b.stp.subO c (.inl z)).elim (hG4 c m) (tG3 c m)⟩
        refine s _ H' en2 Fs2 _ a3.ok ?_
        cases ef : f en2 with
        | nx en' =>
          rw [ef] at q1
          exact fun H4 Fs4 σ4 b => let ⟨b1, b2, b3⟩ := fin b; ⟨en', Fs4, b1, b2, b3, q1⟩
        | ct en' =>
          rw [ef] at q1
          exact fun H4 Fs4 σ4 b => let ⟨b1, b2, b3⟩ := fin b; ⟨en', Fs4, b1, b2, b3, q1⟩
        | brk en' =>
          rw [ef] at q1
          exact fun H4 Fs4 σ4 b => q1 H4 Fs4 σ4 (fin b).1
        | ret x en' =>
          rw [ef] at q1
          exact fun v H4 Fs4 σ4 G b o => q1 v H4 Fs4 σ4 G (a3.trans b) o
        | ex c en' =>
          rw [ef] at q1
          exact fun cls dx H4 Fs4 σ4 b i => q1 cls dx H4 Fs4 σ4 (a3.trans b) i
        | no => rw [ef] at q1; exact q1.elim
  · have e : i = xs.length := by omega
    subst e
    rw [List.drop_length] at q1
    exact .inl ⟨iok.stops H kp, q1 H Fs1 σ1 a1⟩
theorem s_for {tg it : Expr} {body : List Stmt} {k : T → Option Ass} {mi : En → RM (List T)} (cz : Cz X W) (hi : PMI X W tg it mi) (hg : PTg X tg k) (hb : PBl X W body f) (hs : ∀ x, foldedSetIterable it X.env x = pure x := by intro _; rfl) : PSt X W (.For tg it body [] pos) (fFor k mi f) := by
  obtain ⟨t, p, s⟩ := hi
  obtain ⟨t2, p2, s2⟩ := hb
  refine ⟨_, ps_for cz.hp cz.calm p hg p2 hs, fun σ H en Fs D ok q => s σ H en Fs _ ok ?_⟩
  unfold fFor at q
  cases e : mi en with
  | ok xs en' =>
    rw [e] at q
    simp only [RM.s_ok] at q
    exact fun J H' Fs' G a iok tG => sp_for s2 a.drop iok tG (fun c m z => a.dis c m z.a) (fun c m => a.stp.subA c (.inr m)) q
  | ex c en' => rw [e] at q; exact q
  | no => rw [e] at q; exact q
/-- over a name's list: it is seen from then on -/
def weak (en : En) (i : Nat) : En := match en[i]? with
  | some (.v (.l xs)) => en.set i (.w (.l xs))
  | _ => en
/-- what is ours is seen from now on -/
theorem Aft.weak {K : PySem.W.Frag} {H H1 : Hp} {Fs Fs1 : Ft} {σ σ1 : L2.St} {en en1 : En} {G : List Addr} (a : Aft K H Fs σ en H1 Fs1 σ1 en1 G) (i : Nat) : Aft K H Fs σ en H1 Fs1 σ1 (weak en1 i) G := by
  unfold Z.weak
  cases e : en1[i]? with
  | none => exact a
  | some y =>
    cases y with
    | v x =>
      cases x with
      | d d => exact a
      | l xs =>
        obtain ⟨hl, _⟩ := List.getElem?_eq_some_iff.mp e
        have same : ∀ j, at_ (en1.set i (.w (.l xs))) j = at_ en1 j := fun j => by
          by_cases hj : j = i
          · subst hj; rw [at_set_same hl]; unfold at_; rw [e]; rfl
          · exact at_set hj
        have own : ∀ j, ownAt (en1.set i (.w (.l xs))) j ≠ none → ownAt en1 j ≠ none := fun j h => by
          by_cases hj : j = i
          · subst hj; unfold ownAt at h; rw [List.getElem?_set_self hl] at h; exact absurd rfl h
          · rwa [ownAt_set hj] at h
        show Aft K H Fs σ en H1 Fs1 σ1 (en1.set i (.w (.l xs))) G
        refine ⟨⟨by rw [List.length_set]; exact a.ok.len, fun j y h => a.ok.has j y (by rw [← same j]; exact h), fun j h => a.ok.nod j (own j h), fun j l c ne h m => a.ok.dis j l c ne (own j h) m, fun j h => a.ok.emp j (by rw [← same j]; exact h)⟩, a.nod, a.dis, a.stp.imp (fun c z => z.elim (fun ⟨j, h, m⟩ => .inl ⟨j, own j h, m⟩) .inr) (fun _ z => z), fun j y h => a.bk j y ?_⟩
        by_cases hj : j = i
        · subst hj; rw [List.getElem?_set_self hl] at h; cases h
        · rwa [List.getElem?_set_ne (Ne.symm hj)] at h
    | _ => exact a
def notOwn (en : En) (i : Nat) : Bool := match en[i]? with
  | some (.w _) => true
  | some (.v (.d _)) => true
  | _ => false
def fForN (k : T → Option Ass) (i : Nat) (f : En → SR) : En → SR := fun en => let en' := weak en i
  if notOwn en' i = true then match (at_ en' i).bind items with
    | some xs => forE k f xs en'
    | none => .no
  else .no
theorem s_forN (i : Nat) {tg : Expr} {x : Str} {px : Pos} {body : List Stmt} {k : T → Option Ass} (cz : Cz X W) (hg : PTg X tg k) (hb : PBl X W body f) (hN : X.N[i]? = some x := by rfl) (hv : Vis X.env.scope x := by first | exact Or.inl rfl | exact Or.inr (Or.inl rfl) | exact Or.inr (Or.inr rfl)) (hs : ∀ y, foldedSetIterable (.Name x px) X.env y = pure y := by intro _; rfl) (hd : (x == ("__debug__" : Str)) = false := by decide)
    (hcd : (x == ("__classdict__" : Str)) = false := by decide) : PSt X W (.For tg (.Name x px) body [] pos) (fForN k i f) := by
  obtain ⟨t2, p2, s2⟩ := hb
  refine ⟨_, ps_for cz.hp cz.calm (pi_sq (pe_var hN hv hd hcd)) hg p2 hs, fun σ H en Fs D ok q => ?_⟩
  unfold fForN at q
  have a : Aft X.K H Fs σ en H Fs σ (Z.weak en i) [] := (Aft.refl ok).weak i
  simp only at q
  split at q
  · rename_i hw
    cases e : at_ (Z.weak en i) i with
    | none => rw [e] at q; exact q.elim
    | some x =>
      rw [e] at q
      simp only [Option.bind_some] at q
      cases ei : items x with
      | none => rw [ei] at q; exact q.elim
      | some xs =>
        rw [ei] at q
        obtain ⟨v, h1, h2⟩ := a.ok.has i x e
        refine ⟨v, h1, it_own (Q := forQ X.K k t2 D σ) h2 ei fun J iok => sp_for s2 a iok h2.there (fun c m z => ?_) (fun c m => .inl ?_) q⟩
        · obtain ⟨j, z1, z2⟩ := z
          by_cases hj : j = i
          · subst hj
            unfold notOwn at hw
            unfold ownAt at z1
            cases es : (Z.weak en j)[j]? with
            | none => rw [es] at hw; cases hw
            | some y =>
              rw [es] at hw z1
              cases y with
              | v y =>
                cases y with
                | d d =>
                  have : x = .d d := by unfold at_ at e; rw [es] at e; cases e; rfl
                  subst this
                  rw [h2.dnil] at m; cases m
                | l _ => cases hw
              | w y => exact absurd rfl z1
              | n => cases hw
              | b y => cases hw
          · exact a.ok.dis j i c hj z1 z2 m
        · exact (a.stp.subA c (.inl ⟨i, m⟩)).elim id fun z => absurd z (h2.there c m)
  · exact q.elim
/-! ### while -/
def whE (c : En → RM Bool) (f : En → SR) : Nat → En → SR
  | 0, _ => .no
  | n + 1, en => (c en).s fun b en1 => if b = true then match f en1 with
      | .nx en2 => whE c f n en2
      | .ct en2 => whE c f n en2
      | .brk en2 => .nx en2
      | r => r
    else .nx en1
def fWh (μ : En → Nat) (c : En → RM Bool) (f : En → SR) : En → SR := fun en => whE c f (μ en) en
theorem s_while (μ : En → Nat) {body : List Stmt} (cz : Cz X W) (hc : PMT X W c mc) (hb : PBl X W body f) : PSt X W (.While c body [] pos) (fWh μ mc f) := by
  obtain ⟨t, p, s⟩ := hc
  obtain ⟨t2, p2, s2⟩ := hb
  refine ⟨_, ps_while cz.hp p p2, fun σ H en Fs D ok q => ?_⟩
  refine ⟨fun n σ1 H1 => ∃ en1 Fs1, Aft X.K H Fs σ en H1 Fs1 σ1 en1 [] ∧ SQ X W H Fs σ en D (whE mc f n en1), ⟨μ en, en, Fs, .refl ok, q⟩, ?_⟩
  rintro n σ1 H1 ⟨en1, Fs1, a, q⟩
  refine s σ1 H1 en1 Fs1 _ a.ok ?_
  cases n with
  | zero => exact q.elim
  | succ n =>
    unfold whE at q
    cases e : mc en1 with
    | ok b en2 =>
      rw [e] at q
      simp only [RM.s_ok] at q
      intro H2 Fs2 a2
      have a12 := a.trans a2
      cases b with
      | false => exact iteF (q H2 Fs2 σ1 a12)
      | true =>
        refine iteT ⟨fun σ' H' => ∃ en' Fs', Aft X.K H Fs σ en H' Fs' σ' en' [] ∧ SQ X W H Fs σ en D (whE mc f n en'), fun σ' H' h => ⟨n, Nat.lt_succ_self n, h⟩, s2 σ1 H2 en2 Fs2 _ a2.ok ?_⟩
        simp only [if_true] at q
        cases ef : f en2 with
        | nx en' => rw [ef] at q; exact fun H4 Fs4 σ4 b => ⟨en', Fs4, a12.trans b, q⟩
        | ct en' => rw [ef] at q; exact fun H4 Fs4 σ4 b => ⟨en', Fs4, a12.trans b, q⟩
        | brk en' => rw [ef] at q; exact fun H4 Fs4 σ4 b => q H4 Fs4 σ4 (a12.trans b)
        | ret x en' => rw [ef] at q; exact fun v H4 Fs4 σ4 G b o => q v H4 Fs4 σ4 G (a12.trans b) o
        | ex c en' => rw [ef] at q; exact fun cls dx H4 Fs4 σ4 b i => q cls dx H4 Fs4 σ4 (a12.trans b) i
        | no => rw [ef] at q; exact q.elim
    | ex c en' => rw [e] at q; exact fun cls dx H' Fs' σ' b i => q cls dx H' Fs' σ' (a.trans b) i
    | no => rw [e] at q; exact q
end
end Z
/-! Z: expressions that change the frame's lists; lists changed by their methods. -/
namespace Z
open PySem PySem.Spec L2
open PyProof.Rows hiding St

section
variable {X : Cx} {W : WX} {e a b c : Expr} {es : List Expr} {pos : Pos} {m ma mb : En → RM T} {ms : En → RM (List T)} {mc : En → RM Bool}
/-- a name's thing is given away; a datum stays there too -/
def mName (i : Nat) : En → RM T := fun en => match en[i]? with
  | some (.v (.l xs)) => .ok (.l xs) (en.set i .n)
  | some s => match s.get with
    | some (.d d) => .ok (.d d) en
    | _ => .no
  | none => .no
theorem Aft.take {K : PySem.W.Frag} {H : Hp} {Fs : Ft} {σ : L2.St} {en : En} {i : Nat} {xs : List T} (ok : EOk K H σ en Fs) (e : en[i]? = some (.v (.l xs))) : Aft K H Fs σ en H (updF Fs i []) σ (en.set i .n) (Fs i) := by
  obtain ⟨hl, _⟩ := List.getElem?_eq_some_iff.mp e
  have oi : ownAt en i ≠ none := by unfold ownAt; rw [e]; exact fun z => by cases z
  have own : ∀ j, ownAt (en.set i .n) j ≠ none → j ≠ i ∧ ownAt en j ≠ none := fun j h => by
    by_cases hj : j = i
    · subst hj; unfold ownAt at h; rw [List.getElem?_set_self hl] at h; exact absurd rfl h
    · rw [ownAt_set hj] at h; exact ⟨hj, h⟩
  refine ⟨⟨by rw [List.length_set]; exact ok.len, fun j y h => ?_, fun j h => ?_, fun j l c ne h m => ?_, fun j h => ?_⟩, ok.nod i oi, fun c m z => ?_, ⟨Pst.refl H, fun _ _ e _ => e, fun _ e => e, fun c m => ?_, fun c m => ?_⟩, fun j y h => ?_⟩
  · by_cases hj : j = i
    · subst hj; rw [at_set_same hl] at h; cases h
    · rw [at_set hj] at h; rw [updF_ne hj]; exact ok.has j y h
  · obtain ⟨hj, h⟩ := own j h; rw [updF_ne hj]; exact ok.nod j h
  · obtain ⟨hj, h⟩ := own j h
    rw [updF_ne hj] at m
    by_cases hl : l = i
    · rw [hl, updF_same]; exact List.not_mem_nil
    · rw [updF_ne hl]; exact ok.dis j l c ne h m
  · by_cases hj : j = i
    · rw [hj, updF_same]
    · rw [at_set hj] at h; rw [updF_ne hj]; exact ok.emp j h
  · obtain ⟨j, z⟩ := z
    by_cases hj : j = i
    · rw [hj, updF_same] at z; cases z
    · rw [updF_ne hj] at z; exact ok.dis i j c (Ne.symm hj) oi m z
  · rcases m with ⟨j, h, m⟩ | m
    · obtain ⟨hj, h⟩ := own j h; rw [updF_ne hj] at m; exact .inl ⟨j, h, m⟩
    · exact .inl ⟨i, oi, m⟩
  · rcases m with ⟨j, m⟩ | m
    · by_cases hj : j = i
      · rw [hj, updF_same] at m; cases m
      · rw [updF_ne hj] at m; exact .inl ⟨j, m⟩
    · exact .inl ⟨i, m⟩
  · by_cases hj : j = i
    · subst hj; rw [List.getElem?_set_self hl] at h; cases h
    · rw [List.getElem?_set_ne (Ne.symm hj)] at h; exact ⟨⟨y, h⟩, rfl⟩
theorem m_name (i : Nat) {x : Str} {p : Pos} (hN : X.N[i]? = some x := by rfl) (hv : Vis X.env.scope x := by first | exact Or.inl rfl | exact Or.inr (Or.inl rfl) | exact Or.inr (Or.inr rfl)) (hd : (x == ("__debug__" : Str)) = false := by decide)
    (hcd : (x == ("__classdict__" : Str)) = false := by decide) : PM X W (.Name x p) (mName i) := by
  refine ⟨_, pe_var hN hv hd hcd, fun σ H en Fs Q ok q => ?_⟩
  have data : ∀ d, at_ en i = some (.d d) → (MQ X W H Fs σ en Q (.ok (.d d) en)) → tVar i σ H Q := fun d h q => by
    obtain ⟨v, h1, h2⟩ := ok.has i _ h
    exact ⟨v, h1, q v H Fs [] (.refl ok) (.d h2.rep)⟩
  unfold mName at q
  cases e : en[i]? with
  | none => rw [e] at q; exact q.elim
  | some s =>
    rw [e] at q
    cases s with
    | v x =>
      cases x with
      | d d => exact data d (by unfold at_; rw [e]; rfl) q
      | l xs =>
        obtain ⟨v, h1, h2⟩ := ok.has i (.l xs) (by unfold at_; rw [e]; rfl)
        exact ⟨v, h1, q v H _ _ (.take ok e) h2⟩
    | n => exact q.elim
    | w x => cases x with
      | d d => exact data d (by unfold at_; rw [e]; rfl) q
      | l xs => exact q.elim
    | b x => cases x with
      | d d => exact data d (by unfold at_; rw [e]; rfl) q
      | l xs => exact q.elim
/-! ### of two -/
def m2 (f : T → T → Option T) (ma mb : En → RM T) : En → RM T := fun en => (ma en).bind fun x en1 => (mb en1).bind fun y en2 => RM.of (R.of (f x y)) en2
theorem XM.after {H H1 : Hp} {Fs Fs1 : Ft} {σ σ1 : L2.St} {en en1 en' : En} {c : Exc} {G : List Addr} (a : Aft X.K H Fs σ en H1 Fs1 σ1 en1 G) (q : XM X W H Fs σ en c en') : XM X W H1 Fs1 σ1 en1 c en' := fun cls dx H' Fs' σ' b i => q cls dx H' Fs' σ' (a.drop.trans b) i
theorem Own.here {K : PySem.W.Frag} {H : Hp} {v : V} {x : T} {F : List Addr} (o : Own K H v x F) : ∀ c ∈ F, H c ≠ none := o.there
theorem spM2 {r : R2} {f : T → T → Option T} {ta tb : TE} (q2 : Q2 X.K r f) (sa : SpM X W ma ta) (sb : SpM X W mb tb) : SpM X W (m2 f ma mb) (tOp r ta tb) := by
  intro σ H en Fs Q ok q
  refine sa σ H en Fs _ ok ?_
  unfold m2 at q
  cases ea : ma en with
  | ok x en1 =>
    rw [ea] at q
    simp only [RM.bind_ok] at q
    intro v1 H1 Fs1 G1 a1 o1
    refine sb σ H1 en1 Fs1 _ a1.ok ?_
    cases eb : mb en1 with
    | ok y en2 =>
      rw [eb] at q
      simp only [RM.bind_ok] at q
      intro v2 H2 Fs2 G2 a2 o2
      cases ef : f x y with
      | none => rw [ef] at q; exact q.elim
      | some z =>
        rw [ef] at q
        have o1' := (a2.stp.frame (fun _ z => z.a) o1 a1.dis).1
        exact q2 H2 x y z v1 v2 G1 G2 Q o1' o2 ef fun v H' G s o fr => q v H' Fs2 G ((a1.drop.trans a2).fin s fr) o
    | ex c en2 => rw [eb] at q; exact XM.after (W := W) a1 q
    | no => rw [eb] at q; exact q
  | ex c en1 => rw [ea] at q; exact q
  | no => rw [ea] at q; exact q
theorem m_bin {op : Operator} {f : T → T → Option T} (o : Bn X op f) (ha : PM X W a ma) (hb : PM X W b mb) : PM X W (.BinOp a op b pos) (m2 f ma mb) := by
  obtain ⟨r, ho, q⟩ := o.p
  obtain ⟨ta, pa, sa⟩ := ha
  obtain ⟨tb, pb, sb⟩ := hb
  exact ⟨_, pe_op ho pa pb, spM2 q sa sb⟩
theorem m_cmp {op : CmpOp} {f : T → T → Option T} (o : Cm X op f) (ha : PM X W a ma) (hb : PM X W b mb) (hm : behindInMarks op b = false := by first | exact nomark _ | with_unfolding_all rfl) : PM X W (.Compare a [op] [b] pos) (m2 f ma mb) := by
  obtain ⟨r, ho, q⟩ := o.p
  obtain ⟨ta, pa, sa⟩ := ha
  obtain ⟨tb, pb, sb⟩ := hb
  exact ⟨_, pe_cmpR ho pa pb hm, spM2 q sa sb⟩
def mT (m : En → RM T) : En → RM Bool := fun en => (m en).bind fun x en' => RM.of (R.of (tst x)) en'
theorem mc_cmp {op : CmpOp} {f : T → T → Option T} (o : Cm X op f) (ha : PM X W a ma) (hb : PM X W b mb) (hm : behindInMarks op b = false := by first | exact nomark _ | with_unfolding_all rfl) : PMT X W (.Compare a [op] [b] pos) (mT (m2 f ma mb)) := by
  obtain ⟨r, ho, q⟩ := o.p
  obtain ⟨ta, pa, sa⟩ := ha
  obtain ⟨tb, pb, sb⟩ := hb
  refine ⟨_, pt_cmpR ho pa pb hm, fun σ H en Fs Q ok h => spM2 q sa sb σ H en Fs _ ok ?_⟩
  unfold mT at h
  cases e : m2 f ma mb en with
  | ok x en' =>
    rw [e] at h
    simp only [RM.bind_ok] at h
    intro v H' Fs' G a o
    cases x with
    | l xs => exact h.elim
    | d d =>
      cases d with
      | bl k => have r := o.rep; cases r; exact ⟨k, rfl, h H' Fs' a.drop⟩
      | _ => exact h.elim
  | ex c en' => rw [e] at h; exact h
  | no => rw [e] at h; exact h
def mTru (m : En → RM T) : En → RM Bool := fun en => (m en).bind fun x en' => RM.of (R.of (tru x)) en'
theorem mc_truth (ha : PM X W a m) (he : ∀ whole, isTrue a X.env whole = (do let v ← whole; standAt a.pos; holding [v] (truthy v)) := by intro _; rfl) : PMT X W a (mTru m) := by
  obtain ⟨t, p, s⟩ := ha
  refine ⟨_, pt_truth p he, fun σ H en Fs Q ok q => s σ H en Fs _ ok ?_⟩
  unfold mTru at q
  cases e : m en with
  | ok x en' =>
    rw [e] at q
    intro v H' Fs' G a o
    cases ek : tru x with
    | none => simp only [RM.bind_ok, ek, R.of_none] at q; exact q.elim
    | some k =>
      simp only [RM.bind_ok, ek, R.of_some] at q
      exact ⟨k, tru_is o ek, q H' Fs' a.drop⟩
  | ex c en' => rw [e] at q; exact q
  | no => rw [e] at q; exact q
def mNot (m : En → RM Bool) : En → RM Bool := fun en => (m en).bind fun b en' => .ok (!b) en'
theorem mc_not (ha : PMT X W a mc) : PMT X W (.UnaryOp .Not a pos) (mNot mc) := by
  obtain ⟨t, p, s⟩ := ha
  refine ⟨_, pt_not p, fun σ H en Fs Q ok q => s σ H en Fs _ ok ?_⟩
  unfold mNot at q
  cases e : mc en with
  | ok x en' => rw [e] at q; exact q
  | ex c en' => rw [e] at q; exact q
  | no => rw [e] at q; exact q
/-! ### items -/
def mIx (ma mb : En → RM T) : En → RM T := fun en => (ma en).bind fun x en1 => (mb en1).bind fun y en2 => RM.of (R.of (fIx x y)).pur en2
theorem pur_ok {r : R T} {x : T} (h : r.pur = .ok x) : ∃ d, x = .d d ∧ r = .ok (.d d) := by
  cases r with
  | ok y => cases y with
    | d d => cases h; exact ⟨d, rfl, rfl⟩
    | l _ => cases h
  | ex c => cases h
  | no => cases h
theorem m_ix (ha : PM X W a ma) (hb : PM X W b mb) (hs : PlainIx b := by exact fun _ _ => rfl) : PM X W (.Subscript a b pos) (mIx ma mb) := by
  obtain ⟨ta, pa, sa⟩ := ha
  obtain ⟨tb, pb, sb⟩ := hb
  refine ⟨_, pe_ix ix_seq pa pb hs, ?_⟩
  intro σ H en Fs Q ok q
  refine sa σ H en Fs _ ok ?_
  unfold mIx at q
  cases ea : ma en with
  | ok x en1 =>
    rw [ea] at q
    simp only [RM.bind_ok] at q
    intro v1 H1 Fs1 G1 a1 o1
    refine sb σ H1 en1 Fs1 _ a1.ok ?_
    cases eb : mb en1 with
    | ok y en2 =>
      rw [eb] at q
      simp only [RM.bind_ok] at q
      intro v2 H2 Fs2 G2 a2 o2
      cases ef : (R.of (fIx x y)).pur with
      | ok z =>
        rw [ef] at q
        obtain ⟨d, rfl, e2⟩ := pur_ok ef
        cases e3 : fIx x y with
        | none => rw [e3] at e2; cases e2
        | some z =>
          rw [e3] at e2; cases e2
          have o1' := (a2.stp.frame (fun _ z => z.a) o1 a1.dis).1
          exact q_ix H2 x y _ v1 v2 G1 G2 Q o1' o2 e3 fun v H' G s o => q v H' Fs2 [] ((a1.drop.trans a2).fin s Fresh.nil) (.d o.rep)
      | ex c => rw [ef] at q; exact False.elim (by
          cases e3 : fIx x y with
          | none => rw [e3] at ef; cases ef
          | some z => rw [e3] at ef; cases z <;> cases ef)
      | no => rw [ef] at q; exact q.elim
    | ex c en2 => rw [eb] at q; exact XM.after (W := W) a1 q
    | no => rw [eb] at q; exact q
  | ex c en1 => rw [ea] at q; exact q
  | no => rw [ea] at q; exact q
/-- name[index], the name's thing as it stands behind the index -/
def mIxN (i : Nat) (mb : En → RM T) : En → RM T := fun en => (mb en).bind fun y en2 => RM.of ((R.of (at_ en2 i)).bind fun x => (R.of (fIx x y)).pur) en2
theorem m_ixN (i : Nat) {x : Str} {p : Pos} (hb : PM X W b mb) (hN : X.N[i]? = some x := by rfl) (hv : Vis X.env.scope x := by first | exact Or.inl rfl | exact Or.inr (Or.inl rfl) | exact Or.inr (Or.inr rfl)) (hs : PlainIx b := by exact fun _ _ => rfl) (hd : (x == ("__debug__" : Str)) = false := by decide)
    (hcd : (x == ("__classdict__" : Str)) = false := by decide) (hst : ∀ en, (∃ y en2, mb en = .ok y en2) → ∀ z, at_ en i = some z → True := by intros; trivial) : PM X W (.Subscript (.Name x p) b pos) (fun en => if (at_ en i).isSome then mIxN i mb en else .no) := by
  obtain ⟨tb, pb, sb⟩ := hb
  refine ⟨_, pe_ix ix_seq (pe_var hN hv hd hcd) pb hs, ?_⟩
  intro σ H en Fs Q ok q
  simp only at q
  split at q
  · rename_i hsome
    cases e0 : at_ en i with
    | none => rw [e0] at hsome; cases hsome
    | some x0 =>
      obtain ⟨v0, h0, _⟩ := ok.has i x0 e0
      refine ⟨v0, h0, sb σ H en Fs _ ok ?_⟩
      unfold mIxN at q
      cases eb : mb en with
      | ok y en2 =>
        rw [eb] at q
        simp only [RM.bind_ok] at q
        intro v2 H2 Fs2 G2 a2 o2
        cases e1 : at_ en2 i with
        | none => rw [e1] at q; exact q.elim
        | some x1 =>
          rw [e1] at q
          simp only [R.of_some, R.bind_ok] at q
          obtain ⟨v1, h1, o1⟩ := a2.ok.has i x1 e1
          rw [h0] at h1; cases h1
          cases ef : (R.of (fIx x1 y)).pur with
          | ok z =>
            rw [ef] at q
            obtain ⟨d, rfl, e2⟩ := pur_ok ef
            cases e3 : fIx x1 y with
            | none => rw [e3] at e2; cases e2
            | some z =>
              rw [e3] at e2; cases e2
              exact q_ix H2 x1 y _ v0 v2 _ G2 Q o1 o2 e3 fun v H' G s o => q v H' Fs2 [] (a2.fin s Fresh.nil) (.d o.rep)
          | ex c => rw [ef] at q; exact False.elim (by
              cases e3 : fIx x1 y with
              | none => rw [e3] at ef; cases ef
              | some z => rw [e3] at ef; cases z <;> cases ef)
          | no => rw [ef] at q; exact q.elim
      | ex c en2 => rw [eb] at q; exact q
      | no => rw [eb] at q; exact q
  · exact q.elim
/-! ### arguments -/
def mNil : En → RM (List T) := fun en => .ok [] en
def mCons (m : En → RM T) (ms : En → RM (List T)) : En → RM (List T) := fun en => (m en).bind fun x en1 => (ms en1).bind fun xs en2 => .ok (x :: xs) en2
theorem ma_nil : PMA X W [] mNil := ⟨_, pa_nil, fun σ H en Fs Q ok q => q [] H Fs [] (.refl ok) .nil⟩
theorem ma_cons (ha : PM X W a m) (hr : PMA X W es ms) (hs : starEach (a :: es) X.env = (false, eval a X.env) :: starEach es X.env := by rfl) : PMA X W (a :: es) (mCons m ms) := by
  obtain ⟨t, p, s⟩ := ha
  obtain ⟨t2, p2, s2⟩ := hr
  refine ⟨_, pa_cons p p2 hs, fun σ H en Fs Q ok q => s σ H en Fs _ ok ?_⟩
  unfold mCons at q
  cases e : m en with
  | ok x en1 =>
    rw [e] at q
    simp only [RM.bind_ok] at q
    intro v H' Fs' G a o
    refine s2 σ H' en1 Fs' _ a.ok ?_
    cases e2 : ms en1 with
    | ok xs en2 =>
      rw [e2] at q
      exact fun vs H2 Fs2 G2 a2 o2 => q (v :: vs) H2 Fs2 (G ++ G2) (a.held o.there a2) (.cons (a2.stp.frame (fun _ z => z.a) o a.dis).1 o2)
    | ex c en2 => rw [e2] at q; exact XM.after (W := W) a q
    | no => rw [e2] at q; exact q
  | ex c en1 => rw [e] at q; exact q
  | no => rw [e] at q; exact q
def mOf (f : List T → R T) (ms : En → RM (List T)) : En → RM T := fun en => (ms en).bind fun xs en' => RM.of (f xs) en'
theorem m_tup {k} (ha : PMA X W es ms) : PM X W (.Tuple es k pos) (mOf mkTup ms) := by
  obtain ⟨t, p, s⟩ := ha
  refine ⟨_, pe_tup p, fun σ H en Fs Q ok q => s σ H en Fs _ ok ?_⟩
  unfold mOf at q
  cases e : ms en with
  | ok xs en1 =>
    rw [e] at q
    simp only [RM.bind_ok, mkTup] at q
    intro vs H' Fs' G a w
    cases ea : allD xs with
    | none => rw [ea] at q; exact q.elim
    | some ds =>
      rw [ea] at q
      have e1 := allD_eq ea
      subst e1
      have rr := w.data.1
      simp only at q
      split at q
      · rename_i hz
        refine ⟨by rw [most_eq, rr.length]; exact hz, fun p np => ?_⟩
        exact q _ _ Fs' [] (a.fin (same_new np) Fresh.nil) (.d (.tup (SqT.of upd_same) (rr.mono (.of (same_new np)))))
      · exact q.elim
  | ex c en1 => rw [e] at q; exact q
  | no => rw [e] at q; exact q
theorem m_lst (ha : PMA X W es ms) : PM X W (.List es pos) (mOf mkLst ms) := by
  obtain ⟨t, p, s⟩ := ha
  refine ⟨_, pe_lst p, fun σ H en Fs Q ok q => s σ H en Fs _ ok ?_⟩
  unfold mOf at q
  cases e : ms en with
  | ok xs en1 =>
    rw [e] at q
    simp only [RM.bind_ok, mkLst] at q
    intro vs H' Fs' G a w
    split at q
    · rename_i hz
      refine ⟨by rw [most_eq, w.length]; exact hz, fun p np => ?_⟩
      have b : Aft X.K H' Fs' σ en1 (upd H' p (.lst vs)) Fs' σ en1 [p] := .quiet a.ok (same_new np) (fresh1 np)
      have h := a.held w.there b
      have h2 : Aft X.K H Fs σ en (upd H' p (.lst vs)) Fs' σ en1 (p :: G) := ⟨h.ok, by
          have := h.nod
          exact (List.perm_append_comm (l₁ := G) (l₂ := [p])).nodup_iff.mp this, fun c m => h.dis c (by simp only [List.mem_append, List.mem_cons, List.not_mem_nil, or_false] at m ⊢; exact m.symm), h.stp.imp (fun c z => z.imp id fun m => by simp only [List.mem_append, List.mem_cons, List.not_mem_nil, or_false] at m ⊢; exact m.symm) (fun c z => z.imp id fun m => by simp only [List.mem_append, List.mem_cons, List.not_mem_nil, or_false] at m ⊢; exact m.symm), h.bk⟩
      exact q _ _ Fs' (p :: G) h2 (.l upd_same (w.mono (same_new np)))
    · exact q.elim
  | ex c en1 => rw [e] at q; exact q
  | no => rw [e] at q; exact q
def rOf (f : List T → Option T) : List T → R T := fun xs => R.of (f xs)
theorem spMB {r : List V → Hp → VK → Prop} {f : List T → Option T} {t : TA} (q2 : QL X.K r f) (s : SpMA X W ms t) : SpM X W (mOf (rOf f) ms) (tCB r t) := by
  intro σ H en Fs Q ok q
  refine s σ H en Fs _ ok ?_
  unfold mOf rOf at q
  cases e : ms en with
  | ok xs en1 =>
    rw [e] at q
    simp only [RM.bind_ok] at q
    intro vs H' Fs' G a w
    cases ef : f xs with
    | none => rw [ef] at q; exact q.elim
    | some z =>
      rw [ef] at q
      exact q2 H' xs vs z Q w.vws ef fun v H2 G2 s2 o fr => q v H2 Fs' G2 (a.fin s2 fr) o
  | ex c en1 => rw [e] at q; exact q
  | no => rw [e] at q; exact q
theorem m_callB {x id : String} {f : List T → Option T} {p : Pos} (o : Bf X (.builtin id) f) (hv : bootBuiltins x = some (.builtin id)) (hm : X.mg x = none) (ha : PMA X W (a :: es) ms) (hg : Gl X x := by rfl) (hn : (Str.ofString x) ≠ "__name__" := by decide) (hdb : ((Str.ofString x) == ("__debug__" : Str)) = false := by decide)
    (he : starEach (a :: es) X.env = (false, eval a X.env) :: starEach es X.env := by rfl) (hpl : (backTo pos (starEach es X.env)).any (·.1) = false := by rfl) : PM X W (.Call (.Name x p) (a :: es) [] pos) (mOf (rOf f) ms) := by
  obtain ⟨r, hc, q⟩ := o.p
  obtain ⟨t, pa, s⟩ := ha
  exact ⟨_, pe_callB hc hg hm hv pa hn hdb he hpl, spMB q s⟩
theorem m_callT {x Ty : String} {f : List T → Option T} {p : Pos} (o : Bf X (.type Ty) f) (hv : bootBuiltins x = some (.type Ty)) (hm : X.mg x = none) (ha : PMA X W (a :: es) ms) (hg : Gl X x := by rfl) (hn : (Str.ofString x) ≠ "__name__" := by decide) (hdb : ((Str.ofString x) == ("__debug__" : Str)) = false := by decide)
    (he : starEach (a :: es) X.env = (false, eval a X.env) :: starEach es X.env := by rfl) (hpl : (backTo pos (starEach es X.env)).any (·.1) = false := by rfl) : PM X W (.Call (.Name x p) (a :: es) [] pos) (mOf (rOf f) ms) := by
  obtain ⟨r, hc, q⟩ := o.p
  obtain ⟨t, pa, s⟩ := ha
  exact ⟨_, pe_callTy hc hg hm hv pa hn hdb he hpl, spMB q s⟩
/-- a def that changes nothing, its arguments our own -/
theorem m_call {x : Str} {k : Nat} {F : List T → R T} {p : Pos} (f : FnP X.prog X.w X.K X.mg X.base x k F) (tk : Takes X W) (hr : Room k X.A) (ha : PMA X W (a :: es) ms) (hg : Gl X x := by rfl)
    (hdb : (x == ("__debug__" : Str)) = false := by decide) (he : starEach (a :: es) X.env = (false, eval a X.env) :: starEach es X.env := by rfl) (hpl : (backTo pos (starEach es X.env)).any (·.1) = false := by rfl) : PM X W (.Call (.Name x p) (a :: es) [] pos) (mOf F ms) := by
  obtain ⟨f, fd, ps, ok, hm, hk, hb⟩ := f.ex
  obtain ⟨t, pa, s⟩ := ha
  refine ⟨_, pe_callS (E := WE W) ok hr hg hm hk hb (fun σ => passAt tk σ) pa hdb he hpl, fun σ H en Fs Q ok q => s σ H en Fs _ ok ?_⟩
  unfold mOf at q
  cases e : ms en with
  | ok xs en1 =>
    rw [e] at q
    simp only [RM.bind_ok] at q
    intro vs H' Fs' G a w
    refine ⟨xs, w.vws, ?_⟩
    cases ef : F xs with
    | ok r => rw [ef] at q; exact fun v H2 G2 s2 o fr => q v H2 Fs' G2 (a.fin s2 fr) o
    | ex c => rw [ef] at q; exact fun cls dx H2 s2 i => q cls dx H2 Fs' σ (a.fin s2 Fresh.nil) i
    | no => rw [ef] at q; exact q
  | ex c en1 => rw [e] at q; exact q
  | no => rw [e] at q; exact q
end
end Z
/-! Z: lists changed in their place. -/
namespace Z
open PySem PySem.Spec L2
open PyProof.Rows hiding St

def setO (en : En) (i : Nat) (x : T) : En := match en[i]? with
  | some (.b _) => en.set i (.b x)
  | _ => en.set i (.v x)
theorem own_lt {en : En} {i : Nat} {x : T} (h : ownAt en i = some x) : i < en.length := by
  unfold ownAt at h
  cases e : en[i]? with
  | none => rw [e] at h; cases h
  | some s => exact (List.getElem?_eq_some_iff.mp e).1
theorem setO_own {en : En} {i : Nat} {x y : T} (h : ownAt en i = some y) : ownAt (setO en i x) i = some x := by
  have hl := own_lt h
  unfold setO
  cases e : en[i]? with
  | none => unfold ownAt at h; rw [e] at h; cases h
  | some s => cases s <;> (simp only; unfold ownAt; rw [List.getElem?_set_self hl])
theorem setO_ne {en : En} {i j : Nat} {x : T} (h : j ≠ i) : (setO en i x)[j]? = en[j]? := by
  unfold setO
  cases e : en[i]? with
  | none => simp only; rw [List.getElem?_set_ne (Ne.symm h)]
  | some s => cases s <;> (simp only; rw [List.getElem?_set_ne (Ne.symm h)])
theorem setO_len {en : En} {i : Nat} {x : T} : (setO en i x).length = en.length := by
  unfold setO
  cases e : en[i]? with
  | none => simp only; rw [List.length_set]
  | some s => cases s <;> (simp only; rw [List.length_set])
theorem setO_own_ne {en : En} {i j : Nat} {x : T} (h : j ≠ i) : ownAt (setO en i x) j = ownAt en j := by unfold ownAt; rw [setO_ne h]
theorem setO_at_ne {en : En} {i j : Nat} {x : T} (h : j ≠ i) : at_ (setO en i x) j = at_ en j := by unfold at_; rw [setO_ne h]
theorem Own.lst {K : PySem.W.Frag} {H : Hp} {v : V} {xs : List T} {F : List Addr} (h : Own K H v (.l xs) F) : ∃ a vs F', v = .ref a ∧ H a = some (.lst vs) ∧ Owns K H vs xs F' ∧ F = a :: F' := by
  cases h with
  | l h o => exact ⟨_, _, _, rfl, h, o, rfl⟩
theorem pst_upd {H : Hp} {a : Addr} {vs ws : List V} (h : H a = some (.lst vs)) : Pst H (upd H a (.lst ws)) := ⟨fun b us e => by
  by_cases hb : b = a
  · rw [hb, h] at e; cases e
  · rw [upd_ne hb]; exact e, fun b ob u e => by
  by_cases hb : b = a
  · rw [hb, h] at e; cases e
  · rw [upd_ne hb]; exact e⟩
/-- a list of ours has other items -/
theorem Aft.mut {K : PySem.W.Frag} {H0 H : Hp} {Fs0 Fs : Ft} {σ0 σ : L2.St} {en0 en : En} {G G' F F' : List Addr} {i : Nat} {xs xs' : List T} {vs vs' : List V} {a : Addr} (A : Aft K H0 Fs0 σ0 en0 H Fs σ en G) (e : ownAt en i = some (.l xs)) (hσ : σ[i]? = some (some (.ref a)))
    (ha : H a = some (.lst vs)) (hF : Fs i = a :: F) (o : Owns K H vs' xs' F') (nd : (F' ++ G').Nodup) (sub : ∀ c ∈ F' ++ G', c ∈ F ∨ c ∈ G) : Aft K H0 Fs0 σ0 en0 (upd H a (.lst vs')) (updF Fs i (a :: F')) σ (setO en i (.l xs')) G' := by
  have oi : ownAt en i ≠ none := by rw [e]; exact fun z => by cases z
  have ai : a ∈ Fs i := by rw [hF]; exact List.mem_cons_self
  have ndi := A.ok.nod i oi
  rw [hF] at ndi
  have aF : a ∉ F := (List.nodup_cons.mp ndi).1
  have aG : a ∉ G := fun m => A.dis a m ⟨i, ai⟩
  have aS : ∀ c ∈ F' ++ G', c ≠ a := fun c m z => (sub c m).elim (fun y => aF (z ▸ y)) fun y => aG (z ▸ y)
  have Fi : ∀ {c}, c ∈ F → c ∈ Fs i := fun {c} m => by rw [hF]; exact List.mem_cons_of_mem _ m
  have p := pst_upd (ws := vs') ha
  have nj : ∀ {j c}, j ≠ i → c ∈ F' ++ G' → c ∉ Fs j := fun {j c} hj m z => (sub c m).elim (fun y => A.ok.dis i j c (Ne.symm hj) oi (Fi y) z) fun y => A.dis c y ⟨j, z⟩
  have aj : ∀ {j}, j ≠ i → a ∉ Fs j := fun {j} hj z => A.ok.dis i j a (Ne.symm hj) oi ai z
  have own : ∀ j, ownAt (setO en i (.l xs')) j ≠ none → ownAt en j ≠ none := fun j h => by
    by_cases hj : j = i
    · rw [hj]; exact oi
    · rwa [setO_own_ne hj] at h
  have F'l : ∀ c ∈ F', c ∈ F' ++ G' := fun c m => List.mem_append_left _ m
  refine ⟨⟨by rw [setO_len]; exact A.ok.len, fun j y h => ?_, fun j h => ?_, fun j l c ne h m => ?_, fun j h => ?_⟩, (List.nodup_append.mp nd).2.1, fun c m z => ?_, ⟨A.stp.pst.trans p, fun c ob e n => ?_, fun c e => ?_, fun c m => ?_, fun c m => ?_⟩, fun j y h => ?_⟩
  · by_cases hj : j = i
    · subst hj
      rw [own_at (setO_own e)] at h; cases h
      exact ⟨_, hσ, by rw [updF_same]; exact .l upd_same (o.frame p fun c m ob e => by rw [upd_ne (aS c (F'l c m))]; exact e)⟩
    · rw [setO_at_ne hj] at h
      obtain ⟨v, h1, h2⟩ := A.ok.has j y h
      have h3 : Own K (upd H a (.lst vs')) v y (Fs j) := h2.frame p fun c m ob e => by
        have hc : c ≠ a := fun z => aj hj (by rw [← z]; exact m)
        rw [upd_ne hc]; exact e
      exact ⟨v, h1, by rw [updF_ne hj]; exact h3⟩
  · by_cases hj : j = i
    · rw [hj, updF_same]; exact List.nodup_cons.mpr ⟨fun m => aS a (F'l a m) rfl, (List.nodup_append.mp nd).1⟩
    · rw [updF_ne hj]; exact A.ok.nod j (own j h)
  · by_cases hj : j = i
    · rw [hj, updF_same] at m
      rw [updF_ne (by rw [← hj]; exact Ne.symm ne)]
      have hl : l ≠ i := by rw [← hj]; exact Ne.symm ne
      rcases List.mem_cons.mp m with rfl | m
      · exact aj hl
      · exact nj hl (F'l c m)
    · rw [updF_ne hj] at m
      by_cases hl : l = i
      · rw [hl, updF_same]
        intro z
        rcases List.mem_cons.mp z with rfl | z
        · exact aj hj m
        · exact nj hj (F'l c z) m
      · rw [updF_ne hl]; exact A.ok.dis j l c ne (own j h) m
  · by_cases hj : j = i
    · rw [hj, own_at (setO_own e)] at h; cases h
    · rw [updF_ne hj]; rw [setO_at_ne hj] at h; exact A.ok.emp j h
  · obtain ⟨j, z⟩ := z
    by_cases hj : j = i
    · rw [hj, updF_same] at z
      rcases List.mem_cons.mp z with rfl | z
      · exact aS _ (List.mem_append_right _ m) rfl
      · exact (List.nodup_append.mp nd).2.2 c z c m rfl
    · rw [updF_ne hj] at z; exact nj hj (List.mem_append_right _ m) z
  · have hc : c ≠ a := fun z => (A.stp.subO a (.inl ⟨i, oi, ai⟩)).elim (fun y => n (z ▸ y)) fun y => by rw [z, y] at e; cases e
    rw [upd_ne hc]; exact A.stp.keep c ob e n
  · by_cases hc : c = a
    · rw [hc, upd_same] at e; cases e
    · rw [upd_ne hc] at e; exact A.stp.dom c e
  · have back : ∀ c ∈ F' ++ G', InO en Fs c ∨ c ∈ G := fun c m => (sub c m).imp (fun y => ⟨i, oi, Fi y⟩) id
    rcases m with ⟨j, h, m⟩ | m
    · by_cases hj : j = i
      · rw [hj, updF_same] at m
        rcases List.mem_cons.mp m with rfl | m
        · exact A.stp.subO _ (.inl ⟨i, oi, ai⟩)
        · exact A.stp.subO c (back c (F'l c m))
      · rw [updF_ne hj] at m; exact A.stp.subO c (.inl ⟨j, own j h, m⟩)
    · exact A.stp.subO c (back c (List.mem_append_right _ m))
  · have back : ∀ c ∈ F' ++ G', InF Fs c ∨ c ∈ G := fun c m => (sub c m).imp (fun y => ⟨i, Fi y⟩) id
    rcases m with ⟨j, m⟩ | m
    · by_cases hj : j = i
      · rw [hj, updF_same] at m
        rcases List.mem_cons.mp m with rfl | m
        · exact A.stp.subA _ (.inl ⟨i, ai⟩)
        · exact A.stp.subA c (back c (F'l c m))
      · rw [updF_ne hj] at m; exact A.stp.subA c (.inl ⟨j, m⟩)
    · exact A.stp.subA c (back c (List.mem_append_right _ m))
  · by_cases hj : j = i
    · subst hj
      unfold setO at h
      cases es : en[j]? with
      | none => unfold ownAt at e; rw [es] at e; cases e
      | some s =>
        rw [es] at h
        cases s with
        | b x0 => exact A.bk j x0 es
        | _ => simp only [List.getElem?_set_self (own_lt e)] at h; cases h
    · rw [setO_ne hj] at h; exact A.bk j y h
section
variable {X : Cx} {W : WX} {e a b c : Expr} {es : List Expr} {pos apos : Pos} {m ma mb : En → RM T} {gi : En → R T}
def mApp (i : Nat) (m : En → RM T) : En → RM T := fun en => match ownAt en i with
  | some (.l _) => (m en).bind fun x en1 => match ownAt en1 i with
    | some (.l xs) => if xs.length < most then .ok (.d .non) (setO en1 i (.l (xs ++ [x]))) else .no
    | _ => .no
  | _ => .no
theorem ty_list {K : PySem.W.Frag} {H : Hp} {a : Addr} {vs : List V} (h : H a = some (.lst vs)) : tyV K "list" (.ref a) H := .inl ⟨rfl, _, SqL.of h⟩
theorem m_app (i : Nat) {x : Str} {p : Pos} (ha : PM X W e m) (hN : X.N[i]? = some x := by rfl) (hv : Vis X.env.scope x := by first | exact Or.inl rfl | exact Or.inr (Or.inl rfl) | exact Or.inr (Or.inr rfl)) (hd : (x == ("__debug__" : Str)) = false := by decide) (hcd : (x == ("__classdict__" : Str)) = false := by decide)
    (hbase : attributeBase (.Name x p) "append" X.env (eval (.Name x p) X.env) = eval (.Name x p) X.env := by rfl)
    (hfew : ((backTo pos (starEach [e] X.env)).all (fun x => !x.1) && (backToKw pos (keywordEach [] X.env)).all (fun x => x.1.isSome) && decide ([e].length + ([] : List Keyword).length + (if ([] : List Keyword).isEmpty then 0 else 1) < 30)) = true := by rfl)
    (hline : (apos.endLine == pos.line) = true := by rfl) (hs : starEach [e] X.env = (false, eval e X.env) :: starEach [] X.env := by rfl) (hplain : (backTo pos (starEach [] X.env)).any (·.1) = false := by rfl) :
    PM X W (.Call (.Attribute (.Name x p) "append" apos) [e] [] pos) (mApp i m) := by
  obtain ⟨t, pp, s⟩ := ha
  refine ⟨_, pe_bm PySem.F.plainAttrs_list PySem.F.slot_list_append PySem.F.type_list_append mt_append (pe_var hN hv hd hcd) (pa_cons pp pa_nil hs) hbase hfew hline hs hplain, fun σ H en Fs Q ok q => ?_⟩
  unfold mApp at q
  cases e0 : ownAt en i with
  | none => rw [e0] at q; exact q.elim
  | some x0 =>
    rw [e0] at q
    cases x0 with
    | d d => exact q.elim
    | l xs0 =>
      obtain ⟨v0, h0, o0⟩ := ok.has i _ (own_at e0)
      obtain ⟨a0, vs0, F0, rfl, hH0, _, _⟩ := o0.lst
      refine ⟨_, h0, ty_list hH0, s σ H en Fs _ ok ?_⟩
      simp only at q
      cases e1 : m en with
      | ok x en1 =>
        rw [e1] at q
        simp only [RM.bind_ok] at q
        intro v H' Fs' G A o
        cases e2 : ownAt en1 i with
        | none => rw [e2] at q; exact q.elim
        | some x1 =>
          rw [e2] at q
          cases x1 with
          | d d => exact q.elim
          | l xs =>
            simp only at q
            split at q
            · rename_i hz
              obtain ⟨v1, h1, o1⟩ := A.ok.has i _ (own_at e2)
              rw [h0] at h1; cases h1
              obtain ⟨a1, vs, F, e3, hH, ow, hF⟩ := o1.lst
              cases e3
              have oi : ownAt en1 i ≠ none := by rw [e2]; exact fun z => by cases z
              have nF := A.ok.nod i oi
              rw [hF] at nF
              refine ⟨a0, vs, v, rfl, rfl, hH, by rw [most_eq, ow.length]; exact hz, ?_⟩
              have A2 := A.mut (G' := []) e2 h0 hH hF (ow.snoc o) (by
                rw [List.append_nil]
                exact List.nodup_append.mpr ⟨(List.nodup_cons.mp nF).2, A.nod, fun c hc d hd z => A.dis d hd ⟨i, by rw [hF, ← z]; exact List.mem_cons_of_mem _ hc⟩⟩) (fun c m => by rw [List.append_nil] at m; exact List.mem_append.mp m)
              exact q _ _ _ [] A2 (.d .non)
            · exact q.elim
      | ex c en1 => rw [e1] at q; exact q
      | no => rw [e1] at q; exact q
/-- the last one apart -/
theorem Owns.last {K : PySem.W.Frag} {H : Hp} : ∀ {vs : List V} {xs : List T} {F : List Addr} {x : T}, Owns K H vs xs F → xs.getLast? = some x → ∃ v F' G, vs[vs.length - 1]? = some v ∧ Owns K H vs.dropLast xs.dropLast F' ∧ Own K H v x G ∧ F = F' ++ G
  | _, _, _, x, .nil, h => by cases h
  | _, _, _, x, .cons (v := v) (F := F) o .nil, h => by
    cases h
    exact ⟨v, [], F, rfl, .nil, o, by rw [List.append_nil]; rfl⟩
  | _, _, _, x, .cons (v := v) (x := y) (F := F) o (.cons (v := w) (vs := vs) (x := z) (xs := xs) (F := F2) (G := G2) o2 t), h => by
    rw [List.getLast?_cons_cons] at h
    obtain ⟨u, F', G, h1, h2, h3, h4⟩ := Owns.last (.cons o2 t) h
    refine ⟨u, F ++ F', G, ?_, .cons o h2, h3, by rw [h4, List.append_assoc]⟩
    simpa using h1
def mPop (i : Nat) : En → RM T := fun en => match ownAt en i with
  | some (.l xs) => match xs.getLast? with
    | some x => .ok x (setO en i (.l xs.dropLast))
    | none => .no
  | _ => .no
theorem m_pop (i : Nat) {x : Str} {p : Pos} (hN : X.N[i]? = some x := by rfl) (hv : Vis X.env.scope x := by first | exact Or.inl rfl | exact Or.inr (Or.inl rfl) | exact Or.inr (Or.inr rfl)) (hd : (x == ("__debug__" : Str)) = false := by decide) (hcd : (x == ("__classdict__" : Str)) = false := by decide)
    (hbase : attributeBase (.Name x p) "pop" X.env (eval (.Name x p) X.env) = eval (.Name x p) X.env := by rfl) (hline : (apos.endLine == pos.line) = true := by rfl) :
    PM X W (.Call (.Attribute (.Name x p) "pop" apos) [] [] pos) (mPop i) := by
  refine ⟨_, pe_bm0 PySem.F.plainAttrs_list PySem.F.slot_list_pop PySem.F.type_list_pop mt_pop (pe_var hN hv hd hcd) hbase hline, fun σ H en Fs Q ok q => ?_⟩
  unfold mPop at q
  cases e0 : ownAt en i with
  | none => rw [e0] at q; exact q.elim
  | some x0 =>
    rw [e0] at q
    cases x0 with
    | d d => exact q.elim
    | l xs =>
      simp only at q
      cases el : xs.getLast? with
      | none => rw [el] at q; exact q.elim
      | some x =>
        rw [el] at q
        obtain ⟨v0, h0, o0⟩ := ok.has i _ (own_at e0)
        obtain ⟨a0, vs, F, rfl, hH, ow, hF⟩ := o0.lst
        obtain ⟨v, F', G, h1, h2, h3, h4⟩ := ow.last el
        have oi : ownAt en i ≠ none := by rw [e0]; exact fun z => by cases z
        have nF := ok.nod i oi
        rw [hF] at nF
        refine ⟨_, h0, ty_list hH, a0, vs, v, rfl, rfl, hH, h1, ?_⟩
        have A2 := (Aft.refl ok).mut (G' := G) e0 h0 hH hF h2 (by rw [← h4]; exact (List.nodup_cons.mp nF).2) (fun c m => .inl (by rw [h4]; exact m))
        have nG : ∀ c ∈ G, c ≠ a0 := fun c m z => (List.nodup_cons.mp nF).1 (by rw [h4, ← z]; exact List.mem_append_right _ m)
        exact q v _ _ G A2 (h3.frame (pst_upd hH) fun c m ob e => by rw [upd_ne (nG c m)]; exact e)
/-! ### x[i] = e -/
theorem Owns.put {K : PySem.W.Frag} {H : Hp} {v : V} {x : T} {G : List Addr} (p : Own K H v x G) : ∀ {vs : List V} {xs : List T} {F : List Addr} {j : Nat}, Owns K H vs xs F → j < xs.length → (F ++ G).Nodup → ∃ F', Owns K H (vs.set j v) (xs.set j x) F' ∧ F'.Nodup ∧ ∀ c ∈ F', c ∈ F ∨ c ∈ G
  | _, _, _, j, .nil, h, _ => absurd h (Nat.not_lt_zero _)
  | _, _, _, 0, .cons (F := F) (G := F2) o t, _, nd => by
    refine ⟨G ++ F2, .cons p t, ?_, fun c m => (List.mem_append.mp m).elim .inr fun z => .inl (List.mem_append_right _ z)⟩
    obtain ⟨n1, n2, n3⟩ := List.nodup_append.mp nd
    exact List.nodup_append.mpr ⟨n2, (List.nodup_append.mp n1).2.1, fun c hc d hd z => n3 d (List.mem_append_right _ hd) c hc z.symm⟩
  | _, _, _, j + 1, .cons (F := F) (G := F2) o t, h, nd => by
    obtain ⟨n1, n2, n3⟩ := List.nodup_append.mp nd
    obtain ⟨m1, m2, m3⟩ := List.nodup_append.mp n1
    obtain ⟨F', h1, h2, h3⟩ := Owns.put p t (Nat.lt_of_succ_lt_succ h) (List.nodup_append.mpr ⟨m2, n2, fun c hc d hd z => n3 c (List.mem_append_right _ hc) d hd z⟩)
    refine ⟨F ++ F', .cons o h1, List.nodup_append.mpr ⟨m1, h2, fun c hc d hd z => (h3 d hd).elim (fun y => m3 c hc d y z) fun y => n3 c (List.mem_append_left _ hc) d y z⟩, fun c m => (List.mem_append.mp m).elim (fun z => .inl (List.mem_append_left _ z)) fun z => (h3 c z).imp (List.mem_append_right _) id⟩
def fStore (i : Nat) (gi : En → R T) (m : En → RM T) : En → SR := fun en => (m en).s fun x en1 => match gi en1 with
  | .ok (.d (.int k)) => match ownAt en1 i with
    | some (.l xs) => match ixN xs.length k with
      | some j => .nx (setO en1 i (.l (xs.set j x)))
      | none => .no
    | _ => .no
  | _ => .no
theorem ixN_lt {n j : Nat} {k : Int} (h : ixN n k = some j) : j < n := (ixN_seq h).2.1
theorem s_store (i : Nat) {x : Str} {p tpos : Pos} {ix : Expr} (he : PM X W e m) (hi : PV X W ix gi) (hN : X.N[i]? = some x := by rfl) (hv : Vis X.env.scope x := by first | exact Or.inl rfl | exact Or.inr (Or.inl rfl) | exact Or.inr (Or.inr rfl)) (hd : (x == ("__debug__" : Str)) = false := by decide) (hcd : (x == ("__classdict__" : Str)) = false := by decide)
    (ha : ∀ v, assign (.Subscript (.Name x p) ix tpos) X.env v = (do
      let ov ← holding [v] (eval (.Name x p) X.env)
      let iv ← holding [v, ov] (eval ix X.env); standAt tpos
      holding [v, ov, iv] (setItem ov iv v); release [v, ov, iv] []) := by intro _; rfl) (hs : swapsWithSole [.Subscript (.Name x p) ix tpos] e pos.line X.env = pure false := by rfl) (hw : swappedStores [.Subscript (.Name x p) ix tpos] e X.env = pure none := by rfl)
    (h1 : (assignEach [.Subscript (.Name x p) ix tpos] X.env).map (·.2) = [assign (.Subscript (.Name x p) ix tpos) X.env] := by rfl) : PSt X W (.Assign [.Subscript (.Name x p) ix tpos] e pos) (fStore i gi m) := by
  obtain ⟨t, pp, s⟩ := he
  obtain ⟨t2, p2, s2⟩ := hi
  refine ⟨_, ps_asg pp (pg_sub (pe_var hN hv hd hcd) p2 set_list ha) hs hw h1, fun σ H en Fs D ok q => s σ H en Fs _ ok ?_⟩
  unfold fStore at q
  cases e1 : m en with
  | ok x en1 =>
    rw [e1] at q
    simp only [RM.s_ok] at q
    intro v H' Fs' G A o
    cases eg : gi en1 with
    | ex c => rw [eg] at q; exact q.elim
    | no => rw [eg] at q; exact q.elim
    | ok y =>
      rw [eg] at q
      cases y with
      | l _ => exact q.elim
      | d y =>
        cases y with
        | int k =>
          simp only at q
          cases e2 : ownAt en1 i with
          | none => rw [e2] at q; exact q.elim
          | some x1 =>
            rw [e2] at q
            cases x1 with
            | d d => exact q.elim
            | l xs =>
              simp only at q
              cases ej : ixN xs.length k with
              | none => rw [ej] at q; exact q.elim
              | some j =>
                rw [ej] at q
                obtain ⟨v1, h1, o1⟩ := A.ok.has i _ (own_at e2)
                refine ⟨v1, h1, s2 σ H' en1 _ A.ok.ven ?_⟩
                rw [eg]
                intro w H2 G2 sm ow2
                have r := ow2.rep
                cases r
                have A' : Aft X.K H Fs σ en H2 Fs' σ en1 G := ⟨A.ok.same sm, A.nod, A.dis, ⟨A.stp.pst.trans (.of sm), fun c ob e n => sm _ _ (A.stp.keep c ob e n), fun c e => A.stp.dom c (sm.free e), A.stp.subO, A.stp.subA⟩, A.bk⟩
                obtain ⟨a0, vs, F, rfl, hH, ow, hF⟩ := (o1.mono sm).lst
                have oi : ownAt en1 i ≠ none := by rw [e2]; exact fun z => by cases z
                have nF := A.ok.nod i oi
                rw [hF] at nF
                have o' := o.mono sm
                obtain ⟨F', n1, n2, n3⟩ := ow.put o' (ixN_lt ej) (List.nodup_append.mpr ⟨(List.nodup_cons.mp nF).2, A.nod, fun c hc d hd z => A.dis d hd ⟨i, by rw [hF, ← z]; exact List.mem_cons_of_mem _ hc⟩⟩)
                exact ⟨a0, vs, k, j, rfl, rfl, hH, by rw [ow.length]; exact ej, q _ _ σ (A'.mut (G' := []) e2 h1 hH hF n1 (by rw [List.append_nil]; exact n2) (fun c m => n3 c (by rwa [List.append_nil] at m)))⟩
        | _ => exact q.elim
  | ex c en1 => rw [e1] at q; exact q
  | no => rw [e1] at q; exact q
end
end Z
/-! Z: comprehensions that change the frame's lists; names = comprehensions. -/
namespace Z
open PySem PySem.Spec L2
open PyProof.Rows hiding St

theorem wipeE_get (en : En) (i : Nat) : ∀ vs : List Nat, (wipeE en vs)[i]? = if i ∈ vs then (en[i]?).map fun _ => Sl.n else en[i]?
  | [] => by simp [wipeE]
  | v :: vs => by
    unfold wipeE
    by_cases e : v = i
    · subst e
      rw [if_pos List.mem_cons_self]
      by_cases hl : v < en.length
      · rw [List.getElem?_set_self (by rw [wipeE_len]; exact hl), List.getElem?_eq_getElem hl]; rfl
      · rw [List.getElem?_eq_none (by rw [List.length_set, wipeE_len]; omega), List.getElem?_eq_none (by omega)]; rfl
    · rw [List.getElem?_set_ne e, wipeE_get en i vs]
      have : (i ∈ v :: vs) ↔ i ∈ vs := by simp only [List.mem_cons]; exact ⟨fun h => h.elim (fun z => absurd z.symm e) id, .inr⟩
      by_cases hm : i ∈ vs
      · rw [if_pos hm, if_pos (this.mpr hm)]
      · rw [if_neg hm, if_neg fun z => hm (this.mp z)]
def wipeF (Fs : Ft) (vs : List Nat) : Ft := fun i => if i ∈ vs then [] else Fs i
theorem wipeF_in {Fs : Ft} {vs : List Nat} {i : Nat} {a : Addr} (m : a ∈ wipeF Fs vs i) : i ∉ vs ∧ a ∈ Fs i := by
  unfold wipeF at m
  split at m
  · cases m
  · exact ⟨by assumption, m⟩
theorem wipe_at {en : En} {vs : List Nat} {i : Nat} {x : T} (h : at_ (wipeE en vs) i = some x) : i ∉ vs ∧ at_ en i = some x := by
  unfold at_ at h ⊢
  rw [wipeE_get] at h
  by_cases hm : i ∈ vs
  · rw [if_pos hm] at h; cases e : en[i]? <;> (rw [e] at h; cases h)
  · rw [if_neg hm] at h; exact ⟨hm, h⟩
theorem wipe_own {en : En} {vs : List Nat} {i : Nat} (h : ownAt (wipeE en vs) i ≠ none) : i ∉ vs ∧ ownAt en i ≠ none := by
  unfold ownAt at h ⊢
  rw [wipeE_get] at h
  by_cases hm : i ∈ vs
  · rw [if_pos hm] at h; cases e : en[i]? <;> (rw [e] at h; exact absurd rfl h)
  · rw [if_neg hm] at h; exact ⟨hm, h⟩
/-- the names vs forgotten -/
theorem Aft.wipeTo {K : PySem.W.Frag} {H0 H : Hp} {Fs0 Fs : Ft} {σ0 σ σ' : L2.St} {en0 en : En} {G : List Addr} {vs : List Nat} (a : Aft K H0 Fs0 σ0 en0 H Fs σ en G) (hs : ∀ i, i ∉ vs → σ'[i]? = σ[i]?) (hl : en.length ≤ σ'.length) : Aft K H0 Fs0 σ0 en0 H (wipeF Fs vs) σ' (wipeE en vs) G := by
  refine ⟨⟨by rw [wipeE_len]; exact hl, fun i x h => ?_, fun i h => ?_, fun i j c ne h m => ?_, fun i h => ?_⟩, a.nod, fun c m z => ?_, a.stp.imp (fun c z => z.imp (fun ⟨i, h, m⟩ => ⟨i, (wipe_own h).2, (wipeF_in m).2⟩) id) (fun c z => z.imp (fun ⟨i, m⟩ => ⟨i, (wipeF_in m).2⟩) id), fun i x h => ?_⟩
  · obtain ⟨hn, h⟩ := wipe_at h
    obtain ⟨v, h1, h2⟩ := a.ok.has i x h
    exact ⟨v, by rw [hs i hn]; exact h1, by unfold wipeF; rw [if_neg hn]; exact h2⟩
  · obtain ⟨hn, h⟩ := wipe_own h
    unfold wipeF; rw [if_neg hn]; exact a.ok.nod i h
  · obtain ⟨hn, h⟩ := wipe_own h
    exact fun z => a.ok.dis i j c ne h (wipeF_in m).2 (wipeF_in z).2
  · by_cases hn : i ∈ vs
    · unfold wipeF; rw [if_pos hn]
    · unfold wipeF; rw [if_neg hn]
      refine a.ok.emp i ?_
      unfold at_ at h ⊢
      rw [wipeE_get, if_neg hn] at h
      exact h
  · obtain ⟨i, z⟩ := z
    exact a.dis c m ⟨i, (wipeF_in z).2⟩
  · rw [wipeE_get] at h
    by_cases hn : i ∈ vs
    · rw [if_pos hn] at h; cases e : en[i]? <;> (rw [e] at h; cases h)
    · rw [if_neg hn] at h
      obtain ⟨h1, h2⟩ := a.bk i x h
      exact ⟨h1, by rw [hs i hn]; exact h2⟩
theorem setS_len : ∀ (σ : L2.St) (ws : List (Nat × V)), (setS σ ws).length = σ.length
  | _, [] => rfl
  | σ, (i, v) :: r => by
    show (setS (σ.set i (some v)) r).length = _
    rw [setS_len, List.length_set]
/-- a list that is held aside grows -/
theorem Aft.grow {K : PySem.W.Frag} {H0 H : Hp} {Fs0 Fs : Ft} {σ0 σ : L2.St} {en0 en : En} {F G : List Addr} {D : Addr} {vs : List V} {ts : List T} {v : V} {y : T} (a : Aft K H0 Fs0 σ0 en0 H Fs σ en (D :: F ++ G)) (hD : H D = some (.lst vs)) (o : Owns K H vs ts F) (oy : Own K H v y G) :
    Aft K H0 Fs0 σ0 en0 (upd H D (.lst (vs ++ [v]))) Fs σ en (D :: (F ++ G)) ∧ Owns K (upd H D (.lst (vs ++ [v]))) (vs ++ [v]) (ts ++ [y]) (F ++ G) := by
  have p := pst_upd (ws := vs ++ [v]) hD
  have nd : (D :: (F ++ G)).Nodup := a.nod
  have nD : ∀ c ∈ F ++ G, c ≠ D := fun c m z => (List.nodup_cons.mp nd).1 (z ▸ m)
  have inD : D ∈ D :: F ++ G := List.mem_cons_self
  have up : ∀ {c ob}, c ≠ D → H c = some ob → upd H D (.lst (vs ++ [v])) c = some ob := fun {c ob} h e => by rw [upd_ne h]; exact e
  have fD : ∀ {c}, InF Fs c → c ≠ D := fun {c} m z => a.dis D inD (z ▸ m)
  refine ⟨⟨⟨a.ok.len, fun i x h => ?_, a.ok.nod, a.ok.dis, a.ok.emp⟩, nd, a.dis, ⟨a.stp.pst.trans p, fun c ob e n => ?_, fun c e => ?_, a.stp.subO, a.stp.subA⟩, a.bk⟩, ?_⟩
  · obtain ⟨w, h1, h2⟩ := a.ok.has i x h
    exact ⟨w, h1, h2.frame p fun c m ob e => up (fD ⟨i, m⟩) e⟩
  · have hc : c ≠ D := fun z => (a.stp.subO D (.inr inD)).elim (fun y => n (z ▸ y)) fun y => by rw [z, y] at e; cases e
    exact up hc (a.stp.keep c ob e n)
  · by_cases hc : c = D
    · rw [hc, upd_same] at e; cases e
    · rw [upd_ne hc] at e; exact a.stp.dom c e
  · exact (o.frame p fun c m ob e => up (nD c (List.mem_append_left _ m)) e).snoc (oy.frame p fun c m ob e => up (nD c (List.mem_append_right _ m)) e)
def lcM (vs : List Nat) (k : T → Option Ass) (tt : En → R Bool) (te : En → RM T) : List T → En → RM (List T)
  | [], en => .ok [] en
  | x :: xs, en => match (kD k x).bind fun as => stowD (wipeE en vs) as with
    | none => .no
    | some en2 => match tt en2 with
      | .ok true => match te en2 with
        | .ok y en4 => (lcM vs k tt te xs (wipeE en4 vs)).bind fun ys en' => .ok (y :: ys) en'
        | _ => .no
      | .ok false => lcM vs k tt te xs (wipeE en2 vs)
      | _ => .no
def RM.calm {α : Type} : RM α → RM α
  | .ok a en => .ok a en
  | _ => .no
def mLc (vs : List Nat) (mi : En → RM (List T)) (k : T → Option Ass) (tt : En → R Bool) (te : En → RM T) : En → RM T := fun en => (mi en).bind fun xs en1 => (lcM vs k tt te xs en1).calm.bind fun ys en2 => if ys.length < most then .ok (.l ys) en2 else .no
section
variable (X : Cx) (W : WX)
def cM (m : En → RM T) : TE := fun σ H Q => ∃ en Fs, EOk X.K H σ en Fs ∧ MQ X W H Fs σ en Q (m en)
def cMI (m : En → RM (List T)) : TI := fun σ H Q => ∃ en Fs, EOk X.K H σ en Fs ∧ MI X W H Fs σ en Q (m en)
end
theorem PM.can {X : Cx} {W : WX} {e : Expr} {m : En → RM T} (h : PM X W e m) : PE X e (cM X W m) := by
  obtain ⟨t, p, s⟩ := h
  exact ⟨fun pins st σ H Q I ⟨en, Fs, ok, q⟩ => p.run pins st σ H Q I (s σ H en Fs Q ok q)⟩
theorem PMI.can {X : Cx} {W : WX} {tg e : Expr} {m : En → RM (List T)} (h : PMI X W tg e m) : PI X tg e (cMI X W m) := by
  obtain ⟨t, p, s⟩ := h
  exact ⟨fun pins st σ H Q I ⟨en, Fs, ok, q⟩ => p.run pins st σ H Q I (s σ H en Fs Q ok q)⟩
theorem wipe_ne {σ : L2.St} {i : Nat} {vs : List Nat} (h : i ∉ vs) : (wipe σ vs)[i]? = σ[i]? := by rw [wipe_get, if_neg h]
section
variable {X : Cx} {W : WX} {elt tg it : Expr} {ifs : List Expr} {scope : Scope} {pos : Pos} {mi : En → RM (List T)} {gi : En → R (List T)} {k : T → Option Ass} {tt : En → R Bool} {te : En → RM T} {tq : En → R T}
theorem sp_lcM {own : List (Str × Nat)} (hk : ∀ x as, k x = some as → ∀ p ∈ as, p.1 ∈ own.map (·.2)) : ∀ σ H en Fs Q, EOk X.K H σ en Fs → MQ X W H Fs σ en Q (mLc (own.map (·.2)) mi k tt te en) → tLc (cMI X W mi) (tgt X.K k) (cT X W0 tt) (cM X W0 te) (own.map (·.2)) σ H Q := by
  intro σ H en Fs Q ok q
  refine ⟨en, Fs, ok, ?_⟩
  unfold mLc at q
  cases e : mi en with
  | ex c en1 => rw [e] at q; exact q
  | no => rw [e] at q; exact q
  | ok xs en1 =>
    rw [e] at q
    intro J H1 Fs1 Gi a1 iok tG D nD
    simp only [RM.bind_ok] at q
    cases el : lcM (own.map (·.2)) k tt te xs en1 with
    | ex c en2 => rw [el] at q; exact q.elim
    | no => rw [el] at q; exact q.elim
    | ok ys enf =>
      rw [el] at q
      simp only [RM.calm, RM.bind_ok] at q
      split at q
      · rename_i yz
        have base : Aft X.K H1 Fs1 σ en1 (upd H1 D (.lst [])) Fs1 σ en1 [D] := .quiet a1.ok (same_new nD) (fresh1 nD)
        have nDG : D ∉ Gi := fun m => tG D m nD
        refine lc_it iok (fun i H2 => ∃ en2 Fs2 vs ts F rest, Aft X.K H Fs σ en H2 Fs2 σ en2 (D :: F) ∧ H2 D = some (.lst vs) ∧ Owns X.K H2 vs ts F ∧ Kept Gi H1 H2 ∧ (∀ c ∈ Gi, ¬ InO en2 Fs2 c) ∧ lcM (own.map (·.2)) k tt te (xs.drop i) en2 = .ok rest enf ∧ ts ++ rest = ys)
          ⟨en1, Fs1, [], [], [], ys, a1.drop.trans base, upd_same, .nil, .of (same_new nD), fun c m z => a1.dis c m z.a, by rw [List.drop_zero]; exact el, rfl⟩ (fun i H2 _ h => ?_) (fun i v H2 H3 hi h y => ?_) (fun H2 h => ?_)
        · obtain ⟨_, _, _, _, _, _, _, _, _, kp, _⟩ := h
          exact kp
        · obtain ⟨en2, Fs2, vs, ts, F, rest, A, hD, ow, kp, nO, er, eq⟩ := h
          obtain ⟨s3, x, Fx, hx, ox, hF⟩ := y
          have hd : xs.drop i = x :: xs.drop (i + 1) := by
            rw [List.drop_eq_getElem_cons hi]
            rw [List.getElem?_eq_getElem hi] at hx
            rw [Option.some.inj hx]
          rw [hd] at er
          unfold lcM at er
          cases ek : kD k x with
          | none => rw [ek] at er; cases er
          | some as =>
            rw [ek] at er
            simp only [Option.bind_some] at er
            obtain ⟨d, rfl, ek⟩ : ∃ d, x = .d d ∧ k x = some as := by
              cases x with
              | d d => exact ⟨d, rfl, ek⟩
              | l _ => cases ek
            have ox : Own X.K H3 v (.d d) [] := .d ox.rep
            cases es : stowD (wipeE en2 (own.map (·.2))) as with
            | none => rw [es] at er; cases er
            | some en3 =>
              rw [es] at er
              simp only at er
              refine ⟨_, [], as, ox, ek, fun ws aok => ⟨by rw [wipe_sets aok (hk _ as ek), wipe_wipe], ?_⟩⟩
              have A3 : Aft X.K H Fs σ en H3 Fs2 σ en2 (D :: F) := by
                have b : Aft X.K H2 Fs2 σ en2 H3 Fs2 σ en2 [] := .quiet A.ok s3 Fresh.nil
                have := A.held (fun c m => by
                  rcases List.mem_cons.mp m with rfl | m
                  · rw [hD]; exact fun z => by cases z
                  · exact ow.there c m) b
                rwa [List.append_nil] at this
              have A4 := A3.wipeTo (σ' := wipe σ (own.map (·.2))) (vs := own.map (·.2)) (fun j hj => wipe_ne hj) (by rw [wipe_length]; exact A3.ok.len)
              obtain ⟨Fs3, B⟩ := (Aft.refl A4.ok).putD aok es
              have ow3 := ow.mono s3
              have hD3 := s3 _ _ hD
              have tDF : ∀ c ∈ D :: F, H3 c ≠ none := fun c m => by
                rcases List.mem_cons.mp m with rfl | m
                · rw [hD3]; exact fun z => by cases z
                · exact ow3.there c m
              have AB := A4.held tDF B
              rw [List.append_nil] at AB
              have kp3 : Kept Gi H1 H3 := kp.trans (.of s3)
              have tG3 : ∀ c ∈ Gi, H3 c ≠ none := fun c m z => by
                cases e1 : H1 c with
                | none => exact tG c m e1
                | some o => rw [kp3.2 c m o e1] at z; cases z
              have nO3 : ∀ c ∈ Gi, ¬ InO en3 Fs3 c := fun c m z => (B.stp.subO c (.inl z)).elim (fun ⟨j, h, y⟩ => nO c m ⟨j, (wipe_own h).2, (wipeF_in y).2⟩) (tG3 c m)
              have len2 : (setS (wipe σ (own.map (·.2))) ws).length = σ.length := by rw [setS_len, wipe_length]
              have same2 : ∀ j, j ∉ own.map (·.2) → σ[j]? = (setS (wipe σ (own.map (·.2))) ws)[j]? := fun j hj => by
                have := wipe_sets (σ := wipe σ (own.map (·.2))) aok (hk _ as ek)
                have t := congrArg (fun l : L2.St => l[j]?) this
                simp only [wipe_ne hj] at t
                exact t.symm
              refine ⟨en3, B.ok.ven, ?_⟩
              cases et : tt en3 with
              | ex c => rw [et] at er; cases er
              | no => rw [et] at er; cases er
              | ok b =>
                rw [et] at er
                intro H4 s4
                have hD4 := s4 _ _ hD3
                have ow4 := ow3.mono s4
                have AB4 : Aft X.K H Fs σ en H4 Fs3 (setS (wipe σ (own.map (·.2))) ws) en3 (D :: F) := by
                  have := AB.held tDF (.quiet AB.ok s4 Fresh.nil)
                  rwa [List.append_nil] at this
                cases b with
                | false =>
                  simp only [Bool.false_eq_true, if_false] at er ⊢
                  refine ⟨_, _, vs, ts, F, rest, AB4.wipeTo same2 (by rw [← len2]; exact AB4.ok.len), hD4, ow4, kp3.trans (.of s4), fun c m ⟨j, h, y⟩ => nO3 c m ⟨j, (wipe_own h).2, (wipeF_in y).2⟩, er, eq⟩
                | true =>
                  simp only [if_true] at er ⊢
                  refine ⟨en3, Fs3, AB4.ok, ?_⟩
                  cases ee : te en3 with
                  | ex c en5 => rw [ee] at er; cases er
                  | no => rw [ee] at er; cases er
                  | ok y en5 =>
                    rw [ee] at er
                    simp only at er
                    cases e2 : lcM (own.map (·.2)) k tt te (xs.drop (i + 1)) (wipeE en5 (own.map (·.2))) with
                    | ex c en6 => rw [e2] at er; cases er
                    | no => rw [e2] at er; cases er
                    | ok rs en6 =>
                      rw [e2] at er
                      simp only [RM.bind_ok] at er
                      cases er
                      intro v5 H5 Fs5 G5 C o5
                      have nDF : ∀ c ∈ D :: F, ¬ InF Fs3 c := fun c m => AB4.dis c m
                      have hD5 : H5 D = some (.lst vs) := C.stp.keep D _ hD4 fun z => nDF D List.mem_cons_self z.a
                      have ow5 := (C.stp.frames (fun _ z => z.a) ow4 fun c m => nDF c (List.mem_cons_of_mem _ m)).1
                      have tz : ts.length < most := by rw [← eq, List.length_append] at yz; omega
                      have tDF4 : ∀ c ∈ D :: F, H4 c ≠ none := fun c m z => tDF c m (s4.free z)
                      have A6 := (AB4.held tDF4 C).wipeTo same2 (by rw [← len2]; exact C.ok.len)
                      obtain ⟨A7, ow7⟩ := A6.grow hD5 ow5 o5
                      refine ⟨vs, hD5, by rw [most_eq, ow5.length]; exact tz, _, _, vs ++ [v5], ts ++ [y], F ++ G5, rs, A7, upd_same, ow7, ?_, fun c m ⟨j, h, z⟩ => ?_, e2, by rw [← eq, List.append_assoc]; rfl⟩
                      · exact kept_grow (K := X.K) (H0 := H) (H3 := H) ((kp3.trans (.of s4)).trans ⟨C.stp.pst, fun c m o e => C.stp.keep c o e (nO3 c m)⟩) hD5 nDG
                      · exact (C.stp.subO c (.inl ⟨j, (wipe_own h).2, (wipeF_in z).2⟩)).elim (nO3 c m) fun z => tG3 c m (s4.free z)
        · obtain ⟨en2, Fs2, vs, ts, F, rest, A, hD, ow, kp, nO, er, eq⟩ := h
          rw [List.drop_length] at er
          cases er
          rw [List.append_nil] at eq
          subst eq
          exact q _ H2 Fs2 (D :: F) A (.l hD ow)
      · exact q.elim
variable (own : List (Str × Nat))
theorem m_lc (cz : Cz X W) (hi : PMI X W tg it mi) (ok : blkC X.N X.env.scope scope own = true) (hk : ∀ x as, k x = some as → ∀ p ∈ as, p.1 ∈ own.map (·.2))
    (hg : ∀ (s : Shared) (H : Hp) (C : Addr) (cl : List (Str × Addr)) (fp : List Addr), PTg (X.blk s H scope (compEnvC scope cl C X.env) fp) tg k) (ht : ∀ (s : Shared) (H : Hp) (C : Addr) (cl : List (Str × Addr)) (fp : List Addr), PCs (X.blk s H scope (compEnvC scope cl C X.env) fp) W0 ifs tt)
    (he : ∀ (s : Shared) (H : Hp) (C : Addr) (cl : List (Str × Addr)) (fp : List Addr), PM (X.blk s H scope (compEnvC scope cl C X.env) fp) W0 elt te) (hs : ∀ x, foldedSetIterable it X.env x = pure x := by intro _; rfl) :
    PM X W (.ListComp elt [⟨tg, it, ifs, 0⟩] scope pos) (mLc (own.map (·.2)) mi k tt te) :=
  ⟨_, pe_lc (own := own) (g := tgt X.K k) (tt := cT X W0 tt) (te := cM X W0 te) cz.calm cz.nd hi.can (blkOk_by ok) hg ht (fun s H C cl fp => (he s H C cl fp).can) hs, sp_lcM hk⟩
/-- name = [..] -/
theorem s_setLc (i : Nat) {y : Str} {py spos : Pos} (cz : Cz X W) (hi : PIv X W tg it gi) (ok : blkC X.N X.env.scope scope own = true) (hk : ∀ x as, k x = some as → ∀ p ∈ as, p.1 ∈ own.map (·.2))
    (hg : ∀ (s : Shared) (H : Hp) (C : Addr) (cl : List (Str × Addr)) (fp : List Addr), PTg (X.blk s H scope (compEnvC scope cl C X.env) fp) tg k) (ht : ∀ (s : Shared) (H : Hp) (C : Addr) (cl : List (Str × Addr)) (fp : List Addr), PCs (X.blk s H scope (compEnvC scope cl C X.env) fp) W0 ifs tt)
    (he : ∀ (s : Shared) (H : Hp) (C : Addr) (cl : List (Str × Addr)) (fp : List Addr), PN (X.blk s H scope (compEnvC scope cl C X.env) fp) W0 elt tq) (hy : X.N[i]? = some y := by rfl) (hyl : X.env.scope.names.lookup y = some .local := by rfl)
    (hsw : swapsWith (.ListComp elt [⟨tg, it, ifs, 0⟩] scope pos) (some (.Name y py)) spos.line X.env = pure true := by exact sw_true rfl rfl rfl (by decide +kernel)) (hs : ∀ x, foldedSetIterable it X.env x = pure x := by intro _; rfl) :
    PSt X W (.Assign [.Name y py] (.ListComp elt [⟨tg, it, ifs, 0⟩] scope pos) spos) (fSet i (lft (gLc (own.map (·.2)) gi k tt tq))) := by
  refine ⟨_, ps_setLc (own := own) (g := tgt X.K k) (tt := cT X W0 tt) (te := cN X W0 tq) cz.calm cz.nd hy hyl hsw hi.can (blkOk_by ok) hg ht (fun s H C cl fp => (he s H C cl fp).can) hs, sp_set ?_⟩
  intro σ H en Fs Q okE q
  refine sp_lc (W := W) hk σ H en Q okE.ven ?_
  unfold lft at q
  cases e : gLc (own.map (·.2)) gi k tt tq en with
  | ok x => rw [e] at q; exact fun v H' G sm o fr => q v H' Fs G (.quiet okE sm fr) o
  | ex c => rw [e] at q; exact XQ.xm (W := W) okE q
  | no => rw [e] at q; exact q
theorem s_setLcM (i : Nat) {y : Str} {py spos : Pos} (cz : Cz X W) (hi : PMI X W tg it mi) (ok : blkC X.N X.env.scope scope own = true) (hk : ∀ x as, k x = some as → ∀ p ∈ as, p.1 ∈ own.map (·.2))
    (hg : ∀ (s : Shared) (H : Hp) (C : Addr) (cl : List (Str × Addr)) (fp : List Addr), PTg (X.blk s H scope (compEnvC scope cl C X.env) fp) tg k) (ht : ∀ (s : Shared) (H : Hp) (C : Addr) (cl : List (Str × Addr)) (fp : List Addr), PCs (X.blk s H scope (compEnvC scope cl C X.env) fp) W0 ifs tt)
    (he : ∀ (s : Shared) (H : Hp) (C : Addr) (cl : List (Str × Addr)) (fp : List Addr), PM (X.blk s H scope (compEnvC scope cl C X.env) fp) W0 elt te) (hy : X.N[i]? = some y := by rfl) (hyl : X.env.scope.names.lookup y = some .local := by rfl)
    (hsw : swapsWith (.ListComp elt [⟨tg, it, ifs, 0⟩] scope pos) (some (.Name y py)) spos.line X.env = pure true := by exact sw_true rfl rfl rfl (by decide +kernel)) (hs : ∀ x, foldedSetIterable it X.env x = pure x := by intro _; rfl) :
    PSt X W (.Assign [.Name y py] (.ListComp elt [⟨tg, it, ifs, 0⟩] scope pos) spos) (fSet i (mLc (own.map (·.2)) mi k tt te)) :=
  ⟨_, ps_setLc (own := own) (g := tgt X.K k) (tt := cT X W0 tt) (te := cM X W0 te) cz.calm cz.nd hy hyl hsw hi.can (blkOk_by ok) hg ht (fun s H C cl fp => (he s H C cl fp).can) hs, sp_set (sp_lcM hk)⟩
end
section
variable {X : Cx} {W : WX} {elt tg it tg1 it1 : Expr} {ifs ifs1 : List Expr} {scope : Scope} {pos : Pos} {gi gi1 : En → R (List T)} {k k1 : T → Option Ass} {tt tt1 : En → R Bool} {te : En → R T}
theorem s_setLc2 (own : List (Str × Nat)) (vs1 : List Nat) (i : Nat) {y : Str} {py spos : Pos} (cz : Cz X W) (hi : PIv X W tg it gi) (ok : blkC X.N X.env.scope scope own = true) (hv : ∀ i ∈ vs1, i ∈ own.map (·.2)) (hk : ∀ x as, k x = some as → ∀ p ∈ as, p.1 ∈ own.map (·.2)) (hk1 : ∀ x as, k1 x = some as → ∀ p ∈ as, p.1 ∈ vs1)
    (hg : ∀ (s : Shared) (H : Hp) (C : Addr) (cl : List (Str × Addr)) (fp : List Addr), PTg (X.blk s H scope (compEnvC scope cl C X.env) fp) tg k) (ht : ∀ (s : Shared) (H : Hp) (C : Addr) (cl : List (Str × Addr)) (fp : List Addr), PCs (X.blk s H scope (compEnvC scope cl C X.env) fp) W0 ifs tt)
    (hi1 : ∀ (s : Shared) (H : Hp) (C : Addr) (cl : List (Str × Addr)) (fp : List Addr), PIn (X.blk s H scope (compEnvC scope cl C X.env) fp) W0 tg1 it1 gi1)
    (hg1 : ∀ (s : Shared) (H : Hp) (C : Addr) (cl : List (Str × Addr)) (fp : List Addr), PTg (X.blk s H scope (compEnvC scope cl C X.env) fp) tg1 k1) (ht1 : ∀ (s : Shared) (H : Hp) (C : Addr) (cl : List (Str × Addr)) (fp : List Addr), PCs (X.blk s H scope (compEnvC scope cl C X.env) fp) W0 ifs1 tt1)
    (he : ∀ (s : Shared) (H : Hp) (C : Addr) (cl : List (Str × Addr)) (fp : List Addr), PN (X.blk s H scope (compEnvC scope cl C X.env) fp) W0 elt te) (hy : X.N[i]? = some y := by rfl) (hyl : X.env.scope.names.lookup y = some .local := by rfl)
    (hsw : swapsWith (.ListComp elt [⟨tg, it, ifs, 0⟩, ⟨tg1, it1, ifs1, 0⟩] scope pos) (some (.Name y py)) spos.line X.env = pure true := by exact sw_true rfl rfl rfl (by decide +kernel)) (hs : ∀ x, foldedSetIterable it X.env x = pure x := by intro _; rfl) (hs1 : ∀ env x, foldedSetIterable it1 env x = pure x := by intro _ _; rfl) :
    PSt X W (.Assign [.Name y py] (.ListComp elt [⟨tg, it, ifs, 0⟩, ⟨tg1, it1, ifs1, 0⟩] scope pos) spos) (fSet i (lft (gLc2 (own.map (·.2)) gi k tt gi1 vs1 k1 tt1 te))) := by
  refine ⟨_, ps_setLc2 (own := own) (vs1 := vs1) (g := tgt X.K k) (tt := cT X W0 tt) (te := cN X W0 te) (wi1 := cJ X W0 gi1) (g1 := tgt X.K k1) (tt1 := cT X W0 tt1) cz.calm cz.nd hy hyl hsw hi.can (blkOk_by ok) hv hg ht (fun s H C cl fp => (hi1 s H C cl fp).can) hg1 ht1 (fun s H C cl fp => (he s H C cl fp).can) hs hs1, sp_set ?_⟩
  intro σ H en Fs Q okE q
  refine sp_lc2 (W := W) hk hk1 σ H en Q okE.ven ?_
  unfold lft at q
  cases e : gLc2 (own.map (·.2)) gi k tt gi1 vs1 k1 tt1 te en with
  | ok x => rw [e] at q; exact fun v H' G sm o fr => q v H' Fs G (.quiet okE sm fr) o
  | ex c => rw [e] at q; exact XQ.xm (W := W) okE q
  | no => rw [e] at q; exact q
end
end Z
/-! Z: defs: what their bodies compute; a first argument that is changed. -/
namespace Z
open PySem PySem.Spec L2
open PyProof.Rows hiding St

/-! ### a def that changes its first argument's list -/
inductive RF where
  | ok (r x0 : T) | ex (c : Exc) (x0 : T) | no
/-- seen, away from some addresses -/
inductive Vwa (K : PySem.W.Frag) (H : Hp) (Z : List Addr) : List V → List T → Prop
  | nil : Vwa K H Z [] []
  | cons {v : V} {vs : List V} {x : T} {xs : List T} {G : List Addr} : Own K H v x G → (∀ a ∈ G, a ∉ Z) → Vwa K H Z vs xs → Vwa K H Z (v :: vs) (x :: xs)
def spM (K : PySem.W.Frag) (mg : Str → Option Value) (F : T → List T → RF) : Sp := fun vs H Q E => ∃ v0 us x0 G0 xs, vs = v0 :: us ∧ Own K H v0 x0 G0 ∧ G0.Nodup ∧ Vwa K H G0 us xs ∧ match F x0 xs with
  | .ok r x' => ∀ v H' G' G, Stp H (· ∈ G0) (· ∈ G0) H' (· ∈ G' ++ G) (· ∈ G' ++ G) → Own K H' v0 x' G' → Own K H' v r G → (G' ++ G).Nodup → Q v H'
  | .ex c x' => ∀ cls dx H' G', Stp H (· ∈ G0) (· ∈ G0) H' (· ∈ G') (· ∈ G') → Own K H' v0 x' G' → G'.Nodup → ExIs K mg H' c cls dx → E cls dx H'
  | .no => False
structure FnM (P : Program) (w : World) (K : PySem.W.Frag) (mg : Str → Option Value) (base : Heap) (x : Str) (k : Nat) (F : T → List T → RF) : Prop where
  ex : ∃ (f : Addr) (fd : FuncData) (ps : List Str), FnOk P w K mg base (L2.CX P w) k f fd ps (spM K mg F) ∧ mg x = some (.ref f) ∧ PySem.W.keepIn K (.ref f) = true ∧ Binds K fd ps []
/-! arguments: values of our own, or names -/
inductive Hd where
  | o (x : T) | n (i : Nat)
inductive HdsOk (K : PySem.W.Frag) (H : Hp) (σ : L2.St) : List Hd → List V → List Addr → Prop
  | nil : HdsOk K H σ [] [] []
  | o {v : V} {vs : List V} {x : T} {hs : List Hd} {F G : List Addr} : Own K H v x F → HdsOk K H σ hs vs G → HdsOk K H σ (.o x :: hs) (v :: vs) (F ++ G)
  | n {v : V} {vs : List V} {i : Nat} {hs : List Hd} {G : List Addr} : σ[i]? = some (some v) → HdsOk K H σ hs vs G → HdsOk K H σ (.n i :: hs) (v :: vs) G
theorem HdsOk.frame {K : PySem.W.Frag} {H H' : Hp} {σ : L2.St} (p : Pst H H') : ∀ {hs : List Hd} {vs : List V} {G : List Addr}, HdsOk K H σ hs vs G → (∀ a ∈ G, ∀ o, H a = some o → H' a = some o) → HdsOk K H' σ hs vs G
  | _, _, _, .nil, _ => .nil
  | _, _, _, .o r t, k => .o (r.frame p fun a m => k a (List.mem_append_left _ m)) (HdsOk.frame p t fun a m => k a (List.mem_append_right _ m))
  | _, _, _, .n e t, k => .n e (HdsOk.frame p t k)
theorem HdsOk.there {K : PySem.W.Frag} {H : Hp} {σ : L2.St} : ∀ {hs : List Hd} {vs : List V} {G : List Addr}, HdsOk K H σ hs vs G → ∀ a ∈ G, H a ≠ none
  | _, _, _, .nil, a, m => absurd m List.not_mem_nil
  | _, _, _, .o r t, a, m => (List.mem_append.mp m).elim (r.there a) (HdsOk.there t a)
  | _, _, _, .n e t, a, m => HdsOk.there t a m
section
variable (X : Cx) (W : WX)
def MH (H : Hp) (Fs : Ft) (σ : L2.St) (en : En) (Q : List V → Hp → Prop) : RM (List Hd) → Prop
  | .ok hs en' => ∀ vs H' Fs' G, Aft X.K H Fs σ en H' Fs' σ en' G → HdsOk X.K H' σ hs vs G → Q vs H'
  | .ex c en' => XM X W H Fs σ en c en'
  | .no => False
def PMH (es : List Expr) (m : En → RM (List Hd)) : Prop := ∃ t, PA X es t ∧ ∀ σ H en Fs Q, EOk X.K H σ en Fs → MH X W H Fs σ en Q (m en) → t σ H Q
end
section
variable {X : Cx} {W : WX} {a : Expr} {es : List Expr} {pos : Pos} {m : En → RM T} {ms : En → RM (List Hd)}
def hNil : En → RM (List Hd) := fun en => .ok [] en
def hO (m : En → RM T) (ms : En → RM (List Hd)) : En → RM (List Hd) := fun en => (m en).bind fun x en1 => (ms en1).bind fun xs en2 => .ok (.o x :: xs) en2
def hN (i : Nat) (ms : En → RM (List Hd)) : En → RM (List Hd) := fun en => if (at_ en i).isSome then (ms en).bind fun xs en2 => .ok (.n i :: xs) en2 else .no
theorem mh_nil : PMH X W [] hNil := ⟨_, pa_nil, fun σ H en Fs Q ok q => q [] H Fs [] (.refl ok) .nil⟩
theorem mh_o (ha : PM X W a m) (hr : PMH X W es ms) (hs : starEach (a :: es) X.env = (false, eval a X.env) :: starEach es X.env := by rfl) : PMH X W (a :: es) (hO m ms) := by
  obtain ⟨t, p, s⟩ := ha
  obtain ⟨t2, p2, s2⟩ := hr
  refine ⟨_, pa_cons p p2 hs, fun σ H en Fs Q ok q => s σ H en Fs _ ok ?_⟩
  unfold hO at q
  cases e : m en with
  | ok x en1 =>
    rw [e] at q
    simp only [RM.bind_ok] at q
    intro v H' Fs' G a o
    refine s2 σ H' en1 Fs' _ a.ok ?_
    cases e2 : ms en1 with
    | ok xs en2 =>
      rw [e2] at q
      exact fun vs H2 Fs2 G2 a2 o2 => q (v :: vs) H2 Fs2 (G ++ G2) (a.held o.there a2) (.o (a2.stp.frame (fun _ z => z.a) o a.dis).1 o2)
    | ex c en2 => rw [e2] at q; exact XM.after (W := W) a q
    | no => rw [e2] at q; exact q
  | ex c en1 => rw [e] at q; exact q
  | no => rw [e] at q; exact q
theorem mh_n (i : Nat) {x : Str} {p : Pos} (hr : PMH X W es ms) (hN : X.N[i]? = some x := by rfl) (hv : Vis X.env.scope x := by first | exact Or.inl rfl | exact Or.inr (Or.inl rfl) | exact Or.inr (Or.inr rfl)) (hd : (x == ("__debug__" : Str)) = false := by decide) (hcd : (x == ("__classdict__" : Str)) = false := by decide)
    (hs : starEach (.Name x p :: es) X.env = (false, eval (.Name x p) X.env) :: starEach es X.env := by rfl) : PMH X W (.Name x p :: es) (Z.hN i ms) := by
  obtain ⟨t2, p2, s2⟩ := hr
  refine ⟨_, pa_cons (pe_var hN hv hd hcd) p2 hs, fun σ H en Fs Q ok q => ?_⟩
  unfold Z.hN at q
  split at q
  · rename_i h
    cases e : at_ en i with
    | none => rw [e] at h; cases h
    | some x =>
      obtain ⟨v, h1, _⟩ := ok.has i x e
      refine ⟨v, h1, s2 σ H en Fs _ ok ?_⟩
      cases e2 : ms en with
      | ok xs en2 =>
        rw [e2] at q
        exact fun vs H2 Fs2 G2 a2 o2 => q (v :: vs) H2 Fs2 G2 a2 (.n h1 o2)
      | ex c en2 => rw [e2] at q; exact q
      | no => rw [e2] at q; exact q
  · exact q.elim
/-- what the arguments are, beside the name i -/
def hds (en : En) (i : Nat) : List Hd → Option (List T)
  | [] => some []
  | .o x :: r => (hds en i r).map (x :: ·)
  | .n j :: r => if j = i then none else (at_ en j).bind fun x => (hds en i r).map (x :: ·)
theorem HdsOk.vwa {K : PySem.W.Frag} {H : Hp} {σ : L2.St} {en : En} {Fs : Ft} {i : Nat} (ok : EOk K H σ en Fs) (oi : ownAt en i ≠ none) : ∀ {hs : List Hd} {vs : List V} {G : List Addr} {xs : List T}, HdsOk K H σ hs vs G → (∀ a ∈ G, ¬ InF Fs a) → hds en i hs = some xs → Vwa K H (Fs i) vs xs
  | _, _, _, _, .nil, _, h => by cases h; exact .nil
  | _, _, _, _, .o r t, d, h => by
    obtain ⟨ys, h1, rfl⟩ := Option.map_eq_some_iff.mp h
    exact .cons r (fun a m z => d a (List.mem_append_left _ m) ⟨i, z⟩) (HdsOk.vwa ok oi t (fun a m => d a (List.mem_append_right _ m)) h1)
  | _, _, _, _, .n (i := j) e t, d, h => by
    unfold hds at h
    split at h
    · cases h
    · rename_i hj
      obtain ⟨x, h0, h⟩ := Option.bind_eq_some_iff.mp h
      obtain ⟨ys, h1, rfl⟩ := Option.map_eq_some_iff.mp h
      obtain ⟨v, h2, h3⟩ := ok.has j x h0
      rw [e] at h2; cases h2
      exact .cons h3 (fun a m z => ok.dis i j a (Ne.symm hj) oi z m) (HdsOk.vwa ok oi t d h1)
/-- what one name holds was changed -/
theorem Aft.slot {K : PySem.W.Frag} {H0 H H' : Hp} {Fs0 Fs : Ft} {σ0 σ : L2.St} {en0 en : En} {G G' F' : List Addr} {i : Nat} {x x' : T} {v : V} (A : Aft K H0 Fs0 σ0 en0 H Fs σ en G) (e : ownAt en i = some x) (hσ : σ[i]? = some (some v)) (s : Stp H (· ∈ Fs i) (· ∈ Fs i) H' (· ∈ F' ++ G') (· ∈ F' ++ G')) (o : Own K H' v x' F') (nd : (F' ++ G').Nodup) :
    Aft K H0 Fs0 σ0 en0 H' (updF Fs i F') σ (setO en i x') G' := by
  have oi : ownAt en i ≠ none := by rw [e]; exact fun z => by cases z
  have own : ∀ j, ownAt (setO en i x') j ≠ none → ownAt en j ≠ none := fun j h => by
    by_cases hj : j = i
    · rw [hj]; exact oi
    · rwa [setO_own_ne hj] at h
  have nj : ∀ {j c}, j ≠ i → c ∈ F' ++ G' → c ∉ Fs j := fun {j c} hj m z => (s.subO c m).elim (fun y => A.ok.dis i j c (Ne.symm hj) oi y z) fun y => by
    obtain ⟨vs, hv⟩ := A.ok.there ⟨j, z⟩
    rw [y] at hv; cases hv
  have F'l : ∀ c ∈ F', c ∈ F' ++ G' := fun c m => List.mem_append_left _ m
  refine ⟨⟨by rw [setO_len]; exact A.ok.len, fun j y h => ?_, fun j h => ?_, fun j l c ne h m => ?_, fun j h => ?_⟩, (List.nodup_append.mp nd).2.1, fun c m z => ?_, ⟨A.stp.pst.trans s.pst, fun c ob e n => ?_, fun c e => A.stp.dom c (s.dom c e), fun c m => ?_, fun c m => ?_⟩, fun j y h => ?_⟩
  · by_cases hj : j = i
    · subst hj
      rw [own_at (setO_own e)] at h; cases h
      exact ⟨_, hσ, by rw [updF_same]; exact o⟩
    · rw [setO_at_ne hj] at h
      obtain ⟨w, h1, h2⟩ := A.ok.has j y h
      have h3 : Own K H' w y (Fs j) := h2.frame s.pst fun c m ob e => s.keep c ob e fun z => A.ok.dis i j c (Ne.symm hj) oi z m
      exact ⟨w, h1, by rw [updF_ne hj]; exact h3⟩
  · by_cases hj : j = i
    · rw [hj, updF_same]; exact (List.nodup_append.mp nd).1
    · rw [updF_ne hj]; exact A.ok.nod j (own j h)
  · by_cases hj : j = i
    · rw [hj, updF_same] at m
      have hl : l ≠ i := by rw [← hj]; exact Ne.symm ne
      rw [updF_ne hl]
      exact nj hl (F'l c m)
    · rw [updF_ne hj] at m
      by_cases hl : l = i
      · rw [hl, updF_same]
        exact fun z => nj hj (F'l c z) m
      · rw [updF_ne hl]; exact A.ok.dis j l c ne (own j h) m
  · by_cases hj : j = i
    · rw [hj, own_at (setO_own e)] at h; cases h
    · rw [updF_ne hj]; rw [setO_at_ne hj] at h; exact A.ok.emp j h
  · obtain ⟨j, z⟩ := z
    by_cases hj : j = i
    · rw [hj, updF_same] at z; exact (List.nodup_append.mp nd).2.2 c z c m rfl
    · rw [updF_ne hj] at z; exact nj hj (List.mem_append_right _ m) z
  · refine s.keep c ob (A.stp.keep c ob e n) fun z => ?_
    exact (A.stp.subO c (.inl ⟨i, oi, z⟩)).elim n fun y => by rw [y] at e; cases e
  · have back : c ∈ F' ++ G' → InO en0 Fs0 c ∨ H0 c = none := fun m => (s.subO c m).elim (fun y => A.stp.subO c (.inl ⟨i, oi, y⟩)) fun y => .inr (A.stp.dom c y)
    rcases m with ⟨j, h, m⟩ | m
    · by_cases hj : j = i
      · rw [hj, updF_same] at m; exact back (F'l c m)
      · rw [updF_ne hj] at m; exact A.stp.subO c (.inl ⟨j, own j h, m⟩)
    · exact back (List.mem_append_right _ m)
  · have back : c ∈ F' ++ G' → InF Fs0 c ∨ H0 c = none := fun m => (s.subA c m).elim (fun y => A.stp.subA c (.inl ⟨i, y⟩)) fun y => .inr (A.stp.dom c y)
    rcases m with ⟨j, m⟩ | m
    · by_cases hj : j = i
      · rw [hj, updF_same] at m; exact back (F'l c m)
      · rw [updF_ne hj] at m; exact A.stp.subA c (.inl ⟨j, m⟩)
    · exact back (List.mem_append_right _ m)
  · by_cases hj : j = i
    · subst hj
      unfold setO at h
      cases es : en[j]? with
      | none => unfold ownAt at e; rw [es] at e; cases e
      | some s =>
        rw [es] at h
        cases s with
        | b x0 => exact A.bk j x0 es
        | _ => simp only [List.getElem?_set_self (own_lt e)] at h; cases h
    · rw [setO_ne hj] at h; exact A.bk j y h
def mCallM (i : Nat) (F : T → List T → RF) (ms : En → RM (List Hd)) : En → RM T := fun en => match ownAt en i with
  | none => .no
  | some _ => (ms en).bind fun hs en1 => match ownAt en1 i with
    | none => .no
    | some x0 => match hds en1 i hs with
      | none => .no
      | some xs => match F x0 xs with
        | .ok r x' => .ok r (setO en1 i x')
        | .ex c x' => .ex c (setO en1 i x')
        | .no => .no
theorem m_callM (i : Nat) {x y : Str} {k : Nat} {F : T → List T → RF} {p py : Pos} (f : FnM X.prog X.w X.K X.mg X.base x k F) (tk : Takes X W) (hr : Room k X.A) (ha : PMH X W es ms) (hg : Gl X x := by rfl) (hN : X.N[i]? = some y := by rfl) (hv : Vis X.env.scope y := by first | exact Or.inl rfl | exact Or.inr (Or.inl rfl) | exact Or.inr (Or.inr rfl))
    (hdb : (x == ("__debug__" : Str)) = false := by decide) (hd : (y == ("__debug__" : Str)) = false := by decide) (hcd : (y == ("__classdict__" : Str)) = false := by decide)
    (he : starEach (.Name y py :: es) X.env = (false, eval (.Name y py) X.env) :: starEach es X.env := by rfl) (hpl : (backTo pos (starEach es X.env)).any (·.1) = false := by rfl) : PM X W (.Call (.Name x p) (.Name y py :: es) [] pos) (mCallM i F ms) := by
  obtain ⟨f, fd, ps, okF, hm, hk, hb⟩ := f.ex
  obtain ⟨t, pa, s⟩ := ha
  refine ⟨_, pe_callS (E := WE W) okF hr hg hm hk hb (fun σ => passAt tk σ) (pa_cons (pe_var hN hv hd hcd) pa he) hdb he hpl, fun σ H en Fs Q ok q => ?_⟩
  unfold mCallM at q
  cases e0 : ownAt en i with
  | none => rw [e0] at q; exact q.elim
  | some x00 =>
    rw [e0] at q
    obtain ⟨v0, h0, _⟩ := ok.has i _ (own_at e0)
    refine ⟨v0, h0, s σ H en Fs _ ok ?_⟩
    simp only at q
    cases e : ms en with
    | ok hs en1 =>
      rw [e] at q
      simp only [RM.bind_ok] at q
      intro vs H' Fs' G A o
      cases e1 : ownAt en1 i with
      | none => rw [e1] at q; exact q.elim
      | some x0 =>
        rw [e1] at q
        simp only at q
        have oi : ownAt en1 i ≠ none := by rw [e1]; exact fun z => by cases z
        obtain ⟨v1, h1, o1⟩ := A.ok.has i _ (own_at e1)
        rw [h0] at h1; cases h1
        cases e2 : hds en1 i hs with
        | none => rw [e2] at q; exact q.elim
        | some xs =>
          rw [e2] at q
          simp only at q
          refine ⟨v0, vs, x0, Fs' i, xs, rfl, o1, A.ok.nod i oi, o.vwa A.ok oi A.dis e2, ?_⟩
          cases ef : F x0 xs with
          | ok r x' => rw [ef] at q; exact fun v H2 G' G2 st o2 o3 nd => q v H2 _ G2 (A.slot e1 h0 st o2 nd) o3
          | ex c x' =>
            rw [ef] at q
            exact fun cls dx H2 G' st o2 nd i => q cls dx H2 _ σ (A.slot (G' := []) e1 h0 (by rw [List.append_nil]; exact st) o2 (by rw [List.append_nil]; exact nd)) i
          | no => rw [ef] at q; exact q
    | ex c en1 => rw [e] at q; exact q
    | no => rw [e] at q; exact q
end
/-! ### a def's frame at its entry -/
def startE (n : Nat) (xs : List T) : En := xs.map mkS ++ List.replicate (n - xs.length) .n
theorem startE_at {n : Nat} {xs : List T} {i : Nat} {x : T} (h : at_ (startE n xs) i = some x) : xs[i]? = some x := by
  unfold at_ startE at h
  by_cases hl : i < xs.length
  · rw [List.getElem?_append_left (by rw [List.length_map]; exact hl), List.getElem?_map] at h
    cases e : xs[i]? with
    | none => rw [e] at h; cases h
    | some y => rw [e] at h; rw [← h]; exact (mkS_get y).symm
  · rw [List.getElem?_append_right (by rw [List.length_map]; omega), List.getElem?_replicate] at h
    split at h
    · rename_i h2; split at h2 <;> cases h2; cases h
    · cases h
theorem startE_own {n : Nat} {xs : List T} {i : Nat} (h : ownAt (startE n xs) i ≠ none) : ∃ d, xs[i]? = some (.d d) := by
  unfold ownAt startE at h
  by_cases hl : i < xs.length
  · rw [List.getElem?_append_left (by rw [List.length_map]; exact hl), List.getElem?_map] at h
    cases e : xs[i]? with
    | none => rw [e] at h; exact absurd rfl h
    | some y =>
      rw [e] at h
      cases y with
      | d d => exact ⟨d, rfl⟩
      | l ys => exact absurd rfl h
  · rw [List.getElem?_append_right (by rw [List.length_map]; omega), List.getElem?_replicate] at h
    split at h <;> rename_i h2
    · split at h2 <;> cases h2
    · split at h2 <;> cases h2
    · exact absurd rfl h
theorem Vws.get {K : PySem.W.Frag} {H : Hp} : ∀ {vs : List V} {xs : List T} {i : Nat} {x : T}, Vws K H vs xs → xs[i]? = some x → ∃ v G, vs[i]? = some v ∧ Own K H v x G
  | _, _, _, _, .nil, h => by simp at h
  | _, _, 0, _, .cons o t, h => by simp at h; subst h; exact ⟨_, _, rfl, o⟩
  | _, _, i + 1, x, .cons _ t, h => by
    obtain ⟨v, G, h1, h2⟩ := Vws.get (i := i) (x := x) t (by simpa using h)
    exact ⟨v, G, by simpa using h1, h2⟩
/-- the footprints of what is seen -/
theorem Vws.fts {K : PySem.W.Frag} {H : Hp} {vs : List V} {xs : List T} (w : Vws K H vs xs) : ∃ Fs : Ft, (∀ i x, xs[i]? = some x → ∃ v, vs[i]? = some v ∧ Own K H v x (Fs i)) ∧ ∀ i, xs[i]? = none → Fs i = [] := by
  induction w with
  | nil => exact ⟨fun _ => [], fun i x h => by simp at h, fun _ _ => rfl⟩
  | @cons v vs x xs G o t ih =>
    obtain ⟨Fs, h1, h2⟩ := ih
    refine ⟨fun i => match i with
      | 0 => G
      | i + 1 => Fs i, fun i y h => ?_, fun i h => ?_⟩
    · cases i with
      | zero => simp at h; subst h; exact ⟨v, rfl, o⟩
      | succ i => obtain ⟨w, a, b⟩ := h1 i y (by simpa using h); exact ⟨w, by simpa using a, b⟩
    · cases i with
      | zero => simp at h
      | succ i => exact h2 i (by simpa using h)
theorem start_get {N : List Str} {vs : List V} {i : Nat} {v : V} (h : vs[i]? = some v) : (L2.start N vs)[i]? = some (some v) := by
  unfold L2.start
  obtain ⟨hl, _⟩ := List.getElem?_eq_some_iff.mp h
  rw [List.getElem?_append_left (by rw [List.length_map]; exact hl), List.getElem?_map, h]
  rfl
theorem start_ok {K : PySem.W.Frag} {H : Hp} {N : List Str} {vs : List V} {xs : List T} (w : Vws K H vs xs) : ∃ Fs, EOk K H (L2.start N vs) (startE N.length xs) Fs ∧ (∀ c, ¬ InO (startE N.length xs) Fs c) := by
  obtain ⟨Fs, h1, h2⟩ := w.fts
  have dn : ∀ i, ownAt (startE N.length xs) i ≠ none → Fs i = [] := fun i h => by
    obtain ⟨d, e⟩ := startE_own h
    obtain ⟨v, _, o⟩ := h1 i _ e
    exact o.dnil
  refine ⟨Fs, ⟨?_, fun i x h => ?_, fun i h => by rw [dn i h]; exact List.nodup_nil, fun i j a _ h m => (by rw [dn i h] at m; cases m), fun i h => ?_⟩, fun c ⟨i, h, m⟩ => (by rw [dn i h] at m; cases m)⟩
  · unfold startE L2.start
    rw [List.length_append, List.length_append, List.length_map, List.length_map, List.length_replicate, List.length_replicate, w.length]
    exact Nat.le_refl _
  · obtain ⟨v, a, b⟩ := h1 i x (startE_at h)
    exact ⟨v, start_get a, b⟩
  · cases e : xs[i]? with
    | none => exact h2 i e
    | some x =>
      obtain ⟨hl, _⟩ := List.getElem?_eq_some_iff.mp e
      unfold at_ startE at h
      rw [List.getElem?_append_left (by rw [List.length_map]; exact hl), List.getElem?_map, e] at h
      rw [show (Option.map mkS (some x)) = some (mkS x) from rfl] at h
      simp only [mkS_get] at h
      cases h
def runP (n k : Nat) (f : En → SR) (xs : List T) : R T := if xs.length = k then match f (startE n xs) with
    | .ret x _ => .ok x
    | .nx _ => .ok (.d .non)
    | .ex c _ => .ex c
    | _ => .no
  else .no
section
variable {P : Program} {w : World} {K : PySem.W.Frag} {mg : Str → Option Value} {base : Heap}
/-- THE RULE for a def that changes nothing -/
theorem fnPk {x : String} {st : Stmt} {f : Addr} {fd : FuncData} {N ps : List Str} {k : Nat} {body : En → SR} (F : Fun K x x st f fd) (S : FnScope N ps (defScope st))
    (hbody : ∀ (cdv : Value) (A : Around) (outer : List Env) (s : Shared) (H : Hp) (E : XK), Room k (A.deeper (envOfC x (defScope st) s.heap.objs.size f cdv)) → Cz (cxOf (L2.CX P w) P w K mg base N x (defScope st) f cdv A outer s H E) (fun cls d _ H => E cls d H) →
      PBl (cxOf (L2.CX P w) P w K mg base N x (defScope st) f cdv A outer s H E) (fun cls d _ H => E cls d H) (defBody st) body) : FnOk P w K mg base (L2.CX P w) (k + 1) f fd ps (spP K mg (runP N.length ps.length body)) := by
  refine F.okX S (fun vs H Q E h => ?_) (fun cdv A outer s H vs Q E hr h => ?_)
  · obtain ⟨xs, w, h⟩ := h
    unfold runP at h
    by_cases hl : xs.length = ps.length
    · rw [w.length]; exact hl
    · rw [if_neg hl] at h; exact h.elim
  · obtain ⟨t, p, sp⟩ := hbody cdv A outer s H E hr ⟨takes_of rfl rfl rfl rfl, passes_of rfl, rfl, S.nd⟩
    refine ⟨t, p, ?_⟩
    obtain ⟨xs, w, h⟩ := h
    obtain ⟨Fs, ok, no⟩ := start_ok (N := N) w
    refine sp _ H _ Fs _ ok ?_
    unfold runP at h
    by_cases hl : xs.length = ps.length
    · rw [if_pos hl] at h
      have same : ∀ {H' : Hp} {Fs' : Ft} {σ' : L2.St} {en' : En} {G : List Addr}, Aft K H Fs (L2.start N vs) (startE N.length xs) H' Fs' σ' en' G → Same H H' ∧ Fresh H G := fun {H' Fs' σ' en' G} a =>
        ⟨fun c o e => a.stp.keep c o e (no c), a.nod, fun c m => (a.stp.subO c (.inr m)).elim (fun z => absurd z (no c)) id⟩
      cases e : body (startE N.length xs) with
      | nx en' => rw [e] at h; exact fun H' Fs' σ' a => h .non H' [] (same a).1 (.d .non) Fresh.nil
      | ret x en' => rw [e] at h; exact fun v H' Fs' σ' G a o => h v H' G (same a).1 o (same a).2
      | ex c en' => rw [e] at h; exact fun cls dx H' Fs' σ' a i => h cls dx H' (same a).1 i
      | brk en' => rw [e] at h; exact h.elim
      | ct en' => rw [e] at h; exact h.elim
      | no => rw [e] at h; exact h.elim
    · rw [if_neg hl] at h; exact h.elim
theorem fnP {x : String} {st : Stmt} {f : Addr} {fd : FuncData} {N ps : List Str} {k : Nat} {body : En → SR} (F : Fun K x x st f fd) (S : FnScope N ps (defScope st)) (hm : mg x = some (.ref f)) (hb : Binds K fd ps [])
    (hbody : ∀ (cdv : Value) (A : Around) (outer : List Env) (s : Shared) (H : Hp) (E : XK), Room k (A.deeper (envOfC x (defScope st) s.heap.objs.size f cdv)) → Cz (cxOf (L2.CX P w) P w K mg base N x (defScope st) f cdv A outer s H E) (fun cls d _ H => E cls d H) →
      PBl (cxOf (L2.CX P w) P w K mg base N x (defScope st) f cdv A outer s H E) (fun cls d _ H => E cls d H) (defBody st) body) : FnP P w K mg base x (k + 1) (runP N.length ps.length body) := ⟨f, fd, ps, fnPk F S hbody, hm, F.kp, hb⟩
end
end Z
/-! Z: a def whose first argument's list is changed; the law's own def. -/
namespace Z
open PySem PySem.Spec L2
open PyProof.Rows hiding St

theorem Vwa.vws {K : PySem.W.Frag} {H : Hp} {G : List Addr} : ∀ {vs : List V} {xs : List T}, Vwa K H G vs xs → Vws K H vs xs
  | _, _, .nil => .nil
  | _, _, .cons o _ t => .cons o (Vwa.vws t)
theorem Vwa.fts {K : PySem.W.Frag} {H : Hp} {Z : List Addr} {vs : List V} {xs : List T} (w : Vwa K H Z vs xs) : ∃ Fs : Ft, (∀ i x, xs[i]? = some x → ∃ v, vs[i]? = some v ∧ Own K H v x (Fs i)) ∧ (∀ i, xs[i]? = none → Fs i = []) ∧ ∀ i, ∀ a ∈ Fs i, a ∉ Z := by
  induction w with
  | nil => exact ⟨fun _ => [], fun i x h => by simp at h, fun _ _ => rfl, fun _ _ m => absurd m List.not_mem_nil⟩
  | @cons v vs x xs G o d t ih =>
    obtain ⟨Fs, h1, h2, h3⟩ := ih
    refine ⟨fun i => match i with
      | 0 => G
      | i + 1 => Fs i, fun i y h => ?_, fun i h => ?_, fun i => ?_⟩
    · cases i with
      | zero => simp at h; subst h; exact ⟨v, rfl, o⟩
      | succ i => obtain ⟨w, a, b⟩ := h1 i y (by simpa using h); exact ⟨w, by simpa using a, b⟩
    · cases i with
      | zero => simp at h
      | succ i => exact h2 i (by simpa using h)
    · cases i with
      | zero => exact d
      | succ i => exact h3 i
def startM (n : Nat) (x0 : T) (xs : List T) : En := .b x0 :: startE (n - 1) xs
theorem startM_at {n : Nat} {x0 : T} {xs : List T} {i : Nat} : at_ (startM n x0 xs) (i + 1) = at_ (startE (n - 1) xs) i := rfl
theorem startM_own {n : Nat} {x0 : T} {xs : List T} {i : Nat} : ownAt (startM n x0 xs) (i + 1) = ownAt (startE (n - 1) xs) i := rfl
theorem startM_ok {K : PySem.W.Frag} {H : Hp} {N : List Str} {v0 : V} {us : List V} {x0 : T} {xs : List T} {G0 : List Addr} (o : Own K H v0 x0 G0) (nd : G0.Nodup) (w : Vwa K H G0 us xs) : ∃ Fs, EOk K H (L2.start N (v0 :: us)) (startM N.length x0 xs) Fs ∧ Fs 0 = G0 ∧ ∀ c, InO (startM N.length x0 xs) Fs c → c ∈ G0 := by
  obtain ⟨Fs, h1, h2, h3⟩ := w.fts
  have hs : L2.start N (v0 :: us) = some v0 :: (us.map some ++ List.replicate (N.length - 1 - us.length) none) := by
    unfold L2.start
    rw [List.map_cons, List.length_cons, List.cons_append, Nat.sub_sub, Nat.add_comm 1]
  have dn : ∀ i, ownAt (startE (N.length - 1) xs) i ≠ none → Fs i = [] := fun i h => by
    obtain ⟨d, e⟩ := startE_own h
    obtain ⟨v, _, o⟩ := h1 i _ e
    exact o.dnil
  refine ⟨fun i => match i with
      | 0 => G0
      | i + 1 => Fs i, ⟨?_, fun i x h => ?_, fun i h => ?_, fun i j c ne h m => ?_, fun i h => ?_⟩, rfl, fun c z => ?_⟩
  · rw [hs]
    unfold startM startE
    rw [List.length_cons, List.length_cons, List.length_append, List.length_append, List.length_map, List.length_map, List.length_replicate, List.length_replicate, w.vws.length]
    exact Nat.le_refl _
  · cases i with
    | zero => cases h; exact ⟨v0, by rw [hs]; rfl, o⟩
    | succ i =>
      obtain ⟨v, a, b⟩ := h1 i x (startE_at h)
      refine ⟨v, ?_, b⟩
      obtain ⟨hl, _⟩ := List.getElem?_eq_some_iff.mp a
      rw [hs, List.getElem?_cons_succ, List.getElem?_append_left (by rw [List.length_map]; exact hl), List.getElem?_map, a]
      rfl
  · cases i with
    | zero => exact nd
    | succ i => show (Fs i).Nodup; rw [dn i h]; exact List.nodup_nil
  · cases i with
    | zero =>
      cases j with
      | zero => exact absurd rfl ne
      | succ j => exact fun z => h3 j c z m
    | succ i =>
      have : c ∈ Fs i := m
      rw [dn i h] at this; cases this
  · cases i with
    | zero => cases h
    | succ i =>
      show Fs i = []
      cases e : xs[i]? with
      | none => exact h2 i e
      | some x =>
        obtain ⟨hl, _⟩ := List.getElem?_eq_some_iff.mp e
        rw [startM_at] at h
        unfold at_ startE at h
        rw [List.getElem?_append_left (by rw [List.length_map]; exact hl), List.getElem?_map, e] at h
        rw [show (Option.map mkS (some x)) = some (mkS x) from rfl] at h
        simp only [mkS_get] at h
        cases h
  · obtain ⟨i, h, m⟩ := z
    cases i with
    | zero => exact m
    | succ i =>
      have : c ∈ Fs i := m
      rw [dn i h] at this; cases this
def back0 (en : En) : Option T := match (en[(0 : Nat)]? : Option Sl) with
  | some (.b x) => some x
  | _ => none
def runM (n k : Nat) (f : En → SR) (x0 : T) (xs : List T) : RF := if xs.length + 1 = k then match f (startM n x0 xs) with
    | .ret r en' => match back0 en' with
      | some x' => .ok r x'
      | none => .no
    | .nx en' => match back0 en' with
      | some x' => .ok (.d .non) x'
      | none => .no
    | .ex c en' => match back0 en' with
      | some x' => .ex c x'
      | none => .no
    | _ => .no
  else .no
section
variable {P : Program} {w : World} {K : PySem.W.Frag} {mg : Str → Option Value} {base : Heap}
/-- THE RULE for a def that changes its first argument -/
theorem fnM {x : String} {st : Stmt} {f : Addr} {fd : FuncData} {N ps : List Str} {k : Nat} {body : En → SR} (F : Fun K x x st f fd) (S : FnScope N ps (defScope st)) (hm : mg x = some (.ref f)) (hb : Binds K fd ps [])
    (hbody : ∀ (cdv : Value) (A : Around) (outer : List Env) (s : Shared) (H : Hp) (E : XK), Room k (A.deeper (envOfC x (defScope st) s.heap.objs.size f cdv)) → Cz (cxOf (L2.CX P w) P w K mg base N x (defScope st) f cdv A outer s H E) (fun cls d _ H => E cls d H) →
      PBl (cxOf (L2.CX P w) P w K mg base N x (defScope st) f cdv A outer s H E) (fun cls d _ H => E cls d H) (defBody st) body) : FnM P w K mg base x (k + 1) (runM N.length ps.length body) := by
  refine ⟨f, fd, ps, F.okX S (fun vs H Q E h => ?_) (fun cdv A outer s H vs Q E hr h => ?_), hm, F.kp, hb⟩
  · obtain ⟨v0, us, x0, G0, xs, rfl, o, nd, w, h⟩ := h
    unfold runM at h
    by_cases hl : xs.length + 1 = ps.length
    · rw [List.length_cons, w.vws.length]; exact hl
    · rw [if_neg hl] at h; exact h.elim
  · obtain ⟨t, p, sp⟩ := hbody cdv A outer s H E hr ⟨takes_of rfl rfl rfl rfl, passes_of rfl, rfl, S.nd⟩
    refine ⟨t, p, ?_⟩
    obtain ⟨v0, us, x0, G0, xs, rfl, o, nd, w, h⟩ := h
    obtain ⟨Fs, ok, e0, no⟩ := startM_ok (N := N) o nd w
    refine sp _ H _ Fs _ ok ?_
    unfold runM at h
    by_cases hl : xs.length + 1 = ps.length
    · rw [if_pos hl] at h
      have zero : (L2.start N (v0 :: us))[0]? = some (some v0) := start_get rfl
      have fin : ∀ {H' : Hp} {Fs' : Ft} {σ' : L2.St} {en' : En} {G : List Addr} {x' : T}, Aft K H Fs (L2.start N (v0 :: us)) (startM N.length x0 xs) H' Fs' σ' en' G → back0 en' = some x' → Own K H' v0 x' (Fs' 0) ∧ (Fs' 0 ++ G).Nodup ∧ Stp H (· ∈ G0) (· ∈ G0) H' (· ∈ Fs' 0 ++ G) (· ∈ Fs' 0 ++ G) := fun {H' Fs' σ' en' G x'} a b => by
        have e : en'[(0 : Nat)]? = some (Sl.b x') := by
          unfold back0 at b
          cases e : en'[(0 : Nat)]? with
          | none => rw [e] at b; cases b
          | some y => rw [e] at b; cases y <;> cases b; rfl
        have oe : ownAt en' 0 = some x' := by unfold ownAt; rw [e]
        have on : ownAt en' 0 ≠ none := by rw [oe]; exact fun z => by cases z
        obtain ⟨v, h1, h2⟩ := a.ok.has 0 x' (own_at oe)
        rw [(a.bk 0 x' e).2, zero] at h1
        cases h1
        refine ⟨h2, List.nodup_append.mpr ⟨a.ok.nod 0 on, a.nod, fun c hc d hd z => a.dis d hd ⟨0, z ▸ hc⟩⟩, a.stp.pst, fun c ob e n => a.stp.keep c ob e fun z => n (no c z), a.stp.dom, fun c m => ?_, fun c m => ?_⟩
        · exact (a.stp.subO c ((List.mem_append.mp m).imp (fun z => ⟨0, on, z⟩) id)).imp (no c) id
        · exact (a.stp.subO c ((List.mem_append.mp m).imp (fun z => ⟨0, on, z⟩) id)).imp (no c) id
      cases e : body (startM N.length x0 xs) with
      | nx en' =>
        rw [e] at h
        simp only at h
        cases eb : back0 en' with
        | none => rw [eb] at h; exact h.elim
        | some x' => rw [eb] at h; exact fun H' Fs' σ' a => let ⟨h1, h2, h3⟩ := fin a eb; h .non H' (Fs' 0) [] h3 h1 (.d .non) h2
      | ret x en' =>
        rw [e] at h
        simp only at h
        cases eb : back0 en' with
        | none => rw [eb] at h; exact h.elim
        | some x' => rw [eb] at h; exact fun v H' Fs' σ' G a o => let ⟨h1, h2, h3⟩ := fin a eb; h v H' (Fs' 0) G h3 h1 o h2
      | ex c en' =>
        rw [e] at h
        simp only at h
        cases eb : back0 en' with
        | none => rw [eb] at h; exact h.elim
        | some x' => rw [eb] at h; exact fun cls dx H' Fs' σ' a i => let ⟨h1, h2, h3⟩ := fin a eb; h cls dx H' (Fs' 0) (by rw [List.append_nil] at h3; exact h3) h1 (by rw [List.append_nil] at h2; exact h2) i
      | brk en' => rw [e] at h; exact h.elim
      | ct en' => rw [e] at h; exact h.elim
      | no => rw [e] at h; exact h.elim
    · rw [if_neg hl] at h; exact h.elim
/-- the script, as the law's def gets it -/
theorem script_ro {H : Hp} {a : Addr} {ns : List Int} (h : Only H) (s : SqL K H a (ns.map V.int)) : RepD K H (.ref a) (.rol (ns.map D.int)) := by
  refine .rol (fun H' p => ?_) (ints_rep ns)
  rcases s with (s | ⟨o, s⟩) | s
  · rcases h a with z | ⟨o, xs, z⟩ <;> (rw [s] at z; cases z)
  · exact .inl (.inr ⟨o, p.2 _ _ _ s⟩)
  · exact .inr s
where
  ints_rep : ∀ ns : List Int, RepDs K H (ns.map V.int) (ns.map D.int)
    | [] => .nil
    | n :: r => .cons (.int n) (ints_rep r)
/-- the law's def hands back True -/
theorem law_sp {F : List T → R T} {H : Hp} {a : Addr} {ns : List Int} (h : Only H) (s : SqL K H a (ns.map V.int)) (e : F [.d (.rol (ns.map D.int))] = .ok (.d (.bl true))) : spP K mg F [.ref a] H (fun v _ => v = .bl true) fun _ _ _ => False := by
  refine ⟨[.d (.rol (ns.map D.int))], .cons (.d (script_ro h s)) .nil, ?_⟩
  rw [e]
  intro v H' G _ o _
  have r := o.rep
  cases r
  rfl
end
end Z
/-! Z: short names for what is computed; operations in place; any; recursion. -/
namespace Z
open PySem PySem.Spec L2
open PyProof.Rows hiding St

def vN (i : Nat) : En → R T := fun en => R.of (at_ en i)
def kI (i : Int) : En → R T := fun _ => .ok (.d (.int i))
def kB (b : Bool) : En → R T := fun _ => .ok (.d (.bl b))
def kS (s : Str) : En → R T := fun _ => .ok (.d (.str s))
def kD' (d : D) : En → R T := fun _ => .ok (.d d)
def gPur (g : En → R T) : En → R T := fun en => (g en).pur
def fAddA : T → T → Option T
  | .d (.int i), .d (.int j) => some (.d (.int (i + j)))
  | .d (.str a), .d (.str b) => if a.length + b.length ≤ most then some (.d (.str (a ++ b))) else none
  | _, _ => none
def fMulA : T → T → Option T
  | .d (.int i), .d (.int j) => if i.natAbs < 18446744073709551616 ∨ j.natAbs < 18446744073709551616 then some (.d (.int (i * j))) else none
  | _, _ => none
def fDivA : T → T → Option T
  | .d (.int i), .d (.int j) => if 0 < j ∧ j < 1073741824 then some (.d (.int (i / j))) else none
  | _, _ => none
section
variable {X : Cx}
theorem i_add : Ib X .Add fAddA := ⟨_, iop_add.or iop_add_str, fun H x y z vx vy Gx Gy Q ox oy e q => by
  unfold fAddA at e
  split at e
  · cases e
    cases ox with | d r1 => cases oy with | d r2 => cases r1; cases r2; exact .inl ⟨_, _, rfl, rfl, fin_d (.int _) q⟩
  · split at e <;> cases e
    rename_i h
    cases ox with | d r1 => cases oy with | d r2 => cases r1; cases r2; exact .inr ⟨_, _, rfl, rfl, by rw [most_eq]; exact h, fin_d (.str _) q⟩
  · cases e⟩
theorem i_sub : Ib X .Sub fSub := ⟨_, iop_sub, fun H x y z vx vy Gx Gy Q ox oy e q => by
  unfold fSub at e
  split at e <;> cases e
  cases ox with | d r1 => cases oy with | d r2 => cases r1; cases r2; exact ⟨_, _, rfl, rfl, fin_d (.int _) q⟩⟩
theorem i_mul : Ib X .Mult fMulA := ⟨_, iop_mul, fun H x y z vx vy Gx Gy Q ox oy e q => by
  unfold fMulA at e
  split at e
  · split at e <;> cases e
    rename_i h
    cases ox with | d r1 => cases oy with | d r2 => cases r1; cases r2; exact ⟨_, _, rfl, rfl, h.imp (fun z => by omega) (fun z => by omega), fin_d (.int _) q⟩
  · cases e⟩
theorem i_div : Ib X .FloorDiv fDivA := ⟨_, iop_fdiv, fun H x y z vx vy Gx Gy Q ox oy e q => by
  unfold fDivA at e
  split at e
  · split at e <;> cases e
    rename_i h
    cases ox with | d r1 => cases oy with | d r2 => cases r1; cases r2; exact ⟨_, _, rfl, rfl, h, fin_d (.int _) q⟩
  · cases e⟩
theorem i_mod : Ib X .Mod fMod := ⟨_, iop_mod, fun H x y z vx vy Gx Gy Q ox oy e q => by
  unfold fMod at e
  split at e
  · split at e <;> cases e
    rename_i h
    cases ox with | d r1 => cases oy with | d r2 => cases r1; cases r2; exact ⟨_, _, rfl, rfl, h, fin_d (.int _) q⟩
  · cases e⟩
/-! ### any of ints and bools -/
def tr1 : D → Option Bool
  | .bl b => some b
  | .int i => some (i != 0)
  | _ => none
def trs : List D → Option (List Bool)
  | [] => some []
  | d :: r => (tr1 d).bind fun b => (trs r).map (b :: ·)
theorem trs_len : ∀ {ds : List D} {bs : List Bool}, trs ds = some bs → bs.length = ds.length
  | [], _, h => by cases h; rfl
  | d :: r, bs, h => by
    obtain ⟨b, _, h⟩ := Option.bind_eq_some_iff.mp h
    obtain ⟨cs, h2, rfl⟩ := Option.map_eq_some_iff.mp h
    exact congrArg Nat.succ (trs_len h2)
theorem truth_trs {prog : Program} {w : World} {A : Around} {K : PySem.W.Frag} {H : Hp} : ∀ {vs : List V} {ds : List D} {its : List Value} {bs : List Bool}, RepDs K H vs ds → Vals vs its → trs ds = some bs → ∀ (i : Nat) (v : Value) (s : Shared) (Q : Bool → Shared → Prop) (E : Value → Shared → Prop), its[i]? = some v → Q (bs.getD i false) s → wpAny (model prog w) A (truthy v) Q E s
  | _, _, _, _, .nil, .nil, _, i, v, s, Q, E, hv, hq => by simp at hv
  | _, _, _, bs, .cons r t, .cons r2 t2, h, i, v, s, Q, E, hv, hq => by
    obtain ⟨b, h1, h⟩ := Option.bind_eq_some_iff.mp h
    obtain ⟨cs, h2, rfl⟩ := Option.map_eq_some_iff.mp h
    cases i with
    | succ i => exact truth_trs t t2 h2 i v s Q E (by simpa using hv) (by simpa using hq)
    | zero =>
      simp at hv
      subst hv
      have hq : Q b s := hq
      cases r with
      | bl k => cases h1; cases r2; exact wpAny_truthy_bool hq
      | int k => cases h1; obtain ⟨tk, rfl⟩ := r2; exact PySem.P.truthy_int hq
      | _ => cases h1
def fAny : List T → Option T
  | [x] => (lstOf x).bind fun ds => (trs ds).map fun bs => .d (.bl (bs.any id))
  | _ => none
theorem call_anyT (hc : X.calm = true) : CallR X (.builtin "any") (fun vs H Q => ∃ (a : Addr) (us : List V) (ds : List D) (bs : List Bool), vs = [V.ref a] ∧ SqL X.K H a us ∧ RepDs X.K H us ds ∧ trs ds = some bs ∧ Q (.bl (bs.any id)) H) := by
  intro pins s σ H vs us Q I r h
  obtain ⟨a, ws, ds, bs, rfl, hs, rr, ht, q⟩ := h
  obtain ⟨its, rv, hl, _⟩ := I.list hs
  rw [Vals.ref1 r]
  refine call_any_walk (iter_any hl.isList fun s2 e2 st hne => ?_)
  subst e2
  refine ⟨_, _, _, _, _, _, _, rfl, Walks.list (A := X.A.in1) (I.ok.hd hc) _ a hne its.toArray, st, (fun i v s Q E hv hq => truth_trs rr rv ht i v s Q E (by simpa using hv) hq), fun h' tk hk => ?_⟩
  refine ⟨.bl _, H, I.kept fun b o eo => hk b o (fun hmem => (by
    rcases List.mem_cons.mp hmem with e1 | hmem
    · exact absurd (e1 ▸ Heap.lt_size eo) (Nat.lt_irrefl _)
    · cases hmem)) (Heap.get?_push_of_some _ eo), ?_, q⟩
  show Value.bool _ = Value.bool _
  rw [← L2.any_range, trs_len ht, ← rr.length, rv.length, List.size_toArray]
theorem f_any (hc : X.calm = true) : Bf X (.builtin "any") fAny := ⟨_, call_anyT hc, fun H xs vs z Q w e q => by
  unfold fAny at e
  split at e
  · obtain ⟨ds, e1, e⟩ := Option.bind_eq_some_iff.mp e
    obtain ⟨ns, e2, rfl⟩ := Option.map_eq_some_iff.mp e
    cases w with
    | cons o t =>
      cases t
      obtain ⟨a, us, rfl, s, r⟩ := lstOf_ok o e1
      exact ⟨a, us, ds, ns, rfl, s, r, e2, fin_d (.bl _) q⟩
  · cases e⟩
/-! ### what is walked, of our own -/
variable {W : WX} {tg e : Expr} {m : En → RM T} {p pos : Pos}
def mIt (m : En → RM T) : En → RM (List T) := fun en => (m en).bind fun x en' => RM.of (R.of (items x)) en'
theorem mi_sq (h : PM X W e m) : PMI X W tg e (mIt m) := by
  obtain ⟨t, p, s⟩ := h
  refine ⟨_, pi_sq p, fun σ H en Fs Q ok q => s σ H en Fs _ ok ?_⟩
  unfold mIt at q
  cases e : m en with
  | ok x en1 =>
    rw [e] at q
    intro v H' Fs' G a o
    cases ef : items x with
    | none => simp only [RM.bind_ok, ef, R.of_none] at q; exact q.elim
    | some xs =>
      simp only [RM.bind_ok, ef, R.of_some] at q
      exact it_own o ef fun J j => q J H' Fs' G a j o.there
  | ex c en1 => rw [e] at q; exact q
  | no => rw [e] at q; exact q
def mR1 (m : En → RM T) : En → RM (List T) := fun en => (m en).bind fun x en' => RM.of (fR1 x) en'
theorem mi_rng1 (hm : X.mg "range" = none) (h : PM X W e m) (hg : Gl X "range" := by rfl) (hs : starEach [e] X.env = [(false, eval e X.env)] := by rfl) : PMI X W tg (.Call (.Name "range" p) [e] [] pos) (mR1 m) := by
  obtain ⟨t, pp, s⟩ := h
  refine ⟨_, pi_range1 hg hm (pa_cons pp pa_nil (by rw [hs]; rfl)) hs, fun σ H en Fs Q ok q => s σ H en Fs _ ok ?_⟩
  unfold mR1 at q
  cases e : m en with
  | ok x en1 =>
    rw [e] at q
    intro v H' Fs' G a o
    simp only [RM.bind_ok] at q
    unfold fR1 at q
    split at q
    · split at q
      · rename_i hj
        have r := o.rep
        cases r
        exact ⟨_, rfl, hj.1, hj.2, q _ H' Fs' [] a.drop it_rng fun _ m => absurd m List.not_mem_nil⟩
      · exact q.elim
    · exact q.elim
  | ex c en1 => rw [e] at q; exact q
  | no => rw [e] at q; exact q
end
/-! ### a def that calls itself: at depth 0 nothing is said -/
theorem fnP_no {P : Program} {w : World} {K : PySem.W.Frag} {mg : Str → Option Value} {base : Heap} {x : String} {st : Stmt} {f : Addr} {fd : FuncData} {ps : List Str} {k : Nat} (F : Fun K x x st f fd) (hm : mg x = some (.ref f)) (hb : Binds K fd ps []) : FnP P w K mg base x k (fun _ => .no) :=
  ⟨f, fd, ps, ⟨fun _ _ _ _ ⟨_, _, h⟩ => h.elim, fun _ _ _ _ _ _ _ _ _ _ _ _ _ ⟨_, _, h⟩ => h.elim⟩, hm, F.kp, hb⟩
theorem fnM_no {P : Program} {w : World} {K : PySem.W.Frag} {mg : Str → Option Value} {base : Heap} {x : String} {st : Stmt} {f : Addr} {fd : FuncData} {ps : List Str} {k : Nat} (F : Fun K x x st f fd) (hm : mg x = some (.ref f)) (hb : Binds K fd ps []) : FnM P w K mg base x k (fun _ _ => .no) :=
  ⟨f, fd, ps, ⟨fun _ _ _ _ ⟨_, _, _, _, _, _, _, _, _, h⟩ => h.elim, fun _ _ _ _ _ _ _ _ _ _ _ _ _ ⟨_, _, _, _, _, _, _, _, _, h⟩ => h.elim⟩, hm, F.kp, hb⟩
end Z
/-! Z: the rest that printed texts ask. -/
namespace Z
open PySem PySem.Spec L2
open PyProof.Rows hiding St

def mIxNg (i : Nat) (mb : En → RM T) : En → RM T := fun en => if (at_ en i).isSome then mIxN i mb en else .no
/-- the places that a target stores to -/
def Ixs (vs : List Nat) (k : T → Option Ass) : Prop := ∀ x as, k x = some as → ∀ p ∈ as, p.1 ∈ vs
def Ixd (vs : List Nat) (k : List D → Option Ass) : Prop := ∀ x as, k x = some as → ∀ p ∈ as, p.1 ∈ vs
theorem ix_name {vs : List Nat} {i : Nat} (h : i ∈ vs) : Ixs vs (kName i) := fun x as e p m => by
  cases e
  have : p = (i, x) := by simpa using m
  rw [this]; exact h
theorem ix_nil {vs : List Nat} : Ixd vs kNil := fun x as e p m => by
  cases x with
  | nil => cases e; cases m
  | cons _ _ => cases e
theorem ix_cons {vs : List Nat} {k : T → Option Ass} {r : List D → Option Ass} (h1 : Ixs vs k) (h2 : Ixd vs r) : Ixd vs (kCons k r) := fun x as e p m => by
  cases x with
  | nil => cases e
  | cons d ds =>
    obtain ⟨a, e1, e⟩ := Option.bind_eq_some_iff.mp e
    obtain ⟨b, e2, rfl⟩ := Option.map_eq_some_iff.mp e
    exact (List.mem_append.mp m).elim (h1 _ _ e1 p) (h2 _ _ e2 p)
theorem ix_tup {vs : List Nat} {n : Nat} {k : List D → Option Ass} (h : Ixd vs k) : Ixs vs (kTup n k) := fun x as e p m => by
  unfold kTup at e
  split at e
  · split at e
    · exact h _ _ e p m
    · cases e
  · cases e
/-- the law's promise: a value, no error -/
def spL (K : PySem.W.Frag) (F : List T → R T) : Sp := fun vs H Q _ => ∃ xs r, Vws K H vs xs ∧ F xs = .ok r ∧ ∀ v H' G, Same H H' → Own K H' v r G → Fresh H G → Q v H'
theorem law_ok {P : Program} {w : World} {K : PySem.W.Frag} {mg : Str → Option Value} {base : Heap} {k : Nat} {f : Addr} {fd : FuncData} {ps : List Str} {F : List T → R T} (h : FnOk P w K mg base (L2.CX P w) k f fd ps (spP K mg F)) : FnOk P w K mg base (L2.CX P w) k f fd ps (spL K F) :=
  h.imp fun vs H Q E ⟨xs, r, w, e, q⟩ => ⟨xs, w, by rw [e]; exact q⟩
theorem law_spL {K : PySem.W.Frag} {F : List T → R T} {H : Hp} {a : Addr} {ns : List Int} (h : Only H) (s : SqL K H a (ns.map V.int)) (e : F [.d (.rol (ns.map D.int))] = .ok (.d (.bl true))) : spL K F [.ref a] H (fun v _ => v = .bl true) fun _ _ _ => False := by
  refine ⟨[.d (.rol (ns.map D.int))], _, .cons (.d (script_ro h s)) .nil, e, ?_⟩
  intro v H' G _ o _
  have r := o.rep
  cases r
  rfl
theorem blk_ok {N : List Str} {sc scope : Scope} {own : List (Str × Nat)} (h : blkC N sc scope own = true) : blkC N sc scope own = true := h
theorem cx_false {P : Program} {w : World} {H : Hp} {s : Shared} {e : Value} {s' : Shared} (h : L2.CX P w [] H s (fun _ _ _ => False) e s') : False := by
  obtain ⟨_, _, _, _, _, _, _, _, _, _, _, _, z⟩ := h
  exact z
end Z
/-! Z: reckoning with what is told. -/
namespace Z
open PySem PySem.Spec L2
open PyProof.Rows hiding St
variable {α : Type} {g h ga gb gc : En → R T} {f f' : T → T → Option T} {en : En} {m ma mb : En → RM T} {c : En → RM Bool} {gt ht : En → R Bool} {i j n : Nat} {x y : T} {s : Sl} {gs : En → R (List T)} {ms : En → RM (List T)} {hm : En → RM (List Hd)} {b d : En → SR}
/-! slots -/
@[simp] theorem at_nil : at_ [] i = none := rfl
@[simp] theorem at_zero : at_ (s :: en) 0 = s.get := rfl
@[simp] theorem at_succ : at_ (s :: en) (i + 1) = at_ en i := rfl
@[simp] theorem get_n : Sl.get .n = none := rfl
@[simp] theorem get_v : Sl.get (.v x) = some x := rfl
@[simp] theorem get_w : Sl.get (.w x) = some x := rfl
@[simp] theorem get_b : Sl.get (.b x) = some x := rfl
@[simp] theorem own_v0 : ownAt (.v x :: en) 0 = some x := rfl
@[simp] theorem own_b0 : ownAt (.b x :: en) 0 = some x := rfl
@[simp] theorem own_w0 : ownAt (.w x :: en) 0 = none := rfl
@[simp] theorem own_n0 : ownAt (.n :: en) 0 = none := rfl
@[simp] theorem own_succ : ownAt (s :: en) (i + 1) = ownAt en i := rfl
@[simp] theorem stow_v0 : stow (.v x :: en) 0 s = some (s :: en) := rfl
@[simp] theorem stow_w0 : stow (.w x :: en) 0 s = some (s :: en) := rfl
@[simp] theorem stow_n0 : stow (.n :: en) 0 s = some (s :: en) := rfl
@[simp] theorem stow_b0 : stow (.b x :: en) 0 s = none := rfl
@[simp] theorem stow_succ {s2 : Sl} : stow (s2 :: en) (i + 1) s = (stow en i s).map (s2 :: ·) := by
  unfold stow
  simp only [List.getElem?_cons_succ]
  cases e : en[i]? with
  | none => rfl
  | some z => cases z <;> rfl
@[simp] theorem setO_b0 : setO (.b y :: en) 0 x = .b x :: en := rfl
@[simp] theorem setO_v0 : setO (.v y :: en) 0 x = .v x :: en := rfl
@[simp] theorem setO_succ : setO (s :: en) (i + 1) x = s :: setO en i x := by
  unfold setO
  simp only [List.getElem?_cons_succ]
  cases e : en[i]? with
  | none => rfl
  | some z => cases z <;> rfl
@[simp] theorem mkS_d {d : D} : mkS (.d d) = .v (.d d) := rfl
@[simp] theorem mkS_l {xs : List T} : mkS (.l xs) = .w (.l xs) := rfl
@[simp] theorem setE_nil : setE en [] = en := rfl
@[simp] theorem setE_cons {r : Ass} : setE en ((i, x) :: r) = setE (en.set i (mkS x)) r := rfl
@[simp] theorem wipeE_nil : wipeE en [] = en := rfl
@[simp] theorem wipeE_cons {r : List Nat} : wipeE en (i :: r) = (wipeE en r).set i .n := rfl
@[simp] theorem stows_nil : stows en [] = some en := rfl
@[simp] theorem stows_cons {r : Ass} : stows en ((i, x) :: r) = (stow en i (mkS x)).bind fun en' => stows en' r := rfl
@[simp] theorem stowD_nil : stowD en [] = some en := rfl
@[simp] theorem stowD_cons {d : D} {r : Ass} : stowD en ((i, .d d) :: r) = (stow en i (.v (.d d))).bind fun en' => stowD en' r := rfl
@[simp] theorem weak_l0 {xs : List T} : weak (.v (.l xs) :: en) 0 = .w (.l xs) :: en := rfl
@[simp] theorem weak_d0 {d : D} : weak (.v (.d d) :: en) 0 = .v (.d d) :: en := rfl
@[simp] theorem weak_w0 : weak (.w x :: en) 0 = .w x :: en := rfl
@[simp] theorem weak_succ : weak (s :: en) (i + 1) = s :: weak en i := by
  unfold weak
  simp only [List.getElem?_cons_succ]
  cases e : en[i]? with
  | none => rfl
  | some z => cases z with
    | v x => cases x <;> rfl
    | _ => rfl
@[simp] theorem notOwn_w0 : notOwn (.w x :: en) 0 = true := rfl
@[simp] theorem notOwn_d0 {d : D} : notOwn (.v (.d d) :: en) 0 = true := rfl
@[simp] theorem notOwn_succ : notOwn (s :: en) (i + 1) = notOwn en i := rfl
@[simp] theorem kName_ev : kName i x = some [(i, x)] := rfl
@[simp] theorem kD_d {k : T → Option Ass} {d : D} : kD k (.d d) = k (.d d) := rfl
@[simp] theorem kNil_ev : kNil [] = some [] := rfl
@[simp] theorem kCons_ev {k : T → Option Ass} {r : List D → Option Ass} {d : D} {ds : List D} : kCons k r (d :: ds) = (k (.d d)).bind fun a => (r ds).map fun b => a ++ b := rfl
@[simp] theorem kTup_ev {k : List D → Option Ass} {ds : List D} : kTup n k (.d (.tup ds)) = if ds.length = n then k ds else none := rfl
/-! reading -/
@[simp] theorem vN_ev : vN i en = R.of (at_ en i) := rfl
@[simp] theorem kI_ev {z : Int} : kI z en = .ok (.d (.int z)) := rfl
@[simp] theorem kB_ev {z : Bool} : kB z en = .ok (.d (.bl z)) := rfl
@[simp] theorem kS_ev {z : Str} : kS z en = .ok (.d (.str z)) := rfl
@[simp] theorem kD'_ev {z : D} : kD' z en = .ok (.d z) := rfl
@[simp] theorem gPur_ev : gPur g en = (g en).pur := rfl
@[simp] theorem g2_ev : g2 f ga gb en = (ga en).bind fun x => (gb en).bind fun y => .of (f x y) := rfl
@[simp] theorem g1_ev {f : T → Option T} : g1 f g en = (g en).bind fun x => .of (f x) := rfl
@[simp] theorem gT_ev : gT g en = (g en).bind fun x => .of (tst x) := rfl
@[simp] theorem gTru_ev : gTru g en = (g en).bind fun x => .of (tru x) := rfl
@[simp] theorem gNot_ev : gNot gt en = (gt en).bind fun b => .ok (!b) := rfl
@[simp] theorem gAnd_ev : gAnd gt ht en = (gt en).bind fun b => if b = true then ht en else .ok false := rfl
@[simp] theorem gOr_ev : gOr gt ht en = (gt en).bind fun b => if b = true then .ok true else ht en := rfl
@[simp] theorem gNotV_ev : gNotV g en = (g en).bind fun x => (R.of (tru x)).bind fun b => .ok (.d (.bl (!b))) := rfl
@[simp] theorem gAndV_ev : gAndV g h en = (g en).bind fun x => (R.of (tru x)).bind fun b => if b = true then h en else .ok x := rfl
@[simp] theorem gOrV_ev : gOrV g h en = (g en).bind fun x => (R.of (tru x)).bind fun b => if b = true then .ok x else h en := rfl
@[simp] theorem gIf_ev {p q : En → R α} : gIf gt p q en = (gt en).bind fun b => if b = true then p en else q en := rfl
@[simp] theorem gCh_ev : gCh f f' ga gb gc en = (ga en).bind fun x => (gb en).bind fun y => (R.of (f x y)).bind fun z => (R.of (tst z)).bind fun k => if k = true then (gc en).bind fun u => R.of (f' y u) else .ok (.d (.bl false)) := rfl
@[simp] theorem oN_ev : oN en = .ok none := rfl
@[simp] theorem oS_ev : oS g en = (g en).bind fun x => (R.of (asI x)).bind fun i => .ok (some i) := rfl
@[simp] theorem asI_ev {z : Int} : asI (.d (.int z)) = some z := rfl
@[simp] theorem gSl_ev {lo hi : En → R (Option Int)} : gSl g lo hi en = (g en).bind fun x => (lo en).bind fun l => (hi en).bind fun h => .of (fSl x l h) := rfl
@[simp] theorem aNil_ev : (aNil : En → R (List α)) en = .ok [] := rfl
@[simp] theorem aCons_ev {p : En → R α} {q : En → R (List α)} : aCons p q en = (p en).bind fun x => (q en).bind fun xs => .ok (x :: xs) := rfl
@[simp] theorem gTup_ev : gTup gs en = (gs en).bind mkTup := rfl
@[simp] theorem gLst_ev : gLst gs en = (gs en).bind mkLst := rfl
@[simp] theorem gCall_ev {f : List T → Option T} : gCall f gs en = (gs en).bind fun xs => .of (f xs) := rfl
@[simp] theorem gFn_ev {F : List T → R T} : gFn F gs en = (gs en).bind F := rfl
@[simp] theorem gIsi_ev {p : T → Bool} : gIsi p g en = (g en).bind fun x => .ok (.d (.bl (p x))) := rfl
@[simp] theorem gIt_ev : gIt g en = (g en).bind fun x => .of (items x) := rfl
theorem gR1_ev : gR1 g en = (g en).bind fR1 := rfl
theorem gR2_ev : gR2 ga gb en = (ga en).bind fun x => (gb en).bind fun y => fR2 x y := rfl
theorem gR3_ev : gR3 ga gb gc en = (ga en).bind fun x => (gb en).bind fun y => (gc en).bind fun z => fR3 x y z := rfl
theorem gLR1_ev : gLR1 g en = (g en).bind fun x => match x with
  | .d (.int n) => if 0 ≤ n ∧ n ≤ 16777216 then .ok (.l (rng 0 1 n.toNat)) else .no
  | _ => .no := rfl
theorem gLR2_ev : gLR2 ga gb en = (ga en).bind fun x => (gb en).bind fun y => match x, y with
  | .d (.int m), .d (.int n) => if 0 ≤ m ∧ m ≤ 16777216 ∧ 0 ≤ n ∧ n ≤ 16777216 then .ok (.l (rng m 1 (n - m).toNat)) else .no
  | _, _ => .no := rfl
@[simp] theorem gYes_ev : gYes en = .ok true := rfl
@[simp] theorem gLc_ev {vs : List Nat} {k : T → Option Ass} : gLc vs gs k gt g en = (gs en).bind fun xs => if xs.length < most then (lcL k gt g (wipeE en vs) xs).calm.bind fun ys => .ok (.l ys) else .no := rfl
@[simp] theorem calm_ok {a : α} : (R.ok a).calm = .ok a := rfl
@[simp] theorem mcalm_ok {a : α} : (RM.ok a en).calm = .ok a en := rfl
/-! operations -/
variable {p q : Int} {u v : Bool} {as bs : List D}
@[simp] theorem fAdd_i : fAdd (.d (.int p)) (.d (.int q)) = some (.d (.int (p + q))) := rfl
@[simp] theorem fAdd_t : fAdd (.d (.tup as)) (.d (.tup bs)) = if as.length + bs.length ≤ most then some (.d (.tup (as ++ bs))) else none := rfl
@[simp] theorem fSub_i : fSub (.d (.int p)) (.d (.int q)) = some (.d (.int (p - q))) := rfl
@[simp] theorem fMul_i : fMul (.d (.int p)) (.d (.int q)) = if MulOk p q then some (.d (.int (p * q))) else none := rfl
@[simp] theorem fMod_i : fMod (.d (.int p)) (.d (.int q)) = if 0 < q then some (.d (.int (p % q))) else none := rfl
@[simp] theorem fDiv_i : fDiv (.d (.int p)) (.d (.int q)) = if 0 < q ∧ q.natAbs.log2 < 9000 then some (.d (.int (p / q))) else none := rfl
@[simp] theorem fPow_i : fPow (.d (.int p)) (.d (.int q)) = if 0 ≤ q ∧ q ≤ 1000000 ∧ p.natAbs < 18446744073709551616 then some (.d (.int (p ^ q.toNat))) else none := rfl
@[simp] theorem fNeg_i : fNeg (.d (.int p)) = some (.d (.int (-p))) := rfl
@[simp] theorem fAddA_i : fAddA (.d (.int p)) (.d (.int q)) = some (.d (.int (p + q))) := rfl
theorem fDivA_i : fDivA (.d (.int p)) (.d (.int q)) = if 0 < q ∧ q < 1073741824 then some (.d (.int (p / q))) else none := rfl
@[simp] theorem fLt_i : fLt (.d (.int p)) (.d (.int q)) = some (.d (.bl (decide (p < q)))) := rfl
@[simp] theorem fLe_i : fLe (.d (.int p)) (.d (.int q)) = some (.d (.bl (decide (p ≤ q)))) := rfl
@[simp] theorem fGt_i : fGt (.d (.int p)) (.d (.int q)) = some (.d (.bl (decide (q < p)))) := rfl
@[simp] theorem fGe_i : fGe (.d (.int p)) (.d (.int q)) = some (.d (.bl (decide (q ≤ p)))) := rfl
theorem eqv_ii : PyData.eqv (.int p) (.int q) = decide (p = q) := by
  by_cases e : p = q
  · subst e; simp [PyData.eqv]
  · simp [PyData.eqv, e]
@[simp] theorem fEq_i : fEq (.d (.int p)) (.d (.int q)) = some (.d (.bl (decide (p = q)))) := by
  show (if _ then _ else _) = _
  rw [if_pos (show (shp (T.py (.d (.int p))) && shp (T.py (.d (.int q)))) = true from rfl)]
  show some (T.d (.bl (PyData.eqv (.int p) (.int q)))) = _
  rw [eqv_ii]
@[simp] theorem fNe_i : fNe (.d (.int p)) (.d (.int q)) = some (.d (.bl (!decide (p = q)))) := by
  show (if _ then _ else _) = _
  rw [if_pos (show (shp (T.py (.d (.int p))) && shp (T.py (.d (.int q)))) = true from rfl)]
  show some (T.d (.bl (!PyData.eqv (.int p) (.int q)))) = _
  rw [eqv_ii]
@[simp] theorem tst_b : tst (.d (.bl u)) = some u := rfl
@[simp] theorem tru_n : tru (.d .non) = some false := rfl
@[simp] theorem tru_b : tru (.d (.bl u)) = some u := rfl
@[simp] theorem tru_i : tru (.d (.int p)) = some (p != 0) := rfl
@[simp] theorem tru_t : tru (.d (.tup as)) = some (!as.isEmpty) := rfl
@[simp] theorem tru_r : tru (.d (.rol as)) = some (!as.isEmpty) := rfl
@[simp] theorem tru_l {xs : List T} : tru (.l xs) = some (!xs.isEmpty) := rfl
@[simp] theorem isInt_i : isInt (.d (.int p)) = true := rfl
@[simp] theorem isInt_b : isInt (.d (.bl u)) = true := rfl
@[simp] theorem isInt_t : isInt (.d (.tup as)) = false := rfl
@[simp] theorem isBl_i : isBl (.d (.int p)) = false := rfl
@[simp] theorem isBl_b : isBl (.d (.bl u)) = true := rfl
@[simp] theorem isBl_t : isBl (.d (.tup as)) = false := rfl
@[simp] theorem fLen_l {xs : List T} : fLen [.l xs] = some (.d (.int xs.length)) := rfl
@[simp] theorem fLen_t : fLen [.d (.tup as)] = some (.d (.int as.length)) := rfl
@[simp] theorem fLen_r : fLen [.d (.rol as)] = some (.d (.int as.length)) := rfl
@[simp] theorem fAbs_i : fAbs [.d (.int p)] = some (.d (.int (if p < 0 then -p else p))) := rfl
@[simp] theorem fInt_i : fInt [.d (.int p)] = some (.d (.int p)) := rfl
@[simp] theorem fInt_b : fInt [.d (.bl u)] = some (.d (.int (if u then 1 else 0))) := rfl
@[simp] theorem fMin2_i : fMin2 [.d (.int p), .d (.int q)] = some (.d (.int (min p q))) := rfl
@[simp] theorem fMax2_i : fMax2 [.d (.int p), .d (.int q)] = some (.d (.int (max p q))) := rfl
@[simp] theorem dataOf_t : dataOf (.d (.tup as)) = some as := rfl
@[simp] theorem dataOf_r : dataOf (.d (.rol as)) = some as := rfl
@[simp] theorem dataOf_l {xs : List T} : dataOf (.l xs) = allD xs := rfl
@[simp] theorem lstOf_r : lstOf (.d (.rol as)) = some as := rfl
@[simp] theorem lstOf_l {xs : List T} : lstOf (.l xs) = allD xs := rfl
@[simp] theorem fList_ev : fList [x] = (dataOf x).map fun ds => .l (ds.map T.d) := rfl
@[simp] theorem fTuple_ev : fTuple [x] = (dataOf x).map fun ds => .d (.tup ds) := rfl
@[simp] theorem fSum_ev : fSum [x] = (lstOf x).bind fun ds => (asInts ds).map fun ns => .d (.int ns.sum) := rfl
@[simp] theorem fAll_ev : fAll [x] = (lstOf x).bind fun ds => (asBls ds).map fun ns => .d (.bl (ns.all id)) := rfl
@[simp] theorem fAny_ev : fAny [x] = (lstOf x).bind fun ds => (trs ds).map fun bs => .d (.bl (bs.any id)) := rfl
@[simp] theorem items_t : items (.d (.tup as)) = some (as.map T.d) := rfl
@[simp] theorem items_r : items (.d (.rol as)) = some (as.map T.d) := rfl
@[simp] theorem items_l {xs : List T} : items (.l xs) = some xs := rfl
@[simp] theorem pur_ok_t {d : D} : R.pur (.ok (.d d)) = .ok (.d d) := rfl
theorem fR1_i : fR1 (.d (.int p)) = if -far ≤ p ∧ p < far then .ok (rng 0 1 p.toNat) else .no := rfl
theorem fR2_i : fR2 (.d (.int p)) (.d (.int q)) = if -far ≤ p ∧ p < far ∧ -far ≤ q ∧ q < far then .ok (rng p 1 (q - p).toNat) else .no := rfl
theorem fIx_t {i : Int} : fIx (.d (.tup as)) (.d (.int i)) = (atI as i).map T.d := rfl
theorem fIx_r {i : Int} : fIx (.d (.rol as)) (.d (.int i)) = (atI as i).map T.d := rfl
theorem fIx_l {xs : List T} {i : Int} : fIx (.l xs) (.d (.int i)) = atI xs i := rfl
theorem atI_nat {xs : List α} {k : Int} (h0 : 0 ≤ k) (h1 : k < xs.length) : atI xs k = xs[k.toNat]? := by
  unfold atI ixN
  rw [if_pos h0, if_pos h1]
  rfl
theorem fIx_l_num {xs : List T} (k : Nat) (h : k < xs.length) : fIx (.l xs) (.d (.int (k : Int))) = xs[k]? := by
  rw [fIx_l, atI_nat (Int.natCast_nonneg k) (Int.ofNat_lt.mpr h)]
  rfl
@[simp] theorem mkTup_nil : mkTup [] = .ok (.d (.tup [])) := rfl
@[simp] theorem mkLst_ev {xs : List T} : mkLst xs = if xs.length ≤ most then .ok (.l xs) else .no := rfl
@[simp] theorem mkTup_ev {xs : List T} : mkTup xs = R.of ((allD xs).bind fun ds => if ds.length ≤ most then some (.d (.tup ds)) else none) := by
  unfold mkTup
  cases allD xs with
  | none => rfl
  | some ds => by_cases h : ds.length ≤ most <;> simp [h]
@[simp] theorem allD_nil : allD [] = some [] := rfl
@[simp] theorem allD_cons {d : D} {r : List T} : allD (.d d :: r) = (allD r).map (d :: ·) := rfl
/-! effects -/
@[simp] theorem lft_ev {g : En → R α} : lft g en = RM.of (g en) en := rfl
@[simp] theorem mT_ev : mT m en = (m en).bind fun x en' => RM.of (R.of (tst x)) en' := rfl
@[simp] theorem mTru_ev : mTru m en = (m en).bind fun x en' => RM.of (R.of (tru x)) en' := rfl
@[simp] theorem mNot_ev : mNot c en = (c en).bind fun b en' => .ok (!b) en' := rfl
@[simp] theorem m2_ev : m2 f ma mb en = (ma en).bind fun x en1 => (mb en1).bind fun y en2 => RM.of (R.of (f x y)) en2 := rfl
@[simp] theorem mNil_ev : mNil en = .ok [] en := rfl
@[simp] theorem mCons_ev : mCons m ms en = (m en).bind fun x en1 => (ms en1).bind fun xs en2 => .ok (x :: xs) en2 := rfl
@[simp] theorem mOf_ev {f : List T → R T} : mOf f ms en = (ms en).bind fun xs en' => RM.of (f xs) en' := rfl
@[simp] theorem mIt_ev : mIt m en = (m en).bind fun x en' => RM.of (R.of (items x)) en' := rfl
theorem mR1_ev : mR1 m en = (m en).bind fun x en' => RM.of (fR1 x) en' := rfl
@[simp] theorem hNil_ev : hNil en = .ok [] en := rfl
@[simp] theorem hO_ev : hO m hm en = (m en).bind fun x en1 => (hm en1).bind fun xs en2 => .ok (.o x :: xs) en2 := rfl
@[simp] theorem hN_ev : hN i hm en = if (at_ en i).isSome then (hm en).bind fun xs en2 => .ok (.n i :: xs) en2 else .no := rfl
@[simp] theorem hds_nil : hds en i [] = some [] := rfl
@[simp] theorem hds_o {r : List Hd} : hds en i (.o x :: r) = (hds en i r).map (x :: ·) := rfl
@[simp] theorem hds_n {r : List Hd} : hds en i (.n j :: r) = if j = i then none else (at_ en j).bind fun x => (hds en i r).map (x :: ·) := rfl
theorem mName_n {d : D} : ∀ {en : En} {i : Nat}, at_ en i = some (.d d) → mName i en = .ok (.d d) en
  | en, i, h => by
    unfold mName; unfold at_ at h
    cases e : en[i]? with
    | none => rw [e] at h; cases h
    | some s =>
      rw [e] at h
      cases s with
      | n => cases h
      | v x => cases h; rfl
      | w x => cases h; rfl
      | b x => cases h; rfl
theorem mName_l {xs : List T} {en : En} {i : Nat} (h : en[i]? = some (.v (.l xs))) : mName i en = .ok (.l xs) (en.set i .n) := by
  unfold mName; rw [h]
theorem callM {F : T → List T → RF} {hs : List Hd} {en en1 : En} {x0 x1 x' r : T} {xs : List T} (h0 : ownAt en i = some x0) (h1 : hm en = .ok hs en1) (h2 : ownAt en1 i = some x1) (h3 : hds en1 i hs = some xs) (h4 : F x1 xs = .ok r x') : mCallM i F hm en = .ok r (setO en1 i x') := by
  unfold mCallM
  rw [h0]
  simp only [h1, RM.bind_ok]
  rw [h2]
  simp only [h3, h4]
/-! statements -/
def SR.sq (r : SR) (d : En → SR) : SR := match r with
  | .nx en => d en
  | r => r
@[simp] theorem sq_nx : (SR.nx en).sq d = d en := rfl
@[simp] theorem sq_ret : (SR.ret x en).sq d = .ret x en := rfl
@[simp] theorem sq_brk : (SR.brk en).sq d = .brk en := rfl
@[simp] theorem sq_ct : (SR.ct en).sq d = .ct en := rfl
@[simp] theorem sq_no : SR.no.sq d = .no := rfl
@[simp] theorem sq_ex {c : Exc} : (SR.ex c en).sq d = .ex c en := rfl
@[simp] theorem fSeq_ev : fSeq b d en = (b en).sq d := by
  unfold fSeq SR.sq
  cases b en <;> rfl
@[simp] theorem fNil_ev : fNil en = .nx en := rfl
@[simp] theorem toS_some : toS (some en) = .nx en := rfl
@[simp] theorem toS_none : toS none = .no := rfl
@[simp] theorem fSet_ev : fSet i m en = (m en).s fun x en' => toS (stow en' i (.v x)) := rfl
@[simp] theorem fAsg_ev {k : T → Option Ass} : fAsg k m en = (m en).s fun x en' => toS ((k x).bind fun as => stowD en' as) := rfl
@[simp] theorem fExpr_ev : fExpr m en = (m en).s fun _ en' => .nx en' := rfl
@[simp] theorem fRet_ev : fRet m en = (m en).s fun x en' => .ret x en' := rfl
@[simp] theorem fIf_ev : fIf c b d en = (c en).s fun u en' => if u = true then b en' else d en' := rfl
theorem fAug_i {k z : Int} {t : T} (h : at_ en i = some (.d (.int k))) (hm : m en = .ok (.d (.int z)) en) (hf : f (.d (.int k)) (.d (.int z)) = some t) : fAug i f m en = toS (stow en i (.v t)) := by
  unfold fAug datAt
  rw [h]
  simp only [R.of_some, R.pur_d, hm, RM.s_ok, hf]
theorem sif_t {P : Prop} [Decidable P] {r s : SR} (h : P) : (if P then r else s) = r := if_pos h
/-! a whole def -/
theorem runP_ret {k : Nat} {xs : List T} {r : T} (hk : xs.length = k) (h : ∃ e, b (startE n xs) = .ret r e) : runP n k b xs = .ok r := by
  obtain ⟨e, h⟩ := h
  unfold runP
  rw [if_pos hk, h]
theorem runP_nx {k : Nat} {xs : List T} (hk : xs.length = k) (h : ∃ e, b (startE n xs) = .nx e) : runP n k b xs = .ok (.d .non) := by
  obtain ⟨e, h⟩ := h
  unfold runP
  rw [if_pos hk, h]
theorem runM_ret {k : Nat} {x0 x' : T} {xs : List T} {r : T} (hk : xs.length + 1 = k) (h : ∃ e, b (startM n x0 xs) = .ret r (.b x' :: e)) : runM n k b x0 xs = .ok r x' := by
  obtain ⟨e, h⟩ := h
  unfold runM
  rw [if_pos hk, h]
  rfl
theorem ret_seq {r : T} {en en1 : En} (h1 : b en = .nx en1) (h2 : ∃ e, d en1 = .ret r e) : ∃ e, fSeq b d en = .ret r e := by
  rw [fSeq_ev, h1]; exact h2
theorem nx_seq {en en1 : En} {P : En → Prop} (h1 : b en = .nx en1) (h2 : ∃ e, d en1 = .nx e ∧ P e) : ∃ e, fSeq b d en = .nx e ∧ P e := by
  rw [fSeq_ev, h1]; exact h2
theorem ret_if_f {r : T} {en : En} {z : En → SR} {g : En → R Bool} (h1 : g en = .ok false) (h2 : ∃ e, z en = .ret r e) : ∃ e, fSeq (fIf (lft g) b fNil) z en = .ret r e := by
  refine ret_seq (en1 := en) ?_ h2
  rw [fIf_ev, lft_ev, h1]; rfl
theorem fIf_f {en : En} {g : En → R Bool} (h1 : g en = .ok false) : fIf (lft g) b d en = d en := by
  rw [fIf_ev, lft_ev, h1]; rfl
theorem fIf_t {en : En} {g : En → R Bool} (h1 : g en = .ok true) : fIf (lft g) b d en = b en := by
  rw [fIf_ev, lft_ev, h1]; rfl
/-! loops -/
theorem forE_ix {k : T → Option Ass} {f : En → SR} : ∀ (xs : List T) (Q : Nat → En → Prop) (j : Nat), (∀ i (hi : i < xs.length) en, Q (j + i) en → ∃ as en1 en2, k xs[i] = some as ∧ stows en as = some en1 ∧ (f en1 = .nx en2 ∨ f en1 = .ct en2) ∧ Q (j + i + 1) en2) → ∀ en, Q j en → ∃ en', forE k f xs en = .nx en' ∧ Q (j + xs.length) en'
  | [], Q, j, _, en, q => ⟨en, rfl, q⟩
  | x :: xs, Q, j, h, en, q => by
    obtain ⟨as, en1, en2, h1, h2, h3, h4⟩ := h 0 (Nat.succ_pos _) en q
    obtain ⟨en', h5, h6⟩ := forE_ix xs Q (j + 1) (fun i hi en q => by
      have := h (i + 1) (Nat.succ_lt_succ hi) en (by rwa [Nat.add_assoc, Nat.add_comm 1] at q)
      rw [show j + 1 + i + 1 = j + (i + 1) + 1 by omega]
      exact this) en2 h4
    refine ⟨en', ?_, by rw [List.length_cons, show j + (xs.length + 1) = j + 1 + xs.length by omega]; exact h6⟩
    show (match (k x).bind fun as => stows en as with
    | none => SR.no
    | some en1 => match f en1 with
      | .nx en2 => forE k f xs en2
      | .ct en2 => forE k f xs en2
      | .brk en2 => .nx en2
      | r => r) = _
    rw [show k x = some as from h1, Option.bind_some, h2]
    rcases h3 with h3 | h3 <;> simp only [h3] <;> exact h5
/-- a loop over names, by what holds beside the count -/
theorem for_ix {v : Nat} {mi : En → RM (List T)} {f : En → SR} {xs : List T} (Q : Nat → En → Prop) (en : En) {en0 : En} (hm : mi en = .ok xs en0) (h0 : Q 0 en0) (h : ∀ i (hi : i < xs.length) en, Q i en → ∃ en1 en2, stow en v (mkS xs[i]) = some en1 ∧ (f en1 = .nx en2 ∨ f en1 = .ct en2) ∧ Q (i + 1) en2) : ∃ en', fFor (kName v) mi f en = .nx en' ∧ Q xs.length en' := by
  obtain ⟨en', h1, h2⟩ := forE_ix (k := kName v) (f := f) xs Q 0 (fun i hi en q => by
    rw [Nat.zero_add] at q ⊢
    obtain ⟨en1, en2, a, b, c⟩ := h i hi en q
    exact ⟨_, en1, en2, rfl, by rw [stows_cons, a]; rfl, b, c⟩) en0 h0
  refine ⟨en', ?_, by rwa [Nat.zero_add] at h2⟩
  show (mi en).s _ = _
  rw [hm]; exact h1
theorem forN_ix {v i : Nat} {f : En → SR} {xs : List T} (Q : Nat → En → Prop) (en : En) (hn : notOwn (weak en i) i = true) (hm : (at_ (weak en i) i).bind items = some xs) (h0 : Q 0 (weak en i)) (h : ∀ j (hj : j < xs.length) en, Q j en → ∃ en1 en2, stow en v (mkS xs[j]) = some en1 ∧ (f en1 = .nx en2 ∨ f en1 = .ct en2) ∧ Q (j + 1) en2) : ∃ en', fForN (kName v) i f en = .nx en' ∧ Q xs.length en' := by
  obtain ⟨en', h1, h2⟩ := forE_ix (k := kName v) (f := f) xs Q 0 (fun i hi en q => by
    rw [Nat.zero_add] at q ⊢
    obtain ⟨en1, en2, a, b, c⟩ := h i hi en q
    exact ⟨_, en1, en2, rfl, by rw [stows_cons, a]; rfl, b, c⟩) _ h0
  refine ⟨en', ?_, by rwa [Nat.zero_add] at h2⟩
  show (if _ then _ else _) = _
  rw [if_pos hn]
  simp only [hm]; exact h1
/-- a comprehension of things told one by one -/
theorem lcL_map {v : Nat} {te : En → R T} {en : En} {G : T → T} : ∀ {xs : List T}, (∀ x ∈ xs, te (en.set v (mkS x)) = .ok (G x)) → lcL (kName v) gYes te en xs = .ok (xs.map G)
  | [], _ => rfl
  | x :: xs, h => by
    unfold lcL
    simp only [kName_ev, R.of_some, R.bind_ok, setE_cons, setE_nil, gYes_ev, if_true, h x (List.mem_cons_self ..), lcL_map (xs := xs) fun y m => h y (List.mem_cons_of_mem _ m), List.map_cons]
theorem lc_rng {vs : List Nat} {v : Nat} {gs : En → R (List T)} {te : En → R T} {en : En} {a : Int} {n : Nat} {G : Nat → D} (hg : gs en = .ok (rng a 1 n)) (hn : n < 16777216) (h : ∀ i, i < n → te ((wipeE en vs).set v (.v (.d (.int (a + i))))) = .ok (.d (G i))) : gLc vs gs (kName v) gYes te en = .ok (.l (((List.range n).map G).map T.d)) := by
  rw [gLc_ev, hg]
  simp only [R.bind_ok]
  rw [if_pos (show (rng a 1 n).length < most by rw [rng_len]; exact hn)]
  have : ∀ (L : List Nat), (∀ i ∈ L, i < n) → lcL (kName v) gYes te (wipeE en vs) (L.map fun (i : Nat) => T.d (.int (a + (i : Nat) * 1))) = .ok ((L.map G).map T.d) := by
    intro L
    induction L with
    | nil => intro _; rfl
    | cons i L ih =>
      intro hL
      rw [List.map_cons]
      unfold lcL
      have e := h i (hL i (List.mem_cons_self ..))
      simp only [kName_ev, R.of_some, R.bind_ok, setE_cons, setE_nil, gYes_ev, if_true, mkS_d, Int.mul_one, e]
      have e2 := ih fun j m => hL j (List.mem_cons_of_mem _ m)
      simp only [Int.mul_one] at e2
      rw [e2]
      rfl
  have e := this (List.range n) fun i m => List.mem_range.mp m
  unfold rng
  rw [e]
  rfl
/-! the law's own draws -/
def St (ns : List Int) (i j k : Int) : T := .l [.l (ns.map fun z => T.d (.int z)), .d (.int i), .d (.int j), .d (.int k)]
def Stt (ns : List Int) (s : T) : Prop := ∃ i j k, s = St ns i j k
end Z
/-! Z: the draws that the laws make. -/
namespace Z
open PySem PySem.Spec L2
open PyProof.Rows hiding St
def d_start : En → SR :=
  (fRet (lft (gLst (aCons (gCall fList (aCons (vN 0) aNil)) (aCons (kI 0) (aCons (kI 0) (aCons (kI 0) aNil)))))))
def F_start := runP 1 1 d_start
def d_draw : En → SR :=
  (fSeq (fStore 0 (kI 3) (lft (g2 fAdd (g2 fIx (vN 0) (kI 3)) (kI 1))))
  (fSeq (fIf (lft (gT (g2 fGt (g2 fIx (vN 0) (kI 2)) (kI 0)))) (fSeq (fSet 2 (lft (g2 fMod (gCall fInt (aCons (g2 fIx (vN 0) (kI 2)) aNil)) (vN 1))))
  (fSeq (fStore 0 (kI 2) (lft (g2 fDiv (g2 fIx (vN 0) (kI 2)) (vN 1))))
  (fRet (mName 2)))) fNil)
  (fSeq (fSet 3 (lft (kI 0)))
  (fSeq (fIf (lft (gT (g2 fGt (gCall fLen (aCons (g2 fIx (vN 0) (kI 0)) aNil)) (kI 0)))) (fSet 3 (lft (gCall fAbs (aCons (g2 fIx (g2 fIx (vN 0) (kI 0)) (g2 fMod (gCall fInt (aCons (g2 fIx (vN 0) (kI 1)) aNil)) (gCall fLen (aCons (g2 fIx (vN 0) (kI 0)) aNil)))) aNil)))) fNil)
  (fSeq (fStore 0 (kI 1) (lft (g2 fAdd (g2 fIx (vN 0) (kI 1)) (kI 1))))
  (fSeq (fIf (lft (gT (g2 fGe (vN 3) (g2 fPow (kI 10) (kI 18))))) (fSeq (fStore 0 (kI 2) (lft (g2 fDiv (vN 3) (vN 1))))
  (fRet (lft (g2 fMod (gCall fInt (aCons (vN 3) aNil)) (vN 1))))) fNil)
  (fSeq (fSet 4 (lft (g2 fMod (gCall fInt (aCons (g2 fAdd (g2 fMul (g2 fAdd (vN 3) (kI 1)) (kI 48271)) (g2 fMul (g2 fIx (vN 0) (kI 3)) (kI 69621))) aNil)) (kI 2147483647))))
  (fSeq (fSet 4 (lft (g2 fMod (gCall fInt (aCons (g2 fAdd (g2 fAdd (g2 fMul (vN 4) (kI 16807)) (g2 fDiv (vN 3) (kI 97))) (g2 fIx (vN 0) (kI 3))) aNil)) (kI 2147483629))))
  (fRet (lft (g2 fMod (g2 fDiv (vN 4) (kI 11)) (vN 1))))))))))))
def F_draw := runM 5 2 d_draw
def d_oneof : En → SR :=
  (fRet (mIxNg 1 (mCallM 0 F_draw (hO (lft (gCall fLen (aCons (vN 1) aNil))) hNil))))
def F_oneof := runM 2 2 d_oneof
theorem start_St (ns : List Int) : F_start [.d (.rol (ns.map D.int))] = .ok (St ns 0 0 0) := by
  refine runP_ret rfl ⟨[.v (.d (.rol (ns.map D.int)))], ?_⟩
  simp [startE, d_start, St, most]
theorem log2_lt9000 {m : Int} (h1 : m < 1000000000) (h0 : 0 < m) : m.natAbs.log2 < 9000 := by
  have : m.natAbs < 1000000000 := by omega
  have : m.natAbs.log2 < 30 := by
    by_cases e : m.natAbs = 0
    · rw [e]; decide
    · rw [Nat.log2_lt e]; omega
  omega
theorem draw_ok {ns : List Int} (hl : ns.length ≤ 63) {s : T} (hs : Stt ns s) {m : Int} (h0 : 0 < m) (h1 : m < 1000000000) : ∃ v s', 0 ≤ v ∧ v < m ∧ F_draw s [.d (.int m)] = .ok (.d (.int v)) s' ∧ Stt ns s' := by
  obtain ⟨i, j, k, rfl⟩ := hs
  have hm := log2_lt9000 h1 h0
  have r : ∀ z : Int, 0 ≤ z % m ∧ z % m < m := fun z => ⟨Int.emod_nonneg _ (by omega), Int.emod_lt_of_pos _ h0⟩
  have ix3 : ∀ i j k, fIx (St ns i j k) (.d (.int 3)) = some (.d (.int k)) := fun i j k => rfl
  have ix2 : ∀ i j k, fIx (St ns i j k) (.d (.int 2)) = some (.d (.int j)) := fun i j k => rfl
  have ix1 : ∀ i j k, fIx (St ns i j k) (.d (.int 1)) = some (.d (.int i)) := fun i j k => rfl
  have ix0 : ∀ i j k, fIx (St ns i j k) (.d (.int 0)) = some (.l (ns.map fun z => T.d (.int z))) := fun i j k => rfl
  have st3 : ∀ i j k z (m : En → RM T) en t, m (.b (St ns i j k) :: en) = .ok (.d (.int z)) (.b (St ns i j k) :: en) → fStore 0 (kI 3) m (.b (St ns i j k) :: t) = fStore 0 (kI 3) m (.b (St ns i j k) :: t) := fun _ _ _ _ _ _ _ _ => rfl
  have s3 : ∀ i j k z (m : En → RM T) en, m (.b (St ns i j k) :: en) = .ok (.d (.int z)) (.b (St ns i j k) :: en) → fStore 0 (kI 3) m (.b (St ns i j k) :: en) = .nx (.b (St ns i j z) :: en) := fun i j k z m en h => by unfold fStore; rw [h]; rfl
  have s2 : ∀ i j k z (m : En → RM T) en, m (.b (St ns i j k) :: en) = .ok (.d (.int z)) (.b (St ns i j k) :: en) → fStore 0 (kI 2) m (.b (St ns i j k) :: en) = .nx (.b (St ns i z k) :: en) := fun i j k z m en h => by unfold fStore; rw [h]; rfl
  have s1 : ∀ i j k z (m : En → RM T) en, m (.b (St ns i j k) :: en) = .ok (.d (.int z)) (.b (St ns i j k) :: en) → fStore 0 (kI 1) m (.b (St ns i j k) :: en) = .nx (.b (St ns z j k) :: en) := fun i j k z m en h => by unfold fStore; rw [h]; rfl
  by_cases hj : 0 < j
  · refine ⟨j % m, St ns i (j / m) (k + 1), (r j).1, (r j).2, runM_ret rfl ⟨[.v (.d (.int m)), .v (.d (.int (j % m))), .n, .n], ?_⟩, _, _, _, rfl⟩
    show d_draw [.b (St ns i j k), .v (.d (.int m)), .n, .n, .n] = _
    unfold d_draw
    rw [fSeq_ev, s3 i j k (k + 1) _ _ (by simp [ix3]), sq_nx, fSeq_ev, fIf_t (by simp [ix2, hj]), fSeq_ev]
    rw [show (fSet 2 (lft (g2 fMod (gCall fInt (aCons (g2 fIx (vN 0) (kI 2)) aNil)) (vN 1)))) [.b (St ns i j (k + 1)), .v (.d (.int m)), .n, .n, .n] = .nx [.b (St ns i j (k + 1)), .v (.d (.int m)), .v (.d (.int (j % m))), .n, .n] from by simp [ix2, h0]]
    rw [sq_nx, fSeq_ev, s2 i j (k + 1) (j / m) _ _ (by simp [ix2, h0, hm]), sq_nx]
    rfl
  · have main : ∀ (c : Int), 0 ≤ c → ∃ v s', 0 ≤ v ∧ v < m ∧ (∃ e, (fSeq (fStore 0 (kI 1) (lft (g2 fAdd (g2 fIx (vN 0) (kI 1)) (kI 1))))
  (fSeq (fIf (lft (gT (g2 fGe (vN 3) (g2 fPow (kI 10) (kI 18))))) (fSeq (fStore 0 (kI 2) (lft (g2 fDiv (vN 3) (vN 1))))
  (fRet (lft (g2 fMod (gCall fInt (aCons (vN 3) aNil)) (vN 1))))) fNil)
  (fSeq (fSet 4 (lft (g2 fMod (gCall fInt (aCons (g2 fAdd (g2 fMul (g2 fAdd (vN 3) (kI 1)) (kI 48271)) (g2 fMul (g2 fIx (vN 0) (kI 3)) (kI 69621))) aNil)) (kI 2147483647))))
  (fSeq (fSet 4 (lft (g2 fMod (gCall fInt (aCons (g2 fAdd (g2 fAdd (g2 fMul (vN 4) (kI 16807)) (g2 fDiv (vN 3) (kI 97))) (g2 fIx (vN 0) (kI 3))) aNil)) (kI 2147483629))))
  (fRet (lft (g2 fMod (g2 fDiv (vN 4) (kI 11)) (vN 1)))))))) [.b (St ns i j (k + 1)), .v (.d (.int m)), .n, .v (.d (.int c)), .n] = .ret (.d (.int v)) (.b s' :: e)) ∧ Stt ns s' := by
      intro c hc
      by_cases hb : 10 ^ 18 ≤ c
      · refine ⟨c % m, St ns (i + 1) (c / m) (k + 1), (r c).1, (r c).2, ⟨[.v (.d (.int m)), .n, .v (.d (.int c)), .n], ?_⟩, _, _, _, rfl⟩
        rw [fSeq_ev, s1 i j (k + 1) (i + 1) _ _ (by simp [ix1]), sq_nx, fSeq_ev, fIf_t (by simp [hb]; exact hb), fSeq_ev, s2 (i + 1) j (k + 1) (c / m) _ _ (by simp [h0, hm]), sq_nx]
        simp [h0]
      · refine ⟨(((c + 1) * 48271 + (k + 1) * 69621) % 2147483647 * 16807 + c / 97 + (k + 1)) % 2147483629 / 11 % m, St ns (i + 1) j (k + 1), (r _).1, (r _).2, ⟨[.v (.d (.int m)), .n, .v (.d (.int c)), .v (.d (.int ((((c + 1) * 48271 + (k + 1) * 69621) % 2147483647 * 16807 + c / 97 + (k + 1)) % 2147483629)))], ?_⟩, _, _, _, rfl⟩
        rw [fSeq_ev, s1 i j (k + 1) (i + 1) _ _ (by simp [ix1]), sq_nx, fSeq_ev, fIf_f (by simp [hb]; omega), fNil_ev, sq_nx, fSeq_ev]
        have m1 : ∀ x : Int, MulOk x 48271 := fun x => .r (by decide)
        have m2 : ∀ x : Int, MulOk x 69621 := fun x => .r (by decide)
        have m3 : ∀ x : Int, MulOk x 16807 := fun x => .r (by decide)
        have l1 : Nat.log2 97 < 9000 := by decide
        have l2 : Nat.log2 11 < 9000 := by decide
        simp [ix3, m1, m2, m3, h0, l1, l2]
    have hd : ∃ c : Int, 0 ≤ c ∧ (fSeq (fSet 3 (lft (kI 0))) (fIf (lft (gT (g2 fGt (gCall fLen (aCons (g2 fIx (vN 0) (kI 0)) aNil)) (kI 0)))) (fSet 3 (lft (gCall fAbs (aCons (g2 fIx (g2 fIx (vN 0) (kI 0)) (g2 fMod (gCall fInt (aCons (g2 fIx (vN 0) (kI 1)) aNil)) (gCall fLen (aCons (g2 fIx (vN 0) (kI 0)) aNil)))) aNil)))) fNil)) [.b (St ns i j (k + 1)), .v (.d (.int m)), .n, .n, .n] = .nx [.b (St ns i j (k + 1)), .v (.d (.int m)), .n, .v (.d (.int c)), .n] := by
      by_cases hn : 0 < (ns.length : Int)
      · have b1 : 0 ≤ i % (ns.length : Int) := Int.emod_nonneg _ (by omega)
        have b2 : i % (ns.length : Int) < (ns.length : Int) := Int.emod_lt_of_pos _ hn
        have b3 : (i % (ns.length : Int)).toNat < ns.length := by omega
        have e : fIx (.l (ns.map fun z => T.d (.int z))) (.d (.int (i % (ns.length : Int)))) = some (.d (.int ns[(i % (ns.length : Int)).toNat])) := by
          rw [fIx_l, atI_nat b1 (by simpa using b2), List.getElem?_map, List.getElem?_eq_getElem b3]; rfl
        refine ⟨if ns[(i % (ns.length : Int)).toNat] < 0 then -ns[(i % (ns.length : Int)).toNat] else ns[(i % (ns.length : Int)).toNat], by split <;> omega, ?_⟩
        rw [fSeq_ev]
        have hn' : 0 < ns.length := by omega
        simp [ix0, ix1, hn', e]
      · refine ⟨0, by omega, ?_⟩
        have : ns = [] := by
          cases ns with
          | nil => rfl
          | cons _ _ => simp at hn
        subst this
        rw [fSeq_ev]
        simp [ix0]
    obtain ⟨c, hc, hd⟩ := hd
    obtain ⟨v, s', v0, v1, hv, hs'⟩ := main c hc
    refine ⟨v, s', v0, v1, runM_ret rfl ?_, hs'⟩
    obtain ⟨e, hv⟩ := hv
    refine ⟨e, ?_⟩
    show d_draw [.b (St ns i j k), .v (.d (.int m)), .n, .n, .n] = _
    unfold d_draw
    rw [fSeq_ev, s3 i j k (k + 1) _ _ (by simp [ix3]), sq_nx, fSeq_ev, fIf_f (by simp [ix2, hj]), fNil_ev, sq_nx]
    rw [fSeq_ev] at hd
    rw [fSeq_ev]
    cases e1 : (fSet 3 (lft (kI 0))) [.b (St ns i j (k + 1)), .v (.d (.int m)), .n, .n, .n] with
    | nx en1 =>
      rw [e1, sq_nx] at hd
      rw [sq_nx, fSeq_ev, hd, sq_nx]
      exact hv
    | _ => rw [e1] at hd; cases hd
end Z
/-! Z: more of the laws' common ways. -/
namespace Z
open PySem PySem.Spec L2
open PyProof.Rows hiding St
abbrev I (z : Int) : T := .d (.int z)
mutual
def beqD : D → D → Bool
  | .non, .non => true
  | .bl a, .bl b => a == b
  | .int a, .int b => a == b
  | .tup a, .tup b => beqDs a b
  | _, _ => false
def beqDs : List D → List D → Bool
  | [], [] => true
  | a :: r, b :: s => beqD a b && beqDs r s
  | _, _ => false
end
mutual
theorem beqD_eq : ∀ {a b : D}, beqD a b = true → a = b
  | .non, b, h => by cases b <;> first | rfl | cases h
  | .bl a, b, h => by
    cases b with
    | bl b => simp [beqD] at h; rw [h]
    | _ => cases h
  | .int a, b, h => by
    cases b with
    | int b => simp [beqD] at h; rw [h]
    | _ => cases h
  | .str a, b, h => by cases b <;> cases h
  | .tup a, b, h => by
    cases b with
    | tup b => rw [beqDs_eq (a := a) (b := b) h]
    | _ => cases h
  | .rol a, b, h => by cases b <;> cases h
theorem beqDs_eq : ∀ {a b : List D}, beqDs a b = true → a = b
  | [], [], _ => rfl
  | [], _ :: _, h => by cases h
  | _ :: _, [], h => by cases h
  | a :: r, b :: s, h => by
    rw [beqDs, Bool.and_eq_true] at h
    rw [beqD_eq h.1, beqDs_eq h.2]
end
def okIs (r : R T) (d : D) : Bool := match r with
  | .ok (.d e) => beqD e d
  | _ => false
theorem okIs_eq {r : R T} {d : D} (h : okIs r d = true) : r = .ok (.d d) := by
  unfold okIs at h
  split at h
  · rw [beqD_eq h]
  · cases h
theorem ret_lft {g : En → R T} {x : T} {en : En} (h : g en = .ok x) : ∃ e, fRet (lft g) en = .ret x e := ⟨en, by rw [fRet_ev, lft_ev, h]; rfl⟩
theorem small_ok {i j : Int} (h0 : -1000000 ≤ i) (h1 : i ≤ 1000000) : MulOk i j := .l (by omega)
theorem mod_range (z : Int) {p : Int} (h : 0 < p) : 0 ≤ z % p ∧ z % p < p := ⟨Int.emod_nonneg _ (by omega), Int.emod_lt_of_pos _ h⟩
theorem dvd_mod (z p : Int) : ∃ k, z % p = z + p * k := ⟨-(z / p), by rw [Int.emod_def, Int.mul_neg, Int.sub_eq_add_neg]⟩
theorem fR1_n {z : Int} (h1 : -1000000000 ≤ z) (h2 : z ≤ 1000000000) : fR1 (I z) = .ok (rng 0 1 z.toNat) := by
  show (if _ then _ else _) = _
  exact if_pos ⟨Int.le_trans (by decide) h1, Int.lt_of_le_of_lt h2 (by decide)⟩
theorem fR2_n {y z : Int} (h1 : -1000000000 ≤ y) (h2 : y ≤ 1000000000) (h3 : -1000000000 ≤ z) (h4 : z ≤ 1000000000) : fR2 (I y) (I z) = .ok (rng y 1 (z - y).toNat) := by
  show (if _ then _ else _) = _
  exact if_pos ⟨Int.le_trans (by decide) h1, Int.lt_of_le_of_lt h2 (by decide), Int.le_trans (by decide) h3, Int.lt_of_le_of_lt h4 (by decide)⟩
theorem gR1_n {g : En → R T} {en : En} {z : Int} (h : g en = .ok (I z)) (h1 : -1000000000 ≤ z) (h2 : z ≤ 1000000000) : gR1 g en = .ok (rng 0 1 z.toNat) := by
  rw [gR1_ev, h, R.bind_ok, fR1_n h1 h2]
theorem gR2_n {ga gb : En → R T} {en : En} {y z : Int} (ha : ga en = .ok (I y)) (hb : gb en = .ok (I z)) (h1 : -1000000000 ≤ y) (h2 : y ≤ 1000000000) (h3 : -1000000000 ≤ z) (h4 : z ≤ 1000000000) : gR2 ga gb en = .ok (rng y 1 (z - y).toNat) := by
  rw [gR2_ev, ha, R.bind_ok, hb, R.bind_ok, fR2_n h1 h2 h3 h4]
theorem gLR1_n {g : En → R T} {en : En} {z : Int} (h : g en = .ok (I z)) (h1 : 0 ≤ z) (h2 : z ≤ 16777216) : gLR1 g en = .ok (.l (rng 0 1 z.toNat)) := by
  rw [gLR1_ev, h, R.bind_ok]
  exact if_pos ⟨h1, h2⟩
theorem lft_n {α : Type} {g : En → R α} {en : En} {x : α} (h : g en = .ok x) : lft g en = .ok x en := by rw [lft_ev, h, RM.of_ok]
def NB (o : Sl) : Prop := ∀ z, o ≠ .b z
theorem NB.n : NB .n := fun z e => by cases e
theorem NB.v {x : T} : NB (.v x) := fun z e => by cases e
theorem NB.w {x : T} : NB (.w x) := fun z e => by cases e
theorem NB.s {o : Sl} (h : NB o) {en : En} {s : Sl} : stow (o :: en) 0 s = some (s :: en) := by
  cases o with
  | b z => exact absurd rfl (h z)
  | _ => rfl
theorem rng_at {n i : Nat} {a : Int} (h : i < (rng a 1 n).length) : (rng a 1 n)[i] = I (a + i) := by
  have h' : i < n := by rwa [rng_len] at h
  have := rng_get (a := a) (c := 1) h'
  rw [List.getElem?_eq_getElem h] at this
  injection this with this
  rw [this, Int.mul_one]
theorem rng_d (a c : Int) (n : Nat) : rng a c n = ((List.range n).map fun i => D.int (a + (i : Nat) * c)).map T.d := by
  unfold rng; rw [List.map_map]; rfl
theorem fAdd_l {as bs : List D} (h : as.length + bs.length ≤ most) : fAdd (.l (as.map T.d)) (.l (bs.map T.d)) = some (.l ((as ++ bs).map T.d)) := by
  unfold fAdd
  simp only [allD_map]
  rw [if_pos h]
theorem ints_of {P : Int → Prop} : ∀ {ys : List T}, (∀ y ∈ ys, ∃ z, y = I z ∧ P z) → ∃ zs : List Int, ys = (zs.map D.int).map T.d ∧ ∀ z ∈ zs, P z
  | [], _ => ⟨[], rfl, fun _ m => absurd m List.not_mem_nil⟩
  | y :: ys, h => by
    obtain ⟨z, rfl, hz⟩ := h y (List.mem_cons_self ..)
    obtain ⟨zs, rfl, hs⟩ := ints_of (ys := ys) fun y m => h y (List.mem_cons_of_mem _ m)
    exact ⟨z :: zs, rfl, fun w m => by
      rcases List.mem_cons.mp m with e | m
      · rw [e]; exact hz
      · exact hs w m⟩
/-- a comprehension with effects over data -/
theorem lcM_inv {vs : List Nat} {v : Nat} {te : En → RM T} (Q : En → Prop) (P : T → Prop) (h : ∀ d en, Q en → ∃ en2 y en4, stow (wipeE en vs) v (.v (.d d)) = some en2 ∧ te en2 = .ok y en4 ∧ P y ∧ Q (wipeE en4 vs)) : ∀ (ds : List D) en, Q en → ∃ ys en', lcM vs (kName v) gYes te (ds.map T.d) en = .ok ys en' ∧ ys.length = ds.length ∧ (∀ y ∈ ys, P y) ∧ Q en'
  | [], en, q => ⟨[], en, rfl, rfl, fun _ m => absurd m List.not_mem_nil, q⟩
  | d :: ds, en, q => by
    obtain ⟨en2, y, en4, h1, h2, h3, h4⟩ := h d en q
    obtain ⟨ys, en', h5, h6, h7, h8⟩ := lcM_inv Q P h ds _ h4
    refine ⟨y :: ys, en', ?_, by rw [List.length_cons, h6, List.length_cons], fun z m => ?_, h8⟩
    · rw [List.map_cons]
      unfold lcM
      simp only [kD_d, kName_ev, Option.bind_some, stowD_cons, stowD_nil, h1, gYes_ev, h2, h5, RM.bind_ok]
    · rcases List.mem_cons.mp m with e | m
      · rw [e]; exact h3
      · exact h7 z m
/-- one of many, drawn -/
theorem oneof_ok {ns : List Int} (hl : ns.length ≤ 63) {s : T} (hs : Stt ns s) {ds : List D} (h0 : 0 < ds.length) (h1 : ds.length < 1000000000) : ∃ d s', d ∈ ds ∧ F_oneof s [.l (ds.map T.d)] = .ok (.d d) s' ∧ Stt ns s' := by
  obtain ⟨v, s', v0, v1, e, hs'⟩ := draw_ok hl hs (m := (ds.length : Int)) (by omega) (by omega)
  have hv : v.toNat < ds.length := by omega
  refine ⟨ds[v.toNat], s', List.getElem_mem hv, runM_ret rfl ⟨[.w (.l (ds.map T.d))], ?_⟩, hs'⟩
  show d_oneof [.b s, .w (.l (ds.map T.d))] = _
  unfold d_oneof
  rw [fRet_ev]
  have c : mCallM 0 F_draw (hO (lft (gCall fLen (aCons (vN 1) aNil))) hNil) [.b s, .w (.l (ds.map T.d))] = .ok (I v) [.b s', .w (.l (ds.map T.d))] := by
    refine callM (hs := [.o (I ds.length)]) (x0 := s) (en1 := [.b s, .w (.l (ds.map T.d))]) (x1 := s) (xs := [I ds.length]) rfl ?_ rfl rfl e
    simp
  have e2 : fIx (.l (ds.map T.d)) (I v) = some (.d ds[v.toNat]) := by
    rw [fIx_l, atI_nat v0 (by simpa using v1), List.getElem?_map, List.getElem?_eq_getElem hv]; rfl
  unfold mIxNg
  rw [if_pos (show (at_ [.b s, .w (.l (ds.map T.d))] 1).isSome = true from rfl)]
  unfold mIxN
  rw [c]
  simp [e2]
end Z
namespace K27
open PySem PySem.Spec L2 Z
open PyProof.Rows hiding St
/-! what the defs compute -/
def mu_power_0 : En → Nat := (fun _ => 100000)
def d_power : En → SR :=
  (fSeq (fSet 3 (lft (kI 1)))
  (fSeq (fWh mu_power_0 (lft (gT (g2 fGt (vN 2) (kI 0)))) (fSeq (fIf (lft (gT (g2 fEq (g2 fMod (vN 2) (kI 2)) (kI 1)))) (fSet 3 (lft (g2 fMod (g2 fMul (vN 3) (vN 1)) (vN 0)))) fNil)
  (fSeq (fSet 1 (lft (g2 fMod (g2 fMul (vN 1) (vN 1)) (vN 0))))
  (fAug 2 fDivA (lft (kI 2))))))
  (fRet (mName 3))))
def F_power := runP 4 3 d_power
def d_inverse : En → SR :=
  (fRet (lft (gFn F_power (aCons (vN 0) (aCons (vN 1) (aCons (g2 fSub (vN 0) (kI 2)) aNil))))))
def F_inverse := runP 2 2 d_inverse
def d_sets_of : En → SR :=
  (fSeq (fSet 2 (lft (gLst (aCons (gTup aNil) aNil))))
  (fSeq (fFor (kName 3) (lft (gR1 (vN 1))) (fSet 2 (lft (gLc2 [4, 5] (gIt (vN 2)) (kName 4) gYes (gR2 (gIf (gTru (vN 4)) (g2 fAdd (g2 fIx (vN 4) (g1 fNeg (kI 1))) (kI 1)) (kI 1)) (g2 fAdd (vN 0) (kI 1))) [5] (kName 5) gYes (g2 fAdd (vN 4) (gTup (aCons (vN 5) aNil)))))))
  (fRet (lft (gCall fTuple (aCons (vN 2) aNil))))))
def F_sets_of := runP 6 2 d_sets_of
def d_weight : En → SR :=
  (fSeq (fSet 3 (lft (kI 1)))
  (fSeq (fForN (kName 4) 1 (fSet 3 (lft (g2 fMod (g2 fMul (vN 3) (g2 fSub (kI 1) (g2 fMul (vN 2) (gFn F_inverse (aCons (vN 0) (aCons (vN 4) aNil)))))) (vN 0)))))
  (fRet (mName 3))))
def F_weight := runP 5 3 d_weight
def d__law_start : En → SR :=
  (fRet (lft (gLst (aCons (gCall fList (aCons (vN 0) aNil)) (aCons (kI 0) (aCons (kI 0) (aCons (kI 0) aNil)))))))
def F__law_start := runP 1 1 d__law_start
def d__law_draw : En → SR :=
  (fSeq (fStore 0 (kI 3) (lft (g2 fAdd (g2 fIx (vN 0) (kI 3)) (kI 1))))
  (fSeq (fIf (lft (gT (g2 fGt (g2 fIx (vN 0) (kI 2)) (kI 0)))) (fSeq (fSet 2 (lft (g2 fMod (gCall fInt (aCons (g2 fIx (vN 0) (kI 2)) aNil)) (vN 1))))
  (fSeq (fStore 0 (kI 2) (lft (g2 fDiv (g2 fIx (vN 0) (kI 2)) (vN 1))))
  (fRet (mName 2)))) fNil)
  (fSeq (fSet 3 (lft (kI 0)))
  (fSeq (fIf (lft (gT (g2 fGt (gCall fLen (aCons (g2 fIx (vN 0) (kI 0)) aNil)) (kI 0)))) (fSet 3 (lft (gCall fAbs (aCons (g2 fIx (g2 fIx (vN 0) (kI 0)) (g2 fMod (gCall fInt (aCons (g2 fIx (vN 0) (kI 1)) aNil)) (gCall fLen (aCons (g2 fIx (vN 0) (kI 0)) aNil)))) aNil)))) fNil)
  (fSeq (fStore 0 (kI 1) (lft (g2 fAdd (g2 fIx (vN 0) (kI 1)) (kI 1))))
  (fSeq (fIf (lft (gT (g2 fGe (vN 3) (g2 fPow (kI 10) (kI 18))))) (fSeq (fStore 0 (kI 2) (lft (g2 fDiv (vN 3) (vN 1))))
  (fRet (lft (g2 fMod (gCall fInt (aCons (vN 3) aNil)) (vN 1))))) fNil)
  (fSeq (fSet 4 (lft (g2 fMod (gCall fInt (aCons (g2 fAdd (g2 fMul (g2 fAdd (vN 3) (kI 1)) (kI 48271)) (g2 fMul (g2 fIx (vN 0) (kI 3)) (kI 69621))) aNil)) (kI 2147483647))))
  (fSeq (fSet 4 (lft (g2 fMod (gCall fInt (aCons (g2 fAdd (g2 fAdd (g2 fMul (vN 4) (kI 16807)) (g2 fDiv (vN 3) (kI 97))) (g2 fIx (vN 0) (kI 3))) aNil)) (kI 2147483629))))
  (fRet (lft (g2 fMod (g2 fDiv (vN 4) (kI 11)) (vN 1))))))))))))
def F__law_draw := runM 5 2 d__law_draw
def d__law_one_of : En → SR :=
  (fRet (mIxNg 1 (mCallM 0 F__law_draw (hO (lft (gCall fLen (aCons (vN 1) aNil))) hNil))))
def F__law_one_of := runM 2 2 d__law_one_of
def d__law_is_int : En → SR :=
  (fRet (lft (gPur (gAndV (gIsi isInt (vN 0)) (gNotV (gIsi isBl (vN 0)))))))
def F__law_is_int := runP 1 1 d__law_is_int
def d__law_same (Fr : List T → R T) : En → SR :=
  (fSeq (fIf (lft (gTru (gIsi isTup (vN 1)))) (fSeq (fIf (lft (gOr (gNot (gTru (gIsi isTup (vN 0)))) (gT (g2 fNe (gCall fLen (aCons (vN 0) aNil)) (gCall fLen (aCons (vN 1) aNil)))))) (fRet (lft (kB false))) fNil)
  (fRet (lft (gCall fAll (aCons (gLc [2] (gR1 (gCall fLen (aCons (vN 1) aNil))) (kName 2) gYes (gFn Fr (aCons (g2 fIx (vN 0) (vN 2)) (aCons (g2 fIx (vN 1) (vN 2)) aNil)))) aNil))))) fNil)
  (fSeq (fIf (lft (gTru (gIsi isStr (vN 1)))) (fRet (lft (gPur (gAndV (gIsi isStr (vN 0)) (g2 fEq (vN 0) (vN 1)))))) fNil)
  (fRet (lft (gPur (gAndV (gFn F__law_is_int (aCons (vN 0) aNil)) (g2 fEq (vN 0) (vN 1))))))))
def F__law_same : Nat → List T → R T
  | 0 => fun _ => .no
  | n + 1 => runP 3 2 (d__law_same (F__law_same n))
def d__law_sets : En → SR :=
  (fSeq (fSet 2 (lft (gLst aNil)))
  (fSeq (fIf (lft (gT (g2 fEq (vN 1) (kI 0)))) (fExpr (mApp 2 (lft (gTup aNil)))) fNil)
  (fSeq (fFor (kName 3) (lft (gR2 (kI 1) (g2 fAdd (vN 0) (kI 1)))) (fSeq (fIf (lft (gT (g2 fEq (vN 1) (kI 1)))) (fExpr (mApp 2 (lft (gTup (aCons (vN 3) aNil))))) fNil)
  (fIf (lft (gT (g2 fEq (vN 1) (kI 2)))) (fSet 2 (lft (g2 fAdd (vN 2) (gLc [4] (gR2 (g2 fAdd (vN 3) (kI 1)) (g2 fAdd (vN 0) (kI 1))) (kName 4) gYes (gTup (aCons (vN 3) (aCons (vN 4) aNil))))))) fNil)))
  (fRet (lft (gCall fTuple (aCons (vN 2) aNil)))))))
def F__law_sets := runP 5 2 d__law_sets
def d__law_is_weight : En → SR :=
  (fSeq (fSet 4 (lft (kI 1)))
  (fSeq (fSet 5 (lft (kI 1)))
  (fSeq (fForN (kName 6) 1 (fSeq (fSet 4 (lft (g2 fMod (gCall fInt (aCons (g2 fMul (vN 4) (g2 fSub (vN 6) (vN 2))) aNil)) (vN 0))))
  (fSet 5 (lft (g2 fMod (gCall fInt (aCons (g2 fMul (vN 5) (vN 6)) aNil)) (vN 0))))))
  (fRet (lft (gPur (gAndV (gFn F__law_is_int (aCons (vN 3) aNil)) (gAndV (g2 fLe (kI 0) (vN 3)) (gAndV (g2 fLt (vN 3) (vN 0)) (g2 fEq (g2 fMod (gCall fInt (aCons (g2 fSub (g2 fMul (vN 3) (vN 5)) (vN 4)) aNil)) (vN 0)) (kI 0)))))))))))
def F__law_is_weight := runP 7 4 d__law_is_weight
def d__law_differences : En → SR :=
  (fSeq (fSet 3 (lft (gCall fList (aCons (vN 1) aNil))))
  (fSeq (fFor (kName 4) (lft (gR1 (vN 2))) (fSet 3 (lft (gLc [5] (gR1 (g2 fSub (gCall fLen (aCons (vN 3) aNil)) (kI 1))) (kName 5) gYes (g2 fMod (gCall fInt (aCons (g2 fSub (g2 fIx (vN 3) (g2 fAdd (vN 5) (kI 1))) (g2 fIx (vN 3) (vN 5))) aNil)) (vN 0))))))
  (fRet (mName 3))))
def F__law_differences := runP 6 3 d__law_differences
def d_law : En → SR :=
  (fSeq (fSet 1 (lft (gFn F__law_start (aCons (vN 0) aNil))))
  (fSeq (fSet 2 (lft (gLst (aCons (kI 3) (aCons (kI 5) (aCons (kI 7) (aCons (kI 11) (aCons (kI 13) (aCons (kI 17) (aCons (kI 19) (aCons (kI 23) (aCons (kI 29) (aCons (kI 31) (aCons (kI 37) (aCons (kI 41) (aCons (kI 43) (aCons (kI 47) (aCons (kI 53) (aCons (kI 59) (aCons (kI 61) (aCons (kI 67) (aCons (kI 71) (aCons (kI 73) (aCons (kI 79) (aCons (kI 83) (aCons (kI 89) (aCons (kI 97) (aCons (kI 101) (aCons (kI 103) aNil)))))))))))))))))))))))))))))
  (fSeq (fSet 2 (lft (g2 fAdd (vN 2) (gLst (aCons (kI 107) (aCons (kI 109) (aCons (kI 113) (aCons (kI 127) (aCons (kI 131) (aCons (kI 137) (aCons (kI 139) (aCons (kI 149) (aCons (kI 151) (aCons (kI 157) (aCons (kI 163) (aCons (kI 167) (aCons (kI 173) (aCons (kI 179) (aCons (kI 181) (aCons (kI 191) (aCons (kI 193) (aCons (kI 197) aNil))))))))))))))))))))))
  (fSeq (fSet 3 (mCallM 1 F__law_one_of (hO (lft (g2 fAdd (vN 2) (gLst (aCons (kI 199) (aCons (kI 211) (aCons (kI 223) (aCons (kI 227) (aCons (kI 229) (aCons (kI 233) (aCons (kI 239) (aCons (kI 241) (aCons (kI 251) (aCons (kI 3) (aCons (kI 5) (aCons (kI 7) (aCons (kI 11) aNil)))))))))))))))) hNil)))
  (fSeq (fSet 4 (m2 fAdd (lft (kI 1)) (mCallM 1 F__law_draw (hO (lft (gCall fMin2 (aCons (kI 9) (aCons (g2 fSub (vN 3) (kI 1)) aNil)))) hNil))))
  (fSeq (fSet 5 (mCallM 1 F__law_draw (hO (lft (gCall fMin2 (aCons (kI 3) (aCons (vN 4) aNil)))) hNil)))
  (fSeq (fSet 6 (lft (gFn F__law_sets (aCons (vN 4) (aCons (vN 5) aNil)))))
  (fSeq (fIf (lft (gNot (gTru (gFn (F__law_same 4) (aCons (gFn F_sets_of (aCons (vN 4) (aCons (vN 5) aNil))) (aCons (vN 6) aNil)))))) (fRet (lft (kB false))) fNil)
  (fSeq (fSet 7 (mLc [8] (lft (gIt (gPur (vN 6)))) (kName 8) gYes (mCallM 1 F__law_draw (hN 3 hNil))))
  (fSeq (fForN (kName 8) 6 (fFor (kName 9) (mIt (m2 fAdd (lft (gLR1 (g2 fAdd (vN 4) (kI 1)))) (mOf mkLst (mCons (mCallM 1 F__law_draw (hN 3 hNil)) (mCons (lft (g2 fSub (vN 3) (kI 1))) mNil))))) (fIf (lft (gNot (gTru (gFn F__law_is_weight (aCons (vN 3) (aCons (vN 8) (aCons (vN 9) (aCons (gFn F_weight (aCons (vN 3) (aCons (vN 8) (aCons (vN 9) aNil)))) aNil)))))))) (fRet (lft (kB false))) fNil)))
  (fSeq (fSet 10 (lft (gLst aNil)))
  (fSeq (fFor (kName 9) (lft (gR1 (g2 fAdd (vN 4) (kI 1)))) (fExpr (mApp 10 (lft (g2 fMod (gCall fInt (aCons (gCall fSum (aCons (gLc [11] (gR1 (gCall fLen (aCons (vN 6) aNil))) (kName 11) gYes (g2 fMul (gFn F_weight (aCons (vN 3) (aCons (g2 fIx (vN 6) (vN 11)) (aCons (vN 9) aNil)))) (g2 fIx (vN 7) (vN 11)))) aNil)) aNil)) (vN 3))))))
  (fSeq (fIf (lft (gT (g2 fNe (g2 fIx (vN 10) (kI 0)) (g2 fMod (gCall fInt (aCons (gCall fSum (aCons (vN 7) aNil)) aNil)) (vN 3))))) (fRet (lft (kB false))) fNil)
  (fRet (lft (gNotV (gCall fAny (aCons (gFn F__law_differences (aCons (vN 3) (aCons (vN 10) (aCons (g2 fAdd (vN 5) (kI 1)) aNil)))) aNil))))))))))))))))))
def F_law := runP 12 1 d_law
end K27
namespace K27
open PySem PySem.Spec L2 Z
open PyProof.Rows hiding St
def topS (i : Nat) : Stmt := PySem.Challenge.pw_countunseen_k27_sets_and_weights.main.body.getD i (.Pass ⟨0, 0, 0, 0⟩)
/-! that they do -/
section
variable {P : Program} {w : World} {K : PySem.W.Frag} {base : Heap} {mg : Str → Option Value}
abbrev s_power : Stmt := topS 1
abbrev N_power : List Str := ["p", "a", "n", "found"]
theorem sc_power : FnScope ["p", "a", "n", "found"] ["p", "a", "n"] (defScope s_power) := ⟨rfl, rfl, rfl, by decide +kernel, rfl, by decide +kernel, by decide +kernel⟩
theorem ok_power {f : Addr} {fd : FuncData} (F : Fun K "power" "power" s_power f fd) (hm : mg "power" = some (.ref f)) (hb : Binds K fd ["p", "a", "n"] []) : FnP P w K mg base "power" 1 F_power :=
  fnP F sc_power hm hb fun cdv A outer s H E hr cz => (b_cons (s_set 3 cz n_int.up)
      (b_cons (s_while mu_power_0 cz (c_cmp m_gt (v_name 2) n_int.v).up (b_cons (s_if (c_cmp (m_eq hr.units) (n_bin b_mod (v_name 2) n_int.v).v n_int.v).up (b_one (s_set 3 cz (n_bin b_mod (n_bin b_mul (v_name 3) (v_name 1)).v (v_name 0)).up)) b_nil)
      (b_cons (s_set 1 cz (n_bin b_mod (n_bin b_mul (v_name 1) (v_name 1)).v (v_name 0)).up)
      (b_one (s_aug 2 cz i_div n_int.up)))))
      (b_one (s_ret (m_name 3)))))
abbrev s_inverse : Stmt := topS 2
abbrev N_inverse : List Str := ["p", "a"]
theorem sc_inverse : FnScope ["p", "a"] ["p", "a"] (defScope s_inverse) := ⟨rfl, rfl, rfl, by decide +kernel, rfl, by decide +kernel, by decide +kernel⟩
theorem ok_inverse {f : Addr} {fd : FuncData} (F : Fun K "inverse" "inverse" s_inverse f fd) (hm : mg "inverse" = some (.ref f)) (hb : Binds K fd ["p", "a"] []) (G_power : FnP P w K mg base "power" 1 F_power) : FnP P w K mg base "inverse" 2 F_inverse :=
  fnP F sc_inverse hm hb fun cdv A outer s H E hr cz => (b_one (s_ret (n_call G_power cz.tk (hr.mono (by decide)) (av_cons (v_name 0) (av_cons (v_name 1) (av_cons (n_bin b_sub (v_name 0) n_int.v).v av_nil)))).up))
abbrev s_sets_of : Stmt := topS 4
abbrev N_sets_of : List Str := ["tellers", "hidden", "found", "turn", "one", "number"]
theorem sc_sets_of : FnScope ["tellers", "hidden", "found", "turn", "one", "number"] ["tellers", "hidden"] (defScope s_sets_of) := ⟨rfl, rfl, rfl, by decide +kernel, rfl, by decide +kernel, by decide +kernel⟩
theorem ok_sets_of {f : Addr} {fd : FuncData} (F : Fun K "sets_of" "sets_of" s_sets_of f fd) (hm : mg "sets_of" = some (.ref f)) (hb : Binds K fd ["tellers", "hidden"] []) (z_range : mg "range" = none) (z_tuple : mg "tuple" = none) : FnP P w K mg base "sets_of" 1 F_sets_of :=
  fnP F sc_sets_of hm hb fun cdv A outer s H E hr cz => (b_cons (s_set 2 cz (n_lst (an_cons (n_tup av_nil) an_nil)).up)
      (b_cons (s_for cz (j_rng1 z_range (v_name 1)).up (t_name 3 cz.nd) (b_one (s_setLc2 [("one", 4), ("number", 5)] [5] 2 cz (i_sq (v_name 2)) (blk_ok (N := N_sets_of) (sc := defScope s_sets_of) (by decide +kernel)) (by decide) (ix_name (by decide)) (ix_name (by decide)) (fun _ _ _ _ _ => (t_name 4 cz.nd)) (fun _ _ _ _ _ => cs_nil) (fun _ _ _ _ _ => (j_rng2 z_range (v_if (c_truth (v_name 4)) (n_bin b_add (v_ix (v_name 4) (n_neg n_int.v).v) n_int.v).v n_int.v) (n_bin b_add (v_name 0) n_int.v).v)) (fun _ _ _ _ _ => (t_name 5 cz.nd)) (fun _ _ _ _ _ => cs_nil) (fun _ _ _ _ _ => (n_bin b_add (v_name 4) (n_tup (av_cons (v_name 5) av_nil)).v)))))
      (b_one (s_ret (n_callT f_tuple boot_tuple z_tuple (av_cons (v_name 2) av_nil)).up))))
abbrev s_weight : Stmt := topS 5
abbrev N_weight : List Str := ["p", "members", "place", "found", "member"]
theorem sc_weight : FnScope ["p", "members", "place", "found", "member"] ["p", "members", "place"] (defScope s_weight) := ⟨rfl, rfl, rfl, by decide +kernel, rfl, by decide +kernel, by decide +kernel⟩
theorem ok_weight {f : Addr} {fd : FuncData} (F : Fun K "weight" "weight" s_weight f fd) (hm : mg "weight" = some (.ref f)) (hb : Binds K fd ["p", "members", "place"] []) (G_inverse : FnP P w K mg base "inverse" 2 F_inverse) : FnP P w K mg base "weight" 3 F_weight :=
  fnP F sc_weight hm hb fun cdv A outer s H E hr cz => (b_cons (s_set 3 cz n_int.up)
      (b_cons (s_forN 1 cz (t_name 4 cz.nd) (b_one (s_set 3 cz (n_bin b_mod (n_bin b_mul (v_name 3) (n_bin b_sub n_int.v (n_bin b_mul (v_name 2) (n_call G_inverse cz.tk (hr.mono (by decide)) (av_cons (v_name 0) (av_cons (v_name 4) av_nil))).v).v).v).v (v_name 0)).up)))
      (b_one (s_ret (m_name 3)))))
abbrev s__law_start : Stmt := topS 7
abbrev N__law_start : List Str := ["script"]
theorem sc__law_start : FnScope ["script"] ["script"] (defScope s__law_start) := ⟨rfl, rfl, rfl, by decide +kernel, rfl, by decide +kernel, by decide +kernel⟩
theorem ok__law_start {f : Addr} {fd : FuncData} (F : Fun K "_law_start" "_law_start" s__law_start f fd) (hm : mg "_law_start" = some (.ref f)) (hb : Binds K fd ["script"] []) (z_list : mg "list" = none) : FnP P w K mg base "_law_start" 1 F__law_start :=
  fnP F sc__law_start hm hb fun cdv A outer s H E hr cz => (b_one (s_ret (n_lst (an_cons (n_callT f_list boot_list z_list (av_cons (v_name 0) av_nil)) (an_cons n_int (an_cons n_int (an_cons n_int an_nil))))).up))
abbrev s__law_draw : Stmt := topS 8
abbrev N__law_draw : List Str := ["state", "most", "found", "cell", "mixed"]
theorem sc__law_draw : FnScope ["state", "most", "found", "cell", "mixed"] ["state", "most"] (defScope s__law_draw) := ⟨rfl, rfl, rfl, by decide +kernel, rfl, by decide +kernel, by decide +kernel⟩
theorem ok__law_draw {f : Addr} {fd : FuncData} (F : Fun K "_law_draw" "_law_draw" s__law_draw f fd) (hm : mg "_law_draw" = some (.ref f)) (hb : Binds K fd ["state", "most"] []) (z_abs : mg "abs" = none) (z_int : mg "int" = none) (z_len : mg "len" = none) : FnM P w K mg base "_law_draw" 1 F__law_draw :=
  fnM F sc__law_draw hm hb fun cdv A outer s H E hr cz => (b_cons (s_store 0 (n_bin b_add (v_ix (v_name 0) n_int.v) n_int.v).up n_int.v)
      (b_cons (s_if (c_cmp m_gt (v_ix (v_name 0) n_int.v) n_int.v).up (b_cons (s_set 2 cz (n_bin b_mod (n_callT f_int boot_int z_int (av_cons (v_ix (v_name 0) n_int.v) av_nil)).v (v_name 1)).up)
      (b_cons (s_store 0 (n_bin b_div (v_ix (v_name 0) n_int.v) (v_name 1)).up n_int.v)
      (b_one (s_ret (m_name 2))))) b_nil)
      (b_cons (s_set 3 cz n_int.up)
      (b_cons (s_if (c_cmp m_gt (n_callB f_len PySem.boot_len z_len (av_cons (v_ix (v_name 0) n_int.v) av_nil)).v n_int.v).up (b_one (s_set 3 cz (n_callB f_abs boot_abs z_abs (av_cons (v_ix (v_ix (v_name 0) n_int.v) (n_bin b_mod (n_callT f_int boot_int z_int (av_cons (v_ix (v_name 0) n_int.v) av_nil)).v (n_callB f_len PySem.boot_len z_len (av_cons (v_ix (v_name 0) n_int.v) av_nil)).v).v) av_nil)).up)) b_nil)
      (b_cons (s_store 0 (n_bin b_add (v_ix (v_name 0) n_int.v) n_int.v).up n_int.v)
      (b_cons (s_if (c_cmp m_ge (v_name 3) (n_bin b_pow n_int.v n_int.v).v).up (b_cons (s_store 0 (n_bin b_div (v_name 3) (v_name 1)).up n_int.v)
      (b_one (s_ret (n_bin b_mod (n_callT f_int boot_int z_int (av_cons (v_name 3) av_nil)).v (v_name 1)).up))) b_nil)
      (b_cons (s_set 4 cz (n_bin b_mod (n_callT f_int boot_int z_int (av_cons (n_bin b_add (n_bin b_mul (n_bin b_add (v_name 3) n_int.v).v n_int.v).v (n_bin b_mul (v_ix (v_name 0) n_int.v) n_int.v).v).v av_nil)).v n_int.v).up)
      (b_cons (s_set 4 cz (n_bin b_mod (n_callT f_int boot_int z_int (av_cons (n_bin b_add (n_bin b_add (n_bin b_mul (v_name 4) n_int.v).v (n_bin b_div (v_name 3) n_int.v).v).v (v_ix (v_name 0) n_int.v)).v av_nil)).v n_int.v).up)
      (b_one (s_ret (n_bin b_mod (n_bin b_div (v_name 4) n_int.v).v (v_name 1)).up))))))))))
abbrev s__law_one_of : Stmt := topS 9
abbrev N__law_one_of : List Str := ["state", "items"]
theorem sc__law_one_of : FnScope ["state", "items"] ["state", "items"] (defScope s__law_one_of) := ⟨rfl, rfl, rfl, by decide +kernel, rfl, by decide +kernel, by decide +kernel⟩
theorem ok__law_one_of {f : Addr} {fd : FuncData} (F : Fun K "_law_one_of" "_law_one_of" s__law_one_of f fd) (hm : mg "_law_one_of" = some (.ref f)) (hb : Binds K fd ["state", "items"] []) (G__law_draw : FnM P w K mg base "_law_draw" 1 F__law_draw) (z_len : mg "len" = none) : FnM P w K mg base "_law_one_of" 2 F__law_one_of :=
  fnM F sc__law_one_of hm hb fun cdv A outer s H E hr cz => (b_one (s_ret (m_ixN 1 (m_callM 0 G__law_draw cz.tk (hr.mono (by decide)) (mh_o (n_callB f_len PySem.boot_len z_len (av_cons (v_name 1) av_nil)).up mh_nil)))))
abbrev s__law_is_int : Stmt := topS 10
abbrev N__law_is_int : List Str := ["x"]
theorem sc__law_is_int : FnScope ["x"] ["x"] (defScope s__law_is_int) := ⟨rfl, rfl, rfl, by decide +kernel, rfl, by decide +kernel, by decide +kernel⟩
theorem ok__law_is_int {f : Addr} {fd : FuncData} (F : Fun K "_law_is_int" "_law_is_int" s__law_is_int f fd) (hm : mg "_law_is_int" = some (.ref f)) (hb : Binds K fd ["x"] []) (z_bool : mg "bool" = none) (z_int : mg "int" = none) (z_isinstance : mg "isinstance" = none) : FnP P w K mg base "_law_is_int" 1 F__law_is_int :=
  fnP F sc__law_is_int hm hb fun cdv A outer s H E hr cz => (b_one (s_ret (v_and (n_isi kit_int z_isinstance z_int boot_int (v_name 0)).v (v_one (n_not (n_isi kit_bl z_isinstance z_bool boot_bool (v_name 0)).v).v)).pur.up))
abbrev s__law_same : Stmt := topS 11
abbrev N__law_same : List Str := ["x", "y", "k"]
theorem sc__law_same : FnScope ["x", "y", "k"] ["x", "y"] (defScope s__law_same) := ⟨rfl, rfl, rfl, by decide +kernel, rfl, by decide +kernel, by decide +kernel⟩
theorem ok__law_same {f : Addr} {fd : FuncData} (F : Fun K "_law_same" "_law_same" s__law_same f fd) (hm : mg "_law_same" = some (.ref f)) (hb : Binds K fd ["x", "y"] []) (G__law_is_int : FnP P w K mg base "_law_is_int" 1 F__law_is_int) (z_all : mg "all" = none) (z_isinstance : mg "isinstance" = none) (z_len : mg "len" = none) (z_range : mg "range" = none) (z_str : mg "str" = none) (z_tuple : mg "tuple" = none) : ∀ n : Nat, FnP P w K mg base "_law_same" (2 + n) (F__law_same (n + 1)) := by
  have step : ∀ (n k : Nat) (Fr), FnP P w K mg base "_law_same" k Fr → 1 ≤ k → FnP P w K mg base "_law_same" (k + 1) (runP 3 2 (d__law_same Fr)) := fun n k Fr G__law_same hk =>
    fnP F sc__law_same hm hb fun cdv A outer s H E hr cz => (b_cons (s_if (c_truth (n_isi kit_tup z_isinstance z_tuple boot_tuple (v_name 1)).v).up (b_cons (s_if (c_w (w_or (c_not (c_truth (n_isi kit_tup z_isinstance z_tuple boot_tuple (v_name 0)).v)) (w_or1 (c_cmp (m_ne hr.units) (n_callB f_len PySem.boot_len z_len (av_cons (v_name 0) av_nil)).v (n_callB f_len PySem.boot_len z_len (av_cons (v_name 1) av_nil)).v)))).up (b_one (s_ret n_bl.up)) b_nil)
      (b_one (s_ret (n_callB (f_all rfl) (by decide +kernel) z_all (av_cons (n_lc [("k", 2)] cz.calm cz.nd (j_rng1 z_range (n_callB f_len PySem.boot_len z_len (av_cons (v_name 1) av_nil)).v).v (blk_ok (N := N__law_same) (sc := defScope s__law_same) (by decide +kernel)) (ix_name (by decide)) (fun _ _ _ _ _ => (t_name 2 cz.nd)) (fun _ _ _ _ _ => cs_nil) (fun _ _ _ _ _ => (n_call G__law_same takes0 (hr.mono (by omega)) (av_cons (v_ix (v_name 0) (v_name 2)) (av_cons (v_ix (v_name 1) (v_name 2)) av_nil))))).v av_nil)).up))) b_nil)
      (b_cons (s_if (c_truth (n_isi kit_str z_isinstance z_str boot_str (v_name 1)).v).up (b_one (s_ret (v_and (n_isi kit_str z_isinstance z_str boot_str (v_name 0)).v (v_one (n_cmp (m_eq hr.units) (v_name 0) (v_name 1)).v)).pur.up)) b_nil)
      (b_one (s_ret (v_and (n_call G__law_is_int cz.tk (hr.mono (by omega)) (av_cons (v_name 0) av_nil)).v (v_one (n_cmp (m_eq hr.units) (v_name 0) (v_name 1)).v)).pur.up))))
  have go : ∀ n : Nat, FnP P w K mg base "_law_same" (1 + n) (F__law_same n) := fun n => by
    induction n with
    | zero => exact fnP_no F hm hb
    | succ n ih => exact step n (1 + n) _ ih (by omega)
  exact fun n => by have := go (n + 1); rw [show 1 + (n + 1) = 2 + n by omega] at this; exact this
abbrev s__law_sets : Stmt := topS 12
abbrev N__law_sets : List Str := ["tellers", "hidden", "found", "i", "k"]
theorem sc__law_sets : FnScope ["tellers", "hidden", "found", "i", "k"] ["tellers", "hidden"] (defScope s__law_sets) := ⟨rfl, rfl, rfl, by decide +kernel, rfl, by decide +kernel, by decide +kernel⟩
theorem ok__law_sets {f : Addr} {fd : FuncData} (F : Fun K "_law_sets" "_law_sets" s__law_sets f fd) (hm : mg "_law_sets" = some (.ref f)) (hb : Binds K fd ["tellers", "hidden"] []) (z_range : mg "range" = none) (z_tuple : mg "tuple" = none) : FnP P w K mg base "_law_sets" 1 F__law_sets :=
  fnP F sc__law_sets hm hb fun cdv A outer s H E hr cz => (b_cons (s_set 2 cz (n_lst an_nil).up)
      (b_cons (s_if (c_cmp (m_eq hr.units) (v_name 1) n_int.v).up (b_one (s_expr (m_app 2 (n_tup av_nil).up))) b_nil)
      (b_cons (s_for cz (j_rng2 z_range n_int.v (n_bin b_add (v_name 0) n_int.v).v).up (t_name 3 cz.nd) (b_cons (s_if (c_cmp (m_eq hr.units) (v_name 1) n_int.v).up (b_one (s_expr (m_app 2 (n_tup (av_cons (v_name 3) av_nil)).up))) b_nil)
      (b_one (s_if (c_cmp (m_eq hr.units) (v_name 1) n_int.v).up (b_one (s_set 2 cz (n_bin b_add (v_name 2) (n_lc [("k", 4)] cz.calm cz.nd (j_rng2 z_range (n_bin b_add (v_name 3) n_int.v).v (n_bin b_add (v_name 0) n_int.v).v).v (blk_ok (N := N__law_sets) (sc := defScope s__law_sets) (by decide +kernel)) (ix_name (by decide)) (fun _ _ _ _ _ => (t_name 4 cz.nd)) (fun _ _ _ _ _ => cs_nil) (fun _ _ _ _ _ => (n_tup (av_cons (v_name 3) (av_cons (v_name 4) av_nil))))).v).up)) b_nil))))
      (b_one (s_ret (n_callT f_tuple boot_tuple z_tuple (av_cons (v_name 2) av_nil)).up)))))
abbrev s__law_is_weight : Stmt := topS 13
abbrev N__law_is_weight : List Str := ["p", "members", "place", "number", "over", "under", "member"]
theorem sc__law_is_weight : FnScope ["p", "members", "place", "number", "over", "under", "member"] ["p", "members", "place", "number"] (defScope s__law_is_weight) := ⟨rfl, rfl, rfl, by decide +kernel, rfl, by decide +kernel, by decide +kernel⟩
theorem ok__law_is_weight {f : Addr} {fd : FuncData} (F : Fun K "_law_is_weight" "_law_is_weight" s__law_is_weight f fd) (hm : mg "_law_is_weight" = some (.ref f)) (hb : Binds K fd ["p", "members", "place", "number"] []) (G__law_is_int : FnP P w K mg base "_law_is_int" 1 F__law_is_int) (z_int : mg "int" = none) : FnP P w K mg base "_law_is_weight" 2 F__law_is_weight :=
  fnP F sc__law_is_weight hm hb fun cdv A outer s H E hr cz => (b_cons (s_set 4 cz n_int.up)
      (b_cons (s_set 5 cz n_int.up)
      (b_cons (s_forN 1 cz (t_name 6 cz.nd) (b_cons (s_set 4 cz (n_bin b_mod (n_callT f_int boot_int z_int (av_cons (n_bin b_mul (v_name 4) (n_bin b_sub (v_name 6) (v_name 2)).v).v av_nil)).v (v_name 0)).up)
      (b_one (s_set 5 cz (n_bin b_mod (n_callT f_int boot_int z_int (av_cons (n_bin b_mul (v_name 5) (v_name 6)).v av_nil)).v (v_name 0)).up))))
      (b_one (s_ret (v_and (n_call G__law_is_int cz.tk (hr.mono (by decide)) (av_cons (v_name 3) av_nil)).v (v_and (n_cmp m_le n_int.v (v_name 3)).v (v_and (n_cmp m_lt (v_name 3) (v_name 0)).v (v_one (n_cmp (m_eq hr.units) (n_bin b_mod (n_callT f_int boot_int z_int (av_cons (n_bin b_sub (n_bin b_mul (v_name 3) (v_name 5)).v (v_name 4)).v av_nil)).v (v_name 0)).v n_int.v).v)))).pur.up)))))
abbrev s__law_differences : Stmt := topS 14
abbrev N__law_differences : List Str := ["p", "values", "many", "rest", "turn", "k"]
theorem sc__law_differences : FnScope ["p", "values", "many", "rest", "turn", "k"] ["p", "values", "many"] (defScope s__law_differences) := ⟨rfl, rfl, rfl, by decide +kernel, rfl, by decide +kernel, by decide +kernel⟩
theorem ok__law_differences {f : Addr} {fd : FuncData} (F : Fun K "_law_differences" "_law_differences" s__law_differences f fd) (hm : mg "_law_differences" = some (.ref f)) (hb : Binds K fd ["p", "values", "many"] []) (z_int : mg "int" = none) (z_len : mg "len" = none) (z_list : mg "list" = none) (z_range : mg "range" = none) : FnP P w K mg base "_law_differences" 1 F__law_differences :=
  fnP F sc__law_differences hm hb fun cdv A outer s H E hr cz => (b_cons (s_set 3 cz (n_callT f_list boot_list z_list (av_cons (v_name 1) av_nil)).up)
      (b_cons (s_for cz (j_rng1 z_range (v_name 2)).up (t_name 4 cz.nd) (b_one (s_set 3 cz (n_lc [("k", 5)] cz.calm cz.nd (j_rng1 z_range (n_bin b_sub (n_callB f_len PySem.boot_len z_len (av_cons (v_name 3) av_nil)).v n_int.v).v).v (blk_ok (N := N__law_differences) (sc := defScope s__law_differences) (by decide +kernel)) (ix_name (by decide)) (fun _ _ _ _ _ => (t_name 5 cz.nd)) (fun _ _ _ _ _ => cs_nil) (fun _ _ _ _ _ => (n_bin b_mod (n_callT f_int boot_int z_int (av_cons (n_bin b_sub (v_ix (v_name 3) (n_bin b_add (v_name 5) n_int.v).v) (v_ix (v_name 3) (v_name 5))).v av_nil)).v (v_name 0)))).up)))
      (b_one (s_ret (m_name 3)))))
abbrev s_law : Stmt := topS 15
abbrev N_law : List Str := ["script", "state", "primes", "p", "tellers", "hidden", "due", "pieces", "members", "place", "values", "k"]
theorem sc_law : FnScope ["script", "state", "primes", "p", "tellers", "hidden", "due", "pieces", "members", "place", "values", "k"] ["script"] (defScope s_law) := ⟨rfl, rfl, rfl, by decide +kernel, rfl, by decide +kernel, by decide +kernel⟩
theorem ok_law {f : Addr} {fd : FuncData} (F : Fun K "law" "law" s_law f fd) (G__law_differences : FnP P w K mg base "_law_differences" 1 F__law_differences) (G__law_draw : FnM P w K mg base "_law_draw" 1 F__law_draw) (G__law_is_weight : FnP P w K mg base "_law_is_weight" 2 F__law_is_weight) (G__law_one_of : FnM P w K mg base "_law_one_of" 2 F__law_one_of) (G__law_same : FnP P w K mg base "_law_same" 5 (F__law_same 4)) (G__law_sets : FnP P w K mg base "_law_sets" 1 F__law_sets) (G__law_start : FnP P w K mg base "_law_start" 1 F__law_start) (G_sets_of : FnP P w K mg base "sets_of" 1 F_sets_of) (G_weight : FnP P w K mg base "weight" 3 F_weight) (z_any : mg "any" = none) (z_int : mg "int" = none) (z_len : mg "len" = none) (z_list : mg "list" = none) (z_min : mg "min" = none) (z_range : mg "range" = none) (z_sum : mg "sum" = none) : FnOk P w K mg base (L2.CX P w) 6 f fd ["script"] (spP K mg F_law) :=
  fnPk F sc_law fun cdv A outer s H E hr cz => (b_cons (s_set 1 cz (n_call G__law_start cz.tk (hr.mono (by decide)) (av_cons (v_name 0) av_nil)).up)
      (b_cons (s_set 2 cz (n_lst (an_cons n_int (an_cons n_int (an_cons n_int (an_cons n_int (an_cons n_int (an_cons n_int (an_cons n_int (an_cons n_int (an_cons n_int (an_cons n_int (an_cons n_int (an_cons n_int (an_cons n_int (an_cons n_int (an_cons n_int (an_cons n_int (an_cons n_int (an_cons n_int (an_cons n_int (an_cons n_int (an_cons n_int (an_cons n_int (an_cons n_int (an_cons n_int (an_cons n_int (an_cons n_int an_nil))))))))))))))))))))))))))).up)
      (b_cons (s_set 2 cz (n_bin b_add (v_name 2) (n_lst (an_cons n_int (an_cons n_int (an_cons n_int (an_cons n_int (an_cons n_int (an_cons n_int (an_cons n_int (an_cons n_int (an_cons n_int (an_cons n_int (an_cons n_int (an_cons n_int (an_cons n_int (an_cons n_int (an_cons n_int (an_cons n_int (an_cons n_int (an_cons n_int an_nil))))))))))))))))))).v).up)
      (b_cons (s_set 3 cz (m_callM 1 G__law_one_of cz.tk (hr.mono (by decide)) (mh_o (n_bin b_add (v_name 2) (n_lst (an_cons n_int (an_cons n_int (an_cons n_int (an_cons n_int (an_cons n_int (an_cons n_int (an_cons n_int (an_cons n_int (an_cons n_int (an_cons n_int (an_cons n_int (an_cons n_int (an_cons n_int an_nil)))))))))))))).v).up mh_nil)))
      (b_cons (s_set 4 cz (m_bin b_add n_int.up (m_callM 1 G__law_draw cz.tk (hr.mono (by decide)) (mh_o (n_callB (f_min2 rfl) (by decide +kernel) z_min (av_cons n_int.v (av_cons (n_bin b_sub (v_name 3) n_int.v).v av_nil))).up mh_nil))))
      (b_cons (s_set 5 cz (m_callM 1 G__law_draw cz.tk (hr.mono (by decide)) (mh_o (n_callB (f_min2 rfl) (by decide +kernel) z_min (av_cons n_int.v (av_cons (v_name 4) av_nil))).up mh_nil)))
      (b_cons (s_set 6 cz (n_call G__law_sets cz.tk (hr.mono (by decide)) (av_cons (v_name 4) (av_cons (v_name 5) av_nil))).up)
      (b_cons (s_if (c_not (c_truth (n_call G__law_same cz.tk (hr.mono (by decide)) (av_cons (n_call G_sets_of cz.tk (hr.mono (by decide)) (av_cons (v_name 4) (av_cons (v_name 5) av_nil))).v (av_cons (v_name 6) av_nil))).v)).up (b_one (s_ret n_bl.up)) b_nil)
      (b_cons (s_set 7 cz (m_lc [("members", 8)] cz (j_sq (v_name 6).pur).up (blk_ok (N := N_law) (sc := defScope s_law) (by decide +kernel)) (ix_name (by decide)) (fun _ _ _ _ _ => (t_name 8 cz.nd)) (fun _ _ _ _ _ => cs_nil) (fun _ _ _ _ _ => (m_callM 1 G__law_draw takes0 (hr.mono (by decide)) (mh_n 3 mh_nil)))))
      (b_cons (s_forN 6 cz (t_name 8 cz.nd) (b_one (s_for cz (mi_sq (m_bin b_add (n_lrng1 cz.calm z_range z_list (n_bin b_add (v_name 4) n_int.v).v).up (m_lst (ma_cons (m_callM 1 G__law_draw cz.tk (hr.mono (by decide)) (mh_n 3 mh_nil)) (ma_cons (n_bin b_sub (v_name 3) n_int.v).up ma_nil))))) (t_name 9 cz.nd) (b_one (s_if (c_not (c_truth (n_call G__law_is_weight cz.tk (hr.mono (by decide)) (av_cons (v_name 3) (av_cons (v_name 8) (av_cons (v_name 9) (av_cons (n_call G_weight cz.tk (hr.mono (by decide)) (av_cons (v_name 3) (av_cons (v_name 8) (av_cons (v_name 9) av_nil)))).v av_nil))))).v)).up (b_one (s_ret n_bl.up)) b_nil)))))
      (b_cons (s_set 10 cz (n_lst an_nil).up)
      (b_cons (s_for cz (j_rng1 z_range (n_bin b_add (v_name 4) n_int.v).v).up (t_name 9 cz.nd) (b_one (s_expr (m_app 10 (n_bin b_mod (n_callT f_int boot_int z_int (av_cons (n_callB (f_sum rfl) (by decide +kernel) z_sum (av_cons (n_lc [("k", 11)] cz.calm cz.nd (j_rng1 z_range (n_callB f_len PySem.boot_len z_len (av_cons (v_name 6) av_nil)).v).v (blk_ok (N := N_law) (sc := defScope s_law) (by decide +kernel)) (ix_name (by decide)) (fun _ _ _ _ _ => (t_name 11 cz.nd)) (fun _ _ _ _ _ => cs_nil) (fun _ _ _ _ _ => (n_bin b_mul (n_call G_weight takes0 (hr.mono (by decide)) (av_cons (v_name 3) (av_cons (v_ix (v_name 6) (v_name 11)) (av_cons (v_name 9) av_nil)))).v (v_ix (v_name 7) (v_name 11))))).v av_nil)).v av_nil)).v (v_name 3)).up))))
      (b_cons (s_if (c_cmp (m_ne hr.units) (v_ix (v_name 10) n_int.v) (n_bin b_mod (n_callT f_int boot_int z_int (av_cons (n_callB (f_sum rfl) (by decide +kernel) z_sum (av_cons (v_name 7) av_nil)).v av_nil)).v (v_name 3)).v).up (b_one (s_ret n_bl.up)) b_nil)
      (b_one (s_ret (n_not (n_callB (f_any rfl) (by decide +kernel) z_any (av_cons (n_call G__law_differences cz.tk (hr.mono (by decide)) (av_cons (v_name 3) (av_cons (v_name 10) (av_cons (n_bin b_add (v_name 5) n_int.v).v av_nil)))).v av_nil)).v).up)))))))))))))))
end
theorem all_mk {l : PySem.W.OpenLaw} {w : World} {K : PySem.W.Frag} {h : Heap} {mg : Str → Option Value} {fa : Addr} (X : K.In h) (G : h.Ns mainGlobals mg) (hfa : mg "law" = some (.ref fa))
    {f0 : Addr} {od0 an0 : Option Addr} {sl0 : Array (Option Value)} {oc0 kV0 dc0 pm0 cd0 ct0 : Value}
    (a0 : PySem.W.nsIn K mainGlobals "power" = some (some (.ref f0))) (l0 : K.lookup f0 = some ⟨oc0, od0, .func (PySem.W.fnOf "power" "power" (defArgs s_power) (defBody s_power) (defScope s_power) .none kV0 dc0 pm0 an0 cd0 ct0), sl0⟩) (c0 : PySem.W.codeIn K cd0 "power" = true) (k0 : PySem.W.keepIn K (.ref f0) = true)
    {f1 : Addr} {od1 an1 : Option Addr} {sl1 : Array (Option Value)} {oc1 kV1 dc1 pm1 cd1 ct1 : Value}
    (a1 : PySem.W.nsIn K mainGlobals "inverse" = some (some (.ref f1))) (l1 : K.lookup f1 = some ⟨oc1, od1, .func (PySem.W.fnOf "inverse" "inverse" (defArgs s_inverse) (defBody s_inverse) (defScope s_inverse) .none kV1 dc1 pm1 an1 cd1 ct1), sl1⟩) (c1 : PySem.W.codeIn K cd1 "inverse" = true) (k1 : PySem.W.keepIn K (.ref f1) = true)
    {f2 : Addr} {od2 an2 : Option Addr} {sl2 : Array (Option Value)} {oc2 kV2 dc2 pm2 cd2 ct2 : Value}
    (a2 : PySem.W.nsIn K mainGlobals "sets_of" = some (some (.ref f2))) (l2 : K.lookup f2 = some ⟨oc2, od2, .func (PySem.W.fnOf "sets_of" "sets_of" (defArgs s_sets_of) (defBody s_sets_of) (defScope s_sets_of) .none kV2 dc2 pm2 an2 cd2 ct2), sl2⟩) (c2 : PySem.W.codeIn K cd2 "sets_of" = true) (k2 : PySem.W.keepIn K (.ref f2) = true)
    {f3 : Addr} {od3 an3 : Option Addr} {sl3 : Array (Option Value)} {oc3 kV3 dc3 pm3 cd3 ct3 : Value}
    (a3 : PySem.W.nsIn K mainGlobals "weight" = some (some (.ref f3))) (l3 : K.lookup f3 = some ⟨oc3, od3, .func (PySem.W.fnOf "weight" "weight" (defArgs s_weight) (defBody s_weight) (defScope s_weight) .none kV3 dc3 pm3 an3 cd3 ct3), sl3⟩) (c3 : PySem.W.codeIn K cd3 "weight" = true) (k3 : PySem.W.keepIn K (.ref f3) = true)
    {f4 : Addr} {od4 an4 : Option Addr} {sl4 : Array (Option Value)} {oc4 kV4 dc4 pm4 cd4 ct4 : Value}
    (a4 : PySem.W.nsIn K mainGlobals "_law_start" = some (some (.ref f4))) (l4 : K.lookup f4 = some ⟨oc4, od4, .func (PySem.W.fnOf "_law_start" "_law_start" (defArgs s__law_start) (defBody s__law_start) (defScope s__law_start) .none kV4 dc4 pm4 an4 cd4 ct4), sl4⟩) (c4 : PySem.W.codeIn K cd4 "_law_start" = true) (k4 : PySem.W.keepIn K (.ref f4) = true)
    {f5 : Addr} {od5 an5 : Option Addr} {sl5 : Array (Option Value)} {oc5 kV5 dc5 pm5 cd5 ct5 : Value}
    (a5 : PySem.W.nsIn K mainGlobals "_law_draw" = some (some (.ref f5))) (l5 : K.lookup f5 = some ⟨oc5, od5, .func (PySem.W.fnOf "_law_draw" "_law_draw" (defArgs s__law_draw) (defBody s__law_draw) (defScope s__law_draw) .none kV5 dc5 pm5 an5 cd5 ct5), sl5⟩) (c5 : PySem.W.codeIn K cd5 "_law_draw" = true) (k5 : PySem.W.keepIn K (.ref f5) = true)
    {f6 : Addr} {od6 an6 : Option Addr} {sl6 : Array (Option Value)} {oc6 kV6 dc6 pm6 cd6 ct6 : Value}
    (a6 : PySem.W.nsIn K mainGlobals "_law_one_of" = some (some (.ref f6))) (l6 : K.lookup f6 = some ⟨oc6, od6, .func (PySem.W.fnOf "_law_one_of" "_law_one_of" (defArgs s__law_one_of) (defBody s__law_one_of) (defScope s__law_one_of) .none kV6 dc6 pm6 an6 cd6 ct6), sl6⟩) (c6 : PySem.W.codeIn K cd6 "_law_one_of" = true) (k6 : PySem.W.keepIn K (.ref f6) = true)
    {f7 : Addr} {od7 an7 : Option Addr} {sl7 : Array (Option Value)} {oc7 kV7 dc7 pm7 cd7 ct7 : Value}
    (a7 : PySem.W.nsIn K mainGlobals "_law_is_int" = some (some (.ref f7))) (l7 : K.lookup f7 = some ⟨oc7, od7, .func (PySem.W.fnOf "_law_is_int" "_law_is_int" (defArgs s__law_is_int) (defBody s__law_is_int) (defScope s__law_is_int) .none kV7 dc7 pm7 an7 cd7 ct7), sl7⟩) (c7 : PySem.W.codeIn K cd7 "_law_is_int" = true) (k7 : PySem.W.keepIn K (.ref f7) = true)
    {f8 : Addr} {od8 an8 : Option Addr} {sl8 : Array (Option Value)} {oc8 kV8 dc8 pm8 cd8 ct8 : Value}
    (a8 : PySem.W.nsIn K mainGlobals "_law_same" = some (some (.ref f8))) (l8 : K.lookup f8 = some ⟨oc8, od8, .func (PySem.W.fnOf "_law_same" "_law_same" (defArgs s__law_same) (defBody s__law_same) (defScope s__law_same) .none kV8 dc8 pm8 an8 cd8 ct8), sl8⟩) (c8 : PySem.W.codeIn K cd8 "_law_same" = true) (k8 : PySem.W.keepIn K (.ref f8) = true)
    {f9 : Addr} {od9 an9 : Option Addr} {sl9 : Array (Option Value)} {oc9 kV9 dc9 pm9 cd9 ct9 : Value}
    (a9 : PySem.W.nsIn K mainGlobals "_law_sets" = some (some (.ref f9))) (l9 : K.lookup f9 = some ⟨oc9, od9, .func (PySem.W.fnOf "_law_sets" "_law_sets" (defArgs s__law_sets) (defBody s__law_sets) (defScope s__law_sets) .none kV9 dc9 pm9 an9 cd9 ct9), sl9⟩) (c9 : PySem.W.codeIn K cd9 "_law_sets" = true) (k9 : PySem.W.keepIn K (.ref f9) = true)
    {f10 : Addr} {od10 an10 : Option Addr} {sl10 : Array (Option Value)} {oc10 kV10 dc10 pm10 cd10 ct10 : Value}
    (a10 : PySem.W.nsIn K mainGlobals "_law_is_weight" = some (some (.ref f10))) (l10 : K.lookup f10 = some ⟨oc10, od10, .func (PySem.W.fnOf "_law_is_weight" "_law_is_weight" (defArgs s__law_is_weight) (defBody s__law_is_weight) (defScope s__law_is_weight) .none kV10 dc10 pm10 an10 cd10 ct10), sl10⟩) (c10 : PySem.W.codeIn K cd10 "_law_is_weight" = true) (k10 : PySem.W.keepIn K (.ref f10) = true)
    {f11 : Addr} {od11 an11 : Option Addr} {sl11 : Array (Option Value)} {oc11 kV11 dc11 pm11 cd11 ct11 : Value}
    (a11 : PySem.W.nsIn K mainGlobals "_law_differences" = some (some (.ref f11))) (l11 : K.lookup f11 = some ⟨oc11, od11, .func (PySem.W.fnOf "_law_differences" "_law_differences" (defArgs s__law_differences) (defBody s__law_differences) (defScope s__law_differences) .none kV11 dc11 pm11 an11 cd11 ct11), sl11⟩) (c11 : PySem.W.codeIn K cd11 "_law_differences" = true) (k11 : PySem.W.keepIn K (.ref f11) = true)
    {f12 : Addr} {od12 an12 : Option Addr} {sl12 : Array (Option Value)} {oc12 kV12 dc12 pm12 cd12 ct12 : Value}
    (a12 : PySem.W.nsIn K mainGlobals "law" = some (some (.ref f12))) (l12 : K.lookup f12 = some ⟨oc12, od12, .func (PySem.W.fnOf "law" "law" (defArgs s_law) (defBody s_law) (defScope s_law) .none kV12 dc12 pm12 an12 cd12 ct12), sl12⟩) (c12 : PySem.W.codeIn K cd12 "law" = true) (k12 : PySem.W.keepIn K (.ref f12) = true)
    (y_abs : PySem.W.nsIn K mainGlobals "abs" = some none)
    (y_all : PySem.W.nsIn K mainGlobals "all" = some none)
    (y_any : PySem.W.nsIn K mainGlobals "any" = some none)
    (y_bool : PySem.W.nsIn K mainGlobals "bool" = some none)
    (y_int : PySem.W.nsIn K mainGlobals "int" = some none)
    (y_isinstance : PySem.W.nsIn K mainGlobals "isinstance" = some none)
    (y_len : PySem.W.nsIn K mainGlobals "len" = some none)
    (y_list : PySem.W.nsIn K mainGlobals "list" = some none)
    (y_min : PySem.W.nsIn K mainGlobals "min" = some none)
    (y_range : PySem.W.nsIn K mainGlobals "range" = some none)
    (y_str : PySem.W.nsIn K mainGlobals "str" = some none)
    (y_sum : PySem.W.nsIn K mainGlobals "sum" = some none)
    (y_tuple : PySem.W.nsIn K mainGlobals "tuple" = some none)
    : ∃ fd : FuncData, (∀ (s : Shared) (v : Value), BindsTo s fd ⟨[v], []⟩ [("script", v)]) ∧ ∀ base : Heap, K.In base → base.Ns mainGlobals mg → FnOk l.prog w K mg base (L2.CX l.prog w) 6 fa fd ["script"] (spL K F_law) := by
  have e := hfa.symm.trans (PySem.W.mg_of X G a12)
  cases e
  have F0 := fun_mk (st := s_power) l0 c0 k0
  have b0 := F0.binds (ps := ["p", "a", "n"]) fun _ _ _ _ _ _ us hl => match us, hl with | [_, _, _], _ => rfl
  have F1 := fun_mk (st := s_inverse) l1 c1 k1
  have b1 := F1.binds (ps := ["p", "a"]) fun _ _ _ _ _ _ us hl => match us, hl with | [_, _], _ => rfl
  have F2 := fun_mk (st := s_sets_of) l2 c2 k2
  have b2 := F2.binds (ps := ["tellers", "hidden"]) fun _ _ _ _ _ _ us hl => match us, hl with | [_, _], _ => rfl
  have F3 := fun_mk (st := s_weight) l3 c3 k3
  have b3 := F3.binds (ps := ["p", "members", "place"]) fun _ _ _ _ _ _ us hl => match us, hl with | [_, _, _], _ => rfl
  have F4 := fun_mk (st := s__law_start) l4 c4 k4
  have b4 := F4.binds (ps := ["script"]) fun _ _ _ _ _ _ us hl => match us, hl with | [_], _ => rfl
  have F5 := fun_mk (st := s__law_draw) l5 c5 k5
  have b5 := F5.binds (ps := ["state", "most"]) fun _ _ _ _ _ _ us hl => match us, hl with | [_, _], _ => rfl
  have F6 := fun_mk (st := s__law_one_of) l6 c6 k6
  have b6 := F6.binds (ps := ["state", "items"]) fun _ _ _ _ _ _ us hl => match us, hl with | [_, _], _ => rfl
  have F7 := fun_mk (st := s__law_is_int) l7 c7 k7
  have b7 := F7.binds (ps := ["x"]) fun _ _ _ _ _ _ us hl => match us, hl with | [_], _ => rfl
  have F8 := fun_mk (st := s__law_same) l8 c8 k8
  have b8 := F8.binds (ps := ["x", "y"]) fun _ _ _ _ _ _ us hl => match us, hl with | [_, _], _ => rfl
  have F9 := fun_mk (st := s__law_sets) l9 c9 k9
  have b9 := F9.binds (ps := ["tellers", "hidden"]) fun _ _ _ _ _ _ us hl => match us, hl with | [_, _], _ => rfl
  have F10 := fun_mk (st := s__law_is_weight) l10 c10 k10
  have b10 := F10.binds (ps := ["p", "members", "place", "number"]) fun _ _ _ _ _ _ us hl => match us, hl with | [_, _, _, _], _ => rfl
  have F11 := fun_mk (st := s__law_differences) l11 c11 k11
  have b11 := F11.binds (ps := ["p", "values", "many"]) fun _ _ _ _ _ _ us hl => match us, hl with | [_, _, _], _ => rfl
  have F12 := fun_mk (st := s_law) l12 c12 k12
  have b12 := F12.binds (ps := ["script"]) fun _ _ _ _ _ _ us hl => match us, hl with | [_], _ => rfl
  have z_abs := PySem.W.mg_none_of X G y_abs
  have z_all := PySem.W.mg_none_of X G y_all
  have z_any := PySem.W.mg_none_of X G y_any
  have z_bool := PySem.W.mg_none_of X G y_bool
  have z_int := PySem.W.mg_none_of X G y_int
  have z_isinstance := PySem.W.mg_none_of X G y_isinstance
  have z_len := PySem.W.mg_none_of X G y_len
  have z_list := PySem.W.mg_none_of X G y_list
  have z_min := PySem.W.mg_none_of X G y_min
  have z_range := PySem.W.mg_none_of X G y_range
  have z_str := PySem.W.mg_none_of X G y_str
  have z_sum := PySem.W.mg_none_of X G y_sum
  have z_tuple := PySem.W.mg_none_of X G y_tuple
  refine ⟨PySem.W.fnOf "law" "law" (defArgs s_law) (defBody s_law) (defScope s_law) .none kV12 dc12 pm12 an12 cd12 ct12, fun s v => .of_eq rfl, fun base hK hG => ?_⟩
  have G_power : FnP l.prog w K mg base "power" 1 F_power := ok_power F0 (PySem.W.mg_of X G a0) b0
  have G_inverse : FnP l.prog w K mg base "inverse" 2 F_inverse := ok_inverse F1 (PySem.W.mg_of X G a1) b1 G_power
  have G_sets_of : FnP l.prog w K mg base "sets_of" 1 F_sets_of := ok_sets_of F2 (PySem.W.mg_of X G a2) b2 z_range z_tuple
  have G_weight : FnP l.prog w K mg base "weight" 3 F_weight := ok_weight F3 (PySem.W.mg_of X G a3) b3 G_inverse
  have G__law_start : FnP l.prog w K mg base "_law_start" 1 F__law_start := ok__law_start F4 (PySem.W.mg_of X G a4) b4 z_list
  have G__law_draw : FnM l.prog w K mg base "_law_draw" 1 F__law_draw := ok__law_draw F5 (PySem.W.mg_of X G a5) b5 z_abs z_int z_len
  have G__law_one_of : FnM l.prog w K mg base "_law_one_of" 2 F__law_one_of := ok__law_one_of F6 (PySem.W.mg_of X G a6) b6 G__law_draw z_len
  have G__law_is_int : FnP l.prog w K mg base "_law_is_int" 1 F__law_is_int := ok__law_is_int F7 (PySem.W.mg_of X G a7) b7 z_bool z_int z_isinstance
  have G__law_same : FnP l.prog w K mg base "_law_same" 5 (F__law_same 4) := ok__law_same F8 (PySem.W.mg_of X G a8) b8 G__law_is_int z_all z_isinstance z_len z_range z_str z_tuple 3
  have G__law_sets : FnP l.prog w K mg base "_law_sets" 1 F__law_sets := ok__law_sets F9 (PySem.W.mg_of X G a9) b9 z_range z_tuple
  have G__law_is_weight : FnP l.prog w K mg base "_law_is_weight" 2 F__law_is_weight := ok__law_is_weight F10 (PySem.W.mg_of X G a10) b10 G__law_is_int z_int
  have G__law_differences : FnP l.prog w K mg base "_law_differences" 1 F__law_differences := ok__law_differences F11 (PySem.W.mg_of X G a11) b11 z_int z_len z_list z_range
  exact law_ok (ok_law F12 G__law_differences G__law_draw G__law_is_weight G__law_one_of G__law_same G__law_sets G__law_start G_sets_of G_weight z_any z_int z_len z_list z_min z_range z_sum)
end K27
namespace K27
open PySem PySem.Spec L2 Z
open PyProof.Rows hiding St
/-! plain law -/
def prs : List Int := [3, 5, 7, 11, 13, 17, 19, 23, 29, 31, 37, 41, 43, 47, 53, 59, 61, 67, 71, 73, 79, 83, 89, 97, 101, 103, 107, 109, 113, 127, 131, 137, 139, 149, 151, 157, 163, 167, 173, 179, 181, 191, 193, 197, 199, 211, 223, 227, 229, 233, 239, 241, 251, 3, 5, 7, 11]
def iv (p m : Int) : Int := match F_inverse [I p, I m] with
  | .ok (.d (.int v)) => v
  | _ => 0
def nums (n : Nat) : List Int := (List.range n).map fun i => ((i + 1 : Nat) : Int)
def due (t h : Nat) : List (List Int) := if h = 0 then [[]] else if h = 1 then (List.range t).map fun i => [((i + 1 : Nat) : Int)] else (List.range t).flatMap fun i => (List.range (t - 1 - i)).map fun k => [((i + 1 : Nat) : Int), ((i + 2 + k : Nat) : Int)]
def dueD (t h : Nat) : D := .tup ((due t h).map fun l => .tup (l.map D.int))
theorem inv_all : (prs.all fun p => decide (3 ≤ p ∧ p ≤ 251) && (nums 9).all fun m => decide (p ≤ m) || (okIs (F_inverse [I p, I m]) (.int (iv p m)) && decide (0 ≤ iv p m ∧ iv p m < p ∧ iv p m * m % p = 1))) = true := by decide +kernel
theorem due_all : ((List.range 10).all fun t => (List.range 3).all fun h => decide (t ≤ h) || (okIs (F__law_sets [I t, I h]) (dueD t h) && okIs (F_sets_of [I t, I h]) (dueD t h) && okIs (F__law_same 4 [.d (dueD t h), .d (dueD t h)]) (.bl true) && (due t h).all fun l => decide (l.length = h) && l.all fun m => decide (1 ≤ m ∧ m ≤ (t : Int)))) = true := by decide +kernel
end K27
namespace K27
open PySem PySem.Spec L2 Z
open PyProof.Rows hiding St
structure Good (p m : Int) : Prop where
  inv : F_inverse [I p, I m] = .ok (I (iv p m))
  lo : 0 ≤ iv p m
  hi : iv p m < p
  one : iv p m * m % p = 1
theorem p_range {p : Int} (h : p ∈ prs) : 3 ≤ p ∧ p ≤ 251 := by
  have := List.all_eq_true.mp inv_all p h
  simp only [Bool.and_eq_true, decide_eq_true_eq] at this
  exact this.1
theorem good {p m : Int} (h : p ∈ prs) (h1 : 1 ≤ m) (h2 : m ≤ 9) (h3 : m < p) : Good p m := by
  have := List.all_eq_true.mp inv_all p h
  simp only [Bool.and_eq_true, decide_eq_true_eq] at this
  have hm : m ∈ nums 9 := by
    unfold nums
    exact List.mem_map.mpr ⟨(m - 1).toNat, List.mem_range.mpr (by omega), by omega⟩
  have t := List.all_eq_true.mp this.2 m hm
  simp only [Bool.or_eq_true, Bool.and_eq_true, decide_eq_true_eq] at t
  rcases t with t | ⟨t1, t2, t3, t4⟩
  · omega
  · exact ⟨okIs_eq t1, t2, t3, t4⟩
structure Due (t h : Nat) : Prop where
  law : F__law_sets [I t, I h] = .ok (.d (dueD t h))
  own : F_sets_of [I t, I h] = .ok (.d (dueD t h))
  same : F__law_same 4 [.d (dueD t h), .d (dueD t h)] = .ok (.d (.bl true))
  len : ∀ l ∈ due t h, l.length = h
  mem : ∀ l ∈ due t h, ∀ m ∈ l, 1 ≤ m ∧ m ≤ (t : Int)
theorem dues {t h : Nat} (h1 : t < 10) (h2 : h < 3) (h3 : h < t) : Due t h := by
  have := List.all_eq_true.mp (List.all_eq_true.mp due_all t (List.mem_range.mpr h1)) h (List.mem_range.mpr h2)
  simp only [Bool.or_eq_true, Bool.and_eq_true, decide_eq_true_eq] at this
  rcases this with z | ⟨⟨⟨z1, z2⟩, z3⟩, z4⟩
  · omega
  · have k : ∀ l ∈ due t h, l.length = h ∧ ∀ m ∈ l, 1 ≤ m ∧ m ≤ (t : Int) := fun l hl => by
      have := List.all_eq_true.mp z4 l hl
      simp only [Bool.and_eq_true, decide_eq_true_eq, List.all_eq_true] at this
      exact this
    exact ⟨okIs_eq z1, okIs_eq z2, okIs_eq z3, fun l hl => (k l hl).1, fun l hl => (k l hl).2⟩
/-! the weights -/
def wt (p : Int) (l : List Int) (x : Int) : Int := l.foldl (fun f m => f * (1 - x * iv p m) % p) 1
def wbody : En → SR := (fSet 3 (lft (g2 fMod (g2 fMul (vN 3) (g2 fSub (kI 1) (g2 fMul (vN 2) (gFn F_inverse (aCons (vN 0) (aCons (vN 4) aNil)))))) (vN 0))))
theorem w_loop {p x : Int} {y : T} (hp : 3 ≤ p) (hp2 : p ≤ 251) (hx : 0 ≤ x) (hx2 : x ≤ 1000) : ∀ (l : List Int), (∀ m ∈ l, Good p m) → ∀ (f : Int) (o : Sl), (∀ z, o ≠ .b z) → 0 ≤ f → f ≤ 1000 → ∃ o', forE (kName 4) wbody ((l.map D.int).map T.d) [.v (I p), .v y, .v (I x), .v (I f), o] = .nx [.v (I p), .v y, .v (I x), .v (I (l.foldl (fun f m => f * (1 - x * iv p m) % p) f)), o']
  | [], _, f, o, _, _, _ => ⟨o, rfl⟩
  | m :: l, hg, f, o, ho, h0, h1 => by
    have g := hg m (List.mem_cons_self ..)
    have r := mod_range (f * (1 - x * iv p m)) (p := p) (by omega)
    obtain ⟨o', h⟩ := w_loop (y := y) hp hp2 hx hx2 l (fun m hm => hg m (List.mem_cons_of_mem _ hm)) (f * (1 - x * iv p m) % p) (.v (I m)) (fun z e => by cases e) r.1 (by omega)
    refine ⟨o', ?_⟩
    rw [List.foldl_cons, ← h, List.map_cons, List.map_cons]
    have e : stow [.v (I p), .v y, .v (I x), .v (I f), o] 4 (.v (I m)) = some [.v (I p), .v y, .v (I x), .v (I f), .v (I m)] := by
      cases o with
      | b z => exact absurd rfl (ho z)
      | _ => rfl
    have e2 : wbody [.v (I p), .v y, .v (I x), .v (I f), .v (I m)] = .nx [.v (I p), .v y, .v (I x), .v (I (f * (1 - x * iv p m) % p)), .v (I m)] := by
      have m1 : MulOk x (iv p m) := small_ok (by omega) (by omega)
      have m2 : MulOk f (1 - x * iv p m) := small_ok (by omega) (by omega)
      have m3 : 0 < p := by omega
      have gi := g.inv
      unfold I at gi
      simp [wbody, I, gi, m1, m2, m3]
    show (match (kName 4 (I m)).bind fun as => stows [.v (I p), .v y, .v (I x), .v (I f), o] as with
      | none => SR.no
      | some en1 => match wbody en1 with
        | .nx en2 => forE (kName 4) wbody ((l.map D.int).map T.d) en2
        | .ct en2 => forE (kName 4) wbody ((l.map D.int).map T.d) en2
        | .brk en2 => .nx en2
        | r => r) = _
    rw [kName_ev, Option.bind_some, stows_cons, show mkS (I m) = .v (I m) from rfl, e, Option.bind_some, stows_nil]
    simp only [e2]
theorem weight_ok {p x : Int} {l : List Int} (hp : 3 ≤ p) (hp2 : p ≤ 251) (hx : 0 ≤ x) (hx2 : x ≤ 1000) (hg : ∀ m ∈ l, Good p m) : F_weight [I p, .d (.tup (l.map D.int)), I x] = .ok (I (wt p l x)) := by
  refine runP_ret rfl ?_
  show ∃ e, d_weight [.v (I p), .v (.d (.tup (l.map D.int))), .v (I x), .n, .n] = _
  obtain ⟨o', h⟩ := w_loop (y := .d (.tup (l.map D.int))) hp hp2 hx hx2 l hg 1 .n (fun z e => by cases e) (by omega) (by omega)
  unfold d_weight
  refine ret_seq (en1 := [.v (I p), .v (.d (.tup (l.map D.int))), .v (I x), .v (I 1), .n]) rfl ?_
  refine ret_seq (en1 := [.v (I p), .v (.d (.tup (l.map D.int))), .v (I x), .v (I (wt p l x)), o']) h ?_
  exact ⟨_, by rw [fRet_ev, mName_n (d := .int (wt p l x)) rfl]; rfl⟩
theorem wt_range {p : Int} (hp : 1 < p) (x : Int) : ∀ (l : List Int) (f : Int), 0 ≤ f → f < p → 0 ≤ l.foldl (fun f m => f * (1 - x * iv p m) % p) f ∧ l.foldl (fun f m => f * (1 - x * iv p m) % p) f < p
  | [], f, h0, h1 => ⟨h0, h1⟩
  | m :: l, f, h0, h1 => by
    have r := mod_range (f * (1 - x * iv p m)) (p := p) (by omega)
    exact wt_range hp x l _ r.1 r.2
/-! the law's own look at a weight -/
def lbody : En → SR := (fSeq (fSet 4 (lft (g2 fMod (gCall fInt (aCons (g2 fMul (vN 4) (g2 fSub (vN 6) (vN 2))) aNil)) (vN 0))))
  (fSet 5 (lft (g2 fMod (gCall fInt (aCons (g2 fMul (vN 5) (vN 6)) aNil)) (vN 0)))))
theorem l_loop {p x : Int} {y z : T} (hp : 3 ≤ p) (hp2 : p ≤ 251) (hx : 0 ≤ x) (hx2 : x ≤ 1000) : ∀ (l : List Int), (∀ m ∈ l, 1 ≤ m ∧ m ≤ 9) → ∀ (f u : Int) (o : Sl), (∀ z, o ≠ .b z) → 0 ≤ f → f ≤ 1000 → 0 ≤ u → u ≤ 1000 → ∃ o', forE (kName 6) lbody ((l.map D.int).map T.d) [.v (I p), .v y, .v (I x), .v z, .v (I f), .v (I u), o] = .nx [.v (I p), .v y, .v (I x), .v z, .v (I (l.foldl (fun f m => f * (m - x) % p) f)), .v (I (l.foldl (fun f m => f * m % p) u)), o']
  | [], _, f, u, o, _, _, _, _, _ => ⟨o, rfl⟩
  | m :: l, hg, f, u, o, ho, h0, h1, h2, h3 => by
    have g := hg m (List.mem_cons_self ..)
    have r := mod_range (f * (m - x)) (p := p) (by omega)
    have r2 := mod_range (u * m) (p := p) (by omega)
    obtain ⟨o', h⟩ := l_loop (y := y) (z := z) hp hp2 hx hx2 l (fun m hm => hg m (List.mem_cons_of_mem _ hm)) (f * (m - x) % p) (u * m % p) (.v (I m)) (fun z e => by cases e) r.1 (by omega) r2.1 (by omega)
    refine ⟨o', ?_⟩
    rw [List.foldl_cons, List.foldl_cons, ← h, List.map_cons, List.map_cons]
    have e : stow [.v (I p), .v y, .v (I x), .v z, .v (I f), .v (I u), o] 6 (.v (I m)) = some [.v (I p), .v y, .v (I x), .v z, .v (I f), .v (I u), .v (I m)] := by
      cases o with
      | b z => exact absurd rfl (ho z)
      | _ => rfl
    have e2 : lbody [.v (I p), .v y, .v (I x), .v z, .v (I f), .v (I u), .v (I m)] = .nx [.v (I p), .v y, .v (I x), .v z, .v (I (f * (m - x) % p)), .v (I (u * m % p)), .v (I m)] := by
      have m1 : MulOk f (m - x) := small_ok (by omega) (by omega)
      have m2 : MulOk u m := small_ok (by omega) (by omega)
      have m3 : 0 < p := by omega
      simp [lbody, I, m1, m2, m3]
    show (match (kName 6 (I m)).bind fun as => stows [.v (I p), .v y, .v (I x), .v z, .v (I f), .v (I u), o] as with
      | none => SR.no
      | some en1 => match lbody en1 with
        | .nx en2 => forE (kName 6) lbody ((l.map D.int).map T.d) en2
        | .ct en2 => forE (kName 6) lbody ((l.map D.int).map T.d) en2
        | .brk en2 => .nx en2
        | r => r) = _
    rw [kName_ev, Option.bind_some, stows_cons, show mkS (I m) = .v (I m) from rfl, e, Option.bind_some, stows_nil]
    simp only [e2]
theorem w_math {p x : Int} : ∀ (l : List Int), (∀ m ∈ l, Good p m) → ∀ f u o : Int, (∃ k, f * u - o = p * k) → ∃ k, l.foldl (fun f m => f * (1 - x * iv p m) % p) f * l.foldl (fun f m => f * m % p) u - l.foldl (fun f m => f * (m - x) % p) o = p * k
  | [], _, f, u, o, h => h
  | m :: l, hg, f, u, o, h => by
    refine w_math l (fun m hm => hg m (List.mem_cons_of_mem _ hm)) _ _ _ ?_
    have g := (hg m (List.mem_cons_self ..)).one
    obtain ⟨k0, e0⟩ := h
    obtain ⟨k1, e1⟩ := dvd_mod (f * (1 - x * iv p m)) p
    obtain ⟨k2, e2⟩ := dvd_mod (u * m) p
    obtain ⟨k3, e3⟩ := dvd_mod (o * (m - x)) p
    obtain ⟨k4, e4⟩ := dvd_mod (iv p m * m) p
    rw [g] at e4
    show ∃ k, f * (1 - x * iv p m) % p * (u * m % p) - o * (m - x) % p = p * k
    rw [e1, e2, e3]
    have e5 : iv p m * m = 1 - p * k4 := by omega
    refine ⟨k0 * (m - x) + f * u * x * k4 + k1 * u * m + k2 * f * (1 - x * iv p m) + p * k1 * k2 - k3, ?_⟩
    have e6 : (f * (1 - x * iv p m) + p * k1) * (u * m + p * k2) - (o * (m - x) + p * k3) = f * u * (m - x * (iv p m * m)) + p * (k1 * u * m + k2 * f * (1 - x * iv p m) + p * k1 * k2) - o * (m - x) - p * k3 := by grind
    rw [e6, e5]
    have e7 : f * u = o + p * k0 := by omega
    have e8 : f * u * (m - x * (1 - p * k4)) = f * u * (m - x) + p * (f * u * x * k4) := by grind
    rw [e8]
    have e9 : f * u * (m - x) = o * (m - x) + p * (k0 * (m - x)) := by rw [e7]; grind
    rw [e9]
    grind
theorem is_weight_ok {p x : Int} {l : List Int} (hp : 3 ≤ p) (hp2 : p ≤ 251) (hx : 0 ≤ x) (hx2 : x ≤ 1000) (hg : ∀ m ∈ l, Good p m) (hm : ∀ m ∈ l, 1 ≤ m ∧ m ≤ 9) : F__law_is_weight [I p, .d (.tup (l.map D.int)), I x, I (wt p l x)] = .ok (.d (.bl true)) := by
  refine runP_ret rfl ?_
  show ∃ e, d__law_is_weight [.v (I p), .v (.d (.tup (l.map D.int))), .v (I x), .v (I (wt p l x)), .n, .n, .n] = _
  obtain ⟨o', h⟩ := l_loop (y := .d (.tup (l.map D.int))) (z := I (wt p l x)) hp hp2 hx hx2 l hm 1 1 .n (fun z e => by cases e) (by omega) (by omega) (by omega) (by omega)
  have r := wt_range (p := p) (by omega) x l 1 (by omega) (by omega)
  obtain ⟨k, mk⟩ := w_math (x := x) l hg 1 1 1 ⟨0, by omega⟩
  unfold d__law_is_weight
  refine ret_seq (en1 := [.v (I p), .v (.d (.tup (l.map D.int))), .v (I x), .v (I (wt p l x)), .v (I 1), .n, .n]) rfl ?_
  refine ret_seq (en1 := [.v (I p), .v (.d (.tup (l.map D.int))), .v (I x), .v (I (wt p l x)), .v (I 1), .v (I 1), .n]) rfl ?_
  refine ret_seq h ?_
  refine ret_lft ?_
  have e0 : F__law_is_int [.d (.int (wt p l x))] = .ok (.d (.bl true)) := rfl
  have m1 : MulOk (wt p l x) (l.foldl (fun f m => f * m % p) 1) := small_ok (by unfold wt; omega) (by unfold wt; omega)
  have m2 : (wt p l x * l.foldl (fun f m => f * m % p) 1 - l.foldl (fun f m => f * (m - x) % p) 1) % p = 0 := by
    unfold wt; rw [mk]; exact Int.mul_emod_right ..
  have m3 : 0 < p := by omega
  have m4 : 0 ≤ wt p l x := r.1
  have m5 : wt p l x < p := r.2
  simp [I, e0, m1, m2, m3, m4, m5]
end K27
namespace K27
open PySem PySem.Spec L2 Z
open PyProof.Rows hiding St
/-- a polynomial of degree h at most, by p -/
def Pol (p : Int) (h : Nat) (v : Int → Int) (a : Int) : Prop := ∃ b c, (h < 2 → c = 0) ∧ (h < 1 → b = 0) ∧ ∀ x, ∃ k, v x = a + b * x + c * (x * x) + p * k
theorem pol_wt {p : Int} {h : Nat} {l : List Int} (hh : h < 3) (hl : l.length = h) : Pol p h (wt p l) 1 := by
  match l, hl with
  | [], hl => exact ⟨0, 0, fun _ => rfl, fun _ => rfl, fun x => ⟨0, by simp [wt]⟩⟩
  | [m], hl =>
    refine ⟨-iv p m, 0, fun _ => rfl, fun z => ?_, fun x => ?_⟩
    · simp at hl; omega
    obtain ⟨k, e⟩ := dvd_mod (1 * (1 - x * iv p m)) p
    refine ⟨k, ?_⟩
    show 1 * (1 - x * iv p m) % p = _
    rw [e]; grind
  | [m, n], hl =>
    refine ⟨-iv p m - iv p n, iv p m * iv p n, fun z => ?_, fun z => ?_, fun x => ?_⟩
    · simp at hl; omega
    · simp at hl; omega
    obtain ⟨k, e⟩ := dvd_mod (1 * (1 - x * iv p m)) p
    obtain ⟨k2, e2⟩ := dvd_mod ((1 * (1 - x * iv p m) % p) * (1 - x * iv p n)) p
    refine ⟨k2 + k * (1 - x * iv p n), ?_⟩
    show (1 * (1 - x * iv p m) % p) * (1 - x * iv p n) % p = _
    rw [e2, e]; grind
  | _ :: _ :: _ :: _, hl => simp at hl; omega
theorem pol_zero {p : Int} {h : Nat} : Pol p h (fun _ => 0) 0 := ⟨0, 0, fun _ => rfl, fun _ => rfl, fun _ => ⟨0, by simp⟩⟩
theorem pol_add {p q a b : Int} {h : Nat} {v w : Int → Int} (hv : Pol p h v a) (hw : Pol p h w b) : Pol p h (fun x => v x * q + w x) (a * q + b) := by
  obtain ⟨b1, c1, e1, f1, g1⟩ := hv
  obtain ⟨b2, c2, e2, f2, g2⟩ := hw
  refine ⟨b1 * q + b2, c1 * q + c2, fun z => by rw [e1 z, e2 z]; omega, fun z => by rw [f1 z, f2 z]; omega, fun x => ?_⟩
  obtain ⟨k1, h1⟩ := g1 x
  obtain ⟨k2, h2⟩ := g2 x
  refine ⟨k1 * q + k2, ?_⟩
  show v x * q + w x = _
  rw [h1, h2]; grind
def tot (p : Int) : List (List Int) → List Int → Int → Int
  | l :: ls, q :: qs, x => wt p l x * q + tot p ls qs x
  | _, _, _ => 0
theorem pol_tot {p : Int} {h : Nat} (hh : h < 3) : ∀ (ls : List (List Int)) (qs : List Int), ls.length = qs.length → (∀ l ∈ ls, l.length = h) → Pol p h (tot p ls qs) qs.sum
  | [], [], _, _ => pol_zero
  | l :: ls, q :: qs, e, hl => by
    have := pol_add (q := q) (pol_wt (p := p) hh (hl l (List.mem_cons_self ..))) (pol_tot hh ls qs (by simpa using e) fun l m => hl l (List.mem_cons_of_mem _ m))
    rw [List.sum_cons, show q + qs.sum = 1 * q + qs.sum by omega]
    exact this
  | [], _ :: _, e, _ => by cases e
  | _ :: _, [], e, _ => by cases e
theorem tot_sum {p x : Int} : ∀ (ls : List (List Int)) (qs : List Int), ls.length = qs.length → ((List.range ls.length).map fun i => wt p (ls.getD i []) x * qs.getD i 0).sum = tot p ls qs x
  | [], [], _ => rfl
  | l :: ls, q :: qs, e => by
    rw [List.length_cons, List.range_succ_eq_map, List.map_cons, List.sum_cons, List.map_map, tot, ← tot_sum ls qs (by simpa using e)]
    rfl
  | [], _ :: _, e => by cases e
  | _ :: _, [], e => by cases e
/-! differences -/
def dif (p : Int) (v : Nat → Int) (i : Nat) : Int := (v (i + 1) - v i) % p
def difs (p : Int) : Nat → (Nat → Int) → Nat → Int
  | 0, v => v
  | h + 1, v => difs p h (dif p v)
theorem dif_poly {p a b c : Int} {v : Nat → Int} (h : ∀ x : Nat, ∃ k, v x = a + b * x + c * ((x : Int) * x) + p * k) : ∀ x : Nat, ∃ k, dif p v x = (b + c) + (2 * c) * x + 0 * ((x : Int) * x) + p * k := fun x => by
  obtain ⟨k1, h1⟩ := h x
  obtain ⟨k2, h2⟩ := h (x + 1)
  obtain ⟨k3, h3⟩ := dvd_mod (v (x + 1) - v x) p
  refine ⟨k2 - k1 + k3, ?_⟩
  unfold dif
  rw [h3, h1, h2]
  have e : ((x + 1 : Nat) : Int) = (x : Int) + 1 := by omega
  rw [e]
  grind
theorem dif_zero {p a : Int} {v : Nat → Int} (h : ∀ x : Nat, ∃ k, v x = a + p * k) (x : Nat) : dif p v x = 0 := by
  obtain ⟨k1, h1⟩ := h x
  obtain ⟨k2, h2⟩ := h (x + 1)
  unfold dif
  rw [h1, h2]
  rw [show a + p * k2 - (a + p * k1) = p * (k2 - k1) by grind]
  exact Int.mul_emod_right ..
theorem difs_zero {p a : Int} {h : Nat} (hh : h < 3) {w : Int → Int} (hw : Pol p h w a) {v : Nat → Int} (hv : ∀ x : Nat, ∃ k, v x = w x + p * k) (x : Nat) : difs p (h + 1) v x = 0 := by
  obtain ⟨b, c, h2, h1, hp⟩ := hw
  have hb : ∀ x : Nat, ∃ k, v x = a + b * x + c * ((x : Int) * x) + p * k := fun x => by
    obtain ⟨k, e⟩ := hp x
    obtain ⟨k2, e2⟩ := hv x
    exact ⟨k + k2, by rw [e2, e]; grind⟩
  match h, hh with
  | 0, _ =>
    have := h1 (by omega); have := h2 (by omega); subst b c
    exact dif_zero (a := a) (fun x => by obtain ⟨k, e⟩ := hb x; exact ⟨k, by rw [e]; grind⟩) x
  | 1, _ =>
    have := h2 (by omega); subst c
    exact dif_zero (a := b) (fun x => by obtain ⟨k, e⟩ := dif_poly hb x; exact ⟨k, by rw [e]; grind⟩) x
  | 2, _ =>
    exact dif_zero (a := 2 * c) (fun x => by
      obtain ⟨k, e⟩ := dif_poly (dif_poly hb) x
      exact ⟨k, by rw [e]; grind⟩) x
def tab (n : Nat) (v : Nat → Int) : List D := (List.range n).map fun i => D.int (v i)
theorem tab_len (n : Nat) (v : Nat → Int) : (tab n v).length = n := by simp [tab]
theorem tab_ix {n i : Nat} {v : Nat → Int} (h : i < n) : fIx (.l ((tab n v).map T.d)) (I i) = some (I (v i)) := by
  rw [fIx_l_num i (by simpa [tab] using h)]
  simp [tab, h]
theorem tab_snoc (n : Nat) (v : Nat → Int) : tab (n + 1) v = tab n v ++ [D.int (v n)] := by simp [tab, List.range_succ]
def dbody : En → SR := fSet 3 (lft (gLc [5] (gR1 (g2 fSub (gCall fLen (aCons (vN 3) aNil)) (kI 1))) (kName 5) gYes (g2 fMod (gCall fInt (aCons (g2 fSub (g2 fIx (vN 3) (g2 fAdd (vN 5) (kI 1))) (g2 fIx (vN 3) (vN 5))) aNil)) (vN 0))))
theorem dbody_ok {p z : Int} {x y : T} (hp : 0 < p) {m : Nat} (hm : m < 1000) {vv : Nat → Int} : dbody [.v (I p), .w x, .v y, .v (.l ((tab m vv).map T.d)), .v (I z), .n] = .nx [.v (I p), .w x, .v y, .v (.l ((tab (m - 1) (dif p vv)).map T.d)), .v (I z), .n] := by
  unfold dbody
  have e := lc_rng (vs := [5]) (v := 5) (gs := gR1 (g2 fSub (gCall fLen (aCons (vN 3) aNil)) (kI 1))) (te := g2 fMod (gCall fInt (aCons (g2 fSub (g2 fIx (vN 3) (g2 fAdd (vN 5) (kI 1))) (g2 fIx (vN 3) (vN 5))) aNil)) (vN 0)) (en := [.v (I p), .w x, .v y, .v (.l ((tab m vv).map T.d)), .v (I z), .n]) (a := 0) (n := m - 1) (G := fun j => D.int (dif p vv j)) (by
      have e1 : ((m : Int) - 1).toNat = m - 1 := by omega
      have e := gR1_n (g := g2 fSub (gCall fLen (aCons (vN 3) aNil)) (kI 1)) (en := [.v (I p), .w x, .v y, .v (.l ((tab m vv).map T.d)), .v (I z), .n]) (z := (m : Int) - 1) (by simp [tab_len]) (by omega) (by omega)
      rwa [e1] at e) (by omega) (fun j hj => by
      have e1 := tab_ix (v := vv) (show j + 1 < m by omega)
      have e2 := tab_ix (v := vv) (show j < m by omega)
      have c2 : (0 : Int) + (j : Int) = ((j : Nat) : Int) := by omega
      rw [c2]
      rw [show ((j + 1 : Nat) : Int) = (j : Int) + 1 by omega] at e1
      unfold dif
      simp [e1, e2, hp])
  rw [fSet_ev, lft_ev, e]
  rfl
theorem diff_hm {p : Int} {h : Nat} (hh : h < 4) {x y : Sl} : lft (gR1 (vN 2)) [.v (I p), x, .v (I h), y, .n, .n] = .ok (rng 0 1 h) [.v (I p), x, .v (I h), y, .n, .n] := by
  have e := gR1_n (g := vN 2) (en := [.v (I p), x, .v (I h), y, .n, .n]) (z := (h : Int)) (by simp) (by omega) (by omega)
  rw [Int.toNat_natCast] at e
  exact lft_n e
theorem diff_end {p : Int} {h : Nat} {x : T} {o4 : Sl} {n : Nat} {v : Nat → Int} : fRet (mName 3) [.v (I p), .w x, .v (I h), .v (.l ((tab n v).map T.d)), o4, .n] = .ret (.l ((tab n v).map T.d)) [.v (I p), .w x, .v (I h), .n, o4, .n] := by
  rw [fRet_ev, mName_l (xs := (tab n v).map T.d) rfl]
  rfl
theorem diff_st {p : Int} {h : Nat} {n : Nat} {v : Nat → Int} : fSet 3 (lft (gCall fList (aCons (vN 1) aNil))) [.v (I p), .w (.l ((tab n v).map T.d)), .v (I h), .n, .n, .n] = .nx [.v (I p), .w (.l ((tab n v).map T.d)), .v (I h), .v (.l ((tab n v).map T.d)), .n, .n] := by
  simp
theorem diff_go {p : Int} (hp : 0 < p) {n : Nat} (hn : n < 1000) {v : Nat → Int} {h : Nat} (hh : h < 4) : ∃ (o4 : Sl) (vv : Nat → Int), difs p 0 vv = difs p h v ∧ fFor (kName 4) (lft (gR1 (vN 2))) dbody [.v (I p), .w (.l ((tab n v).map T.d)), .v (I h), .v (.l ((tab n v).map T.d)), .n, .n] = .nx [.v (I p), .w (.l ((tab n v).map T.d)), .v (I h), .v (.l ((tab (n - h) vv).map T.d)), o4, .n] := by
  obtain ⟨en', h1, h2⟩ := for_ix (v := 4) (mi := lft (gR1 (vN 2))) (f := dbody) (xs := rng 0 1 h)
    (fun i en => i ≤ h ∧ ∃ (o4 : Sl) (vv : Nat → Int), NB o4 ∧ difs p (h - i) vv = difs p h v ∧ en = [.v (I p), .w (.l ((tab n v).map T.d)), .v (I h), .v (.l ((tab (n - i) vv).map T.d)), o4, .n])
    _ (diff_hm hh) ⟨Nat.zero_le _, .n, v, .n, rfl, rfl⟩
    (fun i hi en q => by
      obtain ⟨_, o4, vv, ho, hd, rfl⟩ := q
      rw [rng_at hi]
      rw [rng_len] at hi
      refine ⟨[.v (I p), .w (.l ((tab n v).map T.d)), .v (I h), .v (.l ((tab (n - i) vv).map T.d)), .v (I (0 + i)), .n], _, ?_, .inl (dbody_ok hp (by omega)), hi, .v (I (0 + i)), dif p vv, .v, ?_, rfl⟩
      · simp [ho.s]
      · show difs p (h - (i + 1)) (dif p vv) = _
        rw [← hd, show h - i = (h - (i + 1)) + 1 by omega]
        rfl)
  rw [rng_len] at h2
  obtain ⟨_, o4, vv, _, hd, rfl⟩ := h2
  rw [Nat.sub_self] at hd
  exact ⟨o4, vv, hd, h1⟩
theorem differences_ok {p : Int} (hp : 0 < p) {n : Nat} (hn : n < 1000) {v : Nat → Int} {h : Nat} (hh : h < 4) : F__law_differences [I p, .l ((tab n v).map T.d), I h] = .ok (.l ((tab (n - h) (difs p h v)).map T.d)) := by
  obtain ⟨o4, vv, hd, h1⟩ := diff_go hp hn (v := v) hh
  rw [← hd]
  refine runP_ret rfl ?_
  show ∃ e, d__law_differences [.v (I p), .w (.l ((tab n v).map T.d)), .v (I h), .n, .n, .n] = _
  unfold d__law_differences
  exact ret_seq diff_st (ret_seq h1 ⟨_, diff_end⟩)
end K27
namespace K27
open PySem PySem.Spec L2 Z
open PyProof.Rows hiding St
abbrev lst (zs : List Int) : T := .l ((zs.map D.int).map T.d)
def P1 : List Int := [3, 5, 7, 11, 13, 17, 19, 23, 29, 31, 37, 41, 43, 47, 53, 59, 61, 67, 71, 73, 79, 83, 89, 97, 101, 103]
def P2 : List Int := [107, 109, 113, 127, 131, 137, 139, 149, 151, 157, 163, 167, 173, 179, 181, 191, 193, 197]
def P3 : List Int := [199, 211, 223, 227, 229, 233, 239, 241, 251, 3, 5, 7, 11]
theorem draw_ok' {ns : List Int} (hl : ns.length ≤ 63) {s : T} (hs : Stt ns s) {m : Int} (h0 : 0 < m) (h1 : m < 1000000000) : ∃ v s', 0 ≤ v ∧ v < m ∧ F__law_draw s [I m] = .ok (I v) s' ∧ Stt ns s' := draw_ok hl hs h0 h1
/-- the look at every weight -/
def iloop : En → SR := (fFor (kName 9) (mIt (m2 fAdd (lft (gLR1 (g2 fAdd (vN 4) (kI 1)))) (mOf mkLst (mCons (mCallM 1 F__law_draw (hN 3 hNil)) (mCons (lft (g2 fSub (vN 3) (kI 1))) mNil))))) (fIf (lft (gNot (gTru (gFn F__law_is_weight (aCons (vN 3) (aCons (vN 8) (aCons (vN 9) (aCons (gFn F_weight (aCons (vN 3) (aCons (vN 8) (aCons (vN 9) aNil)))) aNil)))))))) (fRet (lft (kB false))) fNil))
theorem iloop_ok {ns : List Int} (hl : ns.length ≤ 63) {s : T} (hs : Stt ns s) {p : Int} {t h : Nat} (hp : p ∈ prs) (ht : t < 10) (htp : (t : Int) < p) {l : List Int} (hm : ∀ m ∈ l, 1 ≤ m ∧ m ≤ (t : Int)) {a0 a2 a5 a6 a7 o9 a10 a11 : Sl} (h9 : NB o9) :
    ∃ s' o9', Stt ns s' ∧ NB o9' ∧ iloop [a0, .v s, a2, .v (I p), .v (I t), a5, a6, a7, .v (.d (.tup (l.map D.int))), o9, a10, a11] = .nx [a0, .v s', a2, .v (I p), .v (I t), a5, a6, a7, .v (.d (.tup (l.map D.int))), o9', a10, a11] := by
  obtain ⟨p1, p2⟩ := p_range hp
  obtain ⟨v, s', v0, v1, ed, hs'⟩ := draw_ok' hl hs (m := p) (by omega) (by omega)
  have hg : ∀ m ∈ l, Good p m := fun m hm' => good hp (hm m hm').1 (by have := (hm m hm').2; omega) (by have := (hm m hm').2; omega)
  have c : mCallM 1 F__law_draw (hN 3 hNil) [a0, .v s, a2, .v (I p), .v (I t), a5, a6, a7, .v (.d (.tup (l.map D.int))), o9, a10, a11] = .ok (I v) [a0, .v s', a2, .v (I p), .v (I t), a5, a6, a7, .v (.d (.tup (l.map D.int))), o9, a10, a11] :=
    callM (i := 1) (hm := hN 3 hNil) (hs := [.n 3]) (en := [a0, .v s, a2, .v (I p), .v (I t), a5, a6, a7, .v (.d (.tup (l.map D.int))), o9, a10, a11]) (en1 := [a0, .v s, a2, .v (I p), .v (I t), a5, a6, a7, .v (.d (.tup (l.map D.int))), o9, a10, a11]) (x0 := s) (x1 := s) (xs := [I p]) rfl rfl rfl rfl ed
  have c2 := gLR1_n (g := g2 fAdd (vN 4) (kI 1)) (en := [a0, .v s, a2, .v (I p), .v (I t), a5, a6, a7, .v (.d (.tup (l.map D.int))), o9, a10, a11]) (z := (t : Int) + 1) (by simp) (by omega) (by omega)
  have e1 : ((t : Int) + 1).toNat = t + 1 := by omega
  rw [e1] at c2
  have c3 : mIt (m2 fAdd (lft (gLR1 (g2 fAdd (vN 4) (kI 1)))) (mOf mkLst (mCons (mCallM 1 F__law_draw (hN 3 hNil)) (mCons (lft (g2 fSub (vN 3) (kI 1))) mNil)))) [a0, .v s, a2, .v (I p), .v (I t), a5, a6, a7, .v (.d (.tup (l.map D.int))), o9, a10, a11] = .ok ((((List.range (t + 1)).map fun i => D.int (0 + (i : Nat) * 1)) ++ [D.int v, D.int (p - 1)]).map T.d) [a0, .v s', a2, .v (I p), .v (I t), a5, a6, a7, .v (.d (.tup (l.map D.int))), o9, a10, a11] := by
    have e2 := fAdd_l (as := (List.range (t + 1)).map fun i => D.int (0 + (i : Nat) * 1)) (bs := [D.int v, D.int (p - 1)]) (by simp [most]; omega)
    rw [← rng_d] at e2
    have e2' : fAdd (.l (rng 0 1 (t + 1))) (.l [.d (.int v), .d (.int (p - 1))]) = some (.l ((((List.range (t + 1)).map fun i => D.int (0 + (i : Nat) * 1)) ++ [D.int v, D.int (p - 1)]).map T.d)) := e2
    rw [mIt_ev, m2_ev, lft_n c2, RM.bind_ok, mOf_ev, mCons_ev, c]
    simp [most, e2']
  have hx : ∀ d ∈ ((List.range (t + 1)).map fun i => D.int (0 + (i : Nat) * 1)) ++ [D.int v, D.int (p - 1)], ∃ x : Int, d = D.int x ∧ 0 ≤ x ∧ x ≤ 1000 := by
    intro d hd
    rcases List.mem_append.mp hd with hd | hd
    · obtain ⟨i, hi, rfl⟩ := List.mem_map.mp hd
      have := List.mem_range.mp hi
      exact ⟨_, rfl, by omega, by omega⟩
    · rcases List.mem_cons.mp hd with e | hd
      · exact ⟨v, e, v0, by omega⟩
      · rcases List.mem_cons.mp hd with e | hd
        · exact ⟨p - 1, e, by omega, by omega⟩
        · cases hd
  obtain ⟨en', h1, o9', ho, rfl⟩ := for_ix (v := 9) (f := (fIf (lft (gNot (gTru (gFn F__law_is_weight (aCons (vN 3) (aCons (vN 8) (aCons (vN 9) (aCons (gFn F_weight (aCons (vN 3) (aCons (vN 8) (aCons (vN 9) aNil)))) aNil)))))))) (fRet (lft (kB false))) fNil))
    (fun _ en => ∃ o9' : Sl, NB o9' ∧ en = [a0, .v s', a2, .v (I p), .v (I t), a5, a6, a7, .v (.d (.tup (l.map D.int))), o9', a10, a11]) _ c3 ⟨o9, h9, rfl⟩ (fun i hi en q => by
      obtain ⟨o, ho, rfl⟩ := q
      rw [List.getElem_map]
      have hi' : i < (((List.range (t + 1)).map fun i => D.int (0 + (i : Nat) * 1)) ++ [D.int v, D.int (p - 1)]).length := by rwa [List.length_map] at hi
      obtain ⟨x, ex, x0, x1⟩ := hx _ (List.getElem_mem hi')
      rw [ex]
      refine ⟨[a0, .v s', a2, .v (I p), .v (I t), a5, a6, a7, .v (.d (.tup (l.map D.int))), .v (I x), a10, a11], _, by simp [ho.s], .inl ?_, .v (I x), .v, rfl⟩
      have w1 := weight_ok (l := l) p1 p2 x0 x1 hg
      have w2 := is_weight_ok (l := l) p1 p2 x0 x1 hg fun m hm' => ⟨(hm m hm').1, by have := (hm m hm').2; omega⟩
      rw [fIf_f (by simp [w1, w2]), fNil_ev])
  exact ⟨s', o9', hs', ho, h1⟩
theorem oloop_ok {ns : List Int} (hl : ns.length ≤ 63) {s : T} (hs : Stt ns s) {p : Int} {t h : Nat} (hp : p ∈ prs) (ht : t < 10) (htp : (t : Int) < p) (hm : ∀ l ∈ due t h, ∀ m ∈ l, 1 ≤ m ∧ m ≤ (t : Int)) {a0 a2 a5 a7 o8 o9 a10 a11 : Sl} (h8 : NB o8) (h9 : NB o9) :
    ∃ s' o8' o9', Stt ns s' ∧ NB o9' ∧ fForN (kName 8) 6 iloop [a0, .v s, a2, .v (I p), .v (I t), a5, .v (.d (dueD t h)), a7, o8, o9, a10, a11] = .nx [a0, .v s', a2, .v (I p), .v (I t), a5, .v (.d (dueD t h)), a7, o8', o9', a10, a11] := by
  obtain ⟨en', h1, s', o8', o9', hs', _, ho, rfl⟩ := forN_ix (v := 8) (i := 6) (f := iloop) (xs := ((due t h).map fun l => D.tup (l.map D.int)).map T.d)
    (fun _ en => ∃ (s' : T) (o8' o9' : Sl), Stt ns s' ∧ NB o8' ∧ NB o9' ∧ en = [a0, .v s', a2, .v (I p), .v (I t), a5, .v (.d (dueD t h)), a7, o8', o9', a10, a11]) [a0, .v s, a2, .v (I p), .v (I t), a5, .v (.d (dueD t h)), a7, o8, o9, a10, a11] rfl rfl ⟨s, o8, o9, hs, h8, h9, rfl⟩ (fun i hi en q => by
      obtain ⟨s1, o8, o9, hs1, h8, h9, rfl⟩ := q
      have hi' : i < (due t h).length := by simpa using hi
      rw [List.getElem_map, List.getElem_map]
      obtain ⟨s2, o92, hs2, h92, e⟩ := iloop_ok (a0 := a0) (a2 := a2) (a5 := a5) (a6 := .v (.d (dueD t h))) (a7 := a7) (a10 := a10) (a11 := a11) (h := h) hl hs1 hp ht htp (l := (due t h)[i]) (hm _ (List.getElem_mem hi')) h9
      exact ⟨_, _, by simp [h8.s], .inl e, s2, _, o92, hs2, .v, h92, rfl⟩)
  exact ⟨s', o8', o9', hs', ho, h1⟩
/-! the values -/
def val (p : Int) (ls : List (List Int)) (qs : List Int) (x : Nat) : Int := tot p ls qs x % p
def vbody : En → SR := (fExpr (mApp 10 (lft (g2 fMod (gCall fInt (aCons (gCall fSum (aCons (gLc [11] (gR1 (gCall fLen (aCons (vN 6) aNil))) (kName 11) gYes (g2 fMul (gFn F_weight (aCons (vN 3) (aCons (g2 fIx (vN 6) (vN 11)) (aCons (vN 9) aNil)))) (g2 fIx (vN 7) (vN 11)))) aNil)) aNil)) (vN 3)))))
theorem gd {α : Type} {l : List α} {i : Nat} {d : α} (h : i < l.length) : l.getD i d = l[i] := by simp [List.getD, h]
theorem ix_due {t h i : Nat} (hi : i < (due t h).length) : fIx (.d (dueD t h)) (I i) = some (.d (.tup (((due t h).getD i []).map D.int))) := by
  show (atI ((due t h).map fun l => D.tup (l.map D.int)) (i : Int)).map T.d = _
  rw [atI_nat (by omega) (by simpa using hi), Int.toNat_natCast, List.getElem?_map, List.getElem?_eq_getElem hi, gd hi]; rfl
theorem ix_lst {qs : List Int} {i : Nat} (hi : i < qs.length) : fIx (lst qs) (I i) = some (I (qs.getD i 0)) := by
  rw [fIx_l_num i (by simpa using hi), List.getElem?_map, List.getElem?_map, List.getElem?_eq_getElem hi, gd hi]; rfl
theorem vbody_ok {p : Int} {t h x n : Nat} (hp : p ∈ prs) (ht : t < 10) (htp : (t : Int) < p) (hx : x < 11) (hn : n < 1000) (hd : Due t h) {qs : List Int} (hq : (due t h).length = qs.length) (hlen : (due t h).length < 1000) {v : Nat → Int} {a0 a1 a2 a4 a5 a8 : Sl} :
    vbody [a0, a1, a2, .v (I p), a4, a5, .v (.d (dueD t h)), .v (lst qs), a8, .v (I x), .v (.l ((tab n v).map T.d)), .n] = .nx [a0, a1, a2, .v (I p), a4, a5, .v (.d (dueD t h)), .v (lst qs), a8, .v (I x), .v (.l ((tab n v ++ [D.int (val p (due t h) qs x)]).map T.d)), .n] := by
  obtain ⟨p1, p2⟩ := p_range hp
  have hp0 : 0 < p := by omega
  have e := lc_rng (vs := [11]) (v := 11) (gs := gR1 (gCall fLen (aCons (vN 6) aNil))) (te := g2 fMul (gFn F_weight (aCons (vN 3) (aCons (g2 fIx (vN 6) (vN 11)) (aCons (vN 9) aNil)))) (g2 fIx (vN 7) (vN 11))) (en := [a0, a1, a2, .v (I p), a4, a5, .v (.d (dueD t h)), .v (lst qs), a8, .v (I x), .v (.l ((tab n v).map T.d)), .n]) (a := 0) (n := (due t h).length) (G := fun i => D.int (wt p ((due t h).getD i []) x * qs.getD i 0)) (by
      have e := gR1_n (g := gCall fLen (aCons (vN 6) aNil)) (en := [a0, a1, a2, .v (I p), a4, a5, .v (.d (dueD t h)), .v (lst qs), a8, .v (I x), .v (.l ((tab n v).map T.d)), .n]) (z := (due t h).length) (by simp [dueD]) (by omega) (by omega)
      rwa [Int.toNat_natCast] at e) (by omega) (fun i hi => by
      have c : (0 : Int) + (i : Int) = (i : Int) := by omega
      rw [c]
      have hg : ∀ m ∈ (due t h).getD i [], Good p m := fun m hm' => by
        rw [gd hi] at hm'
        have := hd.mem _ (List.getElem_mem hi) m hm'
        exact good hp this.1 (by omega) (by omega)
      have w1 := weight_ok (x := (x : Int)) p1 p2 (by omega) (by omega) hg
      have w2 := wt_range (p := p) (by omega) x ((due t h).getD i []) 1 (by omega) (by omega)
      have mo : MulOk (wt p ((due t h).getD i []) x) (qs.getD i 0) := small_ok (by unfold wt; omega) (by unfold wt; omega)
      have e1 := ix_due hi
      have e2 := ix_lst (qs := qs) (i := i) (by omega)
      have e2' : fIx (.l ((qs.map D.int).map T.d)) (.d (.int (i : Int))) = some (.d (.int (qs.getD i 0))) := e2
      simp only [wipeE_cons, wipeE_nil, List.set_cons_succ, List.set_cons_zero, g2_ev, gFn_ev, aCons_ev, aNil_ev, vN_ev, at_succ, at_zero, get_v, R.of_some, R.bind_ok, e1, e2', w1, fMul_i, if_pos mo])
  have e3 : asInts ((List.range (due t h).length).map fun i => D.int (wt p ((due t h).getD i []) x * qs.getD i 0)) = some ((List.range (due t h).length).map fun i => wt p ((due t h).getD i []) x * qs.getD i 0) := by
    have := asInts_map ((List.range (due t h).length).map fun i => wt p ((due t h).getD i []) x * qs.getD i 0)
    rw [List.map_map] at this
    exact this
  have e4 := tot_sum (p := p) (x := (x : Int)) (due t h) qs hq
  have e5 : lft (g2 fMod (gCall fInt (aCons (gCall fSum (aCons (gLc [11] (gR1 (gCall fLen (aCons (vN 6) aNil))) (kName 11) gYes (g2 fMul (gFn F_weight (aCons (vN 3) (aCons (g2 fIx (vN 6) (vN 11)) (aCons (vN 9) aNil)))) (g2 fIx (vN 7) (vN 11)))) aNil)) aNil)) (vN 3)) [a0, a1, a2, .v (I p), a4, a5, .v (.d (dueD t h)), .v (lst qs), a8, .v (I x), .v (.l ((tab n v).map T.d)), .n] = .ok (I (val p (due t h) qs x)) [a0, a1, a2, .v (I p), a4, a5, .v (.d (dueD t h)), .v (lst qs), a8, .v (I x), .v (.l ((tab n v).map T.d)), .n] := by
    refine lft_n ?_
    rw [g2_ev, gCall_ev, aCons_ev, gCall_ev, aCons_ev, e]
    simp only [R.bind_ok, R.of_some, aNil_ev, fSum_ev, lstOf_l, allD_map, Option.bind_some, e3, Option.map_some, fInt_i, vN_ev, at_succ, at_zero, get_v, fMod_i, if_pos hp0, e4, val]
  unfold vbody
  rw [fExpr_ev]
  have : mApp 10 (lft (g2 fMod (gCall fInt (aCons (gCall fSum (aCons (gLc [11] (gR1 (gCall fLen (aCons (vN 6) aNil))) (kName 11) gYes (g2 fMul (gFn F_weight (aCons (vN 3) (aCons (g2 fIx (vN 6) (vN 11)) (aCons (vN 9) aNil)))) (g2 fIx (vN 7) (vN 11)))) aNil)) aNil)) (vN 3))) [a0, a1, a2, .v (I p), a4, a5, .v (.d (dueD t h)), .v (lst qs), a8, .v (I x), .v (.l ((tab n v).map T.d)), .n] = .ok (.d .non) [a0, a1, a2, .v (I p), a4, a5, .v (.d (dueD t h)), .v (lst qs), a8, .v (I x), .v (.l ((tab n v ++ [D.int (val p (due t h) qs x)]).map T.d)), .n] := by
    unfold mApp
    rw [e5]
    have : n < 16777216 := by omega
    simp [tab_len, most, this]
  rw [this]
  rfl
end K27
namespace K27
open PySem PySem.Spec L2 Z
open PyProof.Rows hiding St
theorem due_few : ((List.range 10).all fun t => (List.range 3).all fun h => decide ((due t h).length < 1000 ∧ (t ≤ h ∨ 0 < (due t h).length))) = true := by decide +kernel
theorem due_lt {t h : Nat} (ht : t < 10) (hh : h < 3) : (due t h).length < 1000 := by
  have := List.all_eq_true.mp (List.all_eq_true.mp due_few t (List.mem_range.mpr ht)) h (List.mem_range.mpr hh)
  exact (of_decide_eq_true this).1
theorem oneof_ok' {ns : List Int} (hl : ns.length ≤ 63) {s : T} (hs : Stt ns s) {ds : List D} (h0 : 0 < ds.length) (h1 : ds.length < 1000000000) : ∃ d s', d ∈ ds ∧ F__law_one_of s [.l (ds.map T.d)] = .ok (.d d) s' ∧ Stt ns s' := oneof_ok hl hs h0 h1
theorem call1 {F : T → List T → RF} {a0 : Sl} {s s' x r : T} {en : En} {g : En → R T} (hg : g (a0 :: .v s :: en) = .ok x) (e : F s [x] = .ok r s') : mCallM 1 F (hO (lft g) hNil) (a0 :: .v s :: en) = .ok r (a0 :: .v s' :: en) :=
  callM (i := 1) (hm := hO (lft g) hNil) (hs := [.o x]) (en := a0 :: .v s :: en) (en1 := a0 :: .v s :: en) (x0 := s) (x1 := s) (xs := [x]) rfl (by rw [hO_ev, lft_n hg, RM.bind_ok, hNil_ev, RM.bind_ok]) rfl rfl e
theorem law_true (ns : List Int) (hl : ns.length ≤ 63) (hb : ∀ z ∈ ns, Builtin.Int.intBits z ≤ 1048576) : F_law [.d (.rol (ns.map D.int))] = .ok (.d (.bl true)) := by
  refine runP_ret rfl ?_
  generalize hscr : T.d (.rol (ns.map D.int)) = scr
  have hscr' : mkS scr = .v scr := by rw [← hscr]; rfl
  show ∃ e, d_law [mkS scr, .n, .n, .n, .n, .n, .n, .n, .n, .n, .n, .n] = _
  rw [hscr']
  unfold d_law
  have hs0 : Stt ns (St ns 0 0 0) := ⟨0, 0, 0, rfl⟩
  refine ret_seq (en1 := [.v scr, .v (St ns 0 0 0), .n, .n, .n, .n, .n, .n, .n, .n, .n, .n]) ?_ ?_
  · have e : F__law_start [.d (.rol (ns.map D.int))] = .ok (St ns 0 0 0) := start_St ns
    rw [hscr] at e
    simp [e]
  generalize St ns 0 0 0 = s0 at hs0 ⊢
  refine ret_seq (en1 := [.v scr, .v s0, .v (lst P1), .n, .n, .n, .n, .n, .n, .n, .n, .n]) rfl ?_
  refine ret_seq (en1 := [.v scr, .v s0, .v (lst (P1 ++ P2)), .n, .n, .n, .n, .n, .n, .n, .n, .n]) rfl ?_
  -- p
  obtain ⟨d, s1, hd, e1, hs1⟩ := oneof_ok' hl hs0 (ds := prs.map D.int) (by decide) (by decide)
  obtain ⟨p, hp, rfl⟩ := List.mem_map.mp hd
  refine ret_seq (en1 := [.v scr, .v s1, .v (lst (P1 ++ P2)), .v (I p), .n, .n, .n, .n, .n, .n, .n, .n]) ?_ ?_
  · rw [fSet_ev, call1 (x := lst prs) rfl e1]; rfl
  obtain ⟨p1, p2⟩ := p_range hp
  -- tellers
  obtain ⟨v, s2, v0, v1, e2, hs2⟩ := draw_ok' hl hs1 (m := min 9 (p - 1)) (by omega) (by omega)
  refine ret_seq (en1 := [.v scr, .v s2, .v (lst (P1 ++ P2)), .v (I p), .v (I (1 + v)), .n, .n, .n, .n, .n, .n, .n]) ?_ ?_
  · rw [fSet_ev, m2_ev, lft_n (x := I 1) rfl, RM.bind_ok, call1 (x := I (min 9 (p - 1))) (by simp) e2]; rfl
  obtain ⟨t, ht⟩ : ∃ t : Nat, 1 + v = (t : Int) := ⟨(1 + v).toNat, by omega⟩
  rw [ht]
  -- hidden
  obtain ⟨w, s3, w0, w1, e3, hs3⟩ := draw_ok' hl hs2 (m := min 3 (t : Int)) (by omega) (by omega)
  refine ret_seq (en1 := [.v scr, .v s3, .v (lst (P1 ++ P2)), .v (I p), .v (I t), .v (I w), .n, .n, .n, .n, .n, .n]) ?_ ?_
  · rw [fSet_ev, call1 (x := I (min 3 (t : Int))) (by simp) e3]; rfl
  obtain ⟨h, hh⟩ : ∃ h : Nat, w = (h : Int) := ⟨w.toNat, by omega⟩
  rw [hh]
  have t10 : t < 10 := by omega
  have h3 : h < 3 := by omega
  have hlt : h < t := by omega
  have htp : (t : Int) < p := by omega
  have D0 := dues t10 h3 hlt
  have few := due_lt t10 h3
  refine ret_seq (en1 := [.v scr, .v s3, .v (lst (P1 ++ P2)), .v (I p), .v (I t), .v (I h), .v (.d (dueD t h)), .n, .n, .n, .n, .n]) ?_ ?_
  · have e := D0.law; simp [e]
  refine ret_if_f ?_ ?_
  · have ea := D0.own
    have eb := D0.same
    simp only [gNot_ev, gTru_ev, gFn_ev, aCons_ev, aNil_ev, vN_ev, at_succ, at_zero, get_v, R.of_some, R.bind_ok, ea, eb, tru_b]; rfl
  -- pieces
  have hp7 : ∃ (s4 : T) (qs : List Int), Stt ns s4 ∧ (due t h).length = qs.length ∧ fSet 7 (mLc [8] (lft (gIt (gPur (vN 6)))) (kName 8) gYes (mCallM 1 F__law_draw (hN 3 hNil))) [.v scr, .v s3, .v (lst (P1 ++ P2)), .v (I p), .v (I t), .v (I h), .v (.d (dueD t h)), .n, .n, .n, .n, .n] = .nx [.v scr, .v s4, .v (lst (P1 ++ P2)), .v (I p), .v (I t), .v (I h), .v (.d (dueD t h)), .v (lst qs), .n, .n, .n, .n] := by
    obtain ⟨ys, en', e, el, ey, s4, hs4, rfl⟩ := lcM_inv (vs := [8]) (v := 8) (te := mCallM 1 F__law_draw (hN 3 hNil)) (fun en => ∃ s4, Stt ns s4 ∧ en = [.v scr, .v s4, .v (lst (P1 ++ P2)), .v (I p), .v (I t), .v (I h), .v (.d (dueD t h)), .n, .n, .n, .n, .n]) (fun y => ∃ z, y = I z ∧ True) (fun d en q => by
      obtain ⟨s4, hs4, rfl⟩ := q
      obtain ⟨v, s', v0, v1, ed, hs'⟩ := draw_ok' hl hs4 (m := p) (by omega) (by omega)
      refine ⟨[.v scr, .v s4, .v (lst (P1 ++ P2)), .v (I p), .v (I t), .v (I h), .v (.d (dueD t h)), .n, .v (.d d), .n, .n, .n], I v, [.v scr, .v s', .v (lst (P1 ++ P2)), .v (I p), .v (I t), .v (I h), .v (.d (dueD t h)), .n, .v (.d d), .n, .n, .n], rfl, ?_, ⟨v, rfl, trivial⟩, s', hs', rfl⟩
      exact callM (i := 1) (hm := hN 3 hNil) (hs := [.n 3]) (en := [.v scr, .v s4, .v (lst (P1 ++ P2)), .v (I p), .v (I t), .v (I h), .v (.d (dueD t h)), .n, .v (.d d), .n, .n, .n]) (en1 := [.v scr, .v s4, .v (lst (P1 ++ P2)), .v (I p), .v (I t), .v (I h), .v (.d (dueD t h)), .n, .v (.d d), .n, .n, .n]) (x0 := s4) (x1 := s4) (xs := [I p]) rfl rfl rfl rfl ed) ((due t h).map fun l => D.tup (l.map D.int)) [.v scr, .v s3, .v (lst (P1 ++ P2)), .v (I p), .v (I t), .v (I h), .v (.d (dueD t h)), .n, .n, .n, .n, .n] ⟨s3, hs3, rfl⟩
    obtain ⟨qs, rfl, _⟩ := ints_of ey
    refine ⟨s4, qs, hs4, by simpa using el.symm, ?_⟩
    have hlen : ((qs.map D.int).map T.d).length < most := by rw [el, List.length_map]; unfold most; omega
    rw [fSet_ev]
    have : mLc [8] (lft (gIt (gPur (vN 6)))) (kName 8) gYes (mCallM 1 F__law_draw (hN 3 hNil)) [.v scr, .v s3, .v (lst (P1 ++ P2)), .v (I p), .v (I t), .v (I h), .v (.d (dueD t h)), .n, .n, .n, .n, .n] = .ok (lst qs) [.v scr, .v s4, .v (lst (P1 ++ P2)), .v (I p), .v (I t), .v (I h), .v (.d (dueD t h)), .n, .n, .n, .n, .n] := by
      unfold mLc
      rw [lft_n (x := ((due t h).map fun l => D.tup (l.map D.int)).map T.d) rfl, RM.bind_ok, e, mcalm_ok, RM.bind_ok, if_pos hlen]
    rw [this]; rfl
  obtain ⟨s4, qs, hs4, hq, e7⟩ := hp7
  refine ret_seq e7 ?_
  obtain ⟨s5, o8, o9, hs5, ho9, e8⟩ := oloop_ok (a0 := .v scr) (a2 := .v (lst (P1 ++ P2))) (a5 := .v (I h)) (a7 := .v (lst qs)) (a10 := .n) (a11 := .n) hl hs4 hp t10 htp D0.mem .n .n
  refine ret_seq e8 ?_
  refine ret_seq (en1 := [.v scr, .v s5, .v (lst (P1 ++ P2)), .v (I p), .v (I t), .v (I h), .v (.d (dueD t h)), .v (lst qs), o8, o9, .v (.l []), .n]) rfl ?_
  -- the values
  have e10 := gR1_n (g := g2 fAdd (vN 4) (kI 1)) (en := [.v scr, .v s5, .v (lst (P1 ++ P2)), .v (I p), .v (I t), .v (I h), .v (.d (dueD t h)), .v (lst qs), o8, o9, .v (.l []), .n]) (z := (t : Int) + 1) (by simp) (by omega) (by omega)
  rw [show ((t : Int) + 1).toNat = t + 1 by omega] at e10
  obtain ⟨en', e11, hn, o9', ho', rfl⟩ := for_ix (v := 9) (f := vbody) (fun i en => i ≤ t + 1 ∧ ∃ o9' : Sl, NB o9' ∧ en = [.v scr, .v s5, .v (lst (P1 ++ P2)), .v (I p), .v (I t), .v (I h), .v (.d (dueD t h)), .v (lst qs), o8, o9', .v (.l ((tab i (val p (due t h) qs)).map T.d)), .n]) _ (lft_n e10) ⟨by omega, o9, ho9, rfl⟩ (fun i hi en q => by
    obtain ⟨_, o, ho, rfl⟩ := q
    rw [rng_at hi, show (0 : Int) + (i : Int) = (i : Int) by omega]
    rw [rng_len] at hi
    have e := vbody_ok (a0 := .v scr) (a1 := .v s5) (a2 := .v (lst (P1 ++ P2))) (a4 := .v (I t)) (a5 := .v (I h)) (a8 := o8) hp t10 htp (x := i) (n := i) (by omega) (by omega) D0 hq few (v := val p (due t h) qs)
    rw [← tab_snoc] at e
    exact ⟨_, _, by simp [ho.s], .inl e, by omega, .v (I i), .v, rfl⟩)
  refine ret_seq e11 ?_
  rw [rng_len]
  have hp0 : 0 < p := by omega
  obtain hpol := pol_tot (p := p) h3 (due t h) qs hq D0.len
  have hv : ∀ x : Nat, ∃ k, val p (due t h) qs x = tot p (due t h) qs x + p * k := fun x => dvd_mod _ _
  refine ret_if_f ?_ ?_
  · have e := tab_ix (n := t + 1) (i := 0) (v := val p (due t h) qs) (by omega)
    have e' : fIx (.l ((tab (t + 1) (val p (due t h) qs)).map T.d)) (.d (.int 0)) = some (.d (.int (val p (due t h) qs 0))) := e
    have ez : val p (due t h) qs 0 = qs.sum % p := by
      obtain ⟨b, c, _, _, hx⟩ := hpol
      obtain ⟨k, ek⟩ := hx 0
      unfold val
      show tot p (due t h) qs 0 % p = _
      rw [ek, Int.mul_zero, Int.mul_zero, Int.mul_zero, Int.add_zero, Int.add_zero, Int.add_mul_emod_self_left]
    simp only [gT_ev, g2_ev, gCall_ev, aCons_ev, aNil_ev, vN_ev, kI_ev, at_succ, at_zero, get_v, R.of_some, R.bind_ok, e', fSum_ev, lstOf_l, allD_map, Option.bind_some, asInts_map, Option.map_some, fInt_i, fMod_i, if_pos hp0, fNe_i, tst_b, ez, decide_true, Bool.not_true]
  have hdz := difs_zero (p := p) h3 hpol hv
  have ed := differences_ok hp0 (n := t + 1) (by omega) (v := val p (due t h) qs) (h := h + 1) (by omega)
  have ed' : F__law_differences [.d (.int p), .l ((tab (t + 1) (val p (due t h) qs)).map T.d), .d (.int ((h : Int) + 1))] = .ok (.l ((tab (t + 1 - (h + 1)) (difs p (h + 1) (val p (due t h) qs))).map T.d)) := ed
  have et : ∀ (L : List Nat), trs (L.map fun i => D.int (difs p (h + 1) (val p (due t h) qs) i)) = some (L.map fun _ => false) := by
    intro L
    induction L with
    | nil => rfl
    | cons i L ih =>
      rw [List.map_cons, trs, ih, hdz]; rfl
  have ef : ∀ (L : List Nat), (L.map fun _ => false).any id = false := by
    intro L
    induction L with
    | nil => rfl
    | cons i L ih => rw [List.map_cons, List.any_cons, ih]; rfl
  refine ret_lft ?_
  simp only [gNotV_ev, gCall_ev, aCons_ev, aNil_ev, gFn_ev, g2_ev, vN_ev, kI_ev, at_succ, at_zero, get_v, R.of_some, R.bind_ok, fAdd_i, ed', fAny_ev, lstOf_l, allD_map, Option.bind_some]
  simp only [tab, et, R.of_some, R.bind_ok, Option.map_some, ef, tru_b, Bool.not_false]
end K27
open PySem PySem.W PyProof.Rows
set_option maxHeartbeats 0 in
theorem PySem.Challenge.cw_countunseen_k27_sets_and_weights_holds : PySem.Challenge.rw_countunseen_k27_sets_and_weights.Holds := by
  w_on; o_law; k_head; (case hw => w_witness2)
  k_fill
  refine L2.walk_ofB (l := PySem.Challenge.rw_countunseen_k27_sets_and_weights) (n := 63) (k := 6) (x := "script") (CX := fun w => L2.CX PySem.Challenge.rw_countunseen_k27_sets_and_weights.prog w) (sp := fun w => Z.spL _ K27.F_law) rfl (by decide) rfl ⟨rfl, by decide, by decide⟩ (fun w h Y => PySem.W.kIn_of Y) ?F (fun w H a ns hl hb hO hS => Z.law_spL hO hS (K27.law_true ns hl hb)) (fun w H s e s2 h => Z.cx_false h)
  case F =>
    intro w mg fa h KX G hmg
    refine' K27.all_mk KX G hmg ?a0 ?l0 ?c0 ?k0 ?a1 ?l1 ?c1 ?k1 ?a2 ?l2 ?c2 ?k2 ?a3 ?l3 ?c3 ?k3 ?a4 ?l4 ?c4 ?k4 ?a5 ?l5 ?c5 ?k5 ?a6 ?l6 ?c6 ?k6 ?a7 ?l7 ?c7 ?k7 ?a8 ?l8 ?c8 ?k8 ?a9 ?l9 ?c9 ?k9 ?a10 ?l10 ?c10 ?k10 ?a11 ?l11 ?c11 ?k11 ?a12 ?l12 ?c12 ?k12 ?y_abs ?y_all ?y_any ?y_bool ?y_int ?y_isinstance ?y_len ?y_list ?y_min ?y_range ?y_str ?y_sum ?y_tuple
    (case a0 => k_is); (case l0 => k_is); (case c0 => k_is); (case k0 => k_is); (case a1 => k_is); (case l1 => k_is); (case c1 => k_is); (case k1 => k_is); (case a2 => k_is); (case l2 => k_is); (case c2 => k_is); (case k2 => k_is); (case a3 => k_is); (case l3 => k_is); (case c3 => k_is); (case k3 => k_is); (case a4 => k_is); (case l4 => k_is); (case c4 => k_is); (case k4 => k_is); (case a5 => k_is); (case l5 => k_is); (case c5 => k_is); (case k5 => k_is); (case a6 => k_is); (case l6 => k_is); (case c6 => k_is); (case k6 => k_is); (case a7 => k_is); (case l7 => k_is); (case c7 => k_is); (case k7 => k_is); (case a8 => k_is); (case l8 => k_is); (case c8 => k_is); (case k8 => k_is); (case a9 => k_is); (case l9 => k_is); (case c9 => k_is); (case k9 => k_is); (case a10 => k_is); (case l10 => k_is); (case c10 => k_is); (case k10 => k_is); (case a11 => k_is); (case l11 => k_is); (case c11 => k_is); (case k11 => k_is); (case a12 => k_is); (case l12 => k_is); (case c12 => k_is); (case k12 => k_is); (case y_abs => k_is); (case y_all => k_is); (case y_any => k_is); (case y_bool => k_is); (case y_int => k_is); (case y_isinstance => k_is); (case y_len => k_is); (case y_list => k_is); (case y_min => k_is); (case y_range => k_is); (case y_str => k_is); (case y_sum => k_is); (case y_tuple => k_is)
