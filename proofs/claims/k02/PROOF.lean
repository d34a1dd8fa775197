import PyProof.Rows.All
import PySem.Challenge.RW_countunseen_k02_combinations
import HandS.ForMost
import HandS.ForExc
import HandS.TupAny
import HandS.Flow
import HandS.IsInst
import HandS.EndBits
import HandS.Wide
import HandS.Style
import HandS.Conv
import HandS.RevRange
import HandS.Walk
import HandS.CallSlots
import HandS.Zip
import PyProof.Draws
import HandS.Rev
import HandS.TupMul
import HandS.SortInts
import KE.KDictZip
import KE.KItemsList
import HandS.ListItems
set_option Elab.async false
set_option linter.all false
set_option maxRecDepth 100000
set_option maxHeartbeats 4000000
/-! Z: what a def of the program computes, as a plain function. Data, things, views, ownership. -/
namespace Z
open PySem PySem.Spec L2
open PyProof.Rows hiding St

/-- data that never change -/
inductive D where
  | non | bl (b : Bool) | int (i : Int) | str (s : Str) | tup (ds : List D) | rol (ds : List D)
/-- a datum, or a list that may change -/
inductive T where
  | d (d : D) | l (xs : List T)
/-- tuples and frozen things stay -/
def Pst (H H' : Hp) : Prop := (∀ a vs, H a = some (.tup vs) → H' a = some (.tup vs)) ∧ ∀ a o u, H a = some (.frz o u) → H' a = some (.frz o u)
theorem Pst.refl (H : Hp) : Pst H H := ⟨fun _ _ h => h, fun _ _ _ h => h⟩
theorem Pst.trans {H H1 H2 : Hp} (a : Pst H H1) (b : Pst H1 H2) : Pst H H2 := ⟨fun c o h => b.1 c o (a.1 c o h), fun c o u h => b.2 c o u (a.2 c o u h)⟩
theorem Pst.of {H H' : Hp} (s : Same H H') : Pst H H' := ⟨fun a vs h => s a _ h, fun a o u h => s a _ h⟩
theorem sqT_pst {K : PySem.W.Frag} {H H' : Hp} {a : Addr} {xs : List V} (p : Pst H H') (h : SqT K H a xs) : SqT K H' a xs := by
  rcases h with (h | ⟨o, h⟩) | h
  · exact .inl (.inl (p.1 _ _ h))
  · exact .inl (.inr ⟨o, p.2 _ _ _ h⟩)
  · exact .inr h
/-- a list that nobody writes -/
def RO (K : PySem.W.Frag) (H : Hp) (a : Addr) (vs : List V) : Prop := ∀ H', Pst H H' → SqL K H' a vs
theorem RO.mono {K : PySem.W.Frag} {H H' : Hp} {a : Addr} {xs : List V} (p : Pst H H') (h : RO K H a xs) : RO K H' a xs := fun H2 q => h H2 (p.trans q)
mutual
inductive RepD (K : PySem.W.Frag) (H : Hp) : V → D → Prop
  | non : RepD K H .non .non
  | bl (b : Bool) : RepD K H (.bl b) (.bl b)
  | int (i : Int) : RepD K H (.int i) (.int i)
  | str (s : Str) : RepD K H (.str s) (.str s)
  | tup {a : Addr} {vs : List V} {ds : List D} : SqT K H a vs → RepDs K H vs ds → RepD K H (.ref a) (.tup ds)
  | rol {a : Addr} {vs : List V} {ds : List D} : RO K H a vs → RepDs K H vs ds → RepD K H (.ref a) (.rol ds)
inductive RepDs (K : PySem.W.Frag) (H : Hp) : List V → List D → Prop
  | nil : RepDs K H [] []
  | cons {v : V} {vs : List V} {d : D} {ds : List D} : RepD K H v d → RepDs K H vs ds → RepDs K H (v :: vs) (d :: ds)
end
mutual
theorem RepD.mono {K : PySem.W.Frag} {H H' : Hp} (p : Pst H H') : ∀ {v : V} {d : D}, RepD K H v d → RepD K H' v d
  | _, _, .non => .non
  | _, _, .bl b => .bl b
  | _, _, .int i => .int i
  | _, _, .str s => .str s
  | _, _, .tup h r => .tup (sqT_pst p h) (RepDs.mono p r)
  | _, _, .rol h r => .rol (h.mono p) (RepDs.mono p r)
theorem RepDs.mono {K : PySem.W.Frag} {H H' : Hp} (p : Pst H H') : ∀ {vs : List V} {ds : List D}, RepDs K H vs ds → RepDs K H' vs ds
  | _, _, .nil => .nil
  | _, _, .cons r t => .cons (RepD.mono p r) (RepDs.mono p t)
end
/-! a thing, and the addresses of its lists -/
mutual
inductive Own (K : PySem.W.Frag) (H : Hp) : V → T → List Addr → Prop
  | d {v : V} {d : D} : RepD K H v d → Own K H v (.d d) []
  | l {a : Addr} {vs : List V} {xs : List T} {F : List Addr} : H a = some (.lst vs) → Owns K H vs xs F → Own K H (.ref a) (.l xs) (a :: F)
inductive Owns (K : PySem.W.Frag) (H : Hp) : List V → List T → List Addr → Prop
  | nil : Owns K H [] [] []
  | cons {v : V} {vs : List V} {x : T} {xs : List T} {F G : List Addr} : Own K H v x F → Owns K H vs xs G → Owns K H (v :: vs) (x :: xs) (F ++ G)
end
mutual
theorem Own.frame {K : PySem.W.Frag} {H H' : Hp} (p : Pst H H') : ∀ {v : V} {x : T} {F : List Addr}, Own K H v x F → (∀ a ∈ F, ∀ o, H a = some o → H' a = some o) → Own K H' v x F
  | _, _, _, .d r, _ => .d (r.mono p)
  | _, _, _, .l h r, k => .l (k _ List.mem_cons_self _ h) (Owns.frame p r fun a m => k a (List.mem_cons_of_mem _ m))
theorem Owns.frame {K : PySem.W.Frag} {H H' : Hp} (p : Pst H H') : ∀ {vs : List V} {xs : List T} {F : List Addr}, Owns K H vs xs F → (∀ a ∈ F, ∀ o, H a = some o → H' a = some o) → Owns K H' vs xs F
  | _, _, _, .nil, _ => .nil
  | _, _, _, .cons r t, k => .cons (Own.frame p r fun a m => k a (List.mem_append_left _ m)) (Owns.frame p t fun a m => k a (List.mem_append_right _ m))
end
mutual
theorem Own.dom {K : PySem.W.Frag} {H : Hp} : ∀ {v : V} {x : T} {F : List Addr}, Own K H v x F → ∀ a ∈ F, ∃ vs, H a = some (.lst vs)
  | _, _, _, .d _, a, m => absurd m List.not_mem_nil
  | _, _, _, .l h r, a, m => (List.mem_cons.mp m).elim (fun e => ⟨_, e ▸ h⟩) (Owns.dom r a)
theorem Owns.dom {K : PySem.W.Frag} {H : Hp} : ∀ {vs : List V} {xs : List T} {F : List Addr}, Owns K H vs xs F → ∀ a ∈ F, ∃ vs, H a = some (.lst vs)
  | _, _, _, .nil, a, m => absurd m List.not_mem_nil
  | _, _, _, .cons r t, a, m => (List.mem_append.mp m).elim (Own.dom r a) (Owns.dom t a)
end
theorem Own.mono {K : PySem.W.Frag} {H H' : Hp} (s : Same H H') {v : V} {x : T} {F : List Addr} (h : Own K H v x F) : Own K H' v x F := h.frame (.of s) fun a _ o e => s a o e
theorem Owns.mono {K : PySem.W.Frag} {H H' : Hp} (s : Same H H') {vs : List V} {xs : List T} {F : List Addr} (h : Owns K H vs xs F) : Owns K H' vs xs F := h.frame (.of s) fun a _ o e => s a o e
theorem Owns.append {K : PySem.W.Frag} {H : Hp} : ∀ {vs us : List V} {xs ys : List T} {F G : List Addr}, Owns K H vs xs F → Owns K H us ys G → Owns K H (vs ++ us) (xs ++ ys) (F ++ G)
  | _, _, _, _, _, _, .nil, h => h
  | _, _, _, _, _, _, .cons r t, h => by
    rw [List.append_assoc]
    exact .cons r (Owns.append t h)
theorem Owns.length {K : PySem.W.Frag} {H : Hp} : ∀ {vs : List V} {xs : List T} {F : List Addr}, Owns K H vs xs F → vs.length = xs.length
  | _, _, _, .nil => rfl
  | _, _, _, .cons _ t => congrArg Nat.succ (Owns.length t)
theorem RepDs.length {K : PySem.W.Frag} {H : Hp} : ∀ {vs : List V} {ds : List D}, RepDs K H vs ds → vs.length = ds.length
  | _, _, .nil => rfl
  | _, _, .cons _ t => congrArg Nat.succ (RepDs.length t)
theorem RepDs.owns {K : PySem.W.Frag} {H : Hp} : ∀ {vs : List V} {ds : List D}, RepDs K H vs ds → Owns K H vs (ds.map T.d) []
  | _, _, .nil => .nil
  | _, _, .cons r t => .cons (.d r) (RepDs.owns t)
theorem RepDs.append {K : PySem.W.Frag} {H : Hp} : ∀ {vs us : List V} {ds es : List D}, RepDs K H vs ds → RepDs K H us es → RepDs K H (vs ++ us) (ds ++ es)
  | _, _, _, _, .nil, h => h
  | _, _, _, _, .cons r t, h => .cons r (RepDs.append t h)
theorem RepDs.get {K : PySem.W.Frag} {H : Hp} : ∀ {vs : List V} {ds : List D} {i : Nat} {d : D}, RepDs K H vs ds → ds[i]? = some d → ∃ v, vs[i]? = some v ∧ RepD K H v d
  | _, _, _, _, .nil, e => by simp at e
  | _, _, 0, _, .cons r _, e => by simp at e; subst e; exact ⟨_, rfl, r⟩
  | _, _, i + 1, d, .cons _ t, e => by
    obtain ⟨v, h1, h2⟩ := RepDs.get (i := i) (d := d) t (by simpa using e)
    exact ⟨v, by simpa using h1, h2⟩
theorem RepDs.take {K : PySem.W.Frag} {H : Hp} : ∀ {vs : List V} {ds : List D} (n : Nat), RepDs K H vs ds → RepDs K H (vs.take n) (ds.take n)
  | _, _, 0, _ => .nil
  | _, _, _ + 1, .nil => .nil
  | _, _, n + 1, .cons r t => .cons r (RepDs.take n t)
theorem RepDs.drop {K : PySem.W.Frag} {H : Hp} : ∀ {vs : List V} {ds : List D} (n : Nat), RepDs K H vs ds → RepDs K H (vs.drop n) (ds.drop n)
  | _, _, 0, r => r
  | _, _, _ + 1, .nil => .nil
  | _, _, n + 1, .cons _ t => RepDs.drop n t
theorem Owns.get {K : PySem.W.Frag} {H : Hp} : ∀ {vs : List V} {xs : List T} {F : List Addr} {i : Nat} {x : T}, Owns K H vs xs F → xs[i]? = some x → ∃ v G, vs[i]? = some v ∧ Own K H v x G ∧ ∀ a ∈ G, a ∈ F
  | _, _, _, _, _, .nil, e => by simp at e
  | _, _, _, 0, _, .cons r _, e => by simp at e; subst e; exact ⟨_, _, rfl, r, fun a m => List.mem_append_left _ m⟩
  | _, _, _, i + 1, x, .cons _ t, e => by
    obtain ⟨v, G, h1, h2, h3⟩ := Owns.get (i := i) (x := x) t (by simpa using e)
    exact ⟨v, G, by simpa using h1, h2, fun a m => List.mem_append_right _ (h3 a m)⟩
/-- a list of things that are all data -/
def allD : List T → Option (List D)
  | [] => some []
  | .d d :: r => (allD r).map (d :: ·)
  | .l _ :: _ => none
@[simp] theorem allD_map : ∀ ds : List D, allD (ds.map T.d) = some ds
  | [] => rfl
  | d :: r => by rw [List.map_cons, allD, allD_map r]; rfl
theorem allD_eq : ∀ {xs : List T} {ds : List D}, allD xs = some ds → xs = ds.map T.d
  | [], ds, h => by cases h; rfl
  | .d d :: r, ds, h => by
    unfold allD at h
    cases e : allD r with
    | none => rw [e] at h; cases h
    | some es => rw [e] at h; cases h; rw [allD_eq e]; rfl
  | .l _ :: _, ds, h => by cases h
theorem Owns.data {K : PySem.W.Frag} {H : Hp} : ∀ {vs : List V} {ds : List D} {F : List Addr}, Owns K H vs (ds.map T.d) F → RepDs K H vs ds ∧ F = []
  | _, [], _, .nil => ⟨.nil, rfl⟩
  | _, d :: ds, _, .cons (.d r) t => let ⟨a, b⟩ := Owns.data t; ⟨.cons r a, by rw [b]; rfl⟩

/-! ### the frame's things -/
inductive Sl where
  /-- nothing; our own; seen, not ours; lent to us, to be given back -/
  | n | v (x : T) | w (x : T) | b (x : T)
abbrev En := List Sl
def Sl.get : Sl → Option T
  | .n => none
  | .v x => some x
  | .w x => some x
  | .b x => some x
def at_ (en : En) (i : Nat) : Option T := match en[i]? with
  | some s => s.get
  | none => none
/-- an error: its class's name, its fields -/
structure Exc where
  tag : Str
  fl : Option (List (Str × D))
inductive R (α : Type) where
  | ok (a : α) | ex (c : Exc) | no
def R.bind {α β : Type} (r : R α) (f : α → R β) : R β := match r with
  | .ok a => f a
  | .ex c => .ex c
  | .no => .no
def R.of {α : Type} : Option α → R α
  | some a => .ok a
  | none => .no
/-- a datum alone -/
def R.pur : R T → R T
  | .ok (.d d) => .ok (.d d)
  | .ok (.l _) => .no
  | .ex c => .ex c
  | .no => .no
@[simp] theorem R.bind_ok {α β : Type} (a : α) (f : α → R β) : (R.ok a).bind f = f a := Eq.trans (b := f a) (Eq.refl _) (Eq.refl _)
@[simp] theorem R.bind_ex {α β : Type} (c : Exc) (f : α → R β) : (R.ex c).bind f = .ex c := rfl
@[simp] theorem R.bind_no {α β : Type} (f : α → R β) : (R.no).bind f = .no := rfl
@[simp] theorem R.of_some {α : Type} (a : α) : R.of (some a) = .ok a := rfl
@[simp] theorem R.of_none {α : Type} : R.of (none : Option α) = .no := rfl
@[simp] theorem R.pur_d (d : D) : R.pur (.ok (.d d)) = .ok (.d d) := rfl
@[simp] theorem R.pur_ex (c : Exc) : R.pur (.ex c) = .ex c := rfl

/-- each name's thing is seen -/
structure VEn (K : PySem.W.Frag) (H : Hp) (σ : St) (en : En) : Prop where
  len : en.length ≤ σ.length
  see : ∀ i x, at_ en i = some x → ∃ v G, σ[i]? = some (some v) ∧ Own K H v x G
theorem VEn.mono {K : PySem.W.Frag} {H H' : Hp} {σ : St} {en : En} (s : Same H H') (h : VEn K H σ en) : VEn K H' σ en := ⟨h.len, fun i x e =>
  let ⟨v, G, h1, h2⟩ := h.see i x e
  ⟨v, G, h1, h2.mono s⟩⟩
/-- how an error stands -/
def ExIs (K : PySem.W.Frag) (mg : Str → Option Value) (H : Hp) (c : Exc) (cls : Value) (dx : Option Addr) : Prop := mg c.tag = some cls ∧ match c.fl with
  | none => dx = none
  | some fs => ∃ a vs, dx = some a ∧ H a = some (.xd ((fs.map (·.1)).zip vs)) ∧ RepDs K H vs (fs.map (·.2))
theorem ExIs.mono {K : PySem.W.Frag} {mg : Str → Option Value} {H H' : Hp} {c : Exc} {cls : Value} {dx : Option Addr} (s : Same H H') (h : ExIs K mg H c cls dx) : ExIs K mg H' c cls dx := by
  obtain ⟨h1, h2⟩ := h
  refine ⟨h1, ?_⟩
  revert h2
  cases c.fl with
  | none => exact id
  | some fs => exact fun ⟨a, vs, e, h, r⟩ => ⟨a, vs, e, s a _ h, r.mono (.of s)⟩
/-- all new -/
def Fresh (H : Hp) (G : List Addr) : Prop := G.Nodup ∧ ∀ a ∈ G, H a = none
theorem Fresh.nil {H : Hp} : Fresh H [] := ⟨List.nodup_nil, fun _ h => absurd h List.not_mem_nil⟩

section
variable (X : Cx) (W : WX)
def XQ (σ : St) (H : Hp) (c : Exc) : Prop := ∀ cls dx H', Same H H' → ExIs X.K X.mg H' c cls dx → W cls dx σ H'
def VQ (σ : St) (H : Hp) (Q : VK) : R T → Prop
  | .ok x => ∀ v H' G, Same H H' → Own X.K H' v x G → Q v H'
  | .ex c => XQ X W σ H c
  | .no => False
def NQ (σ : St) (H : Hp) (Q : VK) : R T → Prop
  | .ok x => ∀ v H' G, Same H H' → Own X.K H' v x G → Fresh H G → Q v H'
  | .ex c => XQ X W σ H c
  | .no => False
def TQ (σ : St) (H : Hp) (Q : Bool → Hp → Prop) : R Bool → Prop
  | .ok b => ∀ H', Same H H' → Q b H'
  | .ex c => XQ X W σ H c
  | .no => False
/-- many things, seen -/
inductive Vws (K : PySem.W.Frag) (H : Hp) : List V → List T → Prop
  | nil : Vws K H [] []
  | cons {v : V} {vs : List V} {x : T} {xs : List T} {G : List Addr} : Own K H v x G → Vws K H vs xs → Vws K H (v :: vs) (x :: xs)
def AQ (σ : St) (H : Hp) (Q : List V → Hp → Prop) : R (List T) → Prop
  | .ok xs => ∀ vs H', Same H H' → Vws X.K H' vs xs → Q vs H'
  | .ex c => XQ X W σ H c
  | .no => False
def BQ (σ : St) (H : Hp) (Q : List V → Hp → Prop) : R (List T) → Prop
  | .ok xs => ∀ vs H' F, Same H H' → Owns X.K H' vs xs F → Fresh H F → Q vs H'
  | .ex c => XQ X W σ H c
  | .no => False
def SpV (g : En → R T) (t : TE) : Prop := ∀ σ H en Q, VEn X.K H σ en → VQ X W σ H Q (g en) → t σ H Q
def SpN (g : En → R T) (t : TE) : Prop := ∀ σ H en Q, VEn X.K H σ en → NQ X W σ H Q (g en) → t σ H Q
def SpT (g : En → R Bool) (t : TT) : Prop := ∀ σ H en Q, VEn X.K H σ en → TQ X W σ H Q (g en) → t σ H Q
def SpA (g : En → R (List T)) (t : TA) : Prop := ∀ σ H en Q, VEn X.K H σ en → AQ X W σ H Q (g en) → t σ H Q
def SpB (g : En → R (List T)) (t : TA) : Prop := ∀ σ H en Q, VEn X.K H σ en → BQ X W σ H Q (g en) → t σ H Q
/-- an expression that is seen; that is new (or a datum); a test; arguments seen; arguments new -/
def PV (e : Expr) (g : En → R T) : Prop := ∃ t, PE X e t ∧ SpV X W g t
def PN (e : Expr) (g : En → R T) : Prop := ∃ t, PE X e t ∧ SpN X W g t
def PC (e : Expr) (g : En → R Bool) : Prop := ∃ t, PT X e t ∧ SpT X W g t
def PWc (e : Expr) (g : En → R Bool) : Prop := ∃ t, PW X e t ∧ SpT X W g t
def PAv (es : List Expr) (g : En → R (List T)) : Prop := ∃ t, PA X es t ∧ SpA X W g t
def PAn (es : List Expr) (g : En → R (List T)) : Prop := ∃ t, PA X es t ∧ SpB X W g t
end
theorem Vws.mono {K : PySem.W.Frag} {H H' : Hp} (s : Same H H') : ∀ {vs : List V} {xs : List T}, Vws K H vs xs → Vws K H' vs xs
  | _, _, .nil => .nil
  | _, _, .cons h t => .cons (h.mono s) (Vws.mono s t)
theorem Vws.length {K : PySem.W.Frag} {H : Hp} : ∀ {vs : List V} {xs : List T}, Vws K H vs xs → vs.length = xs.length
  | _, _, .nil => rfl
  | _, _, .cons _ t => congrArg Nat.succ (Vws.length t)
theorem Owns.vws {K : PySem.W.Frag} {H : Hp} : ∀ {vs : List V} {xs : List T} {F : List Addr}, Owns K H vs xs F → Vws K H vs xs
  | _, _, _, .nil => .nil
  | _, _, _, .cons h t => .cons h (Owns.vws t)
theorem XQ.mono {X : Cx} {W : WX} {σ : St} {H H' : Hp} {c : Exc} (s : Same H H') (h : XQ X W σ H c) : XQ X W σ H' c := fun cls dx H2 s2 e => h cls dx H2 (s.trans s2) e
section
variable {X : Cx} {W : WX} {e : Expr} {g : En → R T}
theorem VQ.nq {σ : St} {H : Hp} {Q : VK} {r : R T} (h : VQ X W σ H Q r) : NQ X W σ H Q r := by
  cases r with
  | ok x => exact fun v H' G s o _ => h v H' G s o
  | ex c => exact h
  | no => exact h
theorem PN.v (h : PN X W e g) : PV X W e g := let ⟨t, p, s⟩ := h; ⟨t, p, fun σ H en Q v q => s σ H en Q v q.nq⟩
theorem PV.pur (h : PV X W e g) : PN X W e (fun en => (g en).pur) := by
  obtain ⟨t, p, s⟩ := h
  refine ⟨t, p, fun σ H en Q v q => s σ H en Q v ?_⟩
  have q : NQ X W σ H Q (g en).pur := q
  revert q
  cases g en with
  | ok x =>
    cases x with
    | d d => exact fun q v H' G sm o => q v H' G sm o (by cases o; exact Fresh.nil)
    | l xs => exact fun q => q.elim
  | ex c => exact id
  | no => exact id
/-! ### names, constants -/
theorem v_name (i : Nat) {x : Str} {pos : Pos} (hN : X.N[i]? = some x := by rfl) (hv : Vis X.env.scope x := by first | exact Or.inl rfl | exact Or.inr (Or.inl rfl) | exact Or.inr (Or.inr rfl)) (hd : (x == ("__debug__" : Str)) = false := by decide)
    (hcd : (x == ("__classdict__" : Str)) = false := by decide) : PV X W (.Name x pos) (fun en => R.of (at_ en i)) := by
  refine ⟨_, pe_var hN hv hd hcd, fun σ H en Q ve q => ?_⟩
  have q : VQ X W σ H Q (R.of (at_ en i)) := q
  revert q
  cases h : at_ en i with
  | none => exact fun q => q.elim
  | some x =>
    obtain ⟨v, G, h1, h2⟩ := ve.see i x h
    exact fun q => ⟨v, h1, q v H G (Same.refl H) h2⟩
theorem n_int {i : Int} {j pos} : PN X W (.Constant (.int i) j pos) (fun _ => .ok (.d (.int i))) := ⟨_, pe_int, fun _ H _ _ _ q => q _ H _ (Same.refl H) (.d (.int i)) Fresh.nil⟩
theorem n_bl {i : Bool} {j pos} : PN X W (.Constant (.bool i) j pos) (fun _ => .ok (.d (.bl i))) := ⟨_, pe_bl, fun _ H _ _ _ q => q _ H _ (Same.refl H) (.d (.bl i)) Fresh.nil⟩
theorem n_non {j pos} : PN X W (.Constant .none j pos) (fun _ => .ok (.d .non)) := ⟨_, pe_non, fun _ H _ _ _ q => q _ H _ (Same.refl H) (.d .non) Fresh.nil⟩
theorem n_str {x : Str} {j pos} : PN X W (.Constant (.str x) j pos) (fun _ => .ok (.d (.str x))) := ⟨_, pe_str, fun _ H _ _ _ q => q _ H _ (Same.refl H) (.d (.str x)) Fresh.nil⟩
/-- a module's constant -/
theorem n_glob {x : Str} {v : V} {u : Value} {d : D} {pos : Pos} (hg : Gl X x) (hm : X.mg x = some u) (r : RelV v u) (hr : ∀ H, RepD X.K H v d) (hd : (x == ("__debug__" : Str)) = false := by decide) : PN X W (.Name x pos) (fun _ => .ok (.d d)) :=
  ⟨_, pe_glob hg hm r hd, fun _ H _ _ _ q => q _ H _ (Same.refl H) (.d (hr H)) Fresh.nil⟩
/-! ### operations of two -/
/-- what an operation does with things that are seen -/
def Q2 (K : PySem.W.Frag) (r : R2) (f : T → T → Option T) : Prop := ∀ (H : Hp) (x y z : T) (vx vy : V) (Gx Gy : List Addr) (Q : VK), Own K H vx x Gx → Own K H vy y Gy → f x y = some z →
  (∀ v H' G, Same H H' → Own K H' v z G → Fresh H G → Q v H') → r vx vy H Q
/-- .. what it gives is seen in them -/
def Q2v (K : PySem.W.Frag) (r : R2) (f : T → T → Option T) : Prop := ∀ (H : Hp) (x y z : T) (vx vy : V) (Gx Gy : List Addr) (Q : VK), Own K H vx x Gx → Own K H vy y Gy → f x y = some z →
  (∀ v H' G, Same H H' → Own K H' v z G → Q v H') → r vx vy H Q
def g2 (f : T → T → Option T) (ga gb : En → R T) : En → R T := fun en => (ga en).bind fun x => (gb en).bind fun y => .of (f x y)
theorem Q2.v {K : PySem.W.Frag} {r : R2} {f : T → T → Option T} (h : Q2 K r f) : Q2v K r f := fun H x y z vx vy Gx Gy Q a b e q => h H x y z vx vy Gx Gy Q a b e fun v H' G s o _ => q v H' G s o
theorem sp2 {r : R2} {f : T → T → Option T} {ga gb : En → R T} {ta tb : TE} (q : Q2 X.K r f) (a : SpV X W ga ta) (b : SpV X W gb tb) : SpN X W (g2 f ga gb) (tOp r ta tb) := by
  intro σ H en Q ve h
  refine a σ H en _ ve ?_
  unfold g2 at h
  cases ea : ga en with
  | ok x =>
    rw [ea] at h
    intro v1 H1 G1 s1 o1
    refine b σ H1 en _ (ve.mono s1) ?_
    cases eb : gb en with
    | ok y =>
      rw [eb] at h
      intro v2 H2 G2 s2 o2
      cases ef : f x y with
      | none => simp only [R.bind_ok, ef, R.of_none] at h; exact h.elim
      | some z =>
        simp only [R.bind_ok, ef, R.of_some] at h
        refine q H2 x y z v1 v2 G1 G2 Q (o1.mono s2) o2 ef fun v H' G s o fr => h v H' G ((s1.trans s2).trans s) o ⟨fr.1, fun c m => ?_⟩
        exact (s1.trans s2).free (fr.2 c m)
    | ex c => rw [eb] at h; exact XQ.mono (W := W) s1 h
    | no => rw [eb] at h; exact h
  | ex c => rw [ea] at h; exact h
  | no => rw [ea] at h; exact h
theorem sp2v {r : R2} {f : T → T → Option T} {ga gb : En → R T} {ta tb : TE} (q : Q2v X.K r f) (a : SpV X W ga ta) (b : SpV X W gb tb) : SpV X W (g2 f ga gb) (tOp r ta tb) := by
  intro σ H en Q ve h
  refine a σ H en _ ve ?_
  unfold g2 at h
  cases ea : ga en with
  | ok x =>
    rw [ea] at h
    intro v1 H1 G1 s1 o1
    refine b σ H1 en _ (ve.mono s1) ?_
    cases eb : gb en with
    | ok y =>
      rw [eb] at h
      intro v2 H2 G2 s2 o2
      cases ef : f x y with
      | none => simp only [R.bind_ok, ef, R.of_none] at h; exact h.elim
      | some z =>
        simp only [R.bind_ok, ef, R.of_some] at h
        exact q H2 x y z v1 v2 G1 G2 Q (o1.mono s2) o2 ef fun v H' G s o => h v H' G ((s1.trans s2).trans s) o
    | ex c => rw [eb] at h; exact XQ.mono (W := W) s1 h
    | no => rw [eb] at h; exact h
  | ex c => rw [ea] at h; exact h
  | no => rw [ea] at h; exact h
variable {a b : Expr} {ga gb : En → R T} {pos : Pos}
/-- a rule of the layer beside what it computes -/
structure Bn (X : Cx) (op : Operator) (f : T → T → Option T) : Prop where
  p : ∃ r, OpR X (binaryOp op) r ∧ Q2 X.K r f
structure Cm (X : Cx) (op : CmpOp) (f : T → T → Option T) : Prop where
  p : ∃ r, OpR X (compareOp op) r ∧ Q2 X.K r f
theorem n_bin {op : Operator} {f : T → T → Option T} (o : Bn X op f) (ha : PV X W a ga) (hb : PV X W b gb) : PN X W (.BinOp a op b pos) (g2 f ga gb) := by
  obtain ⟨r, ho, q⟩ := o.p
  obtain ⟨ta, pa, sa⟩ := ha
  obtain ⟨tb, pb, sb⟩ := hb
  exact ⟨_, pe_op ho pa pb, sp2 q sa sb⟩
theorem n_cmp {op : CmpOp} {f : T → T → Option T} (o : Cm X op f) (ha : PV X W a ga) (hb : PV X W b gb) (hm : behindInMarks op b = false := by first | exact nomark _ | with_unfolding_all rfl) : PN X W (.Compare a [op] [b] pos) (g2 f ga gb) := by
  obtain ⟨r, ho, q⟩ := o.p
  obtain ⟨ta, pa, sa⟩ := ha
  obtain ⟨tb, pb, sb⟩ := hb
  exact ⟨_, pe_cmpR ho pa pb hm, sp2 q sa sb⟩
/-- a value as a test -/
def tst : T → Option Bool
  | .d (.bl b) => some b
  | _ => none
def gT (g : En → R T) : En → R Bool := fun en => (g en).bind fun x => .of (tst x)
theorem spTest {t : TE} (a : SpV X W g t) : SpT X W (gT g) (tTest t) := by
  intro σ H en Q ve h
  refine a σ H en _ ve ?_
  unfold gT at h
  cases ea : g en with
  | ok x =>
    rw [ea] at h
    intro v H' G s o
    cases x with
    | d d =>
      cases o with
      | d r =>
        cases r with
        | bl k => exact ⟨k, rfl, h H' s⟩
        | _ => exact h.elim
    | l xs => exact h.elim
  | ex c => rw [ea] at h; exact h
  | no => rw [ea] at h; exact h
theorem c_cmp {op : CmpOp} {f : T → T → Option T} (o : Cm X op f) (ha : PV X W a ga) (hb : PV X W b gb) (hm : behindInMarks op b = false := by first | exact nomark _ | with_unfolding_all rfl) : PC X W (.Compare a [op] [b] pos) (gT (g2 f ga gb)) := by
  obtain ⟨r, ho, q⟩ := o.p
  obtain ⟨ta, pa, sa⟩ := ha
  obtain ⟨tb, pb, sb⟩ := hb
  exact ⟨_, pt_cmpR ho pa pb hm, spTest (sp2v q.v sa sb)⟩
end
end Z
/-! Z: operations on things. -/
namespace Z
open PySem PySem.Spec L2
open PyProof.Rows hiding St

theorem same_new {H : Hp} {p : Addr} {o : HO} (h : H p = none) : Same H (upd H p o) := fun b x e => by
  rw [upd_ne (ne_of_none e h)]
  exact e
/-- how big a list or a text may be -/
abbrev most : Nat := 16777216
theorem most_eq : sizeLine = most := sizeLine_eq
def MulOk (i j : Int) : Prop := (i.natAbs < 18446744073709551616 ∨ j.natAbs < 18446744073709551616) ∨ i.natAbs.log2 + j.natAbs.log2 < 1000000
instance {i j : Int} : Decidable (MulOk i j) := by unfold MulOk; infer_instance
theorem MulOk.l {i j : Int} (h : i.natAbs < 18446744073709551616) : MulOk i j := .inl (.inl h)
theorem MulOk.r {i j : Int} (h : j.natAbs < 18446744073709551616) : MulOk i j := .inl (.inr h)
def fAdd : T → T → Option T
  | .d (.int i), .d (.int j) => some (.d (.int (i + j)))
  | .d (.str a), .d (.str b) => if a.length + b.length ≤ most then some (.d (.str (a ++ b))) else none
  | .d (.tup a), .d (.tup b) => if a.length + b.length ≤ most then some (.d (.tup (a ++ b))) else none
  | .l a, .l b => match allD a, allD b with
    | some a, some b => if a.length + b.length ≤ most then some (.l ((a ++ b).map T.d)) else none
    | _, _ => none
  | _, _ => none
def fSub : T → T → Option T
  | .d (.int i), .d (.int j) => some (.d (.int (i - j)))
  | _, _ => none
def fMul : T → T → Option T
  | .d (.int i), .d (.int j) => if MulOk i j then some (.d (.int (i * j))) else none
  | .l a, .d (.int k) => match allD a with
    | some a => if -9223372036854775808 ≤ k ∧ k < 9223372036854775808 ∧ a.length * k.toNat ≤ most then some (.l ((List.replicate k.toNat a).flatten.map T.d)) else none
    | none => none
  | _, _ => none
def fMod : T → T → Option T
  | .d (.int i), .d (.int j) => if 0 < j then some (.d (.int (i % j))) else none
  | _, _ => none
def fDiv : T → T → Option T
  | .d (.int i), .d (.int j) => if 0 < j ∧ j.natAbs.log2 < 9000 then some (.d (.int (i / j))) else none
  | _, _ => none
def fPow : T → T → Option T
  | .d (.int i), .d (.int j) => if 0 ≤ j ∧ j ≤ 1000000 ∧ i.natAbs < 18446744073709551616 then some (.d (.int (i ^ j.toNat))) else none
  | _, _ => none
/-! a datum as the library's data -/
mutual
def D.py : D → PyData
  | .non => .none
  | .bl b => .bool b
  | .int i => .int i
  | .str s => .str s
  | .tup ds => .tuple (D.pys ds)
  | .rol ds => .list (D.pys ds)
def D.pys : List D → List PyData
  | [] => []
  | d :: ds => d.py :: D.pys ds
end
mutual
def T.py : T → PyData
  | .d e => D.py e
  | .l xs => .list (T.pys xs)
def T.pys : List T → List PyData
  | [] => []
  | x :: xs => x.py :: T.pys xs
end
theorem Pst.same {H : Hp} : Pst H H := Pst.refl H
mutual
theorem RepD.dp {K : PySem.W.Frag} {H : Hp} : ∀ {v : V} {d : D}, RepD K H v d → Dp K H v d.py
  | _, _, .non => .non
  | _, _, .bl b => .bl b
  | _, _, .int i => .int i
  | _, _, .str s => .str s
  | _, _, .tup h r => .tup h (RepDs.dp r)
  | _, _, .rol h r => .lst (h H (Pst.refl H)) (RepDs.dp r)
theorem RepDs.dp {K : PySem.W.Frag} {H : Hp} : ∀ {vs : List V} {ds : List D}, RepDs K H vs ds → DpAll K H vs (D.pys ds)
  | _, _, .nil => .nil
  | _, _, .cons r t => .cons (RepD.dp r) (RepDs.dp t)
end
mutual
theorem Own.dp {K : PySem.W.Frag} {H : Hp} : ∀ {v : V} {x : T} {F : List Addr}, Own K H v x F → Dp K H v x.py
  | _, _, _, .d r => r.dp
  | _, _, _, .l h r => .lst (SqL.of h) (Owns.dp r)
theorem Owns.dp {K : PySem.W.Frag} {H : Hp} : ∀ {vs : List V} {xs : List T} {F : List Addr}, Owns K H vs xs F → DpAll K H vs (T.pys xs)
  | _, _, _, .nil => .nil
  | _, _, _, .cons r t => .cons (Own.dp r) (Owns.dp t)
end
def shp (d : PyData) : Bool := SeqAt.shaped d
def fEq (x y : T) : Option T := if shp x.py && shp y.py then some (.d (.bl (PyData.eqv x.py y.py))) else none
def fNe (x y : T) : Option T := if shp x.py && shp y.py then some (.d (.bl (!PyData.eqv x.py y.py))) else none
def fLt : T → T → Option T
  | .d (.int i), .d (.int j) => some (.d (.bl (decide (i < j))))
  | .d (.str i), .d (.str j) => some (.d (.bl (decide (i.cps.toList < j.cps.toList))))
  | _, _ => none
def fLe : T → T → Option T
  | .d (.int i), .d (.int j) => some (.d (.bl (decide (i ≤ j))))
  | _, _ => none
def fGt : T → T → Option T
  | .d (.int i), .d (.int j) => some (.d (.bl (decide (j < i))))
  | _, _ => none
def fGe : T → T → Option T
  | .d (.int i), .d (.int j) => some (.d (.bl (decide (j ≤ i))))
  | _, _ => none
/-- data that are no tuples, no lists -/
def flt : D → Bool
  | .tup _ => false
  | .rol _ => false
  | _ => true
def fv : D → V
  | .non => .non
  | .bl b => .bl b
  | .int i => .int i
  | .str s => .str s
  | _ => .non
theorem RepD.flat {K : PySem.W.Frag} {H : Hp} {v : V} {d : D} (r : RepD K H v d) (h : flt d = true) : v = fv d ∧ flatV v = true := by
  cases r with
  | tup _ _ => cases h
  | rol _ _ => cases h
  | _ => exact ⟨rfl, rfl⟩
theorem RepDs.flat {K : PySem.W.Frag} {H : Hp} : ∀ {vs : List V} {ds : List D}, RepDs K H vs ds → ds.all flt = true → vs = ds.map fv ∧ vs.all flatV = true
  | _, _, .nil, _ => ⟨rfl, rfl⟩
  | _, _, .cons r t, h => by
    rw [List.all_cons, Bool.and_eq_true] at h
    obtain ⟨e1, f1⟩ := r.flat h.1
    obtain ⟨e2, f2⟩ := RepDs.flat t h.2
    exact ⟨by rw [e1, e2]; rfl, by rw [List.all_cons, f1, f2]; rfl⟩
/-- the items of a list or tuple that are data -/
def dataOf : T → Option (List D)
  | .d (.tup ds) => some ds
  | .d (.rol ds) => some ds
  | .l xs => allD xs
  | _ => none
theorem dataOf_ok {K : PySem.W.Frag} {H : Hp} {v : V} {x : T} {G : List Addr} {ds : List D} (o : Own K H v x G) (h : dataOf x = some ds) : ∃ a vs, v = .ref a ∧ (SqL K H a vs ∨ SqT K H a vs) ∧ RepDs K H vs ds := by
  cases o with
  | d r =>
    cases r with
    | tup s r => cases h; exact ⟨_, _, rfl, .inr s, r⟩
    | rol s r => cases h; exact ⟨_, _, rfl, .inl (s H (Pst.refl H)), r⟩
    | _ => cases h
  | l s r =>
    have e := allD_eq h
    subst e
    exact ⟨_, _, rfl, .inl (SqL.of s), r.data.1⟩
def isIn (d : D) (ds : List D) : Bool := inV (fv d) (ds.map fv)
def strIn (a b : Str) : Bool := !(Builtin.Str.occurrences b a 0 b.length 1).isEmpty
def fIn : T → T → Option T
  | .d (.str a), .d (.str b) => some (.d (.bl (strIn a b)))
  | .d d, y => match dataOf y with
    | some ds => if flt d && ds.all flt then some (.d (.bl (isIn d ds))) else none
    | none => none
  | _, _ => none
def fNotIn : T → T → Option T
  | .d (.str a), .d (.str b) => some (.d (.bl (!strIn a b)))
  | .d d, y => match dataOf y with
    | some ds => if flt d && ds.all flt then some (.d (.bl (!isIn d ds))) else none
    | none => none
  | _, _ => none
def fIs : T → T → Option T
  | .d .non, .d .non => some (.d (.bl true))
  | .d (.bl a), .d (.bl b) => some (.d (.bl (decide (a = b))))
  | .d (.bl _), .d .non => some (.d (.bl false))
  | .d (.int _), .d .non => some (.d (.bl false))
  | .d (.str _), .d .non => some (.d (.bl false))
  | .d (.tup _), .d .non => some (.d (.bl false))
  | _, _ => none
def fIsNot : T → T → Option T
  | .d .non, .d .non => some (.d (.bl false))
  | .d (.bl a), .d (.bl b) => some (.d (.bl (!decide (a = b))))
  | .d (.bl _), .d .non => some (.d (.bl true))
  | .d (.int _), .d .non => some (.d (.bl true))
  | .d (.str _), .d .non => some (.d (.bl true))
  | .d (.tup _), .d .non => some (.d (.bl true))
  | _, _ => none
section
variable {X : Cx}
theorem fin_d {K : PySem.W.Frag} {H : Hp} {v : V} {d : D} {Q : VK} (r : RepD K H v d) (q : ∀ v H' G, Same H H' → Own K H' v (.d d) G → Fresh H G → Q v H') : Q v H := q v H [] (Same.refl H) (.d r) Fresh.nil
theorem b_sub : Bn X .Sub fSub := ⟨_, op_sub, fun H x y z vx vy Gx Gy Q ox oy e q => by
  unfold fSub at e
  split at e <;> cases e
  cases ox with | d r1 => cases oy with | d r2 => cases r1; cases r2; exact ⟨_, _, rfl, rfl, fin_d (.int _) q⟩⟩
theorem b_mod : Bn X .Mod fMod := ⟨_, op_mod, fun H x y z vx vy Gx Gy Q ox oy e q => by
  unfold fMod at e
  split at e
  · split at e <;> cases e
    rename_i h
    cases ox with | d r1 => cases oy with | d r2 => cases r1; cases r2; exact ⟨_, _, rfl, rfl, h, fin_d (.int _) q⟩
  · cases e⟩
theorem b_div : Bn X .FloorDiv fDiv := ⟨_, op_fdivW, fun H x y z vx vy Gx Gy Q ox oy e q => by
  unfold fDiv at e
  split at e
  · split at e <;> cases e
    rename_i h
    cases ox with | d r1 => cases oy with | d r2 => cases r1; cases r2; exact ⟨_, _, rfl, rfl, h, fin_d (.int _) q⟩
  · cases e⟩
theorem b_pow : Bn X .Pow fPow := ⟨_, op_pow, fun H x y z vx vy Gx Gy Q ox oy e q => by
  unfold fPow at e
  split at e
  · split at e <;> cases e
    rename_i h
    cases ox with | d r1 => cases oy with | d r2 => cases r1; cases r2; exact ⟨_, _, rfl, rfl, h, fin_d (.int _) q⟩
  · cases e⟩
theorem b_add : Bn X .Add fAdd := ⟨_, op_add.or (op_add_str.or (op_catA.or op_cat)), fun H x y z vx vy Gx Gy Q ox oy e q => by
  unfold fAdd at e
  split at e
  · cases e
    cases ox with | d r1 => cases oy with | d r2 => cases r1; cases r2; exact .inl ⟨_, _, rfl, rfl, fin_d (.int _) q⟩
  · split at e <;> cases e
    rename_i h
    cases ox with | d r1 => cases oy with | d r2 => cases r1; cases r2; exact .inr (.inl ⟨_, _, rfl, rfl, by rw [most_eq]; exact h, fin_d (.str _) q⟩)
  · split at e <;> cases e
    rename_i h
    cases ox with
    | d r1 => cases oy with
      | d r2 =>
        cases r1 with
        | tup s1 p1 => cases r2 with
          | tup s2 p2 =>
            refine .inr (.inr (.inl ⟨_, _, _, _, rfl, rfl, s1, s2, by rw [most_eq, p1.length, p2.length]; exact h, fun e => ?_, fun e1 e2 => ?_, fun _ _ p np => ?_⟩))
            · subst e; cases p1; exact fin_d (.tup s2 p2) q
            · subst e2; cases p2; rw [List.append_nil] at q; exact fin_d (.tup s1 p1) q
            · exact q _ _ [] (same_new np) (.d (.tup (SqT.of upd_same) ((p1.mono (.of (same_new np))).append (p2.mono (.of (same_new np)))))) Fresh.nil
  · rename_i a b
    split at e
    · rename_i a' b' e1 e2
      split at e <;> cases e
      rename_i h
      have e1 := allD_eq e1
      have e2 := allD_eq e2
      subst e1 e2
      cases ox with
      | l h1 o1 => cases oy with
        | l h2 o2 =>
          have d1 := o1.data.1
          have d2 := o2.data.1
          refine .inr (.inr (.inr ⟨_, _, _, _, rfl, rfl, h1, h2, by rw [most_eq, d1.length, d2.length]; exact h, fun p np => ?_⟩))
          refine q _ _ [p] (same_new np) (.l upd_same ((d1.mono (.of (same_new np))).append (d2.mono (.of (same_new np)))).owns) ⟨by simp, fun c m => ?_⟩
          have e : c = p := by simpa using m
          rw [e]; exact np
    · cases e
  · cases e⟩
theorem b_mul : Bn X .Mult fMul := ⟨_, op_mul.or (op_mulW.or op_rep), fun H x y z vx vy Gx Gy Q ox oy e q => by
  unfold fMul at e
  split at e
  · split at e <;> cases e
    rename_i h
    cases ox with
    | d r1 => cases oy with
      | d r2 =>
        cases r1; cases r2
        rcases h with (h | h) | h
        · exact .inl ⟨_, _, rfl, rfl, .inl (by omega), fin_d (.int _) q⟩
        · exact .inl ⟨_, _, rfl, rfl, .inr (by omega), fin_d (.int _) q⟩
        · exact .inr (.inl ⟨_, _, rfl, rfl, h, fin_d (.int _) q⟩)
  · split at e
    · rename_i a' e1
      split at e <;> cases e
      rename_i h
      have e1 := allD_eq e1
      subst e1
      cases ox with
      | l h1 o1 => cases oy with
        | d r2 =>
          cases r2
          have d1 := o1.data.1
          refine .inr (.inr ⟨_, _, _, rfl, rfl, h1, by omega, by omega, by rw [most_eq, d1.length]; exact h.2.2, fun p np => ?_⟩)
          have rr : ∀ k : Nat, RepDs X.K H (List.replicate k _).flatten (List.replicate k _).flatten := fun k => by
            induction k with
            | zero => exact .nil
            | succ k ih => rw [List.replicate_succ, List.replicate_succ, List.flatten_cons, List.flatten_cons]; exact d1.append ih
          refine q _ _ [p] (same_new np) (.l upd_same ((rr _).mono (.of (same_new np))).owns) ⟨by simp, fun c m => ?_⟩
          have e : c = p := by simpa using m
          rw [e]; exact np
    · cases e
  · cases e⟩
theorem m_lt : Cm X .Lt fLt := ⟨_, op_lt.or op_lt_str, fun H x y z vx vy Gx Gy Q ox oy e q => by
  unfold fLt at e
  split at e <;> cases e
  · cases ox with | d r1 => cases oy with | d r2 => cases r1; cases r2; exact .inl ⟨_, _, rfl, rfl, fin_d (.bl _) q⟩
  · cases ox with | d r1 => cases oy with | d r2 => cases r1; cases r2; exact .inr ⟨_, _, rfl, rfl, fin_d (.bl _) q⟩⟩
theorem m_le : Cm X .LtE fLe := ⟨_, op_le, fun H x y z vx vy Gx Gy Q ox oy e q => by
  unfold fLe at e
  split at e <;> cases e
  cases ox with | d r1 => cases oy with | d r2 => cases r1; cases r2; exact ⟨_, _, rfl, rfl, fin_d (.bl _) q⟩⟩
theorem m_gt : Cm X .Gt fGt := ⟨_, op_gt, fun H x y z vx vy Gx Gy Q ox oy e q => by
  unfold fGt at e
  split at e <;> cases e
  cases ox with | d r1 => cases oy with | d r2 => cases r1; cases r2; exact ⟨_, _, rfl, rfl, fin_d (.bl _) q⟩⟩
theorem m_ge : Cm X .GtE fGe := ⟨_, op_ge, fun H x y z vx vy Gx Gy Q ox oy e q => by
  unfold fGe at e
  split at e <;> cases e
  cases ox with | d r1 => cases oy with | d r2 => cases r1; cases r2; exact ⟨_, _, rfl, rfl, fin_d (.bl _) q⟩⟩
theorem m_eq (hu : X.A.units + 64 < cLine) : Cm X .Eq fEq := ⟨_, op_eqD hu, fun H x y z vx vy Gx Gy Q ox oy e q => by
  unfold fEq at e
  split at e <;> cases e
  rename_i h
  rw [Bool.and_eq_true] at h
  exact ⟨_, _, ox.dp, oy.dp, h.1, h.2, fin_d (.bl _) q⟩⟩
theorem m_ne (hu : X.A.units + 64 < cLine) : Cm X .NotEq fNe := ⟨_, op_neD hu, fun H x y z vx vy Gx Gy Q ox oy e q => by
  unfold fNe at e
  split at e <;> cases e
  rename_i h
  rw [Bool.and_eq_true] at h
  exact ⟨_, _, ox.dp, oy.dp, h.1, h.2, fin_d (.bl _) q⟩⟩
theorem m_in : Cm X .In fIn := ⟨_, op_in_str.or op_in_seq, fun H x y z vx vy Gx Gy Q ox oy e q => by
  unfold fIn at e
  split at e
  · cases e
    cases ox with | d r1 => cases oy with | d r2 => cases r1; cases r2; exact .inl ⟨_, _, rfl, rfl, fin_d (.bl _) q⟩
  · split at e
    · rename_i ds e1
      split at e <;> cases e
      rename_i h
      rw [Bool.and_eq_true] at h
      obtain ⟨a, vs, rfl, sq, rr⟩ := dataOf_ok oy e1
      cases ox with
      | d r1 =>
        obtain ⟨e2, f2⟩ := r1.flat h.1
        obtain ⟨e3, f3⟩ := rr.flat h.2
        refine .inr ⟨a, vs, rfl, sq, f2, f3, ?_⟩
        rw [e2, e3]
        exact fin_d (.bl _) q
    · cases e
  · cases e⟩
theorem m_notIn : Cm X .NotIn fNotIn := ⟨_, L2.op_notIn_str.or op_notIn_seq, fun H x y z vx vy Gx Gy Q ox oy e q => by
  unfold fNotIn at e
  split at e
  · cases e
    cases ox with | d r1 => cases oy with | d r2 => cases r1; cases r2; exact .inl ⟨_, _, rfl, rfl, fin_d (.bl _) q⟩
  · split at e
    · rename_i ds e1
      split at e <;> cases e
      rename_i h
      rw [Bool.and_eq_true] at h
      obtain ⟨a, vs, rfl, sq, rr⟩ := dataOf_ok oy e1
      cases ox with
      | d r1 =>
        obtain ⟨e2, f2⟩ := r1.flat h.1
        obtain ⟨e3, f3⟩ := rr.flat h.2
        refine .inr ⟨a, vs, rfl, sq, f2, f3, ?_⟩
        rw [e2, e3]
        exact fin_d (.bl _) q
    · cases e
  · cases e⟩
theorem m_is : Cm X .Is fIs := ⟨_, op_isN.or op_isBl, fun H x y z vx vy Gx Gy Q ox oy e q => by
  unfold fIs at e
  split at e <;> cases e
  · cases ox with | d r1 => cases oy with | d r2 => cases r1; cases r2; exact .inl ⟨rfl, fin_d (.bl _) q⟩
  · cases ox with | d r1 => cases oy with | d r2 => cases r1; cases r2; exact .inr ⟨_, _, rfl, rfl, fin_d (.bl _) q⟩
  · cases ox with | d r1 => cases oy with | d r2 => cases r1; cases r2; exact .inl ⟨rfl, fin_d (.bl _) q⟩
  · cases ox with | d r1 => cases oy with | d r2 => cases r1; cases r2; exact .inl ⟨rfl, fin_d (.bl _) q⟩
  · cases ox with | d r1 => cases oy with | d r2 => cases r1; cases r2; exact .inl ⟨rfl, fin_d (.bl _) q⟩
  · cases ox with | d r1 => cases oy with | d r2 => cases r1; cases r2; exact .inl ⟨rfl, fin_d (.bl _) q⟩⟩
theorem m_isNot : Cm X .IsNot fIsNot := ⟨_, op_notN.or op_notBl, fun H x y z vx vy Gx Gy Q ox oy e q => by
  unfold fIsNot at e
  split at e <;> cases e
  · cases ox with | d r1 => cases oy with | d r2 => cases r1; cases r2; exact .inl ⟨rfl, fin_d (.bl _) q⟩
  · cases ox with | d r1 => cases oy with | d r2 => cases r1; cases r2; exact .inr ⟨_, _, rfl, rfl, fin_d (.bl _) q⟩
  · cases ox with | d r1 => cases oy with | d r2 => cases r1; cases r2; exact .inl ⟨rfl, fin_d (.bl _) q⟩
  · cases ox with | d r1 => cases oy with | d r2 => cases r1; cases r2; exact .inl ⟨rfl, fin_d (.bl _) q⟩
  · cases ox with | d r1 => cases oy with | d r2 => cases r1; cases r2; exact .inl ⟨rfl, fin_d (.bl _) q⟩
  · cases ox with | d r1 => cases oy with | d r2 => cases r1; cases r2; exact .inl ⟨rfl, fin_d (.bl _) q⟩⟩
end
end Z
/-! Z: tests, chains, items, slices, displays, calls of built-ins. -/
namespace Z
open PySem PySem.Spec L2
open PyProof.Rows hiding St

/-- the truth of a thing -/
def tru : T → Option Bool
  | .d .non => some false
  | .d (.bl b) => some b
  | .d (.int i) => some (i != 0)
  | .d (.str y) => if y.length ≤ most then some ((y.length : Int) != 0) else none
  | .d (.tup ds) => some (!ds.isEmpty)
  | .d (.rol ds) => some (!ds.isEmpty)
  | .l xs => some (!xs.isEmpty)
theorem empty_len {α β : Type} {xs : List α} {ys : List β} (h : xs.length = ys.length) : xs.isEmpty = ys.isEmpty := by
  cases xs with
  | nil => cases ys with
    | nil => rfl
    | cons y r => cases h
  | cons x r => cases ys with
    | nil => cases h
    | cons y r => rfl
theorem tru_is {K : PySem.W.Frag} {H : Hp} {v : V} {x : T} {G : List Addr} {k : Bool} (o : Own K H v x G) (h : tru x = some k) : TruV K v H k := by
  cases o with
  | d r =>
    cases r with
    | non => cases h; exact rfl
    | bl b => cases h; exact rfl
    | int i => cases h; exact rfl
    | str y =>
      have h' : (if y.length ≤ most then some ((y.length : Int) != 0) else none) = some k := h
      by_cases hz : y.length ≤ most
      · rw [if_pos hz] at h'
        cases h'
        exact ⟨by rw [most_eq]; exact hz, rfl⟩
      · rw [if_neg hz] at h'
        cases h'
    | tup s r => cases h; exact .inr (.inl ⟨_, s, by rw [empty_len r.length]⟩)
    | rol s r => cases h; exact .inl ⟨_, s H (Pst.refl H), by rw [empty_len r.length]⟩
  | l s r => cases h; exact .inl ⟨_, SqL.of s, by rw [empty_len r.length]⟩
def gTru (g : En → R T) : En → R Bool := fun en => (g en).bind fun x => .of (tru x)
def gNot (g : En → R Bool) : En → R Bool := fun en => (g en).bind fun b => .ok (!b)
def gAnd (g h : En → R Bool) : En → R Bool := fun en => (g en).bind fun b => if b = true then h en else .ok false
def gOr (g h : En → R Bool) : En → R Bool := fun en => (g en).bind fun b => if b = true then .ok true else h en
def gNotV (g : En → R T) : En → R T := fun en => (g en).bind fun x => (R.of (tru x)).bind fun b => .ok (.d (.bl (!b)))
def gAndV (g h : En → R T) : En → R T := fun en => (g en).bind fun x => (R.of (tru x)).bind fun b => if b = true then h en else .ok x
def gOrV (g h : En → R T) : En → R T := fun en => (g en).bind fun x => (R.of (tru x)).bind fun b => if b = true then .ok x else h en
def gIf {α : Type} (c : En → R Bool) (g h : En → R α) : En → R α := fun en => (c en).bind fun b => if b = true then g en else h en
section
variable {X : Cx} {W : WX} {a b c : Expr} {rest : List Expr} {pos : Pos} {g h ga gb : En → R T} {tc td : En → R Bool}
theorem TQ.same {σ : St} {H H' : Hp} {Q : Bool → Hp → Prop} {r : R Bool} (s : Same H H') (h : TQ X W σ H Q r) : TQ X W σ H' Q r := by
  cases r with
  | ok b => exact fun H2 s2 => h H2 (s.trans s2)
  | ex c => exact XQ.mono (W := W) s h
  | no => exact h
theorem VQ.same {σ : St} {H H' : Hp} {Q : VK} {r : R T} (s : Same H H') (h : VQ X W σ H Q r) : VQ X W σ H' Q r := by
  cases r with
  | ok b => exact fun v H2 G s2 o => h v H2 G (s.trans s2) o
  | ex c => exact XQ.mono (W := W) s h
  | no => exact h
theorem Fresh.back {H H' : Hp} {G : List Addr} (s : Same H H') (f : Fresh H' G) : Fresh H G := ⟨f.1, fun c m => s.free (f.2 c m)⟩
theorem NQ.same {σ : St} {H H' : Hp} {Q : VK} {r : R T} (s : Same H H') (h : NQ X W σ H Q r) : NQ X W σ H' Q r := by
  cases r with
  | ok b => exact fun v H2 G s2 o f => h v H2 G (s.trans s2) o (f.back s)
  | ex c => exact XQ.mono (W := W) s h
  | no => exact h
theorem c_truth (ha : PV X W a g) (he : ∀ whole, isTrue a X.env whole = (do let v ← whole; standAt a.pos; holding [v] (truthy v)) := by intro _; rfl) : PC X W a (gTru g) := by
  obtain ⟨t, p, s⟩ := ha
  refine ⟨_, pt_truth p he, fun σ H en Q ve q => s σ H en _ ve ?_⟩
  unfold gTru at q
  cases e : g en with
  | ok x =>
    rw [e] at q
    intro v H' G sm o
    cases ek : tru x with
    | none => simp only [R.bind_ok, ek, R.of_none] at q; exact q.elim
    | some k =>
      simp only [R.bind_ok, ek, R.of_some] at q
      exact ⟨k, tru_is o ek, q H' sm⟩
  | ex c => rw [e] at q; exact q
  | no => rw [e] at q; exact q
theorem spNot {t : TT} (s : SpT X W tc t) : SpT X W (gNot tc) (tNot t) := fun σ H en Q ve q => s σ H en _ ve (by
  unfold gNot at q
  cases e : tc en with
  | ok x => rw [e] at q; exact q
  | ex c => rw [e] at q; exact q
  | no => rw [e] at q; exact q)
theorem c_not (ha : PC X W a tc) : PC X W (.UnaryOp .Not a pos) (gNot tc) := by
  obtain ⟨t, p, s⟩ := ha
  exact ⟨_, pt_not p, spNot s⟩
theorem n_not (ha : PV X W a g) : PN X W (.UnaryOp .Not a pos) (gNotV g) := by
  obtain ⟨t, p, s⟩ := ha
  refine ⟨_, pe_notT p, fun σ H en Q ve q => s σ H en _ ve ?_⟩
  unfold gNotV at q
  cases e : g en with
  | ok x =>
    rw [e] at q
    intro v H' G sm o
    cases ek : tru x with
    | none => simp only [R.bind_ok, ek, R.of_none] at q; exact q.elim
    | some k =>
      simp only [R.bind_ok, ek, R.of_some] at q
      exact ⟨k, tru_is o ek, q _ H' _ sm (.d (.bl _)) Fresh.nil⟩
  | ex c => rw [e] at q; exact q
  | no => rw [e] at q; exact q
theorem w_and1 (ha : PC X W a tc) : PWc X W (.BoolOp .And [a] pos) tc := let ⟨t, p, s⟩ := ha; ⟨t, pw_and1 p, s⟩
theorem w_or1 (ha : PC X W a tc) : PWc X W (.BoolOp .Or [a] pos) tc := let ⟨t, p, s⟩ := ha; ⟨t, pw_or1 p, s⟩
theorem w_and (ha : PC X W a tc) (hb : PWc X W (.BoolOp .And (b :: rest) pos) td) : PWc X W (.BoolOp .And (a :: b :: rest) pos) (gAnd tc td) := by
  obtain ⟨t, p, s⟩ := ha
  obtain ⟨t2, p2, s2⟩ := hb
  refine ⟨_, pw_and p p2, fun σ H en Q ve q => s σ H en _ ve ?_⟩
  unfold gAnd at q
  cases e : tc en with
  | ok x =>
    rw [e] at q
    intro H' sm
    cases x with
    | true => exact iteT (s2 σ H' en Q (ve.mono sm) (TQ.same (X := X) (W := W) sm q))
    | false => exact iteF (q H' sm)
  | ex c => rw [e] at q; exact q
  | no => rw [e] at q; exact q
theorem w_or (ha : PC X W a tc) (hb : PWc X W (.BoolOp .Or (b :: rest) pos) td) : PWc X W (.BoolOp .Or (a :: b :: rest) pos) (gOr tc td) := by
  obtain ⟨t, p, s⟩ := ha
  obtain ⟨t2, p2, s2⟩ := hb
  refine ⟨_, pw_or p p2, fun σ H en Q ve q => s σ H en _ ve ?_⟩
  unfold gOr at q
  cases e : tc en with
  | ok x =>
    rw [e] at q
    intro H' sm
    cases x with
    | false => exact iteF (s2 σ H' en Q (ve.mono sm) (TQ.same (X := X) (W := W) sm q))
    | true => exact iteT (q H' sm)
  | ex c => rw [e] at q; exact q
  | no => rw [e] at q; exact q
theorem c_w (h : PWc X W a tc) : PC X W a tc := let ⟨t, p, s⟩ := h; ⟨t, p.pt, s⟩
theorem v_one {op} (ha : PV X W a g) : PV X W (.BoolOp op [a] pos) g := let ⟨t, p, s⟩ := ha; ⟨t, pe_one p, s⟩
theorem v_and (ha : PV X W a ga) (hb : PV X W (.BoolOp .And (b :: rest) pos) gb) : PV X W (.BoolOp .And (a :: b :: rest) pos) (gAndV ga gb) := by
  obtain ⟨t, p, s⟩ := ha
  obtain ⟨t2, p2, s2⟩ := hb
  refine ⟨_, pe_andT p p2, fun σ H en Q ve q => s σ H en _ ve ?_⟩
  unfold gAndV at q
  cases e : ga en with
  | ok x =>
    rw [e] at q
    intro v H' G sm o
    cases ek : tru x with
    | none => simp only [R.bind_ok, ek, R.of_none] at q; exact q.elim
    | some k =>
      simp only [R.bind_ok, ek, R.of_some] at q
      refine ⟨k, tru_is o ek, ?_⟩
      cases k with
      | true => exact iteT (s2 σ H' en Q (ve.mono sm) (VQ.same (X := X) (W := W) sm q))
      | false => exact iteF (q v H' G sm o)
  | ex c => rw [e] at q; exact q
  | no => rw [e] at q; exact q
theorem v_or (ha : PV X W a ga) (hb : PV X W (.BoolOp .Or (b :: rest) pos) gb) : PV X W (.BoolOp .Or (a :: b :: rest) pos) (gOrV ga gb) := by
  obtain ⟨t, p, s⟩ := ha
  obtain ⟨t2, p2, s2⟩ := hb
  refine ⟨_, pe_orT p p2, fun σ H en Q ve q => s σ H en _ ve ?_⟩
  unfold gOrV at q
  cases e : ga en with
  | ok x =>
    rw [e] at q
    intro v H' G sm o
    cases ek : tru x with
    | none => simp only [R.bind_ok, ek, R.of_none] at q; exact q.elim
    | some k =>
      simp only [R.bind_ok, ek, R.of_some] at q
      refine ⟨k, tru_is o ek, ?_⟩
      cases k with
      | false => exact iteF (s2 σ H' en Q (ve.mono sm) (VQ.same (X := X) (W := W) sm q))
      | true => exact iteT (q v H' G sm o)
  | ex c => rw [e] at q; exact q
  | no => rw [e] at q; exact q
theorem v_if (hc : PC X W c tc) (ha : PV X W a ga) (hb : PV X W b gb) : PV X W (.IfExp c a b pos) (gIf tc ga gb) := by
  obtain ⟨t, p, s⟩ := hc
  obtain ⟨t1, p1, s1⟩ := ha
  obtain ⟨t2, p2, s2⟩ := hb
  refine ⟨_, pe_ifExp p p1 p2, fun σ H en Q ve q => s σ H en _ ve ?_⟩
  unfold gIf at q
  cases e : tc en with
  | ok x =>
    rw [e] at q
    intro H' sm
    cases x with
    | true => exact iteT (s1 σ H' en Q (ve.mono sm) (VQ.same (X := X) (W := W) sm q))
    | false => exact iteF (s2 σ H' en Q (ve.mono sm) (VQ.same (X := X) (W := W) sm q))
  | ex c => rw [e] at q; exact q
  | no => rw [e] at q; exact q
theorem n_if (hc : PC X W c tc) (ha : PN X W a ga) (hb : PN X W b gb) : PN X W (.IfExp c a b pos) (gIf tc ga gb) := by
  obtain ⟨t, p, s⟩ := hc
  obtain ⟨t1, p1, s1⟩ := ha
  obtain ⟨t2, p2, s2⟩ := hb
  refine ⟨_, pe_ifExp p p1 p2, fun σ H en Q ve q => s σ H en _ ve ?_⟩
  unfold gIf at q
  cases e : tc en with
  | ok x =>
    rw [e] at q
    intro H' sm
    cases x with
    | true => exact iteT (s1 σ H' en Q (ve.mono sm) (NQ.same (X := X) (W := W) sm q))
    | false => exact iteF (s2 σ H' en Q (ve.mono sm) (NQ.same (X := X) (W := W) sm q))
  | ex c => rw [e] at q; exact q
  | no => rw [e] at q; exact q
/-! ### chains -/
def gCh (f f' : T → T → Option T) (ga gb gc : En → R T) : En → R T := fun en => (ga en).bind fun x => (gb en).bind fun y => (R.of (f x y)).bind fun z => (R.of (tst z)).bind fun k =>
  if k = true then (gc en).bind fun w => .of (f' y w) else .ok (.d (.bl false))
theorem spCh {r r' : R2} {f f' : T → T → Option T} {ga gb gc : En → R T} {ta tb tc : TE} (q : Q2 X.K r f) (q' : Q2 X.K r' f') (a : SpV X W ga ta) (b : SpV X W gb tb) (c : SpV X W gc tc) : SpV X W (gCh f f' ga gb gc) (tChain r r' ta tb tc) := by
  intro σ H en Q ve h
  refine a σ H en _ ve ?_
  unfold gCh at h
  cases ea : ga en with
  | ok x =>
    rw [ea] at h
    intro v1 H1 G1 s1 o1
    refine b σ H1 en _ (ve.mono s1) ?_
    cases eb : gb en with
    | ok y =>
      rw [eb] at h
      intro v2 H2 G2 s2 o2
      cases ef : f x y with
      | none => simp only [R.bind_ok, ef, R.of_none] at h; exact h.elim
      | some z =>
        simp only [R.bind_ok, ef, R.of_some] at h
        refine q H2 x y z v1 v2 G1 G2 _ (o1.mono s2) o2 ef fun v3 H3 G3 s3 o3 _ => ?_
        cases z with
        | l xs => exact h.elim
        | d d =>
          cases o3 with
          | d r3 =>
            cases r3 with
            | bl k =>
              refine ⟨k, rfl, ?_⟩
              have s13 := (s1.trans s2).trans s3
              cases k with
              | false => exact iteF (h _ H3 _ s13 (.d (.bl _)))
              | true =>
                refine iteT (c σ H3 en _ (ve.mono s13) ?_)
                simp only [tst, R.of_some, R.bind_ok, if_true] at h
                cases ec : gc en with
                | ok w =>
                  rw [ec] at h
                  intro v4 H4 G4 s4 o4
                  cases eg : f' y w with
                  | none => simp only [R.bind_ok, eg, R.of_none] at h; exact h.elim
                  | some z =>
                    simp only [R.bind_ok, eg, R.of_some] at h
                    exact q' H4 y w z v2 v4 G2 G4 Q (o2.mono (s3.trans s4)) o4 eg fun v H' G s o _ => h v H' G ((s13.trans s4).trans s) o
                | ex c => rw [ec] at h; exact XQ.mono (W := W) s13 h
                | no => rw [ec] at h; exact h
            | _ => exact h.elim
    | ex c => rw [eb] at h; exact XQ.mono (W := W) s1 h
    | no => rw [eb] at h; exact h
  | ex c => rw [ea] at h; exact h
  | no => rw [ea] at h; exact h
theorem v_chain {op op' : CmpOp} {f f' : T → T → Option T} {gc : En → R T} (o : Cm X op f) (o' : Cm X op' f') (ha : PV X W a ga) (hb : PV X W b gb) (hc : PV X W c gc)
    (hm : lastMarks [op, op'] [b, c] = false := by with_unfolding_all rfl) : PV X W (.Compare a [op, op'] [b, c] pos) (gCh f f' ga gb gc) := by
  obtain ⟨r, ho, q⟩ := o.p
  obtain ⟨r', ho', q'⟩ := o'.p
  obtain ⟨ta, pa, sa⟩ := ha
  obtain ⟨tb, pb, sb⟩ := hb
  obtain ⟨tc, pc, sc⟩ := hc
  exact ⟨_, pe_chain ho ho' pa pb pc hm, spCh q q' sa sb sc⟩
theorem c_chain {op op' : CmpOp} {f f' : T → T → Option T} {gc : En → R T} (o : Cm X op f) (o' : Cm X op' f') (ha : PV X W a ga) (hb : PV X W b gb) (hc : PV X W c gc)
    (hm : lastMarks [op, op'] [b, c] = false := by with_unfolding_all rfl) : PC X W (.Compare a [op, op'] [b, c] pos) (gT (gCh f f' ga gb gc)) := by
  obtain ⟨r, ho, q⟩ := o.p
  obtain ⟨r', ho', q'⟩ := o'.p
  obtain ⟨ta, pa, sa⟩ := ha
  obtain ⟨tb, pb, sb⟩ := hb
  obtain ⟨tc, pc, sc⟩ := hc
  exact ⟨_, pt_chain ho ho' pa pb pc hm, spTest (spCh q q' sa sb sc)⟩
/-! ### minus -/
def fNeg : T → Option T
  | .d (.int i) => some (.d (.int (-i)))
  | _ => none
def g1 (f : T → Option T) (g : En → R T) : En → R T := fun en => (g en).bind fun x => .of (f x)
theorem n_neg (ha : PV X W a g) : PN X W (.UnaryOp .USub a pos) (g1 fNeg g) := by
  obtain ⟨t, p, s⟩ := ha
  refine ⟨_, pe_un un_neg p, fun σ H en Q ve q => s σ H en _ ve ?_⟩
  unfold g1 at q
  cases e : g en with
  | ok x =>
    rw [e] at q
    intro v H' G sm o
    cases x with
    | l xs => exact q.elim
    | d d =>
      cases o with
      | d r =>
        cases r with
        | int i => exact ⟨i, rfl, q _ H' _ sm (.d (.int _)) Fresh.nil⟩
        | _ => exact q.elim
  | ex c => rw [e] at q; exact q
  | no => rw [e] at q; exact q
/-! ### items -/
def fIx : T → T → Option T
  | .d (.tup ds), .d (.int i) => (atI ds i).map T.d
  | .d (.rol ds), .d (.int i) => (atI ds i).map T.d
  | .l xs, .d (.int i) => atI xs i
  | .d (.str z), .d (.int i) => if z.length ≤ most then (atI z.cps.toList i).map fun c => T.d (.str ⟨#[c]⟩) else none
  | _, _ => none
theorem atI_rep {K : PySem.W.Frag} {H : Hp} {vs : List V} {ds : List D} {i : Int} {d : D} (r : RepDs K H vs ds) (h : atI ds i = some d) : ∃ v, atI vs i = some v ∧ RepD K H v d := by
  unfold atI at h ⊢
  rw [r.length]
  cases e : ixN ds.length i with
  | none => rw [e] at h; cases h
  | some j =>
    rw [e] at h
    obtain ⟨v, h1, h2⟩ := r.get h
    exact ⟨v, h1, h2⟩
theorem atI_own {K : PySem.W.Frag} {H : Hp} {vs : List V} {ds : List T} {F : List Addr} {i : Int} {d : T} (r : Owns K H vs ds F) (h : atI ds i = some d) : ∃ v G, atI vs i = some v ∧ Own K H v d G ∧ ∀ a ∈ G, a ∈ F := by
  unfold atI at h ⊢
  rw [r.length]
  cases e : ixN ds.length i with
  | none => rw [e] at h; cases h
  | some j =>
    rw [e] at h
    obtain ⟨v, G, h1, h2, h3⟩ := r.get h
    exact ⟨v, G, h1, h2, h3⟩
theorem q_ix : Q2v X.K (rIx X.K) fIx := fun H x y z vx vy Gx Gy Q ox oy e q => by
  unfold fIx at e
  split at e
  · obtain ⟨d, e1, rfl⟩ := Option.map_eq_some_iff.mp e
    cases ox with | d r1 => cases oy with
      | d r2 =>
        cases r2
        cases r1 with
        | tup s r =>
          obtain ⟨v, h1, h2⟩ := atI_rep r e1
          exact .inr (.inl ⟨_, _, _, v, rfl, rfl, s, h1, q v H [] (Same.refl H) (.d h2)⟩)
  · obtain ⟨d, e1, rfl⟩ := Option.map_eq_some_iff.mp e
    cases ox with | d r1 => cases oy with
      | d r2 =>
        cases r2
        cases r1 with
        | rol s r =>
          obtain ⟨v, h1, h2⟩ := atI_rep r e1
          exact .inl ⟨_, _, _, v, rfl, rfl, s H (Pst.refl H), h1, q v H [] (Same.refl H) (.d h2)⟩
  · cases oy with
    | d r2 =>
      cases r2
      cases ox with
      | l s r =>
        obtain ⟨v, G, h1, h2, _⟩ := atI_own r e
        exact .inl ⟨_, _, _, v, rfl, rfl, SqL.of s, h1, q v H G (Same.refl H) h2⟩
  · split at e
    · rename_i hz
      obtain ⟨c, e1, rfl⟩ := Option.map_eq_some_iff.mp e
      cases ox with | d r1 => cases oy with
        | d r2 =>
          cases r2
          cases r1
          exact .inr (.inr ⟨_, _, c, rfl, rfl, by rw [most_eq]; exact hz, e1, q _ H [] (Same.refl H) (.d (.str _))⟩)
    · cases e
  · cases e
theorem v_ix (ha : PV X W a ga) (hb : PV X W b gb) (hs : PlainIx b := by exact fun _ _ => rfl) : PV X W (.Subscript a b pos) (g2 fIx ga gb) := by
  obtain ⟨ta, pa, sa⟩ := ha
  obtain ⟨tb, pb, sb⟩ := hb
  exact ⟨_, pe_ix ix_seq pa pb hs, sp2v q_ix sa sb⟩
/-! ### slices -/
def cutG {α : Type} (xs : List α) (lo hi : Option Int) : List α := (xs.drop (HT.sIx xs.length 0 lo)).take (HT.sIx xs.length xs.length hi - HT.sIx xs.length 0 lo)
theorem cutG_rep {K : PySem.W.Frag} {H : Hp} {vs : List V} {ds : List D} (lo hi : Option Int) (r : RepDs K H vs ds) : RepDs K H (cutV vs lo hi) (cutG ds lo hi) := by
  unfold cutV cutG
  rw [r.length]
  exact (r.drop _).take _
theorem cutG_whole {α : Type} {xs : List α} {lo hi : Option Int} (h1 : HT.sIx xs.length 0 lo = 0) (h2 : HT.sIx xs.length xs.length hi = xs.length) : cutG xs lo hi = xs := by
  unfold cutG
  rw [h1, h2, List.drop_zero, Nat.sub_zero, List.take_length]
def fSl : T → Option Int → Option Int → Option T
  | .d (.tup ds), lo, hi => some (.d (.tup (cutG ds lo hi)))
  | .d (.rol ds), lo, hi => some (.l ((cutG ds lo hi).map T.d))
  | .l xs, lo, hi => (allD xs).map fun ds => .l ((cutG ds lo hi).map T.d)
  | .d (.str z), lo, hi => if z.length ≤ most then some (.d (.str (cutS z lo hi))) else none
  | _, _, _ => none
def asI : T → Option Int
  | .d (.int i) => some i
  | _ => none
def oN : En → R (Option Int) := fun _ => .ok none
def oS (g : En → R T) : En → R (Option Int) := fun en => (g en).bind fun x => (R.of (asI x)).bind fun i => .ok (some i)
def OQ (σ : St) (H : Hp) (Q : Option Int → Hp → Prop) : R (Option Int) → Prop
  | .ok i => ∀ H', Same H H' → Q i H'
  | .ex c => XQ X W σ H c
  | .no => False
def SpO (X : Cx) (W : WX) (g : En → R (Option Int)) (t : TO) : Prop := ∀ σ H en Q, VEn X.K H σ en → OQ (X := X) (W := W) σ H Q (g en) → t σ H Q
def POv (X : Cx) (W : WX) (e : Option Expr) (g : En → R (Option Int)) : Prop := ∃ t, PO X e t ∧ SpO X W g t
theorem o_none : POv X W none oN := ⟨_, po_none, fun σ H en Q ve q => q H (Same.refl H)⟩
theorem o_some (ha : PV X W a g) : POv X W (some a) (oS g) := by
  obtain ⟨t, p, s⟩ := ha
  refine ⟨_, po_some p, fun σ H en Q ve q => s σ H en _ ve ?_⟩
  unfold oS at q
  cases e : g en with
  | ok x =>
    rw [e] at q
    intro v H' G sm o
    cases x with
    | l xs => exact q.elim
    | d d =>
      cases o with
      | d r =>
        cases r with
        | int i => exact ⟨i, rfl, q H' sm⟩
        | _ => exact q.elim
  | ex c => rw [e] at q; exact q
  | no => rw [e] at q; exact q
def gSl (g : En → R T) (lo hi : En → R (Option Int)) : En → R T := fun en => (g en).bind fun x => (lo en).bind fun l => (hi en).bind fun h => .of (fSl x l h)
theorem n_slice {lo hi : Option Expr} {gl gh : En → R (Option Int)} {p2 : Pos} (ha : PV X W a g) (hl : POv X W lo gl) (hh : POv X W hi gh) : PN X W (.Subscript a (.Slice lo hi none p2) pos) (gSl g gl gh) := by
  obtain ⟨t, p, s⟩ := ha
  obtain ⟨tl, pl, sl⟩ := hl
  obtain ⟨th, ph, sh⟩ := hh
  refine ⟨_, pe_slice (sl_list.or (sl_tupA.or sl_str)) p pl ph, fun σ H en Q ve q => s σ H en _ ve ?_⟩
  unfold gSl at q
  cases e : g en with
  | ok x =>
    rw [e] at q
    intro v H' G sm o
    refine sl σ H' en _ (ve.mono sm) ?_
    cases e2 : gl en with
    | ok l =>
      rw [e2] at q
      intro H2 s2
      refine sh σ H2 en _ (ve.mono (sm.trans s2)) ?_
      cases e3 : gh en with
      | ok h =>
        rw [e3] at q
        intro H3 s3
        have sm3 := (sm.trans s2).trans s3
        replace o := o.mono (s2.trans s3)
        simp only [R.bind_ok] at q
        cases o with
        | d r =>
          cases r with
          | tup sq rr =>
            refine .inr (.inl ⟨_, _, rfl, sq, fun hw => ?_, fun hw p np => ?_⟩)
            · rw [rr.length] at hw
              simp only [fSl, R.of_some, cutG_whole hw.1 hw.2] at q
              exact q _ H3 [] sm3 (.d (.tup sq rr)) Fresh.nil
            · exact q _ _ [] (sm3.trans (same_new np)) (.d (.tup (SqT.of upd_same) ((cutG_rep l h rr).mono (.of (same_new np))))) Fresh.nil
          | rol sq rr =>
            refine .inl ⟨_, _, rfl, sq H3 (Pst.refl H3), fun p np => ?_⟩
            refine q _ _ [p] (sm3.trans (same_new np)) (.l upd_same ((cutG_rep l h rr).mono (.of (same_new np))).owns) ⟨by simp, fun c m => ?_⟩
            have e : c = p := by simpa using m
            rw [e]; exact sm3.free np
          | str z =>
            simp only [fSl] at q
            split at q
            · rename_i hz
              exact .inr (.inr ⟨z, rfl, by rw [most_eq]; exact hz, q _ H3 [] sm3 (.d (.str _)) Fresh.nil⟩)
            · exact q.elim
          | _ => exact q.elim
        | @l a' vs xs F hs rr =>
          cases ea : allD xs with
          | none => simp only [fSl, ea, Option.map_none, R.of_none] at q; exact q.elim
          | some ds =>
            simp only [fSl, ea, Option.map_some, R.of_some] at q
            have e1 := allD_eq ea
            subst e1
            refine .inl ⟨_, _, rfl, SqL.of hs, fun p np => ?_⟩
            refine q _ _ [p] (sm3.trans (same_new np)) (.l upd_same ((cutG_rep l h rr.data.1).mono (.of (same_new np))).owns) ⟨by simp, fun c m => ?_⟩
            have e : c = p := by simpa using m
            rw [e]; exact sm3.free np
      | ex c => rw [e3] at q; exact XQ.mono (W := W) (sm.trans s2) q
      | no => rw [e3] at q; exact q
    | ex c => rw [e2] at q; exact XQ.mono (W := W) sm q
    | no => rw [e2] at q; exact q
  | ex c => rw [e] at q; exact q
  | no => rw [e] at q; exact q
/-! ### displays, arguments -/
def aNil {α : Type} : En → R (List α) := fun _ => .ok []
def aCons {α : Type} (g : En → R α) (h : En → R (List α)) : En → R (List α) := fun en => (g en).bind fun x => (h en).bind fun xs => .ok (x :: xs)
variable {es : List Expr} {gs : En → R (List T)}
theorem av_nil : PAv X W [] aNil := ⟨_, pa_nil, fun σ H en Q ve q => q [] H (Same.refl H) .nil⟩
theorem av_cons (ha : PV X W a g) (hr : PAv X W es gs) (hs : starEach (a :: es) X.env = (false, eval a X.env) :: starEach es X.env := by rfl) : PAv X W (a :: es) (aCons g gs) := by
  obtain ⟨t, p, s⟩ := ha
  obtain ⟨t2, p2, s2⟩ := hr
  refine ⟨_, pa_cons p p2 hs, fun σ H en Q ve q => s σ H en _ ve ?_⟩
  unfold aCons at q
  cases e : g en with
  | ok x =>
    rw [e] at q
    intro v H' G sm o
    refine s2 σ H' en _ (ve.mono sm) ?_
    cases e2 : gs en with
    | ok xs =>
      rw [e2] at q
      exact fun vs H2 sm2 w => q (v :: vs) H2 (sm.trans sm2) (.cons (o.mono sm2) w)
    | ex c => rw [e2] at q; exact XQ.mono (W := W) sm q
    | no => rw [e2] at q; exact q
  | ex c => rw [e] at q; exact q
  | no => rw [e] at q; exact q
theorem an_nil : PAn X W [] aNil := ⟨_, pa_nil, fun σ H en Q ve q => q [] H [] (Same.refl H) .nil Fresh.nil⟩
theorem Fresh.app {H H' : Hp} {F G : List Addr} (s : Same H H') (f : Fresh H F) (d : ∀ a ∈ F, H' a ≠ none) (g : Fresh H' G) : Fresh H (F ++ G) := by
  refine ⟨List.nodup_append.mpr ⟨f.1, g.1, fun a ha b hb e => ?_⟩, fun a m => (List.mem_append.mp m).elim (f.2 a) fun z => s.free (g.2 a z)⟩
  subst e
  exact d a ha (g.2 a hb)
theorem Own.there {K : PySem.W.Frag} {H : Hp} {v : V} {x : T} {F : List Addr} (o : Own K H v x F) : ∀ a ∈ F, H a ≠ none := fun a m e => by
  obtain ⟨vs, h⟩ := o.dom a m
  rw [e] at h; cases h
theorem Owns.there {K : PySem.W.Frag} {H : Hp} {vs : List V} {xs : List T} {F : List Addr} (o : Owns K H vs xs F) : ∀ a ∈ F, H a ≠ none := fun a m e => by
  obtain ⟨vs, h⟩ := o.dom a m
  rw [e] at h; cases h
theorem an_cons (ha : PN X W a g) (hr : PAn X W es gs) (hs : starEach (a :: es) X.env = (false, eval a X.env) :: starEach es X.env := by rfl) : PAn X W (a :: es) (aCons g gs) := by
  obtain ⟨t, p, s⟩ := ha
  obtain ⟨t2, p2, s2⟩ := hr
  refine ⟨_, pa_cons p p2 hs, fun σ H en Q ve q => s σ H en _ ve ?_⟩
  unfold aCons at q
  cases e : g en with
  | ok x =>
    rw [e] at q
    intro v H' G sm o f
    refine s2 σ H' en _ (ve.mono sm) ?_
    cases e2 : gs en with
    | ok xs =>
      rw [e2] at q
      exact fun vs H2 F sm2 w f2 => q (v :: vs) H2 (G ++ F) (sm.trans sm2) (.cons (o.mono sm2) w) (f.app sm o.there f2)
    | ex c => rw [e2] at q; exact XQ.mono (W := W) sm q
    | no => rw [e2] at q; exact q
  | ex c => rw [e] at q; exact q
  | no => rw [e] at q; exact q
theorem Vws.data {K : PySem.W.Frag} {H : Hp} : ∀ {vs : List V} {ds : List D}, Vws K H vs (ds.map T.d) → RepDs K H vs ds
  | _, [], .nil => .nil
  | _, d :: ds, .cons (.d r) t => .cons r (Vws.data t)
def mkTup (xs : List T) : R T := match allD xs with
  | some ds => if ds.length ≤ most then .ok (.d (.tup ds)) else .no
  | none => .no
def mkLst (xs : List T) : R T := if xs.length ≤ most then .ok (.l xs) else .no
def gTup (g : En → R (List T)) : En → R T := fun en => (g en).bind mkTup
def gLst (g : En → R (List T)) : En → R T := fun en => (g en).bind mkLst
theorem n_tup {k} (ha : PAv X W es gs) : PN X W (.Tuple es k pos) (gTup gs) := by
  obtain ⟨t, p, s⟩ := ha
  refine ⟨_, pe_tup p, fun σ H en Q ve q => s σ H en _ ve ?_⟩
  unfold gTup at q
  cases e : gs en with
  | ok xs =>
    rw [e] at q
    intro vs H' sm w
    simp only [R.bind_ok, mkTup] at q
    cases ea : allD xs with
    | none => rw [ea] at q; exact q.elim
    | some ds =>
      rw [ea] at q
      have e1 := allD_eq ea
      subst e1
      have rr := w.data
      simp only at q
      split at q
      · rename_i hz
        refine ⟨by rw [most_eq, rr.length]; exact hz, fun p np => ?_⟩
        exact q _ _ [] (sm.trans (same_new np)) (.d (.tup (SqT.of upd_same) (rr.mono (.of (same_new np))))) Fresh.nil
      · exact q.elim
  | ex c => rw [e] at q; exact q
  | no => rw [e] at q; exact q
theorem n_lst (ha : PAn X W es gs) : PN X W (.List es pos) (gLst gs) := by
  obtain ⟨t, p, s⟩ := ha
  refine ⟨_, pe_lst p, fun σ H en Q ve q => s σ H en _ ve ?_⟩
  unfold gLst at q
  cases e : gs en with
  | ok xs =>
    rw [e] at q
    intro vs H' F sm w f
    simp only [R.bind_ok, mkLst] at q
    split at q
    · rename_i hz
      refine ⟨by rw [most_eq, w.length]; exact hz, fun p np => ?_⟩
      have np' : H p = none := sm.free np
      refine q _ _ (p :: F) (sm.trans (same_new np)) (.l upd_same (w.mono (same_new np))) ⟨List.nodup_cons.mpr ⟨fun m => w.there p m np, f.1⟩, fun c m => ?_⟩
      rcases List.mem_cons.mp m with rfl | m
      · exact np'
      · exact f.2 c m
    · exact q.elim
  | ex c => rw [e] at q; exact q
  | no => rw [e] at q; exact q
/-! ### built-ins -/
def QL (K : PySem.W.Frag) (r : List V → Hp → VK → Prop) (f : List T → Option T) : Prop := ∀ (H : Hp) (xs : List T) (vs : List V) (z : T) (Q : VK), Vws K H vs xs → f xs = some z → (∀ v H' G, Same H H' → Own K H' v z G → Fresh H G → Q v H') → r vs H Q
structure Bf (X : Cx) (u : Value) (f : List T → Option T) : Prop where
  p : ∃ r, CallR X u r ∧ QL X.K r f
def gCall (f : List T → Option T) (g : En → R (List T)) : En → R T := fun en => (g en).bind fun xs => .of (f xs)
theorem spCB {r : List V → Hp → VK → Prop} {f : List T → Option T} {t : TA} (q : QL X.K r f) (s : SpA X W gs t) : SpN X W (gCall f gs) (tCB r t) := by
  intro σ H en Q ve h
  refine s σ H en _ ve ?_
  unfold gCall at h
  cases e : gs en with
  | ok xs =>
    rw [e] at h
    intro vs H' sm w
    cases ef : f xs with
    | none => simp only [R.bind_ok, ef, R.of_none] at h; exact h.elim
    | some z =>
      simp only [R.bind_ok, ef, R.of_some] at h
      exact q H' xs vs z Q w ef fun v H2 G s2 o fr => h v H2 G (sm.trans s2) o (fr.back sm)
  | ex c => rw [e] at h; exact h
  | no => rw [e] at h; exact h
theorem n_callB {x id : String} {f : List T → Option T} {p : Pos} (o : Bf X (.builtin id) f) (hv : bootBuiltins x = some (.builtin id)) (hm : X.mg x = none) (ha : PAv X W (a :: es) gs) (hg : Gl X x := by rfl) (hn : (Str.ofString x) ≠ "__name__" := by decide) (hdb : ((Str.ofString x) == ("__debug__" : Str)) = false := by decide)
    (he : starEach (a :: es) X.env = (false, eval a X.env) :: starEach es X.env := by rfl) (hpl : (backTo pos (starEach es X.env)).any (·.1) = false := by rfl) : PN X W (.Call (.Name x p) (a :: es) [] pos) (gCall f gs) := by
  obtain ⟨r, hc, q⟩ := o.p
  obtain ⟨t, pa, s⟩ := ha
  exact ⟨_, pe_callB hc hg hm hv pa hn hdb he hpl, spCB q s⟩
theorem n_callT {x Ty : String} {f : List T → Option T} {p : Pos} (o : Bf X (.type Ty) f) (hv : bootBuiltins x = some (.type Ty)) (hm : X.mg x = none) (ha : PAv X W (a :: es) gs) (hg : Gl X x := by rfl) (hn : (Str.ofString x) ≠ "__name__" := by decide) (hdb : ((Str.ofString x) == ("__debug__" : Str)) = false := by decide)
    (he : starEach (a :: es) X.env = (false, eval a X.env) :: starEach es X.env := by rfl) (hpl : (backTo pos (starEach es X.env)).any (·.1) = false := by rfl) : PN X W (.Call (.Name x p) (a :: es) [] pos) (gCall f gs) := by
  obtain ⟨r, hc, q⟩ := o.p
  obtain ⟨t, pa, s⟩ := ha
  exact ⟨_, pe_callTy hc hg hm hv pa hn hdb he hpl, spCB q s⟩
def fLen : List T → Option T
  | [.d (.str y)] => if y.length ≤ most then some (.d (.int y.length)) else none
  | [.d (.tup ds)] => some (.d (.int ds.length))
  | [.d (.rol ds)] => some (.d (.int ds.length))
  | [.l xs] => some (.d (.int xs.length))
  | _ => none
theorem f_len : Bf X (.builtin "len") fLen := ⟨_, call_len, fun H xs vs z Q w e q => by
  unfold fLen at e
  split at e
  · split at e <;> cases e
    rename_i hz
    cases w with | cons o t => cases t; cases o with | d r => cases r; exact ⟨_, _, rfl, ⟨by rw [most_eq]; exact hz, rfl⟩, fin_d (.int _) q⟩
  · cases e
    cases w with | cons o t => cases t; cases o with | d r => cases r with | tup s r => exact ⟨_, _, rfl, .inr ⟨_, s, rfl⟩, by rw [r.length]; exact fin_d (.int _) q⟩
  · cases e
    cases w with | cons o t => cases t; cases o with | d r => cases r with | rol s r => exact ⟨_, _, rfl, .inl ⟨_, s H (Pst.refl H), rfl⟩, by rw [r.length]; exact fin_d (.int _) q⟩
  · cases e
    cases w with | cons o t => cases t; cases o with | l s r => exact ⟨_, _, rfl, .inl ⟨_, SqL.of s, rfl⟩, by rw [r.length]; exact fin_d (.int _) q⟩
  · cases e⟩
def fAbs : List T → Option T
  | [.d (.int i)] => some (.d (.int (if i < 0 then -i else i)))
  | _ => none
theorem f_abs : Bf X (.builtin "abs") fAbs := ⟨_, call_abs, fun H xs vs z Q w e q => by
  unfold fAbs at e
  split at e <;> cases e
  cases w with | cons o t => cases t; cases o with | d r => cases r; exact ⟨_, rfl, fin_d (.int _) q⟩⟩
def fInt : List T → Option T
  | [.d (.int i)] => some (.d (.int i))
  | [.d (.bl k)] => some (.d (.int (if k then 1 else 0)))
  | _ => none
theorem f_int : Bf X (.type "int") fInt := ⟨_, call_int1, fun H xs vs z Q w e q => by
  unfold fInt at e
  split at e <;> cases e
  · cases w with | cons o t => cases t; cases o with | d r => cases r; exact .inl ⟨_, rfl, fin_d (.int _) q⟩
  · cases w with | cons o t => cases t; cases o with | d r => cases r; exact .inr ⟨_, rfl, fin_d (.int _) q⟩⟩
def asInts : List D → Option (List Int)
  | [] => some []
  | .int i :: r => (asInts r).map (i :: ·)
  | _ :: _ => none
@[simp] theorem asInts_map : ∀ ns : List Int, asInts (ns.map D.int) = some ns
  | [] => rfl
  | n :: r => by rw [List.map_cons, asInts, asInts_map r]; rfl
theorem asInts_eq : ∀ {ds : List D} {ns : List Int}, asInts ds = some ns → ds = ns.map D.int
  | [], ns, h => by cases h; rfl
  | .int i :: r, ns, h => by
    unfold asInts at h
    cases e : asInts r with
    | none => rw [e] at h; cases h
    | some es => rw [e] at h; cases h; rw [asInts_eq e]; rfl
  | .non :: _, _, h => by cases h
  | .bl _ :: _, _, h => by cases h
  | .str _ :: _, _, h => by cases h
  | .tup _ :: _, _, h => by cases h
  | .rol _ :: _, _, h => by cases h
theorem RepDs.ints {K : PySem.W.Frag} {H : Hp} : ∀ {vs : List V} {ns : List Int}, RepDs K H vs (ns.map D.int) → vs = ns.map V.int
  | _, [], .nil => rfl
  | _, n :: r, .cons (.int _) t => by rw [RepDs.ints t]; rfl
def asBls : List D → Option (List Bool)
  | [] => some []
  | .bl i :: r => (asBls r).map (i :: ·)
  | _ :: _ => none
@[simp] theorem asBls_map : ∀ ns : List Bool, asBls (ns.map D.bl) = some ns
  | [] => rfl
  | n :: r => by rw [List.map_cons, asBls, asBls_map r]; rfl
theorem asBls_eq : ∀ {ds : List D} {ns : List Bool}, asBls ds = some ns → ds = ns.map D.bl
  | [], ns, h => by cases h; rfl
  | .bl i :: r, ns, h => by
    unfold asBls at h
    cases e : asBls r with
    | none => rw [e] at h; cases h
    | some es => rw [e] at h; cases h; rw [asBls_eq e]; rfl
  | .non :: _, _, h => by cases h
  | .int _ :: _, _, h => by cases h
  | .str _ :: _, _, h => by cases h
  | .tup _ :: _, _, h => by cases h
  | .rol _ :: _, _, h => by cases h
theorem RepDs.bls {K : PySem.W.Frag} {H : Hp} : ∀ {vs : List V} {ns : List Bool}, RepDs K H vs (ns.map D.bl) → vs = ns.map V.bl
  | _, [], .nil => rfl
  | _, n :: r, .cons (.bl _) t => by rw [RepDs.bls t]; rfl
/-- the items of a list that are data -/
def lstOf : T → Option (List D)
  | .d (.rol ds) => some ds
  | .l xs => allD xs
  | _ => none
theorem lstOf_ok {K : PySem.W.Frag} {H : Hp} {v : V} {x : T} {G : List Addr} {ds : List D} (o : Own K H v x G) (h : lstOf x = some ds) : ∃ a vs, v = .ref a ∧ SqL K H a vs ∧ RepDs K H vs ds := by
  cases o with
  | d r =>
    cases r with
    | rol s r => cases h; exact ⟨_, _, rfl, s H (Pst.refl H), r⟩
    | _ => cases h
  | l s r =>
    have e := allD_eq h
    subst e
    exact ⟨_, _, rfl, SqL.of s, r.data.1⟩
def fSum : List T → Option T
  | [x] => (lstOf x).bind fun ds => (asInts ds).map fun ns => .d (.int ns.sum)
  | _ => none
theorem f_sum (hc : X.calm = true) : Bf X (.builtin "sum") fSum := ⟨_, cr_sum hc, fun H xs vs z Q w e q => by
  unfold fSum at e
  split at e
  · obtain ⟨ds, e1, e⟩ := Option.bind_eq_some_iff.mp e
    obtain ⟨ns, e2, rfl⟩ := Option.map_eq_some_iff.mp e
    have e3 := asInts_eq e2
    subst e3
    cases w with
    | cons o t =>
      cases t
      obtain ⟨a, us, rfl, s, r⟩ := lstOf_ok o e1
      have e4 := r.ints
      subst e4
      exact ⟨a, ns, rfl, s, fin_d (.int _) q⟩
  · cases e⟩
def fAll : List T → Option T
  | [x] => (lstOf x).bind fun ds => (asBls ds).map fun ns => .d (.bl (ns.all id))
  | _ => none
theorem f_all (hc : X.calm = true) : Bf X (.builtin "all") fAll := ⟨_, cr_all hc, fun H xs vs z Q w e q => by
  unfold fAll at e
  split at e
  · obtain ⟨ds, e1, e⟩ := Option.bind_eq_some_iff.mp e
    obtain ⟨ns, e2, rfl⟩ := Option.map_eq_some_iff.mp e
    have e3 := asBls_eq e2
    subst e3
    cases w with
    | cons o t =>
      cases t
      obtain ⟨a, us, rfl, s, r⟩ := lstOf_ok o e1
      have e4 := r.bls
      subst e4
      exact ⟨a, ns, rfl, s, fin_d (.bl _) q⟩
  · cases e⟩
def truD (d : D) : Option Bool := tru (.d d)
def truDs : List D → Option (List Bool)
  | [] => some []
  | d :: r => (truD d).bind fun b => (truDs r).map (b :: ·)
def fMax2 : List T → Option T
  | [.d (.int i), .d (.int j)] => some (.d (.int (max i j)))
  | _ => none
theorem f_max2 (hc : X.calm = true) : Bf X (.builtin "max") fMax2 := ⟨_, call_max2 hc, fun H xs vs z Q w e q => by
  unfold fMax2 at e
  split at e <;> cases e
  cases w with | cons o t => cases o with | d r => cases r; cases t with | cons o2 t => cases t; cases o2 with | d r2 => cases r2; exact ⟨_, _, rfl, by
    have := fin_d (.int _) q
    rename_i i j
    rw [show (if j > i then j else i) = max i j by omega]
    exact this⟩⟩
def fMin2 : List T → Option T
  | [.d (.int i), .d (.int j)] => some (.d (.int (min i j)))
  | _ => none
theorem f_min2 (hc : X.calm = true) : Bf X (.builtin "min") fMin2 := ⟨_, call_min2 hc, fun H xs vs z Q w e q => by
  unfold fMin2 at e
  split at e <;> cases e
  cases w with | cons o t => cases o with | d r => cases r; cases t with | cons o2 t => cases t; cases o2 with | d r2 => cases r2; exact ⟨_, _, rfl, by
    have := fin_d (.int _) q
    rename_i i j
    rw [show (if j < i then j else i) = min i j by omega]
    exact this⟩⟩
def fList : List T → Option T
  | [x] => (dataOf x).map fun ds => .l (ds.map T.d)
  | _ => none
theorem f_list : Bf X (.type "list") fList := ⟨_, call_list_of, fun H xs vs z Q w e q => by
  unfold fList at e
  split at e
  · obtain ⟨ds, e1, rfl⟩ := Option.map_eq_some_iff.mp e
    cases w with
    | cons o t =>
      cases t
      obtain ⟨a, us, rfl, s, r⟩ := dataOf_ok o e1
      refine ⟨a, us, rfl, s, fun p np => ?_⟩
      refine q _ _ [p] (same_new np) (.l upd_same (r.mono (.of (same_new np))).owns) ⟨by simp, fun c m => ?_⟩
      have e : c = p := by simpa using m
      rw [e]; exact np
  · cases e⟩
def fTuple : List T → Option T
  | [x] => (dataOf x).map fun ds => .d (.tup ds)
  | _ => none
theorem f_tuple : Bf X (.type "tuple") fTuple := ⟨_, call_tuple_of, fun H xs vs z Q w e q => by
  unfold fTuple at e
  split at e
  · rename_i x
    obtain ⟨ds, e1, rfl⟩ := Option.map_eq_some_iff.mp e
    cases w with
    | cons o t =>
      cases t
      have viaL : ∀ {a us}, SqL X.K H a us → RepDs X.K H us ds → ∀ l, H l = none → Q (.ref l) (upd H l (.tup us)) := fun {a us} _ r p np =>
        q _ _ [] (same_new np) (.d (.tup (SqT.of upd_same) (r.mono (.of (same_new np))))) Fresh.nil
      cases o with
      | d r =>
        cases r with
        | tup s r => cases e1; exact ⟨_, _, rfl, .inr ⟨s, fin_d (.tup s r) q⟩⟩
        | rol s r => cases e1; exact ⟨_, _, rfl, .inl ⟨s H (Pst.refl H), viaL (s H (Pst.refl H)) r⟩⟩
        | _ => cases e1
      | l s r =>
        have e := allD_eq e1
        subst e
        exact ⟨_, _, rfl, .inl ⟨SqL.of s, viaL (SqL.of s) r.data.1⟩⟩
  · cases e⟩
/-! ### isinstance -/
def tyN : T → String
  | .d .non => "NoneType"
  | .d (.bl _) => "bool"
  | .d (.int _) => "int"
  | .d (.str _) => "str"
  | .d (.tup _) => "tuple"
  | .d (.rol _) => "list"
  | .l _ => "list"
theorem sqL_ty {K : PySem.W.Frag} {H : Hp} {a : Addr} {vs : List V} (h : SqL K H a vs) : TyX K H (.ref a) (.type "list") := by
  rcases h with (h | ⟨o, h⟩) | ⟨o, its, n, h, c, _⟩
  · exact .base (.lst h)
  · exact .base (.frz h)
  · exact .kList h c
theorem sqT_ty {K : PySem.W.Frag} {H : Hp} {a : Addr} {vs : List V} (h : SqT K H a vs) : TyX K H (.ref a) (.type "tuple") := by
  rcases h with (h | ⟨o, h⟩) | ⟨o, its, n, h, c, _⟩
  · exact .base (.tup h)
  · exact .fTuple h
  · exact .kTuple h c
theorem ty_of {K : PySem.W.Frag} {H : Hp} {v : V} {x : T} {G : List Addr} (o : Own K H v x G) : TyX K H v (.type (tyN x)) := by
  cases o with
  | d r =>
    cases r with
    | non => exact .base .non
    | bl b => exact .base (.bl b)
    | int b => exact .base (.int b)
    | str b => exact .base (.str b)
    | tup s r => exact sqT_ty s
    | rol s r => exact sqL_ty (s H (Pst.refl H))
  | l s r => exact sqL_ty (SqL.of s)
def isA (cls : String) (f : T → Bool) : Prop := ∀ x, kitB (tyN x) cls = some (f x)
def gIsi (f : T → Bool) (g : En → R T) : En → R T := fun en => (g en).bind fun x => .ok (.d (.bl (f x)))
theorem n_isi {cls : String} {f : T → Bool} {p p2 : Pos} (hf : isA cls f) (hm : X.mg "isinstance" = none) (hm2 : X.mg cls = none) (hv2 : bootBuiltins cls = some (.type cls)) (ha : PV X W a g) (hg : Gl X "isinstance" := by rfl) (hg2 : Gl X cls := by rfl)
    (hn2 : (Str.ofString cls) ≠ "__name__" := by decide) (hd2 : ((Str.ofString cls) == ("__debug__" : Str)) = false := by decide)
    (he : starEach [a, .Name cls p2] X.env = (false, eval a X.env) :: starEach [.Name cls p2] X.env := by rfl) (he2 : starEach [.Name cls p2] X.env = (false, eval (.Name cls p2) X.env) :: starEach [] X.env := by rfl) (hpl : (backTo pos (starEach [.Name cls p2] X.env)).any (·.1) = false := by rfl) :
    PN X W (.Call (.Name "isinstance" p) [a, .Name cls p2] [] pos) (gIsi f g) := by
  obtain ⟨t, pa, s⟩ := ha
  refine ⟨_, pe_callB call_isi hg hm boot_isinstance (pa_cons pa (pa_cons (pe_bltn hg2 hm2 hv2 (show RelV (.ty cls) (.type cls) from rfl) hn2 hd2) pa_nil he2) he) (by decide) (by decide) he hpl, fun σ H en Q ve q => s σ H en _ ve ?_⟩
  unfold gIsi at q
  cases e : g en with
  | ok x =>
    rw [e] at q
    intro v H' G sm o
    exact ⟨v, .ty cls, _, _, f x, rfl, .ty cls, ty_of o, kit_ty (hf x), q _ H' [] sm (.d (.bl _)) Fresh.nil⟩
  | ex c => rw [e] at q; exact q
  | no => rw [e] at q; exact q
def isInt : T → Bool
  | .d (.int _) => true
  | .d (.bl _) => true
  | _ => false
def isBl : T → Bool
  | .d (.bl _) => true
  | _ => false
def isStr : T → Bool
  | .d (.str _) => true
  | _ => false
def isTup : T → Bool
  | .d (.tup _) => true
  | _ => false
def isLst : T → Bool
  | .d (.rol _) => true
  | .l _ => true
  | _ => false
end
theorem kit_int : isA "int" isInt := fun x => match x with
  | .d .non => (by decide +kernel : kitB "NoneType" "int" = some false)
  | .d (.bl _) => (by decide +kernel : kitB "bool" "int" = some true)
  | .d (.int _) => (by decide +kernel : kitB "int" "int" = some true)
  | .d (.str _) => (by decide +kernel : kitB "str" "int" = some false)
  | .d (.tup _) => (by decide +kernel : kitB "tuple" "int" = some false)
  | .d (.rol _) => (by decide +kernel : kitB "list" "int" = some false)
  | .l _ => (by decide +kernel : kitB "list" "int" = some false)
theorem kit_bl : isA "bool" isBl := fun x => match x with
  | .d .non => (by decide +kernel : kitB "NoneType" "bool" = some false)
  | .d (.bl _) => (by decide +kernel : kitB "bool" "bool" = some true)
  | .d (.int _) => (by decide +kernel : kitB "int" "bool" = some false)
  | .d (.str _) => (by decide +kernel : kitB "str" "bool" = some false)
  | .d (.tup _) => (by decide +kernel : kitB "tuple" "bool" = some false)
  | .d (.rol _) => (by decide +kernel : kitB "list" "bool" = some false)
  | .l _ => (by decide +kernel : kitB "list" "bool" = some false)
theorem kit_str : isA "str" isStr := fun x => match x with
  | .d .non => (by decide +kernel : kitB "NoneType" "str" = some false)
  | .d (.bl _) => (by decide +kernel : kitB "bool" "str" = some false)
  | .d (.int _) => (by decide +kernel : kitB "int" "str" = some false)
  | .d (.str _) => (by decide +kernel : kitB "str" "str" = some true)
  | .d (.tup _) => (by decide +kernel : kitB "tuple" "str" = some false)
  | .d (.rol _) => (by decide +kernel : kitB "list" "str" = some false)
  | .l _ => (by decide +kernel : kitB "list" "str" = some false)
theorem kit_tup : isA "tuple" isTup := fun x => match x with
  | .d .non => (by decide +kernel : kitB "NoneType" "tuple" = some false)
  | .d (.bl _) => (by decide +kernel : kitB "bool" "tuple" = some false)
  | .d (.int _) => (by decide +kernel : kitB "int" "tuple" = some false)
  | .d (.str _) => (by decide +kernel : kitB "str" "tuple" = some false)
  | .d (.tup _) => (by decide +kernel : kitB "tuple" "tuple" = some true)
  | .d (.rol _) => (by decide +kernel : kitB "list" "tuple" = some false)
  | .l _ => (by decide +kernel : kitB "list" "tuple" = some false)
theorem kit_lst : isA "list" isLst := fun x => match x with
  | .d .non => (by decide +kernel : kitB "NoneType" "list" = some false)
  | .d (.bl _) => (by decide +kernel : kitB "bool" "list" = some false)
  | .d (.int _) => (by decide +kernel : kitB "int" "list" = some false)
  | .d (.str _) => (by decide +kernel : kitB "str" "list" = some false)
  | .d (.tup _) => (by decide +kernel : kitB "tuple" "list" = some false)
  | .d (.rol _) => (by decide +kernel : kitB "list" "list" = some true)
  | .l _ => (by decide +kernel : kitB "list" "list" = some true)
end Z
/-! Z: what is walked, targets, comprehensions, calls of the text's own defs. -/
namespace Z
open PySem PySem.Spec L2
open PyProof.Rows hiding St

/-! ### what is walked -/
def Kept (G : List Addr) (H H' : Hp) : Prop := Pst H H' ∧ ∀ a ∈ G, ∀ o, H a = some o → H' a = some o
theorem Kept.of {G : List Addr} {H H' : Hp} (s : Same H H') : Kept G H H' := ⟨.of s, fun a _ o e => s a o e⟩
theorem Kept.own {K : PySem.W.Frag} {G F : List Addr} {H H' : Hp} {v : V} {x : T} (k : Kept G H H') (o : Own K H v x F) (h : ∀ a ∈ F, a ∈ G) : Own K H' v x F := o.frame k.1 fun a m => k.2 a (h a m)
theorem Kept.trans {G : List Addr} {H H1 H2 : Hp} (a : Kept G H H1) (b : Kept G H1 H2) : Kept G H H2 := ⟨a.1.trans b.1, fun c m o e => b.2 c m o (a.2 c m o e)⟩
/-- it gives the things of xs, as long as the addresses of G are kept -/
def ItOk (K : PySem.W.Frag) (G : List Addr) (H0 : Hp) (J : It) (xs : List T) : Prop :=
  Walk J xs.length (Kept G H0) fun i H v H' => Same H H' ∧ ∃ x F, xs[i]? = some x ∧ Own K H' v x F ∧ ∀ a ∈ F, a ∈ G
section
variable (X : Cx) (W : WX)
def IQ (σ : St) (H : Hp) (Q : It → Hp → Prop) : R (List T) → Prop
  | .ok xs => ∀ J H' G, Same H H' → ItOk X.K G H' J xs → Q J H'
  | .ex c => XQ X W σ H c
  | .no => False
def JQ (σ : St) (H : Hp) (Q : It → Hp → Prop) : R (List T) → Prop
  | .ok xs => ∀ J H' G, Same H H' → ItOk X.K G H' J xs → Fresh H G → (∀ a ∈ G, H' a ≠ none) → Q J H'
  | .ex c => XQ X W σ H c
  | .no => False
def SpI (g : En → R (List T)) (t : TI) : Prop := ∀ σ H en Q, VEn X.K H σ en → IQ X W σ H Q (g en) → t σ H Q
def SpJ (g : En → R (List T)) (t : TI) : Prop := ∀ σ H en Q, VEn X.K H σ en → JQ X W σ H Q (g en) → t σ H Q
/-- what is walked, seen; .. new -/
def PIv (tg e : Expr) (g : En → R (List T)) : Prop := ∃ t, PI X tg e t ∧ SpI X W g t
def PIn (tg e : Expr) (g : En → R (List T)) : Prop := ∃ t, PI X tg e t ∧ SpJ X W g t
end
section
variable {X : Cx} {W : WX} {tg e : Expr} {g : En → R T} {gi : En → R (List T)}
theorem IQ.jq {σ : St} {H : Hp} {Q : It → Hp → Prop} {r : R (List T)} (h : IQ X W σ H Q r) : JQ X W σ H Q r := by
  cases r with
  | ok xs => exact fun J H' G s o _ _ => h J H' G s o
  | ex c => exact h
  | no => exact h
theorem PIn.v (h : PIn X W tg e gi) : PIv X W tg e gi := let ⟨t, p, s⟩ := h; ⟨t, p, fun σ H en Q v q => s σ H en Q v q.jq⟩
/-- a list, a tuple, a text, walked -/
def tSq (K : PySem.W.Frag) (tl : TE) : TI := fun σ H Q => tl σ H fun x H1 => (∃ a, x = .ref a ∧ (∃ xs, SqL K H1 a xs) ∧ Q (Itl K a) H1) ∨ (∃ a, x = .ref a ∧ (∃ xs, SqT K H1 a xs) ∧ Q (Itt K a) H1) ∨ ∃ z, x = .str z ∧ Q (Its z) H1
/-- an expression whose value is known to be one of three -/
theorem pe_cut {tl : TE} {P : V → Hp → Prop} (h : PE X e tl) : PE X e (fun σ H Q => tl σ H fun x H1 => P x H1 ∧ Q x H1) := ⟨fun pins s σ H Q I hw => thn (h.run pins s σ H _ I hw) fun u s1 ⟨x, H1, I1, r, q⟩ => ⟨x, H1, I1, r, q.2⟩⟩
theorem pi_sq {tl : TE} (hl : PE X e tl) : PI X tg e (tSq X.K tl) := by
  refine ⟨fun pins s σ H Q I h => thn (hl.run pins s σ H _ I h) fun u s1 q => ?_⟩
  obtain ⟨x, H1, I1, r1, q1⟩ := q
  rcases q1 with ⟨a, e1, ⟨xs, hq⟩, q⟩ | ⟨a, e1, ⟨xs, hq⟩, q⟩ | ⟨z, e1, q⟩
  · subst e1; cases r1
    obtain ⟨its, _, p, _⟩ := I1.list hq
    exact wpAny_pyIter_list p.isList (pi_one (tk := s1.toks) I1 _ (turn_list a _) ⟨_, Heap.get?_push_size _ rfl, rfl, rfl⟩ q)
  · subst e1; cases r1
    obtain ⟨its, _, p, _⟩ := I1.tuple hq
    exact wpAny_pyIter_tuple (show s1.heap.IsTuple a its.toArray from p) (pi_one (tk := s1.toks) I1 _ (turn_tuple a _) ⟨_, Heap.get?_push_size _ rfl, rfl, rfl⟩ q)
  · subst e1
    obtain ⟨t, rfl⟩ := r1
    cases ha : z.cps.all (· < 128)
    · exact wpAny_pyIter_wide ha (pi_one (tk := s1.toks) I1 _ (turn_str _ z t "str_iterator" (.inr rfl)) ⟨_, Heap.get?_push_size _ rfl, rfl, rfl⟩ q)
    · exact wpAny_pyIter_ascii ha (pi_one (tk := s1.toks) I1 _ (turn_str _ z t "str_ascii_iterator" (.inl rfl)) ⟨_, Heap.get?_push_size _ rfl, rfl, rfl⟩ q)
def signs (z : Str) : List T := z.cps.toList.map fun c => T.d (.str ⟨#[c]⟩)
/-- the things of a list, a tuple, a text -/
def items : T → Option (List T)
  | .d (.tup ds) => some (ds.map T.d)
  | .d (.rol ds) => some (ds.map T.d)
  | .d (.str z) => some (signs z)
  | .l xs => some xs
  | _ => none
def gIt (g : En → R T) : En → R (List T) := fun en => (g en).bind fun x => .of (items x)
theorem it_list {K : PySem.W.Frag} {H : Hp} {a : Addr} {vs : List V} {xs : List T} {F G : List Addr} (h : ∀ H', Kept G H H' → SqL K H' a vs) (o : Owns K H vs xs F) (s : ∀ c ∈ F, c ∈ G) : ItOk K G H (Itl K a) xs := by
  unfold ItOk
  rw [← o.length]
  refine walk_list.mono h fun i H1 v H2 hi k y => ?_
  obtain ⟨rfl, y⟩ := y
  refine ⟨Same.refl _, ?_⟩
  have hx : i < xs.length := by rw [← o.length]; exact hi
  obtain ⟨v', G', h1, h2, h3⟩ := o.get (List.getElem?_eq_getElem hx)
  rw [y] at h1; cases h1
  exact ⟨_, G', List.getElem?_eq_getElem hx, k.own h2 fun c m => s c (h3 c m), fun c m => s c (h3 c m)⟩
theorem it_tup {K : PySem.W.Frag} {H : Hp} {a : Addr} {vs : List V} {xs : List T} {F G : List Addr} (h : SqT K H a vs) (o : Owns K H vs xs F) (s : ∀ c ∈ F, c ∈ G) : ItOk K G H (Itt K a) xs := by
  unfold ItOk
  rw [← o.length]
  refine walk_tup.mono (fun H' k => sqT_pst k.1 h) fun i H1 v H2 hi k y => ?_
  obtain ⟨rfl, y⟩ := y
  refine ⟨Same.refl _, ?_⟩
  have hx : i < xs.length := by rw [← o.length]; exact hi
  obtain ⟨v', G', h1, h2, h3⟩ := o.get (List.getElem?_eq_getElem hx)
  rw [y] at h1; cases h1
  exact ⟨_, G', List.getElem?_eq_getElem hx, k.own h2 fun c m => s c (h3 c m), fun c m => s c (h3 c m)⟩
theorem it_str {K : PySem.W.Frag} {H : Hp} {z : Str} {G : List Addr} : ItOk K G H (Its z) (signs z) := by
  unfold ItOk
  have e : (signs z).length = z.cps.size := by unfold signs; rw [List.length_map, Array.length_toList]
  rw [e]
  refine walk_str.mono (fun _ _ => trivial) fun i H1 v H2 hi k y => ?_
  obtain ⟨rfl, c, hc, rfl⟩ := y
  refine ⟨Same.refl _, T.d (.str ⟨#[c]⟩), [], ?_, .d (.str _), fun _ m => absurd m List.not_mem_nil⟩
  unfold signs
  rw [List.getElem?_map, Array.getElem?_toList, hc]
  rfl
theorem it_own {K : PySem.W.Frag} {H : Hp} {v : V} {x : T} {G : List Addr} {xs : List T} {Q : It → Hp → Prop} (o : Own K H v x G) (h : items x = some xs) (q : ∀ J, ItOk K G H J xs → Q J H) :
    (∃ a, v = .ref a ∧ (∃ xs, SqL K H a xs) ∧ Q (Itl K a) H) ∨ (∃ a, v = .ref a ∧ (∃ xs, SqT K H a xs) ∧ Q (Itt K a) H) ∨ ∃ z, v = .str z ∧ Q (Its z) H := by
  cases o with
  | d r =>
    cases r with
    | tup s r => cases h; exact .inr (.inl ⟨_, rfl, ⟨_, s⟩, q _ (it_tup s r.owns fun _ m => m)⟩)
    | rol s r => cases h; exact .inl ⟨_, rfl, ⟨_, s H (Pst.refl H)⟩, q _ (it_list (fun H' k => s H' k.1) r.owns fun _ m => m)⟩
    | str z => cases h; exact .inr (.inr ⟨_, rfl, q _ it_str⟩)
    | _ => cases h
  | l s r => cases h; exact .inl ⟨_, rfl, ⟨_, SqL.of s⟩, q _ (it_list (fun H' k => SqL.of (k.2 _ List.mem_cons_self _ s)) r fun c m => List.mem_cons_of_mem _ m)⟩
theorem i_sq (h : PV X W e g) : PIv X W tg e (gIt g) := by
  obtain ⟨t, p, s⟩ := h
  refine ⟨_, pi_sq p, fun σ H en Q ve q => s σ H en _ ve ?_⟩
  unfold gIt at q
  cases e : g en with
  | ok x =>
    rw [e] at q
    intro v H' G sm o
    cases ef : items x with
    | none => simp only [R.bind_ok, ef, R.of_none] at q; exact q.elim
    | some xs =>
      simp only [R.bind_ok, ef, R.of_some] at q
      exact it_own o ef fun J j => q J H' G sm j
  | ex c => rw [e] at q; exact q
  | no => rw [e] at q; exact q
theorem j_sq (h : PN X W e g) : PIn X W tg e (gIt g) := by
  obtain ⟨t, p, s⟩ := h
  refine ⟨_, pi_sq p, fun σ H en Q ve q => s σ H en _ ve ?_⟩
  unfold gIt at q
  cases e : g en with
  | ok x =>
    rw [e] at q
    intro v H' G sm o fr
    cases ef : items x with
    | none => simp only [R.bind_ok, ef, R.of_none] at q; exact q.elim
    | some xs =>
      simp only [R.bind_ok, ef, R.of_some] at q
      exact it_own o ef fun J j => q J H' G sm j fr o.there
  | ex c => rw [e] at q; exact q
  | no => rw [e] at q; exact q
/-! ranges -/
def rng (a c : Int) (n : Nat) : List T := (List.range n).map fun i => T.d (.int (a + (i : Nat) * c))
theorem rng_get {a c : Int} {n i : Nat} (h : i < n) : (rng a c n)[i]? = some (T.d (.int (a + (i : Nat) * c))) := by
  unfold rng
  rw [List.getElem?_map, List.getElem?_range h]
  rfl
theorem rng_len {a c : Int} {n : Nat} : (rng a c n).length = n := by unfold rng; rw [List.length_map, List.length_range]
theorem it_rng {K : PySem.W.Frag} {H : Hp} {a : Int} {n : Nat} {G : List Addr} : ItOk K G H (Itr a n) (rng a 1 n) := by
  unfold ItOk
  rw [rng_len]
  refine walk_range.mono (fun _ _ => trivial) fun i H1 v H2 hi k y => ?_
  obtain ⟨rfl, rfl⟩ := y
  refine ⟨Same.refl _, _, [], rng_get hi, ?_, fun _ m => absurd m List.not_mem_nil⟩
  rw [Int.mul_one]
  exact .d (.int _)
theorem it_rngC {K : PySem.W.Frag} {H : Hp} {a c : Int} {n : Nat} {G : List Addr} : ItOk K G H (Itc a c n) (rng a c n) := by
  unfold ItOk
  rw [rng_len]
  refine walk_rangeC.mono (fun _ _ => trivial) fun i H1 v H2 hi k y => ?_
  obtain ⟨rfl, rfl⟩ := y
  exact ⟨Same.refl _, _, [], rng_get hi, .d (.int _), fun _ m => absurd m List.not_mem_nil⟩
abbrev far : Int := 4611686018427387904
def fR1 : T → R (List T)
  | .d (.int j) => if -far ≤ j ∧ j < far then .ok (rng 0 1 j.toNat) else .no
  | _ => .no
def fR2 : T → T → R (List T)
  | .d (.int i), .d (.int j) => if -far ≤ i ∧ i < far ∧ -far ≤ j ∧ j < far then .ok (rng i 1 (j - i).toNat) else .no
  | _, _ => .no
def fR3 : T → T → T → R (List T)
  | .d (.int i), .d (.int j), .d (.int c) => if c ≠ 0 ∧ c.natAbs < 1073741824 ∧ Builtin.Range.small i j c = true ∧ 0 ≤ Builtin.Range.rangeSize i j c then .ok (rng i c (Builtin.Range.rangeSize i j c).toNat) else .no
  | _, _, _ => .no
def gR1 (g : En → R T) : En → R (List T) := fun en => (g en).bind fR1
def gR2 (ga gb : En → R T) : En → R (List T) := fun en => (ga en).bind fun x => (gb en).bind fun y => fR2 x y
def gR3 (ga gb gc : En → R T) : En → R (List T) := fun en => (ga en).bind fun x => (gb en).bind fun y => (gc en).bind fun z => fR3 x y z
variable {a b c : Expr} {ga gb gc : En → R T} {gs : En → R (List T)} {p pos : Pos}
/-- the reading of arguments, told by what they are -/
theorem JQ.same {σ : St} {H H' : Hp} {Q : It → Hp → Prop} {r : R (List T)} (s : Same H H') (h : JQ X W σ H Q r) : JQ X W σ H' Q r := by
  cases r with
  | ok b => exact fun J H2 G s2 o f t => h J H2 G (s.trans s2) o (f.back s) t
  | ex c => exact XQ.mono (W := W) s h
  | no => exact h
theorem j_rng1 (hm : X.mg "range" = none) (h : PV X W a ga) (hg : Gl X "range" := by rfl) (hs : starEach [a] X.env = [(false, eval a X.env)] := by rfl) : PIn X W tg (.Call (.Name "range" p) [a] [] pos) (gR1 ga) := by
  obtain ⟨t, pp, s⟩ := h
  refine ⟨_, pi_range1 hg hm (pa_cons pp pa_nil (by rw [hs]; rfl)) hs, fun σ H en Q ve q => s σ H en _ ve ?_⟩
  unfold gR1 at q
  cases e : ga en with
  | ok x =>
    rw [e] at q
    intro v H' G sm o
    simp only [R.bind_ok] at q
    unfold fR1 at q
    split at q
    · split at q
      · rename_i hj
        cases o with | d r => cases r; exact ⟨_, rfl, hj.1, hj.2, q _ H' [] sm it_rng Fresh.nil fun _ m => absurd m List.not_mem_nil⟩
      · exact q.elim
    · exact q.elim
  | ex c => rw [e] at q; exact q
  | no => rw [e] at q; exact q
theorem j_rng2 (hm : X.mg "range" = none) (ha : PV X W a ga) (hb : PV X W b gb) (hg : Gl X "range" := by rfl) (hs : starEach [a, b] X.env = [(false, eval a X.env), (false, eval b X.env)] := by rfl) (hs2 : starEach [b] X.env = [(false, eval b X.env)] := by rfl) : PIn X W tg (.Call (.Name "range" p) [a, b] [] pos) (gR2 ga gb) := by
  obtain ⟨t, pp, s⟩ := ha
  obtain ⟨t2, pp2, s2⟩ := hb
  refine ⟨_, pi_range2 hg hm (pa_cons pp (pa_cons pp2 pa_nil (by rw [hs2]; rfl)) (by rw [hs, hs2])) hs hs2, fun σ H en Q ve q => s σ H en _ ve ?_⟩
  unfold gR2 at q
  cases e : ga en with
  | ok x =>
    rw [e] at q
    intro v H' G sm o
    refine s2 σ H' en _ (ve.mono sm) ?_
    cases e2 : gb en with
    | ok y =>
      rw [e2] at q
      intro v2 H2 G2 sm2 o2
      simp only [R.bind_ok] at q
      unfold fR2 at q
      split at q
      · split at q
        · rename_i hj
          cases o with | d r => cases r; cases o2 with | d r2 => cases r2; exact ⟨_, _, rfl, hj, q _ H2 [] (sm.trans sm2) it_rng Fresh.nil fun _ m => absurd m List.not_mem_nil⟩
        · exact q.elim
      · exact q.elim
    | ex c => rw [e2] at q; exact XQ.mono (W := W) sm q
    | no => rw [e2] at q; exact q
  | ex c => rw [e] at q; exact q
  | no => rw [e] at q; exact q
theorem j_rng3 (hm : X.mg "range" = none) (ha : PV X W a ga) (hb : PV X W b gb) (hc : PV X W c gc) (hg : Gl X "range" := by rfl) (hs : starEach [a, b, c] X.env = (false, eval a X.env) :: starEach [b, c] X.env := by rfl) (hs2 : starEach [b, c] X.env = (false, eval b X.env) :: starEach [c] X.env := by rfl) (hs3 : starEach [c] X.env = (false, eval c X.env) :: starEach [] X.env := by rfl)
    (hpl : (backTo pos (starEach [b, c] X.env)).any (·.1) = false := by rfl) : PIn X W tg (.Call (.Name "range" p) [a, b, c] [] pos) (gR3 ga gb gc) := by
  obtain ⟨t, pp, s⟩ := ha
  obtain ⟨t2, pp2, s2⟩ := hb
  obtain ⟨t3, pp3, s3⟩ := hc
  refine ⟨_, pi_range3 hg hm (pa_cons pp (pa_cons pp2 (pa_cons pp3 pa_nil hs3) hs2) hs) hs hpl, fun σ H en Q ve q => s σ H en _ ve ?_⟩
  unfold gR3 at q
  cases e : ga en with
  | ok x =>
    rw [e] at q
    intro v H' G sm o
    refine s2 σ H' en _ (ve.mono sm) ?_
    cases e2 : gb en with
    | ok y =>
      rw [e2] at q
      intro v2 H2 G2 sm2 o2
      refine s3 σ H2 en _ (ve.mono (sm.trans sm2)) ?_
      cases e3 : gc en with
      | ok z =>
        rw [e3] at q
        intro v3 H3 G3 sm3 o3
        simp only [R.bind_ok] at q
        unfold fR3 at q
        split at q
        · split at q
          · rename_i hj
            cases o with | d r => cases r; cases o2 with | d r2 => cases r2; cases o3 with | d r3 => cases r3; exact ⟨_, _, _, _, rfl, ⟨hj.1, hj.2.1, hj.2.2.1, (Int.toNat_of_nonneg hj.2.2.2).symm⟩, q _ H3 [] ((sm.trans sm2).trans sm3) it_rngC Fresh.nil fun _ m => absurd m List.not_mem_nil⟩
          · exact q.elim
        · exact q.elim
      | ex c => rw [e3] at q; exact XQ.mono (W := W) (sm.trans sm2) q
      | no => rw [e3] at q; exact q
    | ex c => rw [e2] at q; exact XQ.mono (W := W) sm q
    | no => rw [e2] at q; exact q
  | ex c => rw [e] at q; exact q
  | no => rw [e] at q; exact q
/-- list(range(..)) -/
def gLR1 (g : En → R T) : En → R T := fun en => (g en).bind fun x => match x with
  | .d (.int n) => if 0 ≤ n ∧ n ≤ 16777216 then .ok (.l (rng 0 1 n.toNat)) else .no
  | _ => .no
def gLR2 (ga gb : En → R T) : En → R T := fun en => (ga en).bind fun x => (gb en).bind fun y => match x, y with
  | .d (.int m), .d (.int n) => if 0 ≤ m ∧ m ≤ 16777216 ∧ 0 ≤ n ∧ n ≤ 16777216 then .ok (.l (rng m 1 (n - m).toNat)) else .no
  | _, _ => .no
theorem rg_rng {K : PySem.W.Frag} {H : Hp} (a b : Int) : RepDs K H (rgV a b) ((List.range (b - a).toNat).map fun i => D.int (a + (i : Nat) * 1)) := by
  unfold rgV
  generalize List.range (b - a).toNat = l
  induction l with
  | nil => exact .nil
  | cons x r ih => exact .cons (by show RepD K H (.int (a + (x : Nat))) (.int (a + (x : Nat) * 1)); rw [Int.mul_one]; exact .int _) ih
theorem rng_own {K : PySem.W.Frag} {H : Hp} (a b : Int) : Owns K H (rgV a b) (rng a 1 (b - a).toNat) [] := by
  have := (rg_rng (K := K) (H := H) a b).owns
  rw [List.map_map] at this
  exact this
theorem new_lst {K : PySem.W.Frag} {H : Hp} {p : Addr} {vs : List V} {xs : List T} (np : H p = none) (o : Owns K H vs xs []) : Own K (upd H p (.lst vs)) (.ref p) (.l xs) [p] := .l upd_same (o.mono (same_new np))
theorem fresh1 {H : Hp} {p : Addr} (np : H p = none) : Fresh H [p] := ⟨by simp, fun c m => by
  have e : c = p := by simpa using m
  rw [e]; exact np⟩
theorem n_lrng1 {p2 pos2 : Pos} (hc : X.calm = true) (hm : X.mg "range" = none) (hm2 : X.mg "list" = none) (ha : PV X W a ga) (hg : Gl X "range" := by rfl) (hg2 : Gl X "list" := by rfl) (hs : starEach [a] X.env = (false, eval a X.env) :: starEach [] X.env := by rfl)
    (hs2 : starEach [.Call (.Name "range" p) [a] [] pos] X.env = (false, eval (.Call (.Name "range" p) [a] [] pos) X.env) :: starEach [] X.env := by rfl) : PN X W (.Call (.Name "list" p2) [.Call (.Name "range" p) [a] [] pos] [] pos2) (gLR1 ga) := by
  obtain ⟨t, pp, s⟩ := ha
  refine ⟨_, pe_listRg hc hg2 hm2 (prg_1 hg hm pp hs) hs2, fun σ H en Q ve q => s σ H en _ ve ?_⟩
  unfold gLR1 at q
  cases e : ga en with
  | ok x =>
    rw [e] at q
    intro v H' G sm o
    simp only [R.bind_ok] at q
    split at q
    · split at q
      · rename_i n hn
        cases o with
        | d r =>
          cases r
          refine ⟨n, rfl, .of_le (by omega) (by omega) (by omega) (by omega), fun p np => ?_⟩
          have ow := rng_own (K := X.K) (H := H') 0 n
          rw [Int.sub_zero] at ow
          exact q _ _ [p] (sm.trans (same_new np)) (new_lst np ow) ((fresh1 np).back sm)
      · exact q.elim
    · exact q.elim
  | ex c => rw [e] at q; exact q
  | no => rw [e] at q; exact q
theorem n_lrng2 {p2 pos2 : Pos} (hc : X.calm = true) (hm : X.mg "range" = none) (hm2 : X.mg "list" = none) (ha : PV X W a ga) (hb : PV X W b gb) (hg : Gl X "range" := by rfl) (hg2 : Gl X "list" := by rfl) (hs : starEach [a, b] X.env = (false, eval a X.env) :: starEach [b] X.env := by rfl) (hsb : starEach [b] X.env = (false, eval b X.env) :: starEach [] X.env := by rfl)
    (hpl : (backTo pos (starEach [b] X.env)).any (·.1) = false := by rfl)
    (hs2 : starEach [.Call (.Name "range" p) [a, b] [] pos] X.env = (false, eval (.Call (.Name "range" p) [a, b] [] pos) X.env) :: starEach [] X.env := by rfl) : PN X W (.Call (.Name "list" p2) [.Call (.Name "range" p) [a, b] [] pos] [] pos2) (gLR2 ga gb) := by
  obtain ⟨t, pp, s⟩ := ha
  obtain ⟨t2, pp2, s2⟩ := hb
  refine ⟨_, pe_listRg hc hg2 hm2 (prg_2 hg hm pp pp2 hs hsb hpl) hs2, fun σ H en Q ve q => s σ H en _ ve ?_⟩
  unfold gLR2 at q
  cases e : ga en with
  | ok x =>
    rw [e] at q
    intro v H' G sm o
    refine s2 σ H' en _ (ve.mono sm) ?_
    cases e2 : gb en with
    | ok y =>
      rw [e2] at q
      intro v2 H2 G2 sm2 o2
      simp only [R.bind_ok] at q
      split at q
      · split at q
        · rename_i n hn
          cases o with
          | d r =>
            cases r
            cases o2 with
            | d r =>
              cases r
              refine ⟨_, _, rfl, rfl, .of_le (by omega) (by omega) (by omega) (by omega), fun p np => ?_⟩
              exact q _ _ [p] ((sm.trans sm2).trans (same_new np)) (new_lst np (rng_own _ _)) ((fresh1 np).back (sm.trans sm2))
        · exact q.elim
      · exact q.elim
    | ex c => rw [e2] at q; exact XQ.mono (W := W) sm q
    | no => rw [e2] at q; exact q
  | ex c => rw [e] at q; exact q
  | no => rw [e] at q; exact q
end
/-! ### targets -/
abbrev Ass := List (Nat × T)
def setS : St → List (Nat × V) → St
  | σ, [] => σ
  | σ, (i, v) :: r => setS (σ.set i (some v)) r
/-- a thing that is seen, or a datum -/
def mkS : T → Sl
  | .d d => .v (.d d)
  | .l xs => .w (.l xs)
theorem mkS_get (x : T) : (mkS x).get = some x := by cases x <;> rfl
def setE : En → Ass → En
  | en, [] => en
  | en, (i, x) :: r => setE (en.set i (mkS x)) r
inductive AsOk (K : PySem.W.Frag) (H : Hp) (G : List Addr) : List (Nat × V) → Ass → Prop
  | nil : AsOk K H G [] []
  | cons {i : Nat} {v : V} {x : T} {F : List Addr} {r : List (Nat × V)} {s : Ass} : Own K H v x F → (∀ a ∈ F, a ∈ G) → AsOk K H G r s → AsOk K H G ((i, v) :: r) ((i, x) :: s)
theorem AsOk.app {K : PySem.W.Frag} {H : Hp} {G : List Addr} : ∀ {r r2 : List (Nat × V)} {s s2 : Ass}, AsOk K H G r s → AsOk K H G r2 s2 → AsOk K H G (r ++ r2) (s ++ s2)
  | _, _, _, _, .nil, h => h
  | _, _, _, _, .cons o m t, h => .cons o m (AsOk.app t h)
theorem setS_app : ∀ (σ : St) (r r2 : List (Nat × V)), setS σ (r ++ r2) = setS (setS σ r) r2
  | _, [], _ => rfl
  | _, (i, v) :: r, r2 => setS_app _ r r2
def tgt (K : PySem.W.Frag) (k : T → Option Ass) : TG := fun v σ H Q => ∃ x G as, Own K H v x G ∧ k x = some as ∧ ∀ vs, AsOk K H G vs as → Q (setS σ vs) H
def PTg (X : Cx) (tg : Expr) (k : T → Option Ass) : Prop := PG X tg (tgt X.K k)
def kName (i : Nat) : T → Option Ass := fun x => some [(i, x)]
theorem t_name (i : Nat) {X : Cx} {x : Str} {pos : Pos} (hN : X.N.Nodup) (hi : X.N[i]? = some x := by rfl) (hx : Loc X.env.scope x := by first | exact .inl rfl | exact .inr rfl) (hf : X.fn x = true ∨ X.env.scope.names.lookup x = some .local := by first | exact .inl rfl | exact .inr rfl) : PTg X (.Name x pos) (kName i) := by
  refine ⟨fun pins s σ H v u Q I r h => (pg_name hN hi hx hf).run pins s σ H v u Q I r ?_⟩
  obtain ⟨x, G, as, o, e, q⟩ := h
  cases e
  exact q [(i, v)] (.cons o (fun _ m => m) .nil)
/-- the parts of a tuple's target -/
def kNil : List D → Option Ass
  | [] => some []
  | _ => none
def kCons (k : T → Option Ass) (r : List D → Option Ass) : List D → Option Ass
  | d :: ds => (k (.d d)).bind fun a => (r ds).map fun b => a ++ b
  | [] => none
def tgts (K : PySem.W.Frag) (k : List D → Option Ass) : TGs := fun vs σ H Q => ∃ ds as, RepDs K H vs ds ∧ k ds = some as ∧ ∀ ws, AsOk K H [] ws as → Q (setS σ ws) H
def PTgs (X : Cx) (ts : List Expr) (k : List D → Option Ass) : Prop := PGs X ts (tgts X.K k)
theorem ts_nil {X : Cx} : PTgs X [] kNil := by
  refine ⟨fun pins s σ H vs us Q I r h => pgs_nil.run pins s σ H vs us Q I r ?_⟩
  obtain ⟨ds, as, rr, e, q⟩ := h
  cases rr with
  | nil => cases e; exact ⟨rfl, q [] .nil⟩
  | cons _ _ => cases e
theorem ts_cons {X : Cx} {e : Expr} {es : List Expr} {k : T → Option Ass} {r : List D → Option Ass} (h1 : PTg X e k) (h2 : PTgs X es r) (hs : (assignEach (e :: es) X.env).map (·.2) = assign e X.env :: (assignEach es X.env).map (·.2) := by rfl) : PTgs X (e :: es) (kCons k r) := by
  refine ⟨fun pins s σ H vs us Q I r h => (pgs_cons h1 h2 hs).run pins s σ H vs us Q I r ?_⟩
  obtain ⟨ds, as, rr, e, q⟩ := h
  cases rr with
  | nil => cases e
  | @cons v vs d ds r1 r2 =>
    obtain ⟨a1, e1, e⟩ := Option.bind_eq_some_iff.mp e
    obtain ⟨a2, e2, rfl⟩ := Option.map_eq_some_iff.mp e
    exact ⟨v, vs, rfl, _, [], a1, .d r1, e1, fun ws w => ⟨ds, a2, r2, e2, fun ws2 w2 => by rw [← setS_app]; exact q _ (w.app w2)⟩⟩
def kTup (n : Nat) (k : List D → Option Ass) : T → Option Ass
  | .d (.tup ds) => if ds.length = n then k ds else none
  | _ => none
theorem t_tup {X : Cx} {es : List Expr} {j : Nat} {n : Nat} {k : List D → Option Ass} {pos : Pos} (hc : X.calm = true) (h : PTgs X es k) (hn : (assignEach es X.env).length = n := by rfl) (hst : (assignEach es X.env).findIdx? (·.1) = none := by rfl) : PTg X (.Tuple es j pos) (kTup n k) := by
  refine ⟨fun pins s σ H v u Q I r hh => (pg_tup hc h hn hst).run pins s σ H v u Q I r ?_⟩
  obtain ⟨x, G, as, o, e, q⟩ := hh
  unfold kTup at e
  split at e
  · split at e
    · rename_i hl
      cases o with
      | d r =>
        cases r with
        | tup s r =>
          refine ⟨_, _, rfl, s, by rw [r.length]; exact hl, _, _, r, e, fun ws w => q ws ?_⟩
          clear q e
          induction w with
          | nil => exact .nil
          | cons o m _ ih => exact .cons o (fun a z => absurd (m a z) List.not_mem_nil) ih
    · cases e
  · cases e
/-! ### the frame behind stores -/
theorem set_at {en : En} {i j : Nat} {s : Sl} {x : T} (h : at_ (en.set i s) j = some x) : (j = i ∧ i < en.length ∧ s.get = some x) ∨ (j ≠ i ∧ at_ en j = some x) := by
  unfold at_ at h
  by_cases e : j = i
  · subst e
    by_cases hl : j < en.length
    · rw [List.getElem?_set_self hl] at h
      exact .inl ⟨rfl, hl, h⟩
    · rw [List.getElem?_eq_none (by rw [List.length_set]; omega)] at h
      cases h
  · rw [List.getElem?_set_ne (Ne.symm e)] at h
    exact .inr ⟨e, h⟩
theorem VEn.set {K : PySem.W.Frag} {H : Hp} {σ : St} {en : En} {i : Nat} {v : V} {x : T} {G : List Addr} {s : Sl} (h : VEn K H σ en) (o : Own K H v x G) (hs : s.get = some x) : VEn K H (σ.set i (some v)) (en.set i s) := by
  refine ⟨by rw [List.length_set, List.length_set]; exact h.len, fun j y e => ?_⟩
  rcases set_at e with ⟨rfl, hl, e1⟩ | ⟨hj, e1⟩
  · rw [hs] at e1; cases e1
    have hz := h.len
    exact ⟨v, G, List.getElem?_set_self (by omega), o⟩
  · obtain ⟨w, F, h1, h2⟩ := h.see j y e1
    exact ⟨w, F, by rw [List.getElem?_set_ne (Ne.symm hj)]; exact h1, h2⟩
theorem VEn.sets {K : PySem.W.Frag} {H : Hp} {G : List Addr} : ∀ {vs : List (Nat × V)} {as : Ass} {σ : St} {en : En}, VEn K H σ en → AsOk K H G vs as → VEn K H (setS σ vs) (setE en as)
  | _, _, _, _, h, .nil => h
  | _, _, σ, en, h, .cons (i := i) (v := v) (x := x) o _ t => by
    show VEn K H (setS (σ.set i (some v)) _) (setE (en.set i (mkS x)) _)
    exact VEn.sets (h.set o (mkS_get x)) t
def wipeE (en : En) : List Nat → En
  | [] => en
  | v :: vs => (wipeE en vs).set v .n
theorem wipeE_len (en : En) : ∀ vs, (wipeE en vs).length = en.length
  | [] => rfl
  | v :: vs => by unfold wipeE; rw [List.length_set, wipeE_len en vs]
theorem VEn.wipe {K : PySem.W.Frag} {H : Hp} {σ : St} {en : En} (h : VEn K H σ en) : ∀ vs : List Nat, VEn K H (wipe σ vs) (wipeE en vs)
  | [] => h
  | v :: vs => by
    have ih := VEn.wipe h vs
    refine ⟨by unfold L2.wipe wipeE; rw [List.length_set, List.length_set]; exact ih.len, fun j y e => ?_⟩
    unfold wipeE at e
    rcases set_at e with ⟨rfl, hl, e1⟩ | ⟨hj, e1⟩
    · cases e1
    · obtain ⟨w, F, h1, h2⟩ := ih.see j y e1
      refine ⟨w, F, ?_, h2⟩
      unfold L2.wipe
      rw [List.getElem?_set_ne (Ne.symm hj)]
      exact h1
theorem wipe_get (σ : St) (i : Nat) : ∀ vs : List Nat, (wipe σ vs)[i]? = if i ∈ vs then (σ[i]?).map fun _ => none else σ[i]?
  | [] => by simp [L2.wipe]
  | v :: vs => by
    unfold L2.wipe
    by_cases e : v = i
    · subst e
      rw [if_pos List.mem_cons_self]
      by_cases hl : v < σ.length
      · rw [List.getElem?_set_self (by rw [wipe_length]; exact hl), List.getElem?_eq_getElem hl]; rfl
      · rw [List.getElem?_eq_none (by rw [List.length_set, wipe_length]; omega), List.getElem?_eq_none (by omega)]; rfl
    · rw [List.getElem?_set_ne e, wipe_get σ i vs]
      have : (i ∈ v :: vs) ↔ i ∈ vs := by simp only [List.mem_cons]; exact ⟨fun h => h.elim (fun z => absurd z.symm e) id, .inr⟩
      by_cases hm : i ∈ vs
      · rw [if_pos hm, if_pos (this.mpr hm)]
      · rw [if_neg hm, if_neg fun z => hm (this.mp z)]
theorem wipe_set {σ : St} {i : Nat} {o : Option V} {vs : List Nat} (h : i ∈ vs) : wipe (σ.set i o) vs = wipe σ vs := by
  apply List.ext_getElem?
  intro j
  rw [wipe_get, wipe_get]
  by_cases e : i = j
  · subst e
    rw [if_pos h, if_pos h]
    by_cases hl : i < σ.length
    · rw [List.getElem?_set_self hl, List.getElem?_eq_getElem hl]; rfl
    · rw [List.getElem?_eq_none (by rw [List.length_set]; omega), List.getElem?_eq_none (by omega)]
  · rw [List.getElem?_set_ne e]
theorem wipe_sets {K : PySem.W.Frag} {H : Hp} {G : List Addr} {ix : List Nat} : ∀ {vs : List (Nat × V)} {as : Ass} {σ : St}, AsOk K H G vs as → (∀ p ∈ as, p.1 ∈ ix) → wipe (setS σ vs) ix = wipe σ ix
  | _, _, _, .nil, _ => rfl
  | _, _, σ, .cons (i := i) (v := v) o _ t, h => by
    show wipe (setS (σ.set i (some v)) _) ix = _
    rw [wipe_sets t fun p m => h p (List.mem_cons_of_mem _ m)]
    exact wipe_set (h _ List.mem_cons_self)
theorem wipe_wipe (σ : St) (vs : List Nat) : wipe (wipe σ vs) vs = wipe σ vs := by
  apply List.ext_getElem?
  intro j
  rw [wipe_get, wipe_get]
  by_cases h : j ∈ vs
  · rw [if_pos h, if_pos h]; cases σ[j]? <;> rfl
  · rw [if_neg h, if_neg h]
end Z
/-! Z: comprehensions, calls of the text's own defs. -/
namespace Z
open PySem PySem.Spec L2
open PyProof.Rows hiding St

/-- nothing leaves a comprehension's block -/
abbrev W0 : WX := fun _ _ _ _ => False
/-! readings by what is computed alone -/
section
variable (X : Cx) (W : WX)
def cN (g : En → R T) : TE := fun σ H Q => ∃ en, VEn X.K H σ en ∧ NQ X W σ H Q (g en)
def cV (g : En → R T) : TE := fun σ H Q => ∃ en, VEn X.K H σ en ∧ VQ X W σ H Q (g en)
def cT (g : En → R Bool) : TT := fun σ H Q => ∃ en, VEn X.K H σ en ∧ TQ X W σ H Q (g en)
def cI (g : En → R (List T)) : TI := fun σ H Q => ∃ en, VEn X.K H σ en ∧ IQ X W σ H Q (g en)
end
section
variable {X : Cx} {W : WX} {e c : Expr} {tg : Expr} {g : En → R T} {gc : En → R Bool} {gi : En → R (List T)}
theorem PN.can (h : PN X W e g) : PE X e (cN X W g) := by
  obtain ⟨t, p, s⟩ := h
  exact ⟨fun pins st σ H Q I ⟨en, ve, q⟩ => p.run pins st σ H Q I (s σ H en Q ve q)⟩
theorem PV.can (h : PV X W e g) : PE X e (cV X W g) := by
  obtain ⟨t, p, s⟩ := h
  exact ⟨fun pins st σ H Q I ⟨en, ve, q⟩ => p.run pins st σ H Q I (s σ H en Q ve q)⟩
theorem PC.can (h : PC X W c gc) : PT X c (cT X W gc) := by
  obtain ⟨t, p, s⟩ := h
  exact ⟨fun pins st σ H Q I ⟨en, ve, q⟩ => p.run pins st σ H Q I (s σ H en Q ve q)⟩
theorem PIv.can (h : PIv X W tg e gi) : PI X tg e (cI X W gi) := by
  obtain ⟨t, p, s⟩ := h
  exact ⟨fun pins st σ H Q I ⟨en, ve, q⟩ => p.run pins st σ H Q I (s σ H en Q ve q)⟩
/-- a clause's tests -/
def PCs (X : Cx) (W : WX) (ifs : List Expr) (g : En → R Bool) : Prop := PTs X ifs (cT X W g)
def gYes : En → R Bool := fun _ => .ok true
theorem cs_nil : PCs X W [] gYes := ⟨fun pins s σ H Q I ⟨en, ve, q⟩ => pts_nil.run pins s σ H Q I (q H (Same.refl H))⟩
theorem cs_one (h : PC X W c gc) : PCs X W [c] gc := pts_one h.can
end
/-! ### [elt for tg in it if ..] -/
def lcL (k : T → Option Ass) (tt : En → R Bool) (te : En → R T) (en : En) : List T → R (List T)
  | [] => .ok []
  | x :: xs => (R.of (k x)).bind fun as => (tt (setE en as)).bind fun b => if b = true then (te (setE en as)).bind fun y => (lcL k tt te en xs).bind fun ys => .ok (y :: ys) else lcL k tt te en xs
/-- a comprehension lets no error out -/
def R.calm {α : Type} : R α → R α
  | .ok a => .ok a
  | _ => .no
def gLc (vs : List Nat) (gi : En → R (List T)) (k : T → Option Ass) (tt : En → R Bool) (te : En → R T) : En → R T := fun en => (gi en).bind fun xs =>
  if xs.length < most then (lcL k tt te (wipeE en vs) xs).calm.bind fun ys => .ok (.l ys) else .no
theorem lcL_len {k : T → Option Ass} {tt : En → R Bool} {te : En → R T} {en : En} : ∀ {xs ys : List T}, lcL k tt te en xs = .ok ys → ys.length ≤ xs.length
  | [], _, h => by cases h; exact Nat.le_refl _
  | x :: xs, ys, h => by
    unfold lcL at h
    cases e1 : k x with
    | none => rw [e1] at h; cases h
    | some as =>
      rw [e1] at h
      simp only [R.of_some, R.bind_ok] at h
      cases e2 : tt (setE en as) with
      | ok b =>
        rw [e2] at h
        simp only [R.bind_ok] at h
        cases b with
        | true =>
          simp only [if_true] at h
          cases e3 : te (setE en as) with
          | ok y =>
            rw [e3] at h
            simp only [R.bind_ok] at h
            cases e4 : lcL k tt te en xs with
            | ok zs => rw [e4] at h; cases h; exact Nat.succ_le_succ (lcL_len e4)
            | ex c => rw [e4] at h; cases h
            | no => rw [e4] at h; cases h
          | ex c => rw [e3] at h; cases h
          | no => rw [e3] at h; cases h
        | false =>
          simp only [Bool.false_eq_true, if_false] at h
          exact Nat.le_succ_of_le (lcL_len h)
      | ex c => rw [e2] at h; cases h
      | no => rw [e2] at h; cases h
theorem Owns.snoc {K : PySem.W.Frag} {H : Hp} {vs : List V} {xs : List T} {F G : List Addr} {v : V} {x : T} (o : Owns K H vs xs F) (p : Own K H v x G) : Owns K H (vs ++ [v]) (xs ++ [x]) (F ++ G) := by
  have := o.append (.cons p .nil)
  rwa [List.append_nil] at this
/-- the new list so far -/
structure Grown (K : PySem.W.Frag) (H0 H1 : Hp) (D : Addr) (ts : List T) (H : Hp) : Prop where
  same : Same H1 H
  own : ∃ vs F, H D = some (.lst vs) ∧ Owns K H vs ts F ∧ Fresh H0 (D :: F)
theorem Grown.more {K : PySem.W.Frag} {H0 H1 H2 H3 H4 : Hp} {D : Addr} {ts : List T} {v : V} {x : T} {G : List Addr} (nD : H1 D = none) (g : Grown K H0 H1 D ts H2) (s : Same H2 H3) (s2 : Same H3 H4) (o : Own K H4 v x G) (f : Fresh H3 G) (s01 : Same H0 H1) (hz : ts.length < most) :
    ∃ acc, H4 D = some (.lst acc) ∧ acc.length < sizeLine ∧ Grown K H0 H1 D (ts ++ [x]) (upd H4 D (.lst (acc ++ [v]))) := by
  obtain ⟨sm, vs, F, hD, ow, fr⟩ := g
  have s24 := s.trans s2
  have hD4 := s24 _ _ hD
  refine ⟨vs, hD4, by rw [most_eq, ow.length]; exact hz, ⟨?_, ?_⟩⟩
  · intro a o' e
    have e4 := s24 _ _ (sm _ _ e)
    rw [upd_ne (ne_of_none e nD)]
    exact e4
  · have nF : ∀ a ∈ F, a ≠ D := fun a m e => (List.nodup_cons.mp fr.1).1 (e ▸ m)
    have tF : ∀ a ∈ F, H2 a ≠ none := fun a m => ow.there a m
    have nG : ∀ a ∈ G, a ≠ D := fun a m e => by
      have := f.2 a m
      rw [e, s _ _ hD] at this; cases this
    have pst : Pst H4 (upd H4 D (.lst (vs ++ [v]))) := ⟨fun a us e => by
      by_cases h : a = D
      · rw [h, hD4] at e; cases e
      · rw [upd_ne h]; exact e, fun a ob u e => by
      by_cases h : a = D
      · rw [h, hD4] at e; cases e
      · rw [upd_ne h]; exact e⟩
    have ow4 : Owns K (upd H4 D (.lst (vs ++ [v]))) vs ts F := (ow.mono s24).frame pst fun a m o' e => by rw [upd_ne (nF a m)]; exact e
    have o4 : Own K (upd H4 D (.lst (vs ++ [v]))) v x G := o.frame pst fun a m o' e => by rw [upd_ne (nG a m)]; exact e
    have fr2 : Fresh H0 (D :: F ++ G) := by
      refine ⟨List.nodup_append.mpr ⟨fr.1, f.1, fun a ha b hb e => ?_⟩, fun a m => (List.mem_append.mp m).elim (fr.2 a) fun m => ((s01.trans sm).trans s).free (f.2 a m)⟩
      subst e
      rcases List.mem_cons.mp ha with rfl | ha
      · exact nG _ hb rfl
      · exact tF a ha (s.free (f.2 a hb))
    exact ⟨vs ++ [v], F ++ G, upd_same, ow4.snoc o4, by rw [List.cons_append] at fr2; exact fr2⟩
section
variable {X : Cx} {W : WX} {elt tg it : Expr} {ifs : List Expr} {scope : Scope} {pos : Pos} {gi : En → R (List T)} {k : T → Option Ass} {tt : En → R Bool} {te : En → R T}
/-- the reading -/
theorem sp_lc {own : List (Str × Nat)} (hk : ∀ x as, k x = some as → ∀ p ∈ as, p.1 ∈ own.map (·.2)) : ∀ σ H en Q, VEn X.K H σ en → NQ X W σ H Q (gLc (own.map (·.2)) gi k tt te en) → tLc (cI X W gi) (tgt X.K k) (cT X W0 tt) (cN X W0 te) (own.map (·.2)) σ H Q := by
  intro σ H en Q ve q
  refine ⟨en, ve, ?_⟩
  unfold gLc at q
  cases e : gi en with
  | ex c => rw [e] at q; exact q
  | no => rw [e] at q; exact q
  | ok xs =>
    rw [e] at q
    intro J H1 G s1 iok D nD
    simp only [R.bind_ok] at q
    split at q
    · rename_i hz
      cases el : lcL k tt te (wipeE en (own.map (·.2))) xs with
      | ex c => rw [el] at q; exact q.elim
      | no => rw [el] at q; exact q.elim
      | ok ys =>
        rw [el] at q
        simp only [R.calm, R.bind_ok] at q
        have yz : ys.length < most := Nat.lt_of_le_of_lt (lcL_len el) hz
        refine lc_it iok (fun i H2 => ∃ ts rest, Grown X.K H H1 D ts H2 ∧ lcL k tt te (wipeE en (own.map (·.2))) (xs.drop i) = .ok rest ∧ ts ++ rest = ys) ⟨[], ys, ⟨same_new nD, [], [], upd_same, .nil, (fresh1 nD).back s1⟩, by rw [List.drop_zero]; exact el, rfl⟩ (fun i H2 _ h => ?_) (fun i v H2 H3 hi h y => ?_) (fun H2 h => ?_)
        · obtain ⟨ts, rest, g, _, _⟩ := h
          exact .of g.same
        · obtain ⟨ts, rest, g, er, eq⟩ := h
          obtain ⟨s3, x, F, hx, ox, hF⟩ := y
          have hd : xs.drop i = x :: xs.drop (i + 1) := by
            rw [List.drop_eq_getElem_cons hi]
            rw [List.getElem?_eq_getElem hi] at hx
            rw [Option.some.inj hx]
          rw [hd] at er
          unfold lcL at er
          cases ek : k x with
          | none => rw [ek] at er; cases er
          | some as =>
            rw [ek] at er
            simp only [R.of_some, R.bind_ok] at er
            refine ⟨x, F, as, ox, ek, fun ws aok => ⟨by rw [wipe_sets aok (hk x as ek), wipe_wipe], ?_⟩⟩
            have s13 : Same H H3 := (s1.trans g.same).trans s3
            have ve3 : VEn X.K H3 (setS (wipe σ (own.map (·.2))) ws) (setE (wipeE en (own.map (·.2))) as) := ((ve.mono s13).wipe _).sets aok
            refine ⟨_, ve3, ?_⟩
            cases et : tt (setE (wipeE en (own.map (·.2))) as) with
            | ex c => rw [et] at er; cases er
            | no => rw [et] at er; cases er
            | ok b =>
              rw [et] at er
              simp only [R.bind_ok] at er
              intro H4 s4
              cases b with
              | false =>
                simp only [Bool.false_eq_true, if_false] at er ⊢
                obtain ⟨sm, vs, F', hD, ow, fr⟩ := g
                exact ⟨ts, rest, ⟨(sm.trans s3).trans s4, vs, F', s4 _ _ (s3 _ _ hD), ow.mono (s3.trans s4), fr⟩, er, eq⟩
              | true =>
                simp only [if_true] at er ⊢
                refine ⟨_, ve3.mono s4, ?_⟩
                cases ee : te (setE (wipeE en (own.map (·.2))) as) with
                | ex c => rw [ee] at er; cases er
                | no => rw [ee] at er; cases er
                | ok y =>
                  rw [ee] at er
                  simp only [R.bind_ok] at er
                  cases e2 : lcL k tt te (wipeE en (own.map (·.2))) (xs.drop (i + 1)) with
                  | ex c => rw [e2] at er; cases er
                  | no => rw [e2] at er; cases er
                  | ok rs =>
                    rw [e2] at er
                    simp only [R.bind_ok] at er
                    cases er
                    intro v2 H5 G2 s5 o5 f5
                    have tz : ts.length < most := by rw [← eq, List.length_append] at yz; omega
                    obtain ⟨acc, h1, h2, h3⟩ := g.more nD (s3.trans s4) s5 o5 f5 s1 tz
                    exact ⟨acc, h1, h2, ts ++ [y], rs, h3, rfl, by rw [← eq, List.append_assoc]; rfl⟩
        · obtain ⟨ts, rest, g, er, eq⟩ := h
          rw [List.drop_length] at er
          cases er
          rw [List.append_nil] at eq
          subst eq
          obtain ⟨sm, vs, F', hD, ow, fr⟩ := g
          exact q _ H2 (D :: F') (s1.trans sm) (.l hD ow) fr
    · exact q.elim
variable (own : List (Str × Nat))
theorem n_lc (hc : X.calm = true) (hN : X.N.Nodup) (hi : PIv X W tg it gi) (ok : blkC X.N X.env.scope scope own = true) (hk : ∀ x as, k x = some as → ∀ p ∈ as, p.1 ∈ own.map (·.2))
    (hg : ∀ (s : Shared) (H : Hp) (C : Addr) (cl : List (Str × Addr)) (fp : List Addr), PTg (X.blk s H scope (compEnvC scope cl C X.env) fp) tg k) (ht : ∀ (s : Shared) (H : Hp) (C : Addr) (cl : List (Str × Addr)) (fp : List Addr), PCs (X.blk s H scope (compEnvC scope cl C X.env) fp) W0 ifs tt)
    (he : ∀ (s : Shared) (H : Hp) (C : Addr) (cl : List (Str × Addr)) (fp : List Addr), PN (X.blk s H scope (compEnvC scope cl C X.env) fp) W0 elt te) (hs : ∀ x, foldedSetIterable it X.env x = pure x := by intro _; rfl) :
    PN X W (.ListComp elt [⟨tg, it, ifs, 0⟩] scope pos) (gLc (own.map (·.2)) gi k tt te) :=
  ⟨_, pe_lc (own := own) (g := tgt X.K k) (tt := cT X W0 tt) (te := cN X W0 te) hc hN hi.can (blkOk_by ok) hg ht (fun s H C cl fp => (he s H C cl fp).can) hs, sp_lc hk⟩
end
end Z
/-! Z: comprehensions of two clauses; calls of the text's own defs that change nothing. -/
namespace Z
open PySem PySem.Spec L2
open PyProof.Rows hiding St

section
variable (X : Cx) (W : WX)
def cJ (g : En → R (List T)) : TI := fun σ H Q => ∃ en, VEn X.K H σ en ∧ JQ X W σ H Q (g en)
end
theorem PIn.can {X : Cx} {W : WX} {tg e : Expr} {gi : En → R (List T)} (h : PIn X W tg e gi) : PI X tg e (cJ X W gi) := by
  obtain ⟨t, p, s⟩ := h
  exact ⟨fun pins st σ H Q I ⟨en, ve, q⟩ => p.run pins st σ H Q I (s σ H en Q ve q)⟩
/-- of data alone -/
def kD (k : T → Option Ass) : T → Option Ass
  | .d d => k (.d d)
  | .l _ => none
theorem AsOk.pst {K : PySem.W.Frag} {H H' : Hp} (p : Pst H H') : ∀ {vs : List (Nat × V)} {as : Ass}, AsOk K H [] vs as → AsOk K H' [] vs as
  | _, _, .nil => .nil
  | _, _, .cons o m t => .cons (o.frame p fun a z => absurd (m a z) List.not_mem_nil) m (AsOk.pst p t)
def lcL2 (k : T → Option Ass) (tt : En → R Bool) (gi1 : En → R (List T)) (vs1 : List Nat) (k1 : T → Option Ass) (tt1 : En → R Bool) (te : En → R T) (en : En) : List T → R (List T)
  | [] => .ok []
  | x :: xs => (R.of (kD k x)).bind fun as => (tt (setE en as)).bind fun b => if b = true then (gi1 (setE en as)).bind fun zs => (lcL k1 tt1 te (wipeE (setE en as) vs1) zs).bind fun ys => (lcL2 k tt gi1 vs1 k1 tt1 te en xs).bind fun r => .ok (ys ++ r)
    else lcL2 k tt gi1 vs1 k1 tt1 te en xs
def gLc2 (vs : List Nat) (gi : En → R (List T)) (k : T → Option Ass) (tt : En → R Bool) (gi1 : En → R (List T)) (vs1 : List Nat) (k1 : T → Option Ass) (tt1 : En → R Bool) (te : En → R T) : En → R T := fun en => (gi en).bind fun xs =>
  (lcL2 k tt gi1 vs1 k1 tt1 te (wipeE en vs) xs).calm.bind fun ys => if ys.length < most then .ok (.l ys) else .no
section
variable {X : Cx} {W : WX} {elt tg it tg1 it1 : Expr} {ifs ifs1 : List Expr} {scope : Scope} {pos : Pos} {gi gi1 : En → R (List T)} {k k1 : T → Option Ass} {tt tt1 : En → R Bool} {te : En → R T}
theorem Grown.stay {K : PySem.W.Frag} {H0 H1 H2 H3 : Hp} {D : Addr} {ts : List T} (g : Grown K H0 H1 D ts H2) (s : Same H2 H3) : Grown K H0 H1 D ts H3 := by
  obtain ⟨sm, vs, F, hD, ow, fr⟩ := g
  exact ⟨sm.trans s, vs, F, s _ _ hD, ow.mono s, fr⟩
/-- a list that others are not in has grown: what was there besides is there -/
theorem kept_grow {K : PySem.W.Frag} {H0 H1 H2 H3 : Hp} {D : Addr} {acc vs : List V} {G : List Addr} (k : Kept G H1 H2) (hD : H2 D = some (.lst acc)) (nD : D ∉ G) : Kept G H1 (upd H2 D (.lst vs)) := by
  refine ⟨k.1.trans ⟨fun a us e => ?_, fun a ob u e => ?_⟩, fun a m o e => ?_⟩
  · by_cases h : a = D
    · rw [h, hD] at e; cases e
    · rw [upd_ne h]; exact e
  · by_cases h : a = D
    · rw [h, hD] at e; cases e
    · rw [upd_ne h]; exact e
  · rw [upd_ne (fun z => nD (by rw [← z]; exact m))]
    exact k.2 a m o e
/-- the inner loop -/
theorem sp_in {σ2 : L2.St} {en2 : En} {vs1 : List Nat} {H0 H1 H3 H4 : Hp} {D : Addr} {J1 : It} {zs ys pre : List T} {G : List Addr} {Nx : Hp → Prop} (hk1 : ∀ x as, k1 x = some as → ∀ p ∈ as, p.1 ∈ vs1) (nD : H1 D = none) (s01 : Same H0 H1)
    (g : Grown X.K H0 H1 D pre H3) (s34 : Same H3 H4) (ve : ∀ H, Same H1 H → Pst H4 H → VEn X.K H σ2 en2) (iok : ItOk X.K G H4 J1 zs) (nDG : D ∉ G) (el : lcL k1 tt1 te (wipeE en2 vs1) zs = .ok ys) (hz : pre.length + ys.length < most) (nx : ∀ H, Grown X.K H0 H1 D (pre ++ ys) H → Nx H) :
    ∃ W1 : Nat → Nat → Hp → Prop, (∃ m, W1 0 m H4) ∧ ∀ j n H, W1 j n H → (J1.stop j H ∧ Nx H) ∨ (J1.go j H ∧ ∃ Nx1 : Hp → Prop, (∀ H', Nx1 H' → ∃ n', n' < n ∧ W1 (j + 1) n' H') ∧ ∀ x H', J1.yld j H x H' → tgt X.K k1 x (wipe σ2 vs1) H' fun σ3 H5 => wipe σ3 vs1 = wipe σ2 vs1 ∧ cT X W0 tt1 σ3 H5 fun b H6 =>
      if b = true then cN X W0 te σ3 H6 fun y H7 => ∃ acc, H7 D = some (.lst acc) ∧ acc.length < sizeLine ∧ Nx1 (upd H7 D (.lst (acc ++ [y]))) else Nx1 H6) := by
  refine ⟨fun j n H => n = zs.length - j ∧ j ≤ zs.length ∧ Kept G H4 H ∧ ∃ ts rest, Grown X.K H0 H1 D (pre ++ ts) H ∧ lcL k1 tt1 te (wipeE en2 vs1) (zs.drop j) = .ok rest ∧ ts ++ rest = ys,
    ⟨zs.length, by simp, Nat.zero_le _, .of (Same.refl _), [], ys, by rw [List.append_nil]; exact g.stay s34, by rw [List.drop_zero]; exact el, rfl⟩, ?_⟩
  rintro j n H ⟨rfl, hj, kp, ts, rest, gr, er, eq⟩
  by_cases hlt : j < zs.length
  · refine .inr ⟨iok.goes j H hlt kp, fun H' => Kept G H4 H' ∧ ∃ ts rest, Grown X.K H0 H1 D (pre ++ ts) H' ∧ lcL k1 tt1 te (wipeE en2 vs1) (zs.drop (j + 1)) = .ok rest ∧ ts ++ rest = ys, fun H' h => ⟨zs.length - (j + 1), by omega, rfl, hlt, h⟩, fun v H' y => ?_⟩
    obtain ⟨s5, x, F, hx, ox, hF⟩ := iok.yields j H v H' hlt kp y
    have hd : zs.drop j = x :: zs.drop (j + 1) := by
      rw [List.drop_eq_getElem_cons hlt]
      rw [List.getElem?_eq_getElem hlt] at hx
      rw [Option.some.inj hx]
    rw [hd] at er
    unfold lcL at er
    cases ek : k1 x with
    | none => rw [ek] at er; cases er
    | some as =>
      rw [ek] at er
      simp only [R.of_some, R.bind_ok] at er
      refine ⟨x, F, as, ox, ek, fun ws aok => ⟨by rw [wipe_sets aok (hk1 x as ek), wipe_wipe], ?_⟩⟩
      have s15 : Same H1 H' := gr.same.trans s5
      have ve3 : VEn X.K H' (setS (wipe σ2 vs1) ws) (setE (wipeE en2 vs1) as) := ((ve H' s15 (kp.1.trans (.of s5))).wipe _).sets aok
      refine ⟨_, ve3, ?_⟩
      cases et : tt1 (setE (wipeE en2 vs1) as) with
      | ex c => rw [et] at er; cases er
      | no => rw [et] at er; cases er
      | ok b =>
        rw [et] at er
        simp only [R.bind_ok] at er
        intro H6 s6
        cases b with
        | false =>
          simp only [Bool.false_eq_true, if_false] at er ⊢
          exact ⟨kp.trans (.of (s5.trans s6)), ts, rest, gr.stay (s5.trans s6), er, eq⟩
        | true =>
          simp only [if_true] at er ⊢
          refine ⟨_, ve3.mono s6, ?_⟩
          cases ee : te (setE (wipeE en2 vs1) as) with
          | ex c => rw [ee] at er; cases er
          | no => rw [ee] at er; cases er
          | ok y =>
            rw [ee] at er
            simp only [R.bind_ok] at er
            cases e2 : lcL k1 tt1 te (wipeE en2 vs1) (zs.drop (j + 1)) with
            | ex c => rw [e2] at er; cases er
            | no => rw [e2] at er; cases er
            | ok rs =>
              rw [e2] at er
              simp only [R.bind_ok] at er
              cases er
              intro v2 H7 G2 s7 o7 f7
              have tz : (pre ++ ts).length < most := by rw [← eq, List.length_append] at hz; rw [List.length_append]; omega
              obtain ⟨acc, h1, h2, h3⟩ := gr.more nD (s5.trans s6) s7 o7 f7 s01 tz
              refine ⟨acc, h1, h2, kept_grow (K := X.K) (H0 := H0) (H3 := H3) (kp.trans (.of ((s5.trans s6).trans s7))) h1 nDG, ts ++ [y], rs, by rw [← List.append_assoc]; exact h3, rfl, by rw [← eq, List.append_assoc]; rfl⟩
  · have e : j = zs.length := by omega
    subst e
    rw [List.drop_length] at er
    cases er
    rw [List.append_nil] at eq
    subst eq
    exact .inl ⟨iok.stops H kp, nx H gr⟩
theorem sp_lc2 {own : List (Str × Nat)} {vs1 : List Nat} (hk : ∀ x as, k x = some as → ∀ p ∈ as, p.1 ∈ own.map (·.2)) (hk1 : ∀ x as, k1 x = some as → ∀ p ∈ as, p.1 ∈ vs1) : ∀ σ H en Q, VEn X.K H σ en → NQ X W σ H Q (gLc2 (own.map (·.2)) gi k tt gi1 vs1 k1 tt1 te en) →
    tLc2 (cI X W gi) (tgt X.K k) (cT X W0 tt) (cJ X W0 gi1) (tgt X.K k1) (cT X W0 tt1) (cN X W0 te) (own.map (·.2)) vs1 σ H Q := by
  intro σ H en Q ve q
  refine ⟨en, ve, ?_⟩
  unfold gLc2 at q
  cases e : gi en with
  | ex c => rw [e] at q; exact q
  | no => rw [e] at q; exact q
  | ok xs =>
    rw [e] at q
    intro J H1 G s1 iok D nD
    simp only [R.bind_ok] at q
    cases el : lcL2 k tt gi1 vs1 k1 tt1 te (wipeE en (own.map (·.2))) xs with
    | ex c => rw [el] at q; exact q.elim
    | no => rw [el] at q; exact q.elim
    | ok ys =>
      rw [el] at q
      simp only [R.calm, R.bind_ok] at q
      split at q
      · rename_i yz
        refine ⟨fun i n H2 => n = xs.length - i ∧ i ≤ xs.length ∧ ∃ ts rest, Grown X.K H H1 D ts H2 ∧ lcL2 k tt gi1 vs1 k1 tt1 te (wipeE en (own.map (·.2))) (xs.drop i) = .ok rest ∧ ts ++ rest = ys,
          ⟨xs.length, by simp, Nat.zero_le _, [], ys, ⟨same_new nD, [], [], upd_same, .nil, (fresh1 nD).back s1⟩, by rw [List.drop_zero]; exact el, rfl⟩, ?_⟩
        rintro i n H2 ⟨rfl, hi, ts, rest, g, er, eq⟩
        by_cases hlt : i < xs.length
        · refine .inr ⟨iok.goes i H2 hlt (.of g.same), fun H' => ∃ ts rest, Grown X.K H H1 D ts H' ∧ lcL2 k tt gi1 vs1 k1 tt1 te (wipeE en (own.map (·.2))) (xs.drop (i + 1)) = .ok rest ∧ ts ++ rest = ys, fun H' h => ⟨xs.length - (i + 1), by omega, rfl, hlt, h⟩, fun v H3 y => ?_⟩
          obtain ⟨s3, x, F, hx, ox, hF⟩ := iok.yields i H2 v H3 hlt (.of g.same) y
          have hd : xs.drop i = x :: xs.drop (i + 1) := by
            rw [List.drop_eq_getElem_cons hlt]
            rw [List.getElem?_eq_getElem hlt] at hx
            rw [Option.some.inj hx]
          rw [hd] at er
          unfold lcL2 at er
          cases ek : kD k x with
          | none => rw [ek] at er; cases er
          | some as =>
            rw [ek] at er
            simp only [R.of_some, R.bind_ok] at er
            have ek : ∃ d, x = .d d ∧ k x = some as := by
              cases x with
              | d d => exact ⟨d, rfl, ek⟩
              | l _ => cases ek
            obtain ⟨d, rfl, ek⟩ := ek
            obtain ⟨ox, rfl⟩ : Own X.K H3 v (.d d) [] ∧ F = [] := by cases ox with | d r => exact ⟨.d r, rfl⟩
            refine ⟨_, [], as, ox, ek, fun ws aok => ⟨by rw [wipe_sets aok (hk _ as ek), wipe_wipe], ?_⟩⟩
            have s13 : Same H H3 := (s1.trans g.same).trans s3
            have ve3 : VEn X.K H3 (setS (wipe σ (own.map (·.2))) ws) (setE (wipeE en (own.map (·.2))) as) := ((ve.mono s13).wipe _).sets aok
            refine ⟨_, ve3, ?_⟩
            cases et : tt (setE (wipeE en (own.map (·.2))) as) with
            | ex c => rw [et] at er; cases er
            | no => rw [et] at er; cases er
            | ok b =>
              rw [et] at er
              simp only [R.bind_ok] at er
              intro H4 s4
              cases b with
              | false =>
                simp only [Bool.false_eq_true, if_false] at er ⊢
                exact ⟨ts, rest, g.stay (s3.trans s4), er, eq⟩
              | true =>
                simp only [if_true] at er ⊢
                refine ⟨_, ve3.mono s4, ?_⟩
                cases ej : gi1 (setE (wipeE en (own.map (·.2))) as) with
                | ex c => rw [ej] at er; cases er
                | no => rw [ej] at er; cases er
                | ok zs =>
                  rw [ej] at er
                  simp only [R.bind_ok] at er
                  intro J1 H5 G1 s5 iok1 f1 _
                  cases e1 : lcL k1 tt1 te (wipeE (setE (wipeE en (own.map (·.2))) as) vs1) zs with
                  | ex c => rw [e1] at er; cases er
                  | no => rw [e1] at er; cases er
                  | ok us =>
                    rw [e1] at er
                    simp only [R.bind_ok] at er
                    cases e2 : lcL2 k tt gi1 vs1 k1 tt1 te (wipeE en (own.map (·.2))) (xs.drop (i + 1)) with
                    | ex c => rw [e2] at er; cases er
                    | no => rw [e2] at er; cases er
                    | ok rs =>
                      rw [e2] at er
                      simp only [R.bind_ok] at er
                      cases er
                      have nDG : D ∉ G1 := fun m => by
                        have z := f1.2 D m
                        obtain ⟨_, vs, F', hD, _, _⟩ := g
                        rw [s4 _ _ (s3 _ _ hD)] at z; cases z
                      obtain ⟨_, vs, F', hD, _, _⟩ := id g
                      -- the inner frame is seen in the heap of the outer turn
                      have hz : ts.length + us.length < most := by rw [← eq, List.length_append, List.length_append] at yz; omega
                      exact sp_in (X := X) (H1 := H1) (pre := ts) hk1 nD s1 (g.stay (s3.trans s4)) s5 (fun H' a b => ((ve.mono (s1.trans a)).wipe _).sets (aok.pst ((Pst.of (s4.trans s5)).trans b))) iok1 nDG e1 hz fun H' g' => ⟨ts ++ us, rs, g', rfl, by rw [← eq, List.append_assoc]⟩
        · have e : i = xs.length := by omega
          subst e
          rw [List.drop_length] at er
          cases er
          rw [List.append_nil] at eq
          subst eq
          obtain ⟨sm, vs, F', hD, ow, fr⟩ := g
          exact .inl ⟨iok.stops H2 (.of sm), q _ H2 (D :: F') (s1.trans sm) (.l hD ow) fr⟩
      · exact q.elim
theorem n_lc2 (own : List (Str × Nat)) (vs1 : List Nat) (hc : X.calm = true) (hN : X.N.Nodup) (hi : PIv X W tg it gi) (ok : blkC X.N X.env.scope scope own = true) (hv : ∀ i ∈ vs1, i ∈ own.map (·.2)) (hk : ∀ x as, k x = some as → ∀ p ∈ as, p.1 ∈ own.map (·.2)) (hk1 : ∀ x as, k1 x = some as → ∀ p ∈ as, p.1 ∈ vs1)
    (hg : ∀ (s : Shared) (H : Hp) (C : Addr) (cl : List (Str × Addr)) (fp : List Addr), PTg (X.blk s H scope (compEnvC scope cl C X.env) fp) tg k) (ht : ∀ (s : Shared) (H : Hp) (C : Addr) (cl : List (Str × Addr)) (fp : List Addr), PCs (X.blk s H scope (compEnvC scope cl C X.env) fp) W0 ifs tt)
    (hi1 : ∀ (s : Shared) (H : Hp) (C : Addr) (cl : List (Str × Addr)) (fp : List Addr), PIn (X.blk s H scope (compEnvC scope cl C X.env) fp) W0 tg1 it1 gi1)
    (hg1 : ∀ (s : Shared) (H : Hp) (C : Addr) (cl : List (Str × Addr)) (fp : List Addr), PTg (X.blk s H scope (compEnvC scope cl C X.env) fp) tg1 k1) (ht1 : ∀ (s : Shared) (H : Hp) (C : Addr) (cl : List (Str × Addr)) (fp : List Addr), PCs (X.blk s H scope (compEnvC scope cl C X.env) fp) W0 ifs1 tt1)
    (he : ∀ (s : Shared) (H : Hp) (C : Addr) (cl : List (Str × Addr)) (fp : List Addr), PN (X.blk s H scope (compEnvC scope cl C X.env) fp) W0 elt te) (hs : ∀ x, foldedSetIterable it X.env x = pure x := by intro _; rfl) (hs1 : ∀ env x, foldedSetIterable it1 env x = pure x := by intro _ _; rfl) :
    PN X W (.ListComp elt [⟨tg, it, ifs, 0⟩, ⟨tg1, it1, ifs1, 0⟩] scope pos) (gLc2 (own.map (·.2)) gi k tt gi1 vs1 k1 tt1 te) :=
  ⟨_, pe_lc2 (own := own) (vs1 := vs1) (g := tgt X.K k) (tt := cT X W0 tt) (te := cN X W0 te) (wi1 := cJ X W0 gi1) (g1 := tgt X.K k1) (tt1 := cT X W0 tt1) hc hN hi.can (blkOk_by ok) hv hg ht (fun s H C cl fp => (hi1 s H C cl fp).can) hg1 ht1 (fun s H C cl fp => (he s H C cl fp).can) hs hs1, sp_lc2 hk hk1⟩
end
/-! ### a def that changes nothing -/
/-- its promise, by what it computes -/
def spP (K : PySem.W.Frag) (mg : Str → Option Value) (F : List T → R T) : Sp := fun vs H Q E => ∃ xs, Vws K H vs xs ∧ match F xs with
  | .ok r => ∀ v H' G, Same H H' → Own K H' v r G → Fresh H G → Q v H'
  | .ex c => ∀ cls dx H', Same H H' → ExIs K mg H' c cls dx → E cls dx H'
  | .no => False
/-- the def of this name keeps it -/
structure FnP (P : Program) (w : World) (K : PySem.W.Frag) (mg : Str → Option Value) (base : Heap) (x : Str) (k : Nat) (F : List T → R T) : Prop where
  ex : ∃ (f : Addr) (fd : FuncData) (ps : List Str), FnOk P w K mg base (L2.CX P w) k f fd ps (spP K mg F) ∧ mg x = some (.ref f) ∧ PySem.W.keepIn K (.ref f) = true ∧ Binds K fd ps []
def gFn (F : List T → R T) (g : En → R (List T)) : En → R T := fun en => (g en).bind F
theorem n_call {X : Cx} {W : WX} {x : Str} {k : Nat} {F : List T → R T} {p pos : Pos} {a : Expr} {es : List Expr} {gs : En → R (List T)} (f : FnP X.prog X.w X.K X.mg X.base x k F) (tk : Takes X W) (hr : Room k X.A) (ha : PAv X W (a :: es) gs) (hg : Gl X x := by rfl)
    (hdb : (x == ("__debug__" : Str)) = false := by decide) (he : starEach (a :: es) X.env = (false, eval a X.env) :: starEach es X.env := by rfl) (hpl : (backTo pos (starEach es X.env)).any (·.1) = false := by rfl) : PN X W (.Call (.Name x p) (a :: es) [] pos) (gFn F gs) := by
  obtain ⟨f, fd, ps, ok, hm, hk, hb⟩ := f.ex
  obtain ⟨t, pa, s⟩ := ha
  refine ⟨_, pe_callS (E := WE W) ok hr hg hm hk hb (fun σ => passAt tk σ) pa hdb he hpl, fun σ H en Q ve q => s σ H en _ ve ?_⟩
  unfold gFn at q
  cases e : gs en with
  | ok xs =>
    rw [e] at q
    intro vs H' sm w
    refine ⟨xs, w, ?_⟩
    simp only [R.bind_ok] at q
    cases ef : F xs with
    | ok r => rw [ef] at q; exact fun v H2 G s2 o fr => q v H2 G (sm.trans s2) o (fr.back sm)
    | ex c => rw [ef] at q; exact fun cls dx H2 s2 i => q cls dx H2 (sm.trans s2) i
    | no => rw [ef] at q; exact q
  | ex c => rw [e] at q; exact q
  | no => rw [e] at q; exact q
end Z
/-! Z: what is owned; expressions that change the frame's lists; statements. -/
namespace Z
open PySem PySem.Spec L2
open PyProof.Rows hiding St

abbrev Ft := Nat → List Addr
def InF (Fs : Ft) (a : Addr) : Prop := ∃ i, a ∈ Fs i
def ownAt (en : En) (i : Nat) : Option T := match en[i]? with
  | some (.v x) => some x
  | some (.b x) => some x
  | _ => none
def seeAt (en : En) (i : Nat) : Option T := match en[i]? with
  | some (.w x) => some x
  | _ => none
theorem at_split {en : En} {i : Nat} {x : T} (h : at_ en i = some x) : ownAt en i = some x ∨ seeAt en i = some x := by
  unfold at_ at h
  unfold ownAt seeAt
  cases e : en[i]? with
  | none => rw [e] at h; cases h
  | some s => rw [e] at h; cases s <;> first | (cases h; done) | exact .inl h | exact .inr h
/-- the things of the names, where their lists lie: what is ours lies apart from all else -/
structure EOk (K : PySem.W.Frag) (H : Hp) (σ : L2.St) (en : En) (Fs : Ft) : Prop where
  len : en.length ≤ σ.length
  has : ∀ i x, at_ en i = some x → ∃ v, σ[i]? = some (some v) ∧ Own K H v x (Fs i)
  nod : ∀ i, ownAt en i ≠ none → (Fs i).Nodup
  dis : ∀ i j a, i ≠ j → ownAt en i ≠ none → a ∈ Fs i → a ∉ Fs j
  emp : ∀ i, at_ en i = none → Fs i = []
def InO (en : En) (Fs : Ft) (a : Addr) : Prop := ∃ i, ownAt en i ≠ none ∧ a ∈ Fs i
theorem InO.a {en : En} {Fs : Ft} {a : Addr} (h : InO en Fs a) : InF Fs a := let ⟨i, _, m⟩ := h; ⟨i, m⟩
theorem EOk.ven {K : PySem.W.Frag} {H : Hp} {σ : L2.St} {en : En} {Fs : Ft} (h : EOk K H σ en Fs) : VEn K H σ en := ⟨h.len, fun i x e => let ⟨v, h1, h2⟩ := h.has i x e; ⟨v, _, h1, h2⟩⟩
theorem EOk.there {K : PySem.W.Frag} {H : Hp} {σ : L2.St} {en : En} {Fs : Ft} (h : EOk K H σ en Fs) {a : Addr} (m : InF Fs a) : ∃ vs, H a = some (.lst vs) := by
  obtain ⟨i, m⟩ := m
  cases e : at_ en i with
  | none => rw [h.emp i e] at m; cases m
  | some x =>
    obtain ⟨v, _, o⟩ := h.has i x e
    exact o.dom a m
/-- how a step changes the heap: what lies in P is ours before, what lies in P' behind; what lies in A is known before, what lies in A' behind -/
structure Stp (H : Hp) (P A : Addr → Prop) (H' : Hp) (P' A' : Addr → Prop) : Prop where
  pst : Pst H H'
  keep : ∀ a o, H a = some o → ¬ P a → H' a = some o
  dom : ∀ a, H' a = none → H a = none
  subO : ∀ a, P' a → P a ∨ H a = none
  subA : ∀ a, A' a → A a ∨ H a = none
theorem Stp.refl (H : Hp) (P A : Addr → Prop) : Stp H P A H P A := ⟨Pst.refl H, fun _ _ e _ => e, fun _ e => e, fun _ m => .inl m, fun _ m => .inl m⟩
theorem Stp.trans {H H1 H2 : Hp} {P P1 P2 A A1 A2 : Addr → Prop} (a : Stp H P A H1 P1 A1) (b : Stp H1 P1 A1 H2 P2 A2) : Stp H P A H2 P2 A2 where
  pst := a.pst.trans b.pst
  keep := fun c o e n => b.keep c o (a.keep c o e n) fun m => (a.subO c m).elim n fun z => by rw [e] at z; cases z
  dom := fun c e => a.dom c (b.dom c e)
  subO := fun c m => (b.subO c m).elim (a.subO c) fun z => .inr (a.dom c z)
  subA := fun c m => (b.subA c m).elim (a.subA c) fun z => .inr (a.dom c z)
theorem Stp.imp {H H1 : Hp} {P P1 P2 A A1 A2 : Addr → Prop} (a : Stp H P A H1 P1 A1) (h : ∀ c, P2 c → P1 c) (h' : ∀ c, A2 c → A1 c) : Stp H P A H1 P2 A2 := ⟨a.pst, a.keep, a.dom, fun c m => a.subO c (h c m), fun c m => a.subA c (h' c m)⟩
theorem Stp.of {H H' : Hp} {P A : Addr → Prop} {G : List Addr} (s : Same H H') (f : ∀ a ∈ G, H a = none) : Stp H P A H' (fun a => P a ∨ a ∈ G) (fun a => A a ∨ a ∈ G) :=
  ⟨.of s, fun a o e _ => s a o e, fun a e => s.free e, fun a m => m.elim .inl fun z => .inr (f a z), fun a m => m.elim .inl fun z => .inr (f a z)⟩
/-- what is held aside stays -/
theorem Stp.frame {K : PySem.W.Frag} {H H' : Hp} {P P' A A' : Addr → Prop} {v : V} {x : T} {G : List Addr} (s : Stp H P A H' P' A') (pa : ∀ a, P a → A a) (o : Own K H v x G) (d : ∀ a ∈ G, ¬ A a) : Own K H' v x G ∧ ∀ a ∈ G, ¬ A' a :=
  ⟨o.frame s.pst fun a m o' e => s.keep a o' e fun z => d a m (pa a z), fun a m z => (s.subA a z).elim (d a m) (o.there a m)⟩
theorem Stp.frames {K : PySem.W.Frag} {H H' : Hp} {P P' A A' : Addr → Prop} {vs : List V} {xs : List T} {G : List Addr} (s : Stp H P A H' P' A') (pa : ∀ a, P a → A a) (o : Owns K H vs xs G) (d : ∀ a ∈ G, ¬ A a) : Owns K H' vs xs G ∧ ∀ a ∈ G, ¬ A' a :=
  ⟨o.frame s.pst fun a m o' e => s.keep a o' e fun z => d a m (pa a z), fun a m z => (s.subA a z).elim (d a m) (o.there a m)⟩
/-- what is lent stays where it is -/
def BK (σ : L2.St) (en : En) (σ' : L2.St) (en' : En) : Prop := ∀ (i : Nat) (x' : T), en'[i]? = some (Sl.b x') → (∃ x, en[i]? = some (Sl.b x)) ∧ σ'[i]? = σ[i]?
structure Aft (K : PySem.W.Frag) (H : Hp) (Fs : Ft) (σ : L2.St) (en : En) (H' : Hp) (Fs' : Ft) (σ' : L2.St) (en' : En) (G : List Addr) : Prop where
  ok : EOk K H' σ' en' Fs'
  nod : G.Nodup
  dis : ∀ a ∈ G, ¬ InF Fs' a
  stp : Stp H (InO en Fs) (InF Fs) H' (fun a => InO en' Fs' a ∨ a ∈ G) (fun a => InF Fs' a ∨ a ∈ G)
  bk : BK σ en σ' en'
theorem BK.refl (σ : L2.St) (en : En) : BK σ en σ en := fun i x e => ⟨⟨x, e⟩, rfl⟩
theorem BK.trans {σ σ1 σ2 : L2.St} {en en1 en2 : En} (a : BK σ en σ1 en1) (b : BK σ1 en1 σ2 en2) : BK σ en σ2 en2 := fun i x e =>
  let ⟨⟨y, e1⟩, h1⟩ := b i x e
  let ⟨z, h2⟩ := a i y e1
  ⟨z, h1.trans h2⟩
theorem Aft.trans {K : PySem.W.Frag} {H H1 H2 : Hp} {Fs Fs1 Fs2 : Ft} {σ σ1 σ2 : L2.St} {en en1 en2 : En} {G : List Addr} (a : Aft K H Fs σ en H1 Fs1 σ1 en1 []) (b : Aft K H1 Fs1 σ1 en1 H2 Fs2 σ2 en2 G) : Aft K H Fs σ en H2 Fs2 σ2 en2 G :=
  ⟨b.ok, b.nod, b.dis, (a.stp.imp (fun _ m => .inl m) (fun _ m => .inl m)).trans b.stp, a.bk.trans b.bk⟩
theorem EOk.same {K : PySem.W.Frag} {H H' : Hp} {σ : L2.St} {en : En} {Fs : Ft} (h : EOk K H σ en Fs) (s : Same H H') : EOk K H' σ en Fs :=
  ⟨h.len, fun i x e => let ⟨v, a, b⟩ := h.has i x e; ⟨v, a, b.mono s⟩, h.nod, h.dis, h.emp⟩
/-- behind a quiet step -/
theorem Aft.quiet {K : PySem.W.Frag} {H H' : Hp} {Fs : Ft} {σ : L2.St} {en : En} {G : List Addr} (h : EOk K H σ en Fs) (s : Same H H') (f : Fresh H G) : Aft K H Fs σ en H' Fs σ en G :=
  ⟨h.same s, f.1, fun a m z => (by obtain ⟨vs, e⟩ := h.there z; rw [f.2 a m] at e; cases e), .of s f.2, BK.refl σ en⟩
theorem Aft.refl {K : PySem.W.Frag} {H : Hp} {Fs : Ft} {σ : L2.St} {en : En} (h : EOk K H σ en Fs) : Aft K H Fs σ en H Fs σ en [] := .quiet h (Same.refl H) Fresh.nil
/-- a second step, what the first one left held aside -/
theorem Aft.held {K : PySem.W.Frag} {H H1 H2 : Hp} {Fs Fs1 Fs2 : Ft} {σ σ1 σ2 : L2.St} {en en1 en2 : En} {F G : List Addr} (a : Aft K H Fs σ en H1 Fs1 σ1 en1 F) (tF : ∀ c ∈ F, H1 c ≠ none) (b : Aft K H1 Fs1 σ1 en1 H2 Fs2 σ2 en2 G) : Aft K H Fs σ en H2 Fs2 σ2 en2 (F ++ G) := by
  have nF : ∀ c ∈ F, ¬ (InF Fs2 c ∨ c ∈ G) := fun c m z => (b.stp.subA c z).elim (a.dis c m) (tF c m)
  refine ⟨b.ok, List.nodup_append.mpr ⟨a.nod, b.nod, fun c hc d hd e => nF c hc (.inr (e ▸ hd))⟩, fun c m => (List.mem_append.mp m).elim (fun z y => nF c z (.inl y)) (b.dis c), ⟨a.stp.pst.trans b.stp.pst, fun c o e n => ?_, fun c e => a.stp.dom c (b.stp.dom c e), fun c m => ?_, fun c m => ?_⟩, a.bk.trans b.bk⟩
  · exact b.stp.keep c o (a.stp.keep c o e n) fun z => (a.stp.subO c (.inl z)).elim n fun y => by rw [e] at y; cases y
  · rcases m with m | m
    · exact (b.stp.subO c (.inl m)).elim (fun z => a.stp.subO c (.inl z)) fun z => .inr (a.stp.dom c z)
    · rcases List.mem_append.mp m with m | m
      · exact a.stp.subO c (.inr m)
      · exact (b.stp.subO c (.inr m)).elim (fun z => a.stp.subO c (.inl z)) fun z => .inr (a.stp.dom c z)
  · rcases m with m | m
    · exact (b.stp.subA c (.inl m)).elim (fun z => a.stp.subA c (.inl z)) fun z => .inr (a.stp.dom c z)
    · rcases List.mem_append.mp m with m | m
      · exact a.stp.subA c (.inr m)
      · exact (b.stp.subA c (.inr m)).elim (fun z => a.stp.subA c (.inl z)) fun z => .inr (a.stp.dom c z)
/-- what a statement ends in -/
inductive SR where
  | nx (en : En) | ret (x : T) (en : En) | brk (en : En) | ct (en : En) | ex (c : Exc) (en : En) | no
inductive RM (α : Type) where
  | ok (a : α) (en : En) | ex (c : Exc) (en : En) | no
def RM.bind {α β : Type} (r : RM α) (f : α → En → RM β) : RM β := match r with
  | .ok a en => f a en
  | .ex c en => .ex c en
  | .no => .no
def RM.of {α : Type} (r : R α) (en : En) : RM α := match r with
  | .ok a => .ok a en
  | .ex c => .ex c en
  | .no => .no
def RM.s {α : Type} (r : RM α) (f : α → En → SR) : SR := match r with
  | .ok a en => f a en
  | .ex c en => .ex c en
  | .no => .no
@[simp] theorem RM.bind_ok {α β : Type} (a : α) (en : En) (f : α → En → RM β) : (RM.ok a en).bind f = f a en := Eq.trans (b := f a en) (Eq.refl _) (Eq.refl _)
@[simp] theorem RM.bind_no {α β : Type} (f : α → En → RM β) : (RM.no).bind f = .no := rfl
@[simp] theorem RM.bind_ex {α β : Type} (c : Exc) (en : En) (f : α → En → RM β) : (RM.ex c en).bind f = .ex c en := rfl
@[simp] theorem RM.s_ok {α : Type} (a : α) (en : En) (f : α → En → SR) : (RM.ok a en).s f = f a en := Eq.trans (b := f a en) (Eq.refl _) (Eq.refl _)
@[simp] theorem RM.s_no {α : Type} (f : α → En → SR) : (RM.no).s f = .no := rfl
@[simp] theorem RM.s_ex {α : Type} (c : Exc) (en : En) (f : α → En → SR) : (RM.ex c en).s f = .ex c en := rfl
@[simp] theorem RM.of_ok {α : Type} (a : α) (en : En) : RM.of (.ok a) en = .ok a en := rfl
@[simp] theorem RM.of_no {α : Type} (en : En) : RM.of (.no : R α) en = .no := rfl
@[simp] theorem RM.of_ex {α : Type} (c : Exc) (en : En) : RM.of (.ex c : R α) en = .ex c en := rfl
section
variable (X : Cx) (W : WX)
def XM (H : Hp) (Fs : Ft) (σ : L2.St) (en : En) (c : Exc) (en' : En) : Prop := ∀ cls dx H' Fs' σ', Aft X.K H Fs σ en H' Fs' σ' en' [] → ExIs X.K X.mg H' c cls dx → W cls dx σ' H'
def MQ (H : Hp) (Fs : Ft) (σ : L2.St) (en : En) (Q : VK) : RM T → Prop
  | .ok x en' => ∀ v H' Fs' G, Aft X.K H Fs σ en H' Fs' σ en' G → Own X.K H' v x G → Q v H'
  | .ex c en' => XM X W H Fs σ en c en'
  | .no => False
def MT (H : Hp) (Fs : Ft) (σ : L2.St) (en : En) (Q : Bool → Hp → Prop) : RM Bool → Prop
  | .ok b en' => ∀ H' Fs', Aft X.K H Fs σ en H' Fs' σ en' [] → Q b H'
  | .ex c en' => XM X W H Fs σ en c en'
  | .no => False
def MA (H : Hp) (Fs : Ft) (σ : L2.St) (en : En) (Q : List V → Hp → Prop) : RM (List T) → Prop
  | .ok xs en' => ∀ vs H' Fs' G, Aft X.K H Fs σ en H' Fs' σ en' G → Owns X.K H' vs xs G → Q vs H'
  | .ex c en' => XM X W H Fs σ en c en'
  | .no => False
def MI (H : Hp) (Fs : Ft) (σ : L2.St) (en : En) (Q : It → Hp → Prop) : RM (List T) → Prop
  | .ok xs en' => ∀ J H' Fs' G, Aft X.K H Fs σ en H' Fs' σ en' G → ItOk X.K G H' J xs → (∀ a ∈ G, H' a ≠ none) → Q J H'
  | .ex c en' => XM X W H Fs σ en c en'
  | .no => False
def SQ (H : Hp) (Fs : Ft) (σ : L2.St) (en : En) (D : Ends) : SR → Prop
  | .nx en' => ∀ H' Fs' σ', Aft X.K H Fs σ en H' Fs' σ' en' [] → D.nx σ' H'
  | .ret x en' => ∀ v H' Fs' σ' G, Aft X.K H Fs σ en H' Fs' σ' en' G → Own X.K H' v x G → D.rt v H'
  | .brk en' => ∀ H' Fs' σ', Aft X.K H Fs σ en H' Fs' σ' en' [] → D.bk σ' H'
  | .ct en' => ∀ H' Fs' σ', Aft X.K H Fs σ en H' Fs' σ' en' [] → D.ct σ' H'
  | .ex c en' => XM X W H Fs σ en c en'
  | .no => False
def SpM (m : En → RM T) (t : TE) : Prop := ∀ σ H en Fs Q, EOk X.K H σ en Fs → MQ X W H Fs σ en Q (m en) → t σ H Q
def SpMT (m : En → RM Bool) (t : TT) : Prop := ∀ σ H en Fs Q, EOk X.K H σ en Fs → MT X W H Fs σ en Q (m en) → t σ H Q
def SpMA (m : En → RM (List T)) (t : TA) : Prop := ∀ σ H en Fs Q, EOk X.K H σ en Fs → MA X W H Fs σ en Q (m en) → t σ H Q
def SpMI (m : En → RM (List T)) (t : TI) : Prop := ∀ σ H en Fs Q, EOk X.K H σ en Fs → MI X W H Fs σ en Q (m en) → t σ H Q
def SpS (f : En → SR) (t : TS) : Prop := ∀ σ H en Fs D, EOk X.K H σ en Fs → SQ X W H Fs σ en D (f en) → t D σ H
/-- an expression that may change the frame's lists: a value of our own; a test; arguments; what is walked; a statement; a block -/
def PM (e : Expr) (m : En → RM T) : Prop := ∃ t, PE X e t ∧ SpM X W m t
def PMT (e : Expr) (m : En → RM Bool) : Prop := ∃ t, PT X e t ∧ SpMT X W m t
def PMA (es : List Expr) (m : En → RM (List T)) : Prop := ∃ t, PA X es t ∧ SpMA X W m t
def PMI (tg e : Expr) (m : En → RM (List T)) : Prop := ∃ t, PI X tg e t ∧ SpMI X W m t
def PSt (st : Stmt) (f : En → SR) : Prop := ∃ t, PS X st t ∧ SpS X W f t
def PBl (st : List Stmt) (f : En → SR) : Prop := ∃ t, PSs X st t ∧ SpS X W f t
end
section
variable {X : Cx} {W : WX} {e c : Expr} {st : Stmt} {sts : List Stmt} {pos : Pos} {g : En → R T} {gc : En → R Bool} {m : En → RM T} {f h : En → SR} {mc : En → RM Bool}
theorem XQ.xm {H : Hp} {Fs : Ft} {σ : L2.St} {en : En} {c : Exc} (ok : EOk X.K H σ en Fs) (h : XM X W H Fs σ en c en) : XQ X W σ H c := fun cls dx H' s i => h cls dx H' Fs σ (.quiet ok s Fresh.nil) i
def lft {α : Type} (g : En → R α) : En → RM α := fun en => RM.of (g en) en
theorem PN.up (h : PN X W e g) : PM X W e (lft g) := by
  obtain ⟨t, p, s⟩ := h
  refine ⟨t, p, fun σ H en Fs Q ok q => s σ H en Q ok.ven ?_⟩
  unfold lft at q
  cases e : g en with
  | ok x => rw [e] at q; exact fun v H' G sm o fr => q v H' Fs G (.quiet ok sm fr) o
  | ex c => rw [e] at q; exact XQ.xm (W := W) ok q
  | no => rw [e] at q; exact q
theorem PC.up (h : PC X W c gc) : PMT X W c (lft gc) := by
  obtain ⟨t, p, s⟩ := h
  refine ⟨t, p, fun σ H en Fs Q ok q => s σ H en Q ok.ven ?_⟩
  unfold lft at q
  cases e : gc en with
  | ok x => rw [e] at q; exact fun H' sm => q H' Fs (.quiet ok sm Fresh.nil)
  | ex c => rw [e] at q; exact XQ.xm (W := W) ok q
  | no => rw [e] at q; exact q
theorem PIn.up {tg : Expr} {gi : En → R (List T)} (h : PIn X W tg e gi) : PMI X W tg e (lft gi) := by
  obtain ⟨t, p, s⟩ := h
  refine ⟨t, p, fun σ H en Fs Q ok q => s σ H en Q ok.ven ?_⟩
  unfold lft at q
  cases e : gi en with
  | ok x => rw [e] at q; exact fun J H' G sm o fr th => q J H' Fs G (.quiet ok sm fr) o th
  | ex c => rw [e] at q; exact XQ.xm (W := W) ok q
  | no => rw [e] at q; exact q
/-! ### blocks -/
def fNil : En → SR := fun en => .nx en
def fSeq (f h : En → SR) : En → SR := fun en => match f en with
  | .nx en' => h en'
  | r => r
theorem SQ.after {H H1 : Hp} {Fs Fs1 : Ft} {σ σ1 : L2.St} {en en1 : En} {D : Ends} {r : SR} (a : Aft X.K H Fs σ en H1 Fs1 σ1 en1 []) (q : SQ X W H Fs σ en D r) : SQ X W H1 Fs1 σ1 en1 D r := by
  cases r with
  | nx en' => exact fun H' Fs' σ' b => q H' Fs' σ' (a.trans b)
  | ret x en' => exact fun v H' Fs' σ' G b o => q v H' Fs' σ' G (a.trans b) o
  | brk en' => exact fun H' Fs' σ' b => q H' Fs' σ' (a.trans b)
  | ct en' => exact fun H' Fs' σ' b => q H' Fs' σ' (a.trans b)
  | ex c en' => exact fun cls dx H' Fs' σ' b i => q cls dx H' Fs' σ' (a.trans b) i
  | no => exact q
theorem b_nil : PBl X W [] fNil := ⟨_, pss_nil, fun σ H en Fs D ok q => q H Fs σ (.refl ok)⟩
theorem b_cons (h1 : PSt X W st f) (h2 : PBl X W sts h) : PBl X W (st :: sts) (fSeq f h) := by
  obtain ⟨t, p, s⟩ := h1
  obtain ⟨t2, p2, s2⟩ := h2
  refine ⟨_, pss_cons p p2, fun σ H en Fs D ok q => s σ H en Fs _ ok ?_⟩
  unfold fSeq at q
  cases e : f en with
  | nx en' => rw [e] at q; exact fun H' Fs' σ' a => s2 σ' H' en' Fs' D a.ok (SQ.after (X := X) (W := W) a q)
  | ret x en' => rw [e] at q; exact q
  | brk en' => rw [e] at q; exact q
  | ct en' => rw [e] at q; exact q
  | ex c en' => rw [e] at q; exact q
  | no => rw [e] at q; exact q
theorem b_one (h1 : PSt X W st f) : PBl X W [st] f := let ⟨t, p, s⟩ := h1; ⟨t, pss_one p, s⟩
theorem s_pass : PSt X W (.Pass pos) fNil := ⟨_, ps_pass, fun σ H en Fs D ok q => q H Fs σ (.refl ok)⟩
theorem s_break : PSt X W (.Break pos) (fun en => .brk en) := ⟨_, ps_break, fun σ H en Fs D ok q => q H Fs σ (.refl ok)⟩
theorem s_cont : PSt X W (.Continue pos) (fun en => .ct en) := ⟨_, ps_continue, fun σ H en Fs D ok q => q H Fs σ (.refl ok)⟩
def fExpr (m : En → RM T) : En → SR := fun en => (m en).s fun _ en' => .nx en'
def fRet (m : En → RM T) : En → SR := fun en => (m en).s fun x en' => .ret x en'
/-- what is left aside is forgotten -/
theorem Aft.drop {K : PySem.W.Frag} {H H1 : Hp} {Fs Fs1 : Ft} {σ σ1 : L2.St} {en en1 : En} {G : List Addr} (a : Aft K H Fs σ en H1 Fs1 σ1 en1 G) : Aft K H Fs σ en H1 Fs1 σ1 en1 [] :=
  ⟨a.ok, List.nodup_nil, fun _ m => absurd m List.not_mem_nil, a.stp.imp (fun _ z => z.elim .inl fun y => absurd y List.not_mem_nil) (fun _ z => z.elim .inl fun y => absurd y List.not_mem_nil), a.bk⟩
theorem s_expr (h : PM X W e m) (hs : swapsWith e none pos.line X.env = pure false := by rfl) : PSt X W (.Expr e pos) (fExpr m) := by
  obtain ⟨t, p, s⟩ := h
  refine ⟨_, ps_expr p hs, fun σ H en Fs D ok q => s σ H en Fs _ ok ?_⟩
  unfold fExpr at q
  cases e : m en with
  | ok x en' => rw [e] at q; exact fun v H' Fs' G a _ => q H' Fs' σ a.drop
  | ex c en' => rw [e] at q; exact q
  | no => rw [e] at q; exact q
theorem s_ret (h : PM X W e m) : PSt X W (.Return (some e) pos) (fRet m) := by
  obtain ⟨t, p, s⟩ := h
  refine ⟨_, ps_ret p, fun σ H en Fs D ok q => s σ H en Fs _ ok ?_⟩
  unfold fRet at q
  cases e : m en with
  | ok x en' => rw [e] at q; exact fun v H' Fs' G a o => q v H' Fs' σ G a o
  | ex c en' => rw [e] at q; exact q
  | no => rw [e] at q; exact q
theorem s_retN : PSt X W (.Return none pos) (fun en => .ret (.d .non) en) := ⟨_, ps_retN, fun σ H en Fs D ok q => q .non H Fs σ [] (.refl ok) (.d .non)⟩
def fIf (c : En → RM Bool) (f h : En → SR) : En → SR := fun en => (c en).s fun b en' => if b = true then f en' else h en'
theorem s_if {a b : List Stmt} (hc : PMT X W c mc) (ha : PBl X W a f) (hb : PBl X W b h) : PSt X W (.If c a b pos) (fIf mc f h) := by
  obtain ⟨t, p, s⟩ := hc
  obtain ⟨t1, p1, s1⟩ := ha
  obtain ⟨t2, p2, s2⟩ := hb
  refine ⟨_, ps_if p p1 p2, fun σ H en Fs D ok q => s σ H en Fs _ ok ?_⟩
  unfold fIf at q
  cases e : mc en with
  | ok k en' =>
    rw [e] at q
    intro H' Fs' a
    simp only [RM.s_ok] at q
    cases k with
    | true => exact iteT (s1 σ H' en' Fs' D a.ok (SQ.after (X := X) (W := W) a q))
    | false => exact iteF (s2 σ H' en' Fs' D a.ok (SQ.after (X := X) (W := W) a q))
  | ex c en' => rw [e] at q; exact q
  | no => rw [e] at q; exact q
end
end Z
/-! Z: stores, loops. -/
namespace Z
open PySem PySem.Spec L2
open PyProof.Rows hiding St

/-- what the rules of a body ask of where they stand -/
structure Cz (X : Cx) (W : WX) : Prop where
  tk : Takes X W
  hp : PassesOwn (model X.prog X.w) X.A X.env X.xe
  calm : X.calm = true
  nd : X.N.Nodup
def stow (en : En) (i : Nat) (s : Sl) : Option En := match en[i]? with
  | some (.b _) => none
  | some _ => some (en.set i s)
  | none => none
theorem stow_ok {en en' : En} {i : Nat} {s : Sl} (h : stow en i s = some en') : i < en.length ∧ en' = en.set i s ∧ ∀ x, en[i]? ≠ some (.b x) := by
  unfold stow at h
  cases e : en[i]? with
  | none => rw [e] at h; cases h
  | some y =>
    rw [e] at h
    obtain ⟨hl, _⟩ := List.getElem?_eq_some_iff.mp e
    cases y <;> first | (cases h; done) | (cases h; exact ⟨hl, rfl, fun x z => by cases z⟩)
def updF (Fs : Ft) (i : Nat) (G : List Addr) : Ft := fun j => if j = i then G else Fs j
theorem updF_same {Fs : Ft} {i : Nat} {G : List Addr} : updF Fs i G i = G := if_pos rfl
theorem updF_ne {Fs : Ft} {i j : Nat} {G : List Addr} (h : j ≠ i) : updF Fs i G j = Fs j := if_neg h
theorem ownAt_set {en : En} {i j : Nat} {s : Sl} (h : j ≠ i) : ownAt (en.set i s) j = ownAt en j := by unfold ownAt; rw [List.getElem?_set_ne (Ne.symm h)]
theorem at_set {en : En} {i j : Nat} {s : Sl} (h : j ≠ i) : at_ (en.set i s) j = at_ en j := by unfold at_; rw [List.getElem?_set_ne (Ne.symm h)]
theorem at_set_same {en : En} {i : Nat} {s : Sl} (h : i < en.length) : at_ (en.set i s) i = s.get := by unfold at_; rw [List.getElem?_set_self h]
theorem own_at {en : En} {i : Nat} {x : T} (h : ownAt en i = some x) : at_ en i = some x := by
  unfold ownAt at h
  unfold at_
  cases e : en[i]? with
  | none => rw [e] at h; cases h
  | some s => rw [e] at h; cases s <;> first | (cases h; done) | exact h
theorem Own.rep {K : PySem.W.Frag} {H : Hp} {v : V} {d : D} {F : List Addr} (h : Own K H v (.d d) F) : RepD K H v d := by cases h with | d r => exact r
theorem Own.dnil {K : PySem.W.Frag} {H : Hp} {v : V} {d : D} {F : List Addr} (h : Own K H v (.d d) F) : F = [] := by cases h with | d r => rfl
/-- a thing of our own, or one that is seen, put at a name -/
theorem Aft.put {K : PySem.W.Frag} {H H1 : Hp} {Fs Fs1 : Ft} {σ σ1 : L2.St} {en en1 en2 : En} {F G : List Addr} {i : Nat} {v : V} {x : T} {s : Sl} (a : Aft K H Fs σ en H1 Fs1 σ1 en1 G) (o : Own K H1 v x F) (hp : stow en1 i s = some en2) (hs : s.get = some x)
    (hs2 : ∀ y, s ≠ .b y) (hF : (F.Nodup ∧ (∀ c ∈ F, ¬ InF Fs1 c) ∧ ∀ c ∈ F, H c = none ∨ InO en Fs c) ∨ ((∀ y, s ≠ .v y) ∧ (∀ c ∈ F, ¬ InO en1 Fs1 c) ∧ ∀ c ∈ F, InF Fs c ∨ H c = none)) (hG : ∀ c ∈ F, c ∉ G) : Aft K H Fs σ en H1 (updF Fs1 i F) (σ1.set i (some v)) en2 G := by
  obtain ⟨hl, rfl, hb⟩ := stow_ok hp
  have hσ := a.ok.len
  have sub : ∀ {c j}, c ∈ updF Fs1 i F j → (j = i ∧ c ∈ F) ∨ (j ≠ i ∧ c ∈ Fs1 j) := fun {c j} m => by
    by_cases e : j = i
    · subst e; rw [updF_same] at m; exact .inl ⟨rfl, m⟩
    · rw [updF_ne e] at m; exact .inr ⟨e, m⟩
  have own_i : ownAt (en1.set i s) i ≠ none → ∃ y, s = .v y := fun h => by
    unfold ownAt at h
    rw [List.getElem?_set_self hl] at h
    cases s with
    | v y => exact ⟨y, rfl⟩
    | b y => exact absurd rfl (hs2 y)
    | n => exact absurd rfl h
    | w y => exact absurd rfl h
  refine ⟨⟨by rw [List.length_set, List.length_set]; exact hσ, fun j y e => ?_, fun j h => ?_, fun j l c ne h m => ?_, fun j e => ?_⟩, a.nod, fun c m z => ?_, ⟨a.stp.pst, a.stp.keep, a.stp.dom, fun c m => ?_, fun c m => ?_⟩, fun j y e => ?_⟩
  · by_cases hj : j = i
    · subst hj
      rw [at_set_same hl, hs] at e; cases e
      exact ⟨v, List.getElem?_set_self (by omega), by rw [updF_same]; exact o⟩
    · rw [at_set hj] at e
      obtain ⟨w, h1, h2⟩ := a.ok.has j y e
      exact ⟨w, by rw [List.getElem?_set_ne (Ne.symm hj)]; exact h1, by rw [updF_ne hj]; exact h2⟩
  · by_cases hj : j = i
    · subst hj
      rw [updF_same]
      rcases hF with hF | hF
      · exact hF.1
      · obtain ⟨y, e⟩ := own_i h; exact absurd e (hF.1 y)
    · rw [updF_ne hj]; rw [ownAt_set hj] at h; exact a.ok.nod j h
  · by_cases hj : j = i
    · subst hj
      rw [updF_same] at m
      rw [updF_ne (Ne.symm ne)]
      rcases hF with hF | hF
      · exact fun z => hF.2.1 c m ⟨l, z⟩
      · obtain ⟨y, e⟩ := own_i h; exact absurd e (hF.1 y)
    · rw [updF_ne hj] at m
      rw [ownAt_set hj] at h
      by_cases hl' : l = i
      · subst hl'
        rw [updF_same]
        rcases hF with hF | hF
        · exact fun z => hF.2.1 c z ⟨j, m⟩
        · exact fun z => hF.2.1 c z ⟨j, h, m⟩
      · rw [updF_ne hl']
        exact a.ok.dis j l c ne h m
  · by_cases hj : j = i
    · subst hj
      rw [at_set_same hl, hs] at e; cases e
    · rw [updF_ne hj]; rw [at_set hj] at e; exact a.ok.emp j e
  · obtain ⟨j, z⟩ := z
    rcases sub z with ⟨_, z⟩ | ⟨_, z⟩
    · exact hG c z m
    · exact a.dis c m ⟨j, z⟩
  · rcases m with ⟨j, h, m⟩ | m
    · rcases sub m with ⟨e, m2⟩ | ⟨e, m2⟩
      · rw [e] at h
        rcases hF with hF | hF
        · exact (hF.2.2 c m2).symm
        · obtain ⟨y, e⟩ := own_i h; exact absurd e (hF.1 y)
      · rw [ownAt_set e] at h
        exact a.stp.subO c (.inl ⟨j, h, m2⟩)
    · exact a.stp.subO c (.inr m)
  · rcases m with ⟨j, m⟩ | m
    · rcases sub m with ⟨e, m⟩ | ⟨e, m⟩
      · rcases hF with hF | hF
        · exact (hF.2.2 c m).elim .inr fun z => .inl z.a
        · exact hF.2.2 c m
      · exact a.stp.subA c (.inl ⟨j, m⟩)
    · exact a.stp.subA c (.inr m)
  · by_cases hj : j = i
    · subst hj
      rw [List.getElem?_set_self hl] at e
      exact absurd (Option.some.inj e) (hs2 y)
    · rw [List.getElem?_set_ne (Ne.symm hj)] at e
      obtain ⟨h1, h2⟩ := a.bk j y e
      exact ⟨h1, by rw [List.getElem?_set_ne (Ne.symm hj)]; exact h2⟩
/-- .. of what a step left aside -/
theorem Aft.keep {K : PySem.W.Frag} {H H1 : Hp} {Fs Fs1 : Ft} {σ σ1 : L2.St} {en en1 en2 : En} {F : List Addr} {i : Nat} {v : V} {x : T} (a : Aft K H Fs σ en H1 Fs1 σ1 en1 F) (o : Own K H1 v x F) (hp : stow en1 i (.v x) = some en2) : Aft K H Fs σ en H1 (updF Fs1 i F) (σ1.set i (some v)) en2 [] :=
  a.drop.put o hp rfl (fun _ z => by cases z) (.inl ⟨a.nod, a.dis, fun c m => (a.stp.subO c (.inr m)).symm⟩) fun _ _ m => absurd m List.not_mem_nil
section
variable {X : Cx} {W : WX} {e c : Expr} {st : Stmt} {sts : List Stmt} {pos : Pos} {m : En → RM T} {f h : En → SR} {mc : En → RM Bool}
def toS : Option En → SR
  | some en => .nx en
  | none => .no
def fSet (i : Nat) (m : En → RM T) : En → SR := fun en => (m en).s fun x en' => toS (stow en' i (.v x))
theorem sp_set {i : Nat} {t : TE} (s : SpM X W m t) : SpS X W (fSet i m) (tAsg t (gName i)) := by
  intro σ H en Fs D ok q
  refine s σ H en Fs _ ok ?_
  unfold fSet at q
  cases e : m en with
  | ok x en' =>
    rw [e] at q
    simp only [RM.s_ok] at q
    intro v H' Fs' G a o
    cases ep : stow en' i (.v x) with
    | none => rw [ep] at q; exact q.elim
    | some en2 => rw [ep] at q; exact q H' _ _ (a.keep o ep)
  | ex c en' => rw [e] at q; exact q
  | no => rw [e] at q; exact q
theorem s_set (i : Nat) {x : Str} {p : Pos} (cz : Cz X W) (h : PM X W e m) (hi : X.N[i]? = some x := by rfl) (hx : Loc X.env.scope x := by first | exact .inl rfl | exact .inr rfl) (hs : swapsWith e (some (.Name x p)) pos.line X.env = pure false := by rfl) (hf : X.fn x = true ∨ X.env.scope.names.lookup x = some .local := by first | exact .inl rfl | exact .inr rfl) :
    PSt X W (.Assign [.Name x p] e pos) (fSet i m) := by
  obtain ⟨t, pp, s⟩ := h
  exact ⟨_, ps_set cz.nd hi hx pp hs hf, sp_set s⟩
/-- many names -/
def stowD (en : En) : Ass → Option En
  | [] => some en
  | (i, .d d) :: r => (stow en i (.v (.d d))).bind fun en' => stowD en' r
  | (_, .l _) :: _ => none
theorem Aft.putD {K : PySem.W.Frag} {H H1 : Hp} {Fs : Ft} {σ : L2.St} {en : En} {G F : List Addr} : ∀ {as : Ass} {vs : List (Nat × V)} {Fs1 : Ft} {σ1 : L2.St} {en1 en2 : En}, Aft K H Fs σ en H1 Fs1 σ1 en1 G → AsOk K H1 F vs as → stowD en1 as = some en2 → ∃ Fs2, Aft K H Fs σ en H1 Fs2 (setS σ1 vs) en2 G
  | [], _, _, _, _, _, a, .nil, h => by cases h; exact ⟨_, a⟩
  | (i, .d d) :: r, _, _, σ1, _, _, a, .cons (v := v) (r := r') o _ t, h => by
    obtain ⟨en', h1, h2⟩ := Option.bind_eq_some_iff.mp h
    cases o with
    | d r => exact Aft.putD (vs := r') (σ1 := σ1.set i (some v)) (a.put (.d r) h1 rfl (fun _ z => by cases z) (.inl ⟨List.nodup_nil, fun _ m => absurd m List.not_mem_nil, fun _ m => absurd m List.not_mem_nil⟩) fun _ m => absurd m List.not_mem_nil) t h2
  | (_, .l _) :: _, _, _, _, _, _, _, _, h => by cases h
def fAsg (k : T → Option Ass) (m : En → RM T) : En → SR := fun en => (m en).s fun x en' => toS ((k x).bind fun as => stowD en' as)
theorem s_asg {tg : Expr} {k : T → Option Ass} (h : PM X W e m) (hg : PTg X tg k) (hs : swapsWithSole [tg] e pos.line X.env = pure false := by rfl) (hw : swappedStores [tg] e X.env = pure none := by rfl)
    (h1 : (assignEach [tg] X.env).map (·.2) = [assign tg X.env] := by rfl) : PSt X W (.Assign [tg] e pos) (fAsg k m) := by
  obtain ⟨t, pp, s⟩ := h
  refine ⟨_, ps_asg pp hg hs hw h1, fun σ H en Fs D ok q => s σ H en Fs _ ok ?_⟩
  unfold fAsg at q
  cases e : m en with
  | ok x en' =>
    rw [e] at q
    simp only [RM.s_ok] at q
    intro v H' Fs' G a o
    cases ek : k x with
    | none => rw [ek] at q; exact q.elim
    | some as =>
      rw [ek] at q
      simp only [Option.bind_some] at q
      cases ep : stowD en' as with
      | none => rw [ep] at q; exact q.elim
      | some en2 =>
        rw [ep] at q
        refine ⟨x, G, as, o, ek, fun vs aok => ?_⟩
        obtain ⟨Fs2, a2⟩ := a.drop.putD aok ep
        exact q H' Fs2 _ a2
  | ex c en' => rw [e] at q; exact q
  | no => rw [e] at q; exact q
/-- a, b = x, y -/
def fPar (i j : Nat) (m : En → RM (List T)) : En → SR := fun en => (m en).s fun xs en' => match xs with
  | [.d a, .d b] => toS (stowD en' [(i, .d a), (j, .d b)])
  | _ => .no
theorem s_par (i j : Nat) {x y : Str} {a b : Expr} {px py pt : Pos} {kt k2 pt2} {ma : En → RM (List T)} (cz : Cz X W) (h : PMA X W [a, b] ma) (hi : X.N[i]? = some x := by rfl) (hj : X.N[j]? = some y := by rfl) (hij : i ≠ j := by decide) (hx : X.env.scope.names.lookup x = some .local := by rfl) (hy : X.env.scope.names.lookup y = some .local := by rfl)
    (hw : swappedStores [.Tuple [.Name x px, .Name y py] kt pt] (.Tuple [a, b] k2 pt2) X.env = pure (some [x, y]) := by rfl) (hs : swapsWithSole [.Tuple [.Name x px, .Name y py] kt pt] (.Tuple [a, b] k2 pt2) pos.line X.env = pure false := by rfl) :
    PSt X W (.Assign [.Tuple [.Name x px, .Name y py] kt pt] (.Tuple [a, b] k2 pt2) pos) (fPar i j ma) := by
  obtain ⟨t, pp, s⟩ := h
  refine ⟨_, ps_par cz.calm cz.nd hi hj hij hx hy pp hw hs, fun σ H en Fs D ok q => s σ H en Fs _ ok ?_⟩
  unfold fPar at q
  cases e : ma en with
  | ok xs en' =>
    rw [e] at q
    simp only [RM.s_ok] at q
    intro vs H' Fs' G a o
    split at q
    · rename_i a' b'
      cases ep : stowD en' [(i, .d a'), (j, .d b')] with
      | none => rw [ep] at q; exact q.elim
      | some en2 =>
        rw [ep] at q
        cases o with
        | cons o1 o =>
          cases o with
          | cons o2 o =>
            cases o
            cases o1 with
            | d r1 =>
              cases o2 with
              | d r2 =>
                obtain ⟨Fs2, a2⟩ := a.drop.putD (F := []) (.cons (.d r1) (fun _ m => m) (.cons (.d r2) (fun _ m => m) .nil)) ep
                exact ⟨_, _, rfl, q H' Fs2 _ a2⟩
    · exact q.elim
  | ex c en' => rw [e] at q; exact q
  | no => rw [e] at q; exact q
/-! ### name op= e -/
structure Ib (X : Cx) (op : Operator) (f : T → T → Option T) : Prop where
  p : ∃ r, OpR X (inplaceOp op) r ∧ Q2 X.K r f
def datAt (en : En) (i : Nat) : R T := (R.of (at_ en i)).pur
def fAug (i : Nat) (op : T → T → Option T) (m : En → RM T) : En → SR := fun en => match datAt en i with
  | .ok x => (m en).s fun y en' => match op x y with
    | some z => toS (stow en' i (.v z))
    | none => .no
  | _ => .no
theorem datAt_ok {en : En} {i : Nat} {x : T} (h : datAt en i = .ok x) : ∃ d, x = .d d ∧ at_ en i = some (.d d) := by
  unfold datAt at h
  cases e : at_ en i with
  | none => rw [e] at h; cases h
  | some y =>
    rw [e] at h
    cases y with
    | d d => cases h; exact ⟨d, rfl, rfl⟩
    | l xs => cases h
/-- behind a step that left something aside, a quiet one -/
theorem Aft.fin {K : PySem.W.Frag} {H H1 H2 : Hp} {Fs Fs1 : Ft} {σ σ1 : L2.St} {en en1 : En} {F G : List Addr} (a : Aft K H Fs σ en H1 Fs1 σ1 en1 F) (s : Same H1 H2) (f : Fresh H1 G) : Aft K H Fs σ en H2 Fs1 σ1 en1 G := a.drop.trans (.quiet a.ok s f)
theorem s_aug (i : Nat) {x : Str} {p : Pos} {op : Operator} {fo : T → T → Option T} (cz : Cz X W) (ob : Ib X op fo) (h : PM X W e m) (hi : X.N[i]? = some x := by rfl) (hx : Loc X.env.scope x := by first | exact .inl rfl | exact .inr rfl) (hf : X.fn x = true ∨ X.env.scope.names.lookup x = some .local := by first | exact .inl rfl | exact .inr rfl) :
    PSt X W (.AugAssign (.Name x p) op e pos) (fAug i fo m) := by
  obtain ⟨t, pp, s⟩ := h
  obtain ⟨r, ho, qq⟩ := ob.p
  refine ⟨_, ps_aug (ti := r) cz.nd hi hx pp ho hf, fun σ H en Fs D ok q => ?_⟩
  unfold fAug at q
  cases ed : datAt en i with
  | ex c => rw [ed] at q; exact q.elim
  | no => rw [ed] at q; exact q.elim
  | ok x0 =>
    rw [ed] at q
    obtain ⟨d, rfl, hd⟩ := datAt_ok ed
    obtain ⟨v, h1, h2⟩ := ok.has i _ hd
    have h2 : RepD X.K H v d := h2.rep
    refine ⟨v, h1, s σ H en Fs _ ok ?_⟩
    cases e : m en with
    | ok y en' =>
      rw [e] at q
      simp only [RM.s_ok] at q
      intro v2 H' Fs' G a o
      cases ef : fo (.d d) y with
      | none => rw [ef] at q; exact q.elim
      | some z =>
        rw [ef] at q
        simp only at q
        cases ep : stow en' i (.v z) with
        | none => rw [ep] at q; exact q.elim
        | some en2 =>
          rw [ep] at q
          exact qq H' (.d d) y z v v2 [] G _ (.d (h2.mono a.stp.pst)) o ef fun v3 H3 G3 s3 o3 f3 => q H3 _ _ ((a.fin s3 f3).keep o3 ep)
    | ex c en' => rw [e] at q; exact q
    | no => rw [e] at q; exact q
/-! ### for -/
/-- a thing of what is walked, put at a name -/
def stows (en : En) : Ass → Option En
  | [] => some en
  | (i, x) :: r => (stow en i (mkS x)).bind fun en' => stows en' r
theorem mkS_b (x y : T) : mkS x ≠ .b y := by cases x <;> exact fun z => by cases z
theorem Aft.puts {K : PySem.W.Frag} {H H1 : Hp} {Fs : Ft} {σ : L2.St} {en : En} {G : List Addr} : ∀ {as : Ass} {vs : List (Nat × V)} {Fs1 : Ft} {σ1 : L2.St} {en1 en2 : En}, Aft K H Fs σ en H1 Fs1 σ1 en1 [] → AsOk K H1 G vs as → (∀ c ∈ G, ¬ InO en1 Fs1 c) → (∀ c ∈ G, InF Fs c ∨ H c = none) → stows en1 as = some en2 →
    ∃ Fs2, Aft K H Fs σ en H1 Fs2 (setS σ1 vs) en2 [] ∧ ∀ c, InO en2 Fs2 c → InO en1 Fs1 c
  | [], _, _, _, _, _, a, .nil, hG, _, h => by cases h; exact ⟨_, a, fun _ z => z⟩
  | (i, x) :: r, _, Fs1, σ1, en1, _, a, .cons (v := v) (r := r') (F := F) o m t, hG, hG2, h => by
    obtain ⟨en', h1, h2⟩ := Option.bind_eq_some_iff.mp h
    have case : (F.Nodup ∧ (∀ c ∈ F, ¬ InF Fs1 c) ∧ ∀ c ∈ F, H c = none ∨ InO en Fs c) ∨ ((∀ y, mkS x ≠ .v y) ∧ (∀ c ∈ F, ¬ InO en1 Fs1 c) ∧ ∀ c ∈ F, InF Fs c ∨ H c = none) := by
      cases x with
      | d d => cases o with | d r => exact .inl ⟨List.nodup_nil, fun _ m => absurd m List.not_mem_nil, fun _ m => absurd m List.not_mem_nil⟩
      | l xs => exact .inr ⟨fun y z => (by cases z), fun c n => hG c (m c n), fun c n => hG2 c (m c n)⟩
    have a2 := a.put o h1 (mkS_get x) (mkS_b x) case fun _ _ m => absurd m List.not_mem_nil
    have back : ∀ c, InO en' (updF Fs1 i F) c → InO en1 Fs1 c := fun c z => by
      obtain ⟨j, z1, z2⟩ := z
      obtain ⟨hl, e2, _⟩ := stow_ok h1
      subst e2
      by_cases hj : j = i
      · subst hj
        rw [updF_same] at z2
        cases x with
        | d d => rw [o.dnil] at z2; cases z2
        | l xs =>
          unfold ownAt at z1
          rw [List.getElem?_set_self hl] at z1
          exact absurd rfl z1
      · rw [updF_ne hj] at z2
        rw [ownAt_set hj] at z1
        exact ⟨j, z1, z2⟩
    obtain ⟨Fs2, a3, b3⟩ := Aft.puts (vs := r') (σ1 := σ1.set i (some v)) a2 t (fun c n z => hG c n (back c z)) hG2 h2
    exact ⟨Fs2, a3, fun c z => back c (b3 c z)⟩
def forE (k : T → Option Ass) (f : En → SR) : List T → En → SR
  | [], en => .nx en
  | x :: xs, en => match (k x).bind fun as => stows en as with
    | none => .no
    | some en1 => match f en1 with
      | .nx en2 => forE k f xs en2
      | .ct en2 => forE k f xs en2
      | .brk en2 => .nx en2
      | r => r
def fFor (k : T → Option Ass) (mi : En → RM (List T)) (f : En → SR) : En → SR := fun en => (mi en).s fun xs en' => forE k f xs en'
/-- what is left of a loop -/
abbrev forQ (K : PySem.W.Frag) (k : T → Option Ass) (tb : TS) (D : Ends) (σ : L2.St) : It → Hp → Prop := fun J H1 => ∃ W' : Nat → Nat → L2.St → Hp → Prop, (∃ n, W' 0 n σ H1) ∧ ∀ i n σ H, W' i n σ H →
  (J.stop i H ∧ D.nx σ H) ∨ (J.go i H ∧ ∃ N : L2.St → Hp → Prop, (∀ σ' H', N σ' H' → ∃ n', n' < n ∧ W' (i + 1) n' σ' H') ∧ ∀ x H', J.yld i H x H' → tgt K k x σ H' fun σ2 H2 => tb { D with nx := N, ct := N, bk := D.nx } σ2 H2)
/-- the loop, from where what is walked has come -/
theorem sp_for {k : T → Option Ass} {tb : TS} (s : SpS X W f tb) {σ0 σ : L2.St} {H0 H1 : Hp} {en0 en : En} {Fs0 Fs : Ft} {D : Ends} {J : It} {xs : List T} {G : List Addr} (a : Aft X.K H0 Fs0 σ0 en0 H1 Fs σ en []) (iok : ItOk X.K G H1 J xs) (tG : ∀ c ∈ G, H1 c ≠ none) (hG : ∀ c ∈ G, ¬ InO en Fs c) (hG2 : ∀ c ∈ G, InF Fs0 c ∨ H0 c = none) (q : SQ X W H0 Fs0 σ0 en0 D (forE k f xs en)) :
    forQ X.K k tb D σ J H1 := by
  refine ⟨fun i n σ H => n = xs.length - i ∧ i ≤ xs.length ∧ ∃ en Fs, Aft X.K H0 Fs0 σ0 en0 H Fs σ en [] ∧ Kept G H1 H ∧ (∀ c ∈ G, ¬ InO en Fs c) ∧ SQ X W H0 Fs0 σ0 en0 D (forE k f (xs.drop i) en),
    ⟨xs.length, by simp, Nat.zero_le _, en, Fs, a, .of (Same.refl _), hG, by rw [List.drop_zero]; exact q⟩, ?_⟩
  rintro i n σ1 H ⟨rfl, hi, en1, Fs1, a1, kp, hG1, q1⟩
  by_cases hlt : i < xs.length
  · refine .inr ⟨iok.goes i H hlt kp, fun σ' H' => ∃ en' Fs', Aft X.K H0 Fs0 σ0 en0 H' Fs' σ' en' [] ∧ Kept G H1 H' ∧ (∀ c ∈ G, ¬ InO en' Fs' c) ∧ SQ X W H0 Fs0 σ0 en0 D (forE k f (xs.drop (i + 1)) en'), fun σ' H' h => ⟨xs.length - (i + 1), by omega, rfl, hlt, h⟩, fun v H' y => ?_⟩
    obtain ⟨s5, x, F, hx, ox, hF⟩ := iok.yields i H v H' hlt kp y
    have hd : xs.drop i = x :: xs.drop (i + 1) := by
      rw [List.drop_eq_getElem_cons hlt]
      rw [List.getElem?_eq_getElem hlt] at hx
      rw [Option.some.inj hx]
    rw [hd] at q1
    unfold forE at q1
    have a2 : Aft X.K H0 Fs0 σ0 en0 H' Fs1 σ1 en1 [] := a1.trans (.quiet a1.ok s5 Fresh.nil)
    have kp2 : Kept G H1 H' := kp.trans (.of s5)
    cases ek : k x with
    | none => rw [ek] at q1; exact q1.elim
    | some as =>
      rw [ek] at q1
      simp only [Option.bind_some] at q1
      cases ep : stows en1 as with
      | none => rw [ep] at q1; exact q1.elim
      | some en2 =>
        rw [ep] at q1
        simp only at q1
        refine ⟨x, F, as, ox, ek, fun ws aok => ?_⟩
        obtain ⟨Fs2, a3, hG3⟩ := a2.puts aok (fun c m => hG1 c (hF c m)) (fun c m => hG2 c (hF c m)) ep
        have hG4 : ∀ c ∈ G, ¬ InO en2 Fs2 c := fun c m z => hG1 c m (hG3 c z)
        have tG3 : ∀ c ∈ G, H' c ≠ none := fun c m z => by
          cases e1 : H1 c with
          | none => exact tG c m e1
          | some o => rw [kp2.2 c m o e1] at z; cases z
        -- behind the body
        have fin : ∀ {H4 : Hp} {Fs4 : Ft} {σ4 : L2.St} {en4 : En}, Aft X.K H' Fs2 (setS σ1 ws) en2 H4 Fs4 σ4 en4 [] → Aft X.K H0 Fs0 σ0 en0 H4 Fs4 σ4 en4 [] ∧ Kept G H1 H4 ∧ ∀ c ∈ G, ¬ InO en4 Fs4 c := fun {H4 Fs4 σ4 en4} b =>
          ⟨a3.trans b, kp2.trans ⟨b.stp.pst, fun c m o e => b.stp.keep c o e (hG4 c m)⟩, fun c m z => (b.stp.subO c (.inl z)).elim (hG4 c m) (tG3 c m)⟩
        refine s _ H' en2 Fs2 _ a3.ok ?_
        cases ef : f en2 with
        | nx en' =>
          rw [ef] at q1
          exact fun H4 Fs4 σ4 b => let ⟨b1, b2, b3⟩ := fin b; ⟨en', Fs4, b1, b2, b3, q1⟩
        | ct en' =>
          rw [ef] at q1
          exact fun H4 Fs4 σ4 b => let ⟨b1, b2, b3⟩ := fin b; ⟨en', Fs4, b1, b2, b3, q1⟩
        | brk en' =>
          rw [ef] at q1
          exact fun H4 Fs4 σ4 b => q1 H4 Fs4 σ4 (fin b).1
        | ret x en' =>
          rw [ef] at q1
          exact fun v H4 Fs4 σ4 G b o => q1 v H4 Fs4 σ4 G (a3.trans b) o
        | ex c en' =>
          rw [ef] at q1
          exact fun cls dx H4 Fs4 σ4 b i => q1 cls dx H4 Fs4 σ4 (a3.trans b) i
        | no => rw [ef] at q1; exact q1.elim
  · have e : i = xs.length := by omega
    subst e
    rw [List.drop_length] at q1
    exact .inl ⟨iok.stops H kp, q1 H Fs1 σ1 a1⟩
theorem s_for {tg it : Expr} {body : List Stmt} {k : T → Option Ass} {mi : En → RM (List T)} (cz : Cz X W) (hi : PMI X W tg it mi) (hg : PTg X tg k) (hb : PBl X W body f) (hs : ∀ x, foldedSetIterable it X.env x = pure x := by intro _; rfl) : PSt X W (.For tg it body [] pos) (fFor k mi f) := by
  obtain ⟨t, p, s⟩ := hi
  obtain ⟨t2, p2, s2⟩ := hb
  refine ⟨_, ps_for cz.hp cz.calm p hg p2 hs, fun σ H en Fs D ok q => s σ H en Fs _ ok ?_⟩
  unfold fFor at q
  cases e : mi en with
  | ok xs en' =>
    rw [e] at q
    simp only [RM.s_ok] at q
    exact fun J H' Fs' G a iok tG => sp_for s2 a.drop iok tG (fun c m z => a.dis c m z.a) (fun c m => a.stp.subA c (.inr m)) q
  | ex c en' => rw [e] at q; exact q
  | no => rw [e] at q; exact q
/-- over a name's list: it is seen from then on -/
def weak (en : En) (i : Nat) : En := match en[i]? with
  | some (.v (.l xs)) => en.set i (.w (.l xs))
  | _ => en
/-- what is ours is seen from now on -/
theorem Aft.weak {K : PySem.W.Frag} {H H1 : Hp} {Fs Fs1 : Ft} {σ σ1 : L2.St} {en en1 : En} {G : List Addr} (a : Aft K H Fs σ en H1 Fs1 σ1 en1 G) (i : Nat) : Aft K H Fs σ en H1 Fs1 σ1 (weak en1 i) G := by
  unfold Z.weak
  cases e : en1[i]? with
  | none => exact a
  | some y =>
    cases y with
    | v x =>
      cases x with
      | d d => exact a
      | l xs =>
        obtain ⟨hl, _⟩ := List.getElem?_eq_some_iff.mp e
        have same : ∀ j, at_ (en1.set i (.w (.l xs))) j = at_ en1 j := fun j => by
          by_cases hj : j = i
          · subst hj; rw [at_set_same hl]; unfold at_; rw [e]; rfl
          · exact at_set hj
        have own : ∀ j, ownAt (en1.set i (.w (.l xs))) j ≠ none → ownAt en1 j ≠ none := fun j h => by
          by_cases hj : j = i
          · subst hj; unfold ownAt at h; rw [List.getElem?_set_self hl] at h; exact absurd rfl h
          · rwa [ownAt_set hj] at h
        show Aft K H Fs σ en H1 Fs1 σ1 (en1.set i (.w (.l xs))) G
        refine ⟨⟨by rw [List.length_set]; exact a.ok.len, fun j y h => a.ok.has j y (by rw [← same j]; exact h), fun j h => a.ok.nod j (own j h), fun j l c ne h m => a.ok.dis j l c ne (own j h) m, fun j h => a.ok.emp j (by rw [← same j]; exact h)⟩, a.nod, a.dis, a.stp.imp (fun c z => z.elim (fun ⟨j, h, m⟩ => .inl ⟨j, own j h, m⟩) .inr) (fun _ z => z), fun j y h => a.bk j y ?_⟩
        by_cases hj : j = i
        · subst hj; rw [List.getElem?_set_self hl] at h; cases h
        · rwa [List.getElem?_set_ne (Ne.symm hj)] at h
    | _ => exact a
def notOwn (en : En) (i : Nat) : Bool := match en[i]? with
  | some (.w _) => true
  | some (.v (.d _)) => true
  | _ => false
def fForN (k : T → Option Ass) (i : Nat) (f : En → SR) : En → SR := fun en => let en' := weak en i
  if notOwn en' i = true then match (at_ en' i).bind items with
    | some xs => forE k f xs en'
    | none => .no
  else .no
theorem s_forN (i : Nat) {tg : Expr} {x : Str} {px : Pos} {body : List Stmt} {k : T → Option Ass} (cz : Cz X W) (hg : PTg X tg k) (hb : PBl X W body f) (hN : X.N[i]? = some x := by rfl) (hv : Vis X.env.scope x := by first | exact Or.inl rfl | exact Or.inr (Or.inl rfl) | exact Or.inr (Or.inr rfl)) (hs : ∀ y, foldedSetIterable (.Name x px) X.env y = pure y := by intro _; rfl) (hd : (x == ("__debug__" : Str)) = false := by decide)
    (hcd : (x == ("__classdict__" : Str)) = false := by decide) : PSt X W (.For tg (.Name x px) body [] pos) (fForN k i f) := by
  obtain ⟨t2, p2, s2⟩ := hb
  refine ⟨_, ps_for cz.hp cz.calm (pi_sq (pe_var hN hv hd hcd)) hg p2 hs, fun σ H en Fs D ok q => ?_⟩
  unfold fForN at q
  have a : Aft X.K H Fs σ en H Fs σ (Z.weak en i) [] := (Aft.refl ok).weak i
  simp only at q
  split at q
  · rename_i hw
    cases e : at_ (Z.weak en i) i with
    | none => rw [e] at q; exact q.elim
    | some x =>
      rw [e] at q
      simp only [Option.bind_some] at q
      cases ei : items x with
      | none => rw [ei] at q; exact q.elim
      | some xs =>
        rw [ei] at q
        obtain ⟨v, h1, h2⟩ := a.ok.has i x e
        refine ⟨v, h1, it_own (Q := forQ X.K k t2 D σ) h2 ei fun J iok => sp_for s2 a iok h2.there (fun c m z => ?_) (fun c m => .inl ?_) q⟩
        · obtain ⟨j, z1, z2⟩ := z
          by_cases hj : j = i
          · subst hj
            unfold notOwn at hw
            unfold ownAt at z1
            cases es : (Z.weak en j)[j]? with
            | none => rw [es] at hw; cases hw
            | some y =>
              rw [es] at hw z1
              cases y with
              | v y =>
                cases y with
                | d d =>
                  have : x = .d d := by unfold at_ at e; rw [es] at e; cases e; rfl
                  subst this
                  rw [h2.dnil] at m; cases m
                | l _ => cases hw
              | w y => exact absurd rfl z1
              | n => cases hw
              | b y => cases hw
          · exact a.ok.dis j i c hj z1 z2 m
        · exact (a.stp.subA c (.inl ⟨i, m⟩)).elim id fun z => absurd z (h2.there c m)
  · exact q.elim
/-! ### while -/
def whE (c : En → RM Bool) (f : En → SR) : Nat → En → SR
  | 0, _ => .no
  | n + 1, en => (c en).s fun b en1 => if b = true then match f en1 with
      | .nx en2 => whE c f n en2
      | .ct en2 => whE c f n en2
      | .brk en2 => .nx en2
      | r => r
    else .nx en1
def fWh (μ : En → Nat) (c : En → RM Bool) (f : En → SR) : En → SR := fun en => whE c f (μ en) en
theorem s_while (μ : En → Nat) {body : List Stmt} (cz : Cz X W) (hc : PMT X W c mc) (hb : PBl X W body f) : PSt X W (.While c body [] pos) (fWh μ mc f) := by
  obtain ⟨t, p, s⟩ := hc
  obtain ⟨t2, p2, s2⟩ := hb
  refine ⟨_, ps_while cz.hp p p2, fun σ H en Fs D ok q => ?_⟩
  refine ⟨fun n σ1 H1 => ∃ en1 Fs1, Aft X.K H Fs σ en H1 Fs1 σ1 en1 [] ∧ SQ X W H Fs σ en D (whE mc f n en1), ⟨μ en, en, Fs, .refl ok, q⟩, ?_⟩
  rintro n σ1 H1 ⟨en1, Fs1, a, q⟩
  refine s σ1 H1 en1 Fs1 _ a.ok ?_
  cases n with
  | zero => exact q.elim
  | succ n =>
    unfold whE at q
    cases e : mc en1 with
    | ok b en2 =>
      rw [e] at q
      simp only [RM.s_ok] at q
      intro H2 Fs2 a2
      have a12 := a.trans a2
      cases b with
      | false => exact iteF (q H2 Fs2 σ1 a12)
      | true =>
        refine iteT ⟨fun σ' H' => ∃ en' Fs', Aft X.K H Fs σ en H' Fs' σ' en' [] ∧ SQ X W H Fs σ en D (whE mc f n en'), fun σ' H' h => ⟨n, Nat.lt_succ_self n, h⟩, s2 σ1 H2 en2 Fs2 _ a2.ok ?_⟩
        simp only [if_true] at q
        cases ef : f en2 with
        | nx en' => rw [ef] at q; exact fun H4 Fs4 σ4 b => ⟨en', Fs4, a12.trans b, q⟩
        | ct en' => rw [ef] at q; exact fun H4 Fs4 σ4 b => ⟨en', Fs4, a12.trans b, q⟩
        | brk en' => rw [ef] at q; exact fun H4 Fs4 σ4 b => q H4 Fs4 σ4 (a12.trans b)
        | ret x en' => rw [ef] at q; exact fun v H4 Fs4 σ4 G b o => q v H4 Fs4 σ4 G (a12.trans b) o
        | ex c en' => rw [ef] at q; exact fun cls dx H4 Fs4 σ4 b i => q cls dx H4 Fs4 σ4 (a12.trans b) i
        | no => rw [ef] at q; exact q.elim
    | ex c en' => rw [e] at q; exact fun cls dx H' Fs' σ' b i => q cls dx H' Fs' σ' (a.trans b) i
    | no => rw [e] at q; exact q
end
end Z
/-! Z: expressions that change the frame's lists; lists changed by their methods. -/
namespace Z
open PySem PySem.Spec L2
open PyProof.Rows hiding St

section
variable {X : Cx} {W : WX} {e a b c : Expr} {es : List Expr} {pos : Pos} {m ma mb : En → RM T} {ms : En → RM (List T)} {mc : En → RM Bool}
/-- a name's thing is given away; a datum stays there too -/
def mName (i : Nat) : En → RM T := fun en => match en[i]? with
  | some (.v (.l xs)) => .ok (.l xs) (en.set i .n)
  | some s => match s.get with
    | some (.d d) => .ok (.d d) en
    | _ => .no
  | none => .no
theorem Aft.take {K : PySem.W.Frag} {H : Hp} {Fs : Ft} {σ : L2.St} {en : En} {i : Nat} {xs : List T} (ok : EOk K H σ en Fs) (e : en[i]? = some (.v (.l xs))) : Aft K H Fs σ en H (updF Fs i []) σ (en.set i .n) (Fs i) := by
  obtain ⟨hl, _⟩ := List.getElem?_eq_some_iff.mp e
  have oi : ownAt en i ≠ none := by unfold ownAt; rw [e]; exact fun z => by cases z
  have own : ∀ j, ownAt (en.set i .n) j ≠ none → j ≠ i ∧ ownAt en j ≠ none := fun j h => by
    by_cases hj : j = i
    · subst hj; unfold ownAt at h; rw [List.getElem?_set_self hl] at h; exact absurd rfl h
    · rw [ownAt_set hj] at h; exact ⟨hj, h⟩
  refine ⟨⟨by rw [List.length_set]; exact ok.len, fun j y h => ?_, fun j h => ?_, fun j l c ne h m => ?_, fun j h => ?_⟩, ok.nod i oi, fun c m z => ?_, ⟨Pst.refl H, fun _ _ e _ => e, fun _ e => e, fun c m => ?_, fun c m => ?_⟩, fun j y h => ?_⟩
  · by_cases hj : j = i
    · subst hj; rw [at_set_same hl] at h; cases h
    · rw [at_set hj] at h; rw [updF_ne hj]; exact ok.has j y h
  · obtain ⟨hj, h⟩ := own j h; rw [updF_ne hj]; exact ok.nod j h
  · obtain ⟨hj, h⟩ := own j h
    rw [updF_ne hj] at m
    by_cases hl : l = i
    · rw [hl, updF_same]; exact List.not_mem_nil
    · rw [updF_ne hl]; exact ok.dis j l c ne h m
  · by_cases hj : j = i
    · rw [hj, updF_same]
    · rw [at_set hj] at h; rw [updF_ne hj]; exact ok.emp j h
  · obtain ⟨j, z⟩ := z
    by_cases hj : j = i
    · rw [hj, updF_same] at z; cases z
    · rw [updF_ne hj] at z; exact ok.dis i j c (Ne.symm hj) oi m z
  · rcases m with ⟨j, h, m⟩ | m
    · obtain ⟨hj, h⟩ := own j h; rw [updF_ne hj] at m; exact .inl ⟨j, h, m⟩
    · exact .inl ⟨i, oi, m⟩
  · rcases m with ⟨j, m⟩ | m
    · by_cases hj : j = i
      · rw [hj, updF_same] at m; cases m
      · rw [updF_ne hj] at m; exact .inl ⟨j, m⟩
    · exact .inl ⟨i, m⟩
  · by_cases hj : j = i
    · subst hj; rw [List.getElem?_set_self hl] at h; cases h
    · rw [List.getElem?_set_ne (Ne.symm hj)] at h; exact ⟨⟨y, h⟩, rfl⟩
theorem m_name (i : Nat) {x : Str} {p : Pos} (hN : X.N[i]? = some x := by rfl) (hv : Vis X.env.scope x := by first | exact Or.inl rfl | exact Or.inr (Or.inl rfl) | exact Or.inr (Or.inr rfl)) (hd : (x == ("__debug__" : Str)) = false := by decide)
    (hcd : (x == ("__classdict__" : Str)) = false := by decide) : PM X W (.Name x p) (mName i) := by
  refine ⟨_, pe_var hN hv hd hcd, fun σ H en Fs Q ok q => ?_⟩
  have data : ∀ d, at_ en i = some (.d d) → (MQ X W H Fs σ en Q (.ok (.d d) en)) → tVar i σ H Q := fun d h q => by
    obtain ⟨v, h1, h2⟩ := ok.has i _ h
    exact ⟨v, h1, q v H Fs [] (.refl ok) (.d h2.rep)⟩
  unfold mName at q
  cases e : en[i]? with
  | none => rw [e] at q; exact q.elim
  | some s =>
    rw [e] at q
    cases s with
    | v x =>
      cases x with
      | d d => exact data d (by unfold at_; rw [e]; rfl) q
      | l xs =>
        obtain ⟨v, h1, h2⟩ := ok.has i (.l xs) (by unfold at_; rw [e]; rfl)
        exact ⟨v, h1, q v H _ _ (.take ok e) h2⟩
    | n => exact q.elim
    | w x => cases x with
      | d d => exact data d (by unfold at_; rw [e]; rfl) q
      | l xs => exact q.elim
    | b x => cases x with
      | d d => exact data d (by unfold at_; rw [e]; rfl) q
      | l xs => exact q.elim
/-! ### of two -/
def m2 (f : T → T → Option T) (ma mb : En → RM T) : En → RM T := fun en => (ma en).bind fun x en1 => (mb en1).bind fun y en2 => RM.of (R.of (f x y)) en2
theorem XM.after {H H1 : Hp} {Fs Fs1 : Ft} {σ σ1 : L2.St} {en en1 en' : En} {c : Exc} {G : List Addr} (a : Aft X.K H Fs σ en H1 Fs1 σ1 en1 G) (q : XM X W H Fs σ en c en') : XM X W H1 Fs1 σ1 en1 c en' := fun cls dx H' Fs' σ' b i => q cls dx H' Fs' σ' (a.drop.trans b) i
theorem Own.here {K : PySem.W.Frag} {H : Hp} {v : V} {x : T} {F : List Addr} (o : Own K H v x F) : ∀ c ∈ F, H c ≠ none := o.there
theorem spM2 {r : R2} {f : T → T → Option T} {ta tb : TE} (q2 : Q2 X.K r f) (sa : SpM X W ma ta) (sb : SpM X W mb tb) : SpM X W (m2 f ma mb) (tOp r ta tb) := by
  intro σ H en Fs Q ok q
  refine sa σ H en Fs _ ok ?_
  unfold m2 at q
  cases ea : ma en with
  | ok x en1 =>
    rw [ea] at q
    simp only [RM.bind_ok] at q
    intro v1 H1 Fs1 G1 a1 o1
    refine sb σ H1 en1 Fs1 _ a1.ok ?_
    cases eb : mb en1 with
    | ok y en2 =>
      rw [eb] at q
      simp only [RM.bind_ok] at q
      intro v2 H2 Fs2 G2 a2 o2
      cases ef : f x y with
      | none => rw [ef] at q; exact q.elim
      | some z =>
        rw [ef] at q
        have o1' := (a2.stp.frame (fun _ z => z.a) o1 a1.dis).1
        exact q2 H2 x y z v1 v2 G1 G2 Q o1' o2 ef fun v H' G s o fr => q v H' Fs2 G ((a1.drop.trans a2).fin s fr) o
    | ex c en2 => rw [eb] at q; exact XM.after (W := W) a1 q
    | no => rw [eb] at q; exact q
  | ex c en1 => rw [ea] at q; exact q
  | no => rw [ea] at q; exact q
theorem m_bin {op : Operator} {f : T → T → Option T} (o : Bn X op f) (ha : PM X W a ma) (hb : PM X W b mb) : PM X W (.BinOp a op b pos) (m2 f ma mb) := by
  obtain ⟨r, ho, q⟩ := o.p
  obtain ⟨ta, pa, sa⟩ := ha
  obtain ⟨tb, pb, sb⟩ := hb
  exact ⟨_, pe_op ho pa pb, spM2 q sa sb⟩
theorem m_cmp {op : CmpOp} {f : T → T → Option T} (o : Cm X op f) (ha : PM X W a ma) (hb : PM X W b mb) (hm : behindInMarks op b = false := by first | exact nomark _ | with_unfolding_all rfl) : PM X W (.Compare a [op] [b] pos) (m2 f ma mb) := by
  obtain ⟨r, ho, q⟩ := o.p
  obtain ⟨ta, pa, sa⟩ := ha
  obtain ⟨tb, pb, sb⟩ := hb
  exact ⟨_, pe_cmpR ho pa pb hm, spM2 q sa sb⟩
def mT (m : En → RM T) : En → RM Bool := fun en => (m en).bind fun x en' => RM.of (R.of (tst x)) en'
theorem mc_cmp {op : CmpOp} {f : T → T → Option T} (o : Cm X op f) (ha : PM X W a ma) (hb : PM X W b mb) (hm : behindInMarks op b = false := by first | exact nomark _ | with_unfolding_all rfl) : PMT X W (.Compare a [op] [b] pos) (mT (m2 f ma mb)) := by
  obtain ⟨r, ho, q⟩ := o.p
  obtain ⟨ta, pa, sa⟩ := ha
  obtain ⟨tb, pb, sb⟩ := hb
  refine ⟨_, pt_cmpR ho pa pb hm, fun σ H en Fs Q ok h => spM2 q sa sb σ H en Fs _ ok ?_⟩
  unfold mT at h
  cases e : m2 f ma mb en with
  | ok x en' =>
    rw [e] at h
    simp only [RM.bind_ok] at h
    intro v H' Fs' G a o
    cases x with
    | l xs => exact h.elim
    | d d =>
      cases d with
      | bl k => have r := o.rep; cases r; exact ⟨k, rfl, h H' Fs' a.drop⟩
      | _ => exact h.elim
  | ex c en' => rw [e] at h; exact h
  | no => rw [e] at h; exact h
def mTru (m : En → RM T) : En → RM Bool := fun en => (m en).bind fun x en' => RM.of (R.of (tru x)) en'
theorem mc_truth (ha : PM X W a m) (he : ∀ whole, isTrue a X.env whole = (do let v ← whole; standAt a.pos; holding [v] (truthy v)) := by intro _; rfl) : PMT X W a (mTru m) := by
  obtain ⟨t, p, s⟩ := ha
  refine ⟨_, pt_truth p he, fun σ H en Fs Q ok q => s σ H en Fs _ ok ?_⟩
  unfold mTru at q
  cases e : m en with
  | ok x en' =>
    rw [e] at q
    intro v H' Fs' G a o
    cases ek : tru x with
    | none => simp only [RM.bind_ok, ek, R.of_none] at q; exact q.elim
    | some k =>
      simp only [RM.bind_ok, ek, R.of_some] at q
      exact ⟨k, tru_is o ek, q H' Fs' a.drop⟩
  | ex c en' => rw [e] at q; exact q
  | no => rw [e] at q; exact q
def mNot (m : En → RM Bool) : En → RM Bool := fun en => (m en).bind fun b en' => .ok (!b) en'
theorem mc_not (ha : PMT X W a mc) : PMT X W (.UnaryOp .Not a pos) (mNot mc) := by
  obtain ⟨t, p, s⟩ := ha
  refine ⟨_, pt_not p, fun σ H en Fs Q ok q => s σ H en Fs _ ok ?_⟩
  unfold mNot at q
  cases e : mc en with
  | ok x en' => rw [e] at q; exact q
  | ex c en' => rw [e] at q; exact q
  | no => rw [e] at q; exact q
/-! ### items -/
def mIx (ma mb : En → RM T) : En → RM T := fun en => (ma en).bind fun x en1 => (mb en1).bind fun y en2 => RM.of (R.of (fIx x y)).pur en2
theorem pur_ok {r : R T} {x : T} (h : r.pur = .ok x) : ∃ d, x = .d d ∧ r = .ok (.d d) := by
  cases r with
  | ok y => cases y with
    | d d => cases h; exact ⟨d, rfl, rfl⟩
    | l _ => cases h
  | ex c => cases h
  | no => cases h
theorem m_ix (ha : PM X W a ma) (hb : PM X W b mb) (hs : PlainIx b := by exact fun _ _ => rfl) : PM X W (.Subscript a b pos) (mIx ma mb) := by
  obtain ⟨ta, pa, sa⟩ := ha
  obtain ⟨tb, pb, sb⟩ := hb
  refine ⟨_, pe_ix ix_seq pa pb hs, ?_⟩
  intro σ H en Fs Q ok q
  refine sa σ H en Fs _ ok ?_
  unfold mIx at q
  cases ea : ma en with
  | ok x en1 =>
    rw [ea] at q
    simp only [RM.bind_ok] at q
    intro v1 H1 Fs1 G1 a1 o1
    refine sb σ H1 en1 Fs1 _ a1.ok ?_
    cases eb : mb en1 with
    | ok y en2 =>
      rw [eb] at q
      simp only [RM.bind_ok] at q
      intro v2 H2 Fs2 G2 a2 o2
      cases ef : (R.of (fIx x y)).pur with
      | ok z =>
        rw [ef] at q
        obtain ⟨d, rfl, e2⟩ := pur_ok ef
        cases e3 : fIx x y with
        | none => rw [e3] at e2; cases e2
        | some z =>
          rw [e3] at e2; cases e2
          have o1' := (a2.stp.frame (fun _ z => z.a) o1 a1.dis).1
          exact q_ix H2 x y _ v1 v2 G1 G2 Q o1' o2 e3 fun v H' G s o => q v H' Fs2 [] ((a1.drop.trans a2).fin s Fresh.nil) (.d o.rep)
      | ex c => rw [ef] at q; exact False.elim (by
          cases e3 : fIx x y with
          | none => rw [e3] at ef; cases ef
          | some z => rw [e3] at ef; cases z <;> cases ef)
      | no => rw [ef] at q; exact q.elim
    | ex c en2 => rw [eb] at q; exact XM.after (W := W) a1 q
    | no => rw [eb] at q; exact q
  | ex c en1 => rw [ea] at q; exact q
  | no => rw [ea] at q; exact q
/-- name[index], the name's thing as it stands behind the index -/
def mIxN (i : Nat) (mb : En → RM T) : En → RM T := fun en => (mb en).bind fun y en2 => RM.of ((R.of (at_ en2 i)).bind fun x => (R.of (fIx x y)).pur) en2
theorem m_ixN (i : Nat) {x : Str} {p : Pos} (hb : PM X W b mb) (hN : X.N[i]? = some x := by rfl) (hv : Vis X.env.scope x := by first | exact Or.inl rfl | exact Or.inr (Or.inl rfl) | exact Or.inr (Or.inr rfl)) (hs : PlainIx b := by exact fun _ _ => rfl) (hd : (x == ("__debug__" : Str)) = false := by decide)
    (hcd : (x == ("__classdict__" : Str)) = false := by decide) (hst : ∀ en, (∃ y en2, mb en = .ok y en2) → ∀ z, at_ en i = some z → True := by intros; trivial) : PM X W (.Subscript (.Name x p) b pos) (fun en => if (at_ en i).isSome then mIxN i mb en else .no) := by
  obtain ⟨tb, pb, sb⟩ := hb
  refine ⟨_, pe_ix ix_seq (pe_var hN hv hd hcd) pb hs, ?_⟩
  intro σ H en Fs Q ok q
  simp only at q
  split at q
  · rename_i hsome
    cases e0 : at_ en i with
    | none => rw [e0] at hsome; cases hsome
    | some x0 =>
      obtain ⟨v0, h0, _⟩ := ok.has i x0 e0
      refine ⟨v0, h0, sb σ H en Fs _ ok ?_⟩
      unfold mIxN at q
      cases eb : mb en with
      | ok y en2 =>
        rw [eb] at q
        simp only [RM.bind_ok] at q
        intro v2 H2 Fs2 G2 a2 o2
        cases e1 : at_ en2 i with
        | none => rw [e1] at q; exact q.elim
        | some x1 =>
          rw [e1] at q
          simp only [R.of_some, R.bind_ok] at q
          obtain ⟨v1, h1, o1⟩ := a2.ok.has i x1 e1
          rw [h0] at h1; cases h1
          cases ef : (R.of (fIx x1 y)).pur with
          | ok z =>
            rw [ef] at q
            obtain ⟨d, rfl, e2⟩ := pur_ok ef
            cases e3 : fIx x1 y with
            | none => rw [e3] at e2; cases e2
            | some z =>
              rw [e3] at e2; cases e2
              exact q_ix H2 x1 y _ v0 v2 _ G2 Q o1 o2 e3 fun v H' G s o => q v H' Fs2 [] (a2.fin s Fresh.nil) (.d o.rep)
          | ex c => rw [ef] at q; exact False.elim (by
              cases e3 : fIx x1 y with
              | none => rw [e3] at ef; cases ef
              | some z => rw [e3] at ef; cases z <;> cases ef)
          | no => rw [ef] at q; exact q.elim
      | ex c en2 => rw [eb] at q; exact q
      | no => rw [eb] at q; exact q
  · exact q.elim
/-! ### arguments -/
def mNil : En → RM (List T) := fun en => .ok [] en
def mCons (m : En → RM T) (ms : En → RM (List T)) : En → RM (List T) := fun en => (m en).bind fun x en1 => (ms en1).bind fun xs en2 => .ok (x :: xs) en2
theorem ma_nil : PMA X W [] mNil := ⟨_, pa_nil, fun σ H en Fs Q ok q => q [] H Fs [] (.refl ok) .nil⟩
theorem ma_cons (ha : PM X W a m) (hr : PMA X W es ms) (hs : starEach (a :: es) X.env = (false, eval a X.env) :: starEach es X.env := by rfl) : PMA X W (a :: es) (mCons m ms) := by
  obtain ⟨t, p, s⟩ := ha
  obtain ⟨t2, p2, s2⟩ := hr
  refine ⟨_, pa_cons p p2 hs, fun σ H en Fs Q ok q => s σ H en Fs _ ok ?_⟩
  unfold mCons at q
  cases e : m en with
  | ok x en1 =>
    rw [e] at q
    simp only [RM.bind_ok] at q
    intro v H' Fs' G a o
    refine s2 σ H' en1 Fs' _ a.ok ?_
    cases e2 : ms en1 with
    | ok xs en2 =>
      rw [e2] at q
      exact fun vs H2 Fs2 G2 a2 o2 => q (v :: vs) H2 Fs2 (G ++ G2) (a.held o.there a2) (.cons (a2.stp.frame (fun _ z => z.a) o a.dis).1 o2)
    | ex c en2 => rw [e2] at q; exact XM.after (W := W) a q
    | no => rw [e2] at q; exact q
  | ex c en1 => rw [e] at q; exact q
  | no => rw [e] at q; exact q
def mOf (f : List T → R T) (ms : En → RM (List T)) : En → RM T := fun en => (ms en).bind fun xs en' => RM.of (f xs) en'
theorem m_tup {k} (ha : PMA X W es ms) : PM X W (.Tuple es k pos) (mOf mkTup ms) := by
  obtain ⟨t, p, s⟩ := ha
  refine ⟨_, pe_tup p, fun σ H en Fs Q ok q => s σ H en Fs _ ok ?_⟩
  unfold mOf at q
  cases e : ms en with
  | ok xs en1 =>
    rw [e] at q
    simp only [RM.bind_ok, mkTup] at q
    intro vs H' Fs' G a w
    cases ea : allD xs with
    | none => rw [ea] at q; exact q.elim
    | some ds =>
      rw [ea] at q
      have e1 := allD_eq ea
      subst e1
      have rr := w.data.1
      simp only at q
      split at q
      · rename_i hz
        refine ⟨by rw [most_eq, rr.length]; exact hz, fun p np => ?_⟩
        exact q _ _ Fs' [] (a.fin (same_new np) Fresh.nil) (.d (.tup (SqT.of upd_same) (rr.mono (.of (same_new np)))))
      · exact q.elim
  | ex c en1 => rw [e] at q; exact q
  | no => rw [e] at q; exact q
theorem m_lst (ha : PMA X W es ms) : PM X W (.List es pos) (mOf mkLst ms) := by
  obtain ⟨t, p, s⟩ := ha
  refine ⟨_, pe_lst p, fun σ H en Fs Q ok q => s σ H en Fs _ ok ?_⟩
  unfold mOf at q
  cases e : ms en with
  | ok xs en1 =>
    rw [e] at q
    simp only [RM.bind_ok, mkLst] at q
    intro vs H' Fs' G a w
    split at q
    · rename_i hz
      refine ⟨by rw [most_eq, w.length]; exact hz, fun p np => ?_⟩
      have b : Aft X.K H' Fs' σ en1 (upd H' p (.lst vs)) Fs' σ en1 [p] := .quiet a.ok (same_new np) (fresh1 np)
      have h := a.held w.there b
      have h2 : Aft X.K H Fs σ en (upd H' p (.lst vs)) Fs' σ en1 (p :: G) := ⟨h.ok, by
          have := h.nod
          exact (List.perm_append_comm (l₁ := G) (l₂ := [p])).nodup_iff.mp this, fun c m => h.dis c (by simp only [List.mem_append, List.mem_cons, List.not_mem_nil, or_false] at m ⊢; exact m.symm), h.stp.imp (fun c z => z.imp id fun m => by simp only [List.mem_append, List.mem_cons, List.not_mem_nil, or_false] at m ⊢; exact m.symm) (fun c z => z.imp id fun m => by simp only [List.mem_append, List.mem_cons, List.not_mem_nil, or_false] at m ⊢; exact m.symm), h.bk⟩
      exact q _ _ Fs' (p :: G) h2 (.l upd_same (w.mono (same_new np)))
    · exact q.elim
  | ex c en1 => rw [e] at q; exact q
  | no => rw [e] at q; exact q
def rOf (f : List T → Option T) : List T → R T := fun xs => R.of (f xs)
theorem spMB {r : List V → Hp → VK → Prop} {f : List T → Option T} {t : TA} (q2 : QL X.K r f) (s : SpMA X W ms t) : SpM X W (mOf (rOf f) ms) (tCB r t) := by
  intro σ H en Fs Q ok q
  refine s σ H en Fs _ ok ?_
  unfold mOf rOf at q
  cases e : ms en with
  | ok xs en1 =>
    rw [e] at q
    simp only [RM.bind_ok] at q
    intro vs H' Fs' G a w
    cases ef : f xs with
    | none => rw [ef] at q; exact q.elim
    | some z =>
      rw [ef] at q
      exact q2 H' xs vs z Q w.vws ef fun v H2 G2 s2 o fr => q v H2 Fs' G2 (a.fin s2 fr) o
  | ex c en1 => rw [e] at q; exact q
  | no => rw [e] at q; exact q
theorem m_callB {x id : String} {f : List T → Option T} {p : Pos} (o : Bf X (.builtin id) f) (hv : bootBuiltins x = some (.builtin id)) (hm : X.mg x = none) (ha : PMA X W (a :: es) ms) (hg : Gl X x := by rfl) (hn : (Str.ofString x) ≠ "__name__" := by decide) (hdb : ((Str.ofString x) == ("__debug__" : Str)) = false := by decide)
    (he : starEach (a :: es) X.env = (false, eval a X.env) :: starEach es X.env := by rfl) (hpl : (backTo pos (starEach es X.env)).any (·.1) = false := by rfl) : PM X W (.Call (.Name x p) (a :: es) [] pos) (mOf (rOf f) ms) := by
  obtain ⟨r, hc, q⟩ := o.p
  obtain ⟨t, pa, s⟩ := ha
  exact ⟨_, pe_callB hc hg hm hv pa hn hdb he hpl, spMB q s⟩
theorem m_callT {x Ty : String} {f : List T → Option T} {p : Pos} (o : Bf X (.type Ty) f) (hv : bootBuiltins x = some (.type Ty)) (hm : X.mg x = none) (ha : PMA X W (a :: es) ms) (hg : Gl X x := by rfl) (hn : (Str.ofString x) ≠ "__name__" := by decide) (hdb : ((Str.ofString x) == ("__debug__" : Str)) = false := by decide)
    (he : starEach (a :: es) X.env = (false, eval a X.env) :: starEach es X.env := by rfl) (hpl : (backTo pos (starEach es X.env)).any (·.1) = false := by rfl) : PM X W (.Call (.Name x p) (a :: es) [] pos) (mOf (rOf f) ms) := by
  obtain ⟨r, hc, q⟩ := o.p
  obtain ⟨t, pa, s⟩ := ha
  exact ⟨_, pe_callTy hc hg hm hv pa hn hdb he hpl, spMB q s⟩
/-- a def that changes nothing, its arguments our own -/
theorem m_call {x : Str} {k : Nat} {F : List T → R T} {p : Pos} (f : FnP X.prog X.w X.K X.mg X.base x k F) (tk : Takes X W) (hr : Room k X.A) (ha : PMA X W (a :: es) ms) (hg : Gl X x := by rfl)
    (hdb : (x == ("__debug__" : Str)) = false := by decide) (he : starEach (a :: es) X.env = (false, eval a X.env) :: starEach es X.env := by rfl) (hpl : (backTo pos (starEach es X.env)).any (·.1) = false := by rfl) : PM X W (.Call (.Name x p) (a :: es) [] pos) (mOf F ms) := by
  obtain ⟨f, fd, ps, ok, hm, hk, hb⟩ := f.ex
  obtain ⟨t, pa, s⟩ := ha
  refine ⟨_, pe_callS (E := WE W) ok hr hg hm hk hb (fun σ => passAt tk σ) pa hdb he hpl, fun σ H en Fs Q ok q => s σ H en Fs _ ok ?_⟩
  unfold mOf at q
  cases e : ms en with
  | ok xs en1 =>
    rw [e] at q
    simp only [RM.bind_ok] at q
    intro vs H' Fs' G a w
    refine ⟨xs, w.vws, ?_⟩
    cases ef : F xs with
    | ok r => rw [ef] at q; exact fun v H2 G2 s2 o fr => q v H2 Fs' G2 (a.fin s2 fr) o
    | ex c => rw [ef] at q; exact fun cls dx H2 s2 i => q cls dx H2 Fs' σ (a.fin s2 Fresh.nil) i
    | no => rw [ef] at q; exact q
  | ex c en1 => rw [e] at q; exact q
  | no => rw [e] at q; exact q
end
end Z
/-! Z: lists changed in their place. -/
namespace Z
open PySem PySem.Spec L2
open PyProof.Rows hiding St

def setO (en : En) (i : Nat) (x : T) : En := match en[i]? with
  | some (.b _) => en.set i (.b x)
  | _ => en.set i (.v x)
theorem own_lt {en : En} {i : Nat} {x : T} (h : ownAt en i = some x) : i < en.length := by
  unfold ownAt at h
  cases e : en[i]? with
  | none => rw [e] at h; cases h
  | some s => exact (List.getElem?_eq_some_iff.mp e).1
theorem setO_own {en : En} {i : Nat} {x y : T} (h : ownAt en i = some y) : ownAt (setO en i x) i = some x := by
  have hl := own_lt h
  unfold setO
  cases e : en[i]? with
  | none => unfold ownAt at h; rw [e] at h; cases h
  | some s => cases s <;> (simp only; unfold ownAt; rw [List.getElem?_set_self hl])
theorem setO_ne {en : En} {i j : Nat} {x : T} (h : j ≠ i) : (setO en i x)[j]? = en[j]? := by
  unfold setO
  cases e : en[i]? with
  | none => simp only; rw [List.getElem?_set_ne (Ne.symm h)]
  | some s => cases s <;> (simp only; rw [List.getElem?_set_ne (Ne.symm h)])
theorem setO_len {en : En} {i : Nat} {x : T} : (setO en i x).length = en.length := by
  unfold setO
  cases e : en[i]? with
  | none => simp only; rw [List.length_set]
  | some s => cases s <;> (simp only; rw [List.length_set])
theorem setO_own_ne {en : En} {i j : Nat} {x : T} (h : j ≠ i) : ownAt (setO en i x) j = ownAt en j := by unfold ownAt; rw [setO_ne h]
theorem setO_at_ne {en : En} {i j : Nat} {x : T} (h : j ≠ i) : at_ (setO en i x) j = at_ en j := by unfold at_; rw [setO_ne h]
theorem Own.lst {K : PySem.W.Frag} {H : Hp} {v : V} {xs : List T} {F : List Addr} (h : Own K H v (.l xs) F) : ∃ a vs F', v = .ref a ∧ H a = some (.lst vs) ∧ Owns K H vs xs F' ∧ F = a :: F' := by
  cases h with
  | l h o => exact ⟨_, _, _, rfl, h, o, rfl⟩
theorem pst_upd {H : Hp} {a : Addr} {vs ws : List V} (h : H a = some (.lst vs)) : Pst H (upd H a (.lst ws)) := ⟨fun b us e => by
  by_cases hb : b = a
  · rw [hb, h] at e; cases e
  · rw [upd_ne hb]; exact e, fun b ob u e => by
  by_cases hb : b = a
  · rw [hb, h] at e; cases e
  · rw [upd_ne hb]; exact e⟩
/-- a list of ours has other items -/
theorem Aft.mut {K : PySem.W.Frag} {H0 H : Hp} {Fs0 Fs : Ft} {σ0 σ : L2.St} {en0 en : En} {G G' F F' : List Addr} {i : Nat} {xs xs' : List T} {vs vs' : List V} {a : Addr} (A : Aft K H0 Fs0 σ0 en0 H Fs σ en G) (e : ownAt en i = some (.l xs)) (hσ : σ[i]? = some (some (.ref a)))
    (ha : H a = some (.lst vs)) (hF : Fs i = a :: F) (o : Owns K H vs' xs' F') (nd : (F' ++ G').Nodup) (sub : ∀ c ∈ F' ++ G', c ∈ F ∨ c ∈ G) : Aft K H0 Fs0 σ0 en0 (upd H a (.lst vs')) (updF Fs i (a :: F')) σ (setO en i (.l xs')) G' := by
  have oi : ownAt en i ≠ none := by rw [e]; exact fun z => by cases z
  have ai : a ∈ Fs i := by rw [hF]; exact List.mem_cons_self
  have ndi := A.ok.nod i oi
  rw [hF] at ndi
  have aF : a ∉ F := (List.nodup_cons.mp ndi).1
  have aG : a ∉ G := fun m => A.dis a m ⟨i, ai⟩
  have aS : ∀ c ∈ F' ++ G', c ≠ a := fun c m z => (sub c m).elim (fun y => aF (z ▸ y)) fun y => aG (z ▸ y)
  have Fi : ∀ {c}, c ∈ F → c ∈ Fs i := fun {c} m => by rw [hF]; exact List.mem_cons_of_mem _ m
  have p := pst_upd (ws := vs') ha
  have nj : ∀ {j c}, j ≠ i → c ∈ F' ++ G' → c ∉ Fs j := fun {j c} hj m z => (sub c m).elim (fun y => A.ok.dis i j c (Ne.symm hj) oi (Fi y) z) fun y => A.dis c y ⟨j, z⟩
  have aj : ∀ {j}, j ≠ i → a ∉ Fs j := fun {j} hj z => A.ok.dis i j a (Ne.symm hj) oi ai z
  have own : ∀ j, ownAt (setO en i (.l xs')) j ≠ none → ownAt en j ≠ none := fun j h => by
    by_cases hj : j = i
    · rw [hj]; exact oi
    · rwa [setO_own_ne hj] at h
  have F'l : ∀ c ∈ F', c ∈ F' ++ G' := fun c m => List.mem_append_left _ m
  refine ⟨⟨by rw [setO_len]; exact A.ok.len, fun j y h => ?_, fun j h => ?_, fun j l c ne h m => ?_, fun j h => ?_⟩, (List.nodup_append.mp nd).2.1, fun c m z => ?_, ⟨A.stp.pst.trans p, fun c ob e n => ?_, fun c e => ?_, fun c m => ?_, fun c m => ?_⟩, fun j y h => ?_⟩
  · by_cases hj : j = i
    · subst hj
      rw [own_at (setO_own e)] at h; cases h
      exact ⟨_, hσ, by rw [updF_same]; exact .l upd_same (o.frame p fun c m ob e => by rw [upd_ne (aS c (F'l c m))]; exact e)⟩
    · rw [setO_at_ne hj] at h
      obtain ⟨v, h1, h2⟩ := A.ok.has j y h
      have h3 : Own K (upd H a (.lst vs')) v y (Fs j) := h2.frame p fun c m ob e => by
        have hc : c ≠ a := fun z => aj hj (by rw [← z]; exact m)
        rw [upd_ne hc]; exact e
      exact ⟨v, h1, by rw [updF_ne hj]; exact h3⟩
  · by_cases hj : j = i
    · rw [hj, updF_same]; exact List.nodup_cons.mpr ⟨fun m => aS a (F'l a m) rfl, (List.nodup_append.mp nd).1⟩
    · rw [updF_ne hj]; exact A.ok.nod j (own j h)
  · by_cases hj : j = i
    · rw [hj, updF_same] at m
      rw [updF_ne (by rw [← hj]; exact Ne.symm ne)]
      have hl : l ≠ i := by rw [← hj]; exact Ne.symm ne
      rcases List.mem_cons.mp m with rfl | m
      · exact aj hl
      · exact nj hl (F'l c m)
    · rw [updF_ne hj] at m
      by_cases hl : l = i
      · rw [hl, updF_same]
        intro z
        rcases List.mem_cons.mp z with rfl | z
        · exact aj hj m
        · exact nj hj (F'l c z) m
      · rw [updF_ne hl]; exact A.ok.dis j l c ne (own j h) m
  · by_cases hj : j = i
    · rw [hj, own_at (setO_own e)] at h; cases h
    · rw [updF_ne hj]; rw [setO_at_ne hj] at h; exact A.ok.emp j h
  · obtain ⟨j, z⟩ := z
    by_cases hj : j = i
    · rw [hj, updF_same] at z
      rcases List.mem_cons.mp z with rfl | z
      · exact aS _ (List.mem_append_right _ m) rfl
      · exact (List.nodup_append.mp nd).2.2 c z c m rfl
    · rw [updF_ne hj] at z; exact nj hj (List.mem_append_right _ m) z
  · have hc : c ≠ a := fun z => (A.stp.subO a (.inl ⟨i, oi, ai⟩)).elim (fun y => n (z ▸ y)) fun y => by rw [z, y] at e; cases e
    rw [upd_ne hc]; exact A.stp.keep c ob e n
  · by_cases hc : c = a
    · rw [hc, upd_same] at e; cases e
    · rw [upd_ne hc] at e; exact A.stp.dom c e
  · have back : ∀ c ∈ F' ++ G', InO en Fs c ∨ c ∈ G := fun c m => (sub c m).imp (fun y => ⟨i, oi, Fi y⟩) id
    rcases m with ⟨j, h, m⟩ | m
    · by_cases hj : j = i
      · rw [hj, updF_same] at m
        rcases List.mem_cons.mp m with rfl | m
        · exact A.stp.subO _ (.inl ⟨i, oi, ai⟩)
        · exact A.stp.subO c (back c (F'l c m))
      · rw [updF_ne hj] at m; exact A.stp.subO c (.inl ⟨j, own j h, m⟩)
    · exact A.stp.subO c (back c (List.mem_append_right _ m))
  · have back : ∀ c ∈ F' ++ G', InF Fs c ∨ c ∈ G := fun c m => (sub c m).imp (fun y => ⟨i, Fi y⟩) id
    rcases m with ⟨j, m⟩ | m
    · by_cases hj : j = i
      · rw [hj, updF_same] at m
        rcases List.mem_cons.mp m with rfl | m
        · exact A.stp.subA _ (.inl ⟨i, ai⟩)
        · exact A.stp.subA c (back c (F'l c m))
      · rw [updF_ne hj] at m; exact A.stp.subA c (.inl ⟨j, m⟩)
    · exact A.stp.subA c (back c (List.mem_append_right _ m))
  · by_cases hj : j = i
    · subst hj
      unfold setO at h
      cases es : en[j]? with
      | none => unfold ownAt at e; rw [es] at e; cases e
      | some s =>
        rw [es] at h
        cases s with
        | b x0 => exact A.bk j x0 es
        | _ => simp only [List.getElem?_set_self (own_lt e)] at h; cases h
    · rw [setO_ne hj] at h; exact A.bk j y h
section
variable {X : Cx} {W : WX} {e a b c : Expr} {es : List Expr} {pos apos : Pos} {m ma mb : En → RM T} {gi : En → R T}
def mApp (i : Nat) (m : En → RM T) : En → RM T := fun en => match ownAt en i with
  | some (.l _) => (m en).bind fun x en1 => match ownAt en1 i with
    | some (.l xs) => if xs.length < most then .ok (.d .non) (setO en1 i (.l (xs ++ [x]))) else .no
    | _ => .no
  | _ => .no
theorem ty_list {K : PySem.W.Frag} {H : Hp} {a : Addr} {vs : List V} (h : H a = some (.lst vs)) : tyV K "list" (.ref a) H := .inl ⟨rfl, _, SqL.of h⟩
theorem m_app (i : Nat) {x : Str} {p : Pos} (ha : PM X W e m) (hN : X.N[i]? = some x := by rfl) (hv : Vis X.env.scope x := by first | exact Or.inl rfl | exact Or.inr (Or.inl rfl) | exact Or.inr (Or.inr rfl)) (hd : (x == ("__debug__" : Str)) = false := by decide) (hcd : (x == ("__classdict__" : Str)) = false := by decide)
    (hbase : attributeBase (.Name x p) "append" X.env (eval (.Name x p) X.env) = eval (.Name x p) X.env := by rfl)
    (hfew : ((backTo pos (starEach [e] X.env)).all (fun x => !x.1) && (backToKw pos (keywordEach [] X.env)).all (fun x => x.1.isSome) && decide ([e].length + ([] : List Keyword).length + (if ([] : List Keyword).isEmpty then 0 else 1) < 30)) = true := by rfl)
    (hline : (apos.endLine == pos.line) = true := by rfl) (hs : starEach [e] X.env = (false, eval e X.env) :: starEach [] X.env := by rfl) (hplain : (backTo pos (starEach [] X.env)).any (·.1) = false := by rfl) :
    PM X W (.Call (.Attribute (.Name x p) "append" apos) [e] [] pos) (mApp i m) := by
  obtain ⟨t, pp, s⟩ := ha
  refine ⟨_, pe_bm PySem.F.plainAttrs_list PySem.F.slot_list_append PySem.F.type_list_append mt_append (pe_var hN hv hd hcd) (pa_cons pp pa_nil hs) hbase hfew hline hs hplain, fun σ H en Fs Q ok q => ?_⟩
  unfold mApp at q
  cases e0 : ownAt en i with
  | none => rw [e0] at q; exact q.elim
  | some x0 =>
    rw [e0] at q
    cases x0 with
    | d d => exact q.elim
    | l xs0 =>
      obtain ⟨v0, h0, o0⟩ := ok.has i _ (own_at e0)
      obtain ⟨a0, vs0, F0, rfl, hH0, _, _⟩ := o0.lst
      refine ⟨_, h0, ty_list hH0, s σ H en Fs _ ok ?_⟩
      simp only at q
      cases e1 : m en with
      | ok x en1 =>
        rw [e1] at q
        simp only [RM.bind_ok] at q
        intro v H' Fs' G A o
        cases e2 : ownAt en1 i with
        | none => rw [e2] at q; exact q.elim
        | some x1 =>
          rw [e2] at q
          cases x1 with
          | d d => exact q.elim
          | l xs =>
            simp only at q
            split at q
            · rename_i hz
              obtain ⟨v1, h1, o1⟩ := A.ok.has i _ (own_at e2)
              rw [h0] at h1; cases h1
              obtain ⟨a1, vs, F, e3, hH, ow, hF⟩ := o1.lst
              cases e3
              have oi : ownAt en1 i ≠ none := by rw [e2]; exact fun z => by cases z
              have nF := A.ok.nod i oi
              rw [hF] at nF
              refine ⟨a0, vs, v, rfl, rfl, hH, by rw [most_eq, ow.length]; exact hz, ?_⟩
              have A2 := A.mut (G' := []) e2 h0 hH hF (ow.snoc o) (by
                rw [List.append_nil]
                exact List.nodup_append.mpr ⟨(List.nodup_cons.mp nF).2, A.nod, fun c hc d hd z => A.dis d hd ⟨i, by rw [hF, ← z]; exact List.mem_cons_of_mem _ hc⟩⟩) (fun c m => by rw [List.append_nil] at m; exact List.mem_append.mp m)
              exact q _ _ _ [] A2 (.d .non)
            · exact q.elim
      | ex c en1 => rw [e1] at q; exact q
      | no => rw [e1] at q; exact q
/-- the last one apart -/
theorem Owns.last {K : PySem.W.Frag} {H : Hp} : ∀ {vs : List V} {xs : List T} {F : List Addr} {x : T}, Owns K H vs xs F → xs.getLast? = some x → ∃ v F' G, vs[vs.length - 1]? = some v ∧ Owns K H vs.dropLast xs.dropLast F' ∧ Own K H v x G ∧ F = F' ++ G
  | _, _, _, x, .nil, h => by cases h
  | _, _, _, x, .cons (v := v) (F := F) o .nil, h => by
    cases h
    exact ⟨v, [], F, rfl, .nil, o, by rw [List.append_nil]; rfl⟩
  | _, _, _, x, .cons (v := v) (x := y) (F := F) o (.cons (v := w) (vs := vs) (x := z) (xs := xs) (F := F2) (G := G2) o2 t), h => by
    rw [List.getLast?_cons_cons] at h
    obtain ⟨u, F', G, h1, h2, h3, h4⟩ := Owns.last (.cons o2 t) h
    refine ⟨u, F ++ F', G, ?_, .cons o h2, h3, by rw [h4, List.append_assoc]⟩
    simpa using h1
def mPop (i : Nat) : En → RM T := fun en => match ownAt en i with
  | some (.l xs) => match xs.getLast? with
    | some x => .ok x (setO en i (.l xs.dropLast))
    | none => .no
  | _ => .no
theorem m_pop (i : Nat) {x : Str} {p : Pos} (hN : X.N[i]? = some x := by rfl) (hv : Vis X.env.scope x := by first | exact Or.inl rfl | exact Or.inr (Or.inl rfl) | exact Or.inr (Or.inr rfl)) (hd : (x == ("__debug__" : Str)) = false := by decide) (hcd : (x == ("__classdict__" : Str)) = false := by decide)
    (hbase : attributeBase (.Name x p) "pop" X.env (eval (.Name x p) X.env) = eval (.Name x p) X.env := by rfl) (hline : (apos.endLine == pos.line) = true := by rfl) :
    PM X W (.Call (.Attribute (.Name x p) "pop" apos) [] [] pos) (mPop i) := by
  refine ⟨_, pe_bm0 PySem.F.plainAttrs_list PySem.F.slot_list_pop PySem.F.type_list_pop mt_pop (pe_var hN hv hd hcd) hbase hline, fun σ H en Fs Q ok q => ?_⟩
  unfold mPop at q
  cases e0 : ownAt en i with
  | none => rw [e0] at q; exact q.elim
  | some x0 =>
    rw [e0] at q
    cases x0 with
    | d d => exact q.elim
    | l xs =>
      simp only at q
      cases el : xs.getLast? with
      | none => rw [el] at q; exact q.elim
      | some x =>
        rw [el] at q
        obtain ⟨v0, h0, o0⟩ := ok.has i _ (own_at e0)
        obtain ⟨a0, vs, F, rfl, hH, ow, hF⟩ := o0.lst
        obtain ⟨v, F', G, h1, h2, h3, h4⟩ := ow.last el
        have oi : ownAt en i ≠ none := by rw [e0]; exact fun z => by cases z
        have nF := ok.nod i oi
        rw [hF] at nF
        refine ⟨_, h0, ty_list hH, a0, vs, v, rfl, rfl, hH, h1, ?_⟩
        have A2 := (Aft.refl ok).mut (G' := G) e0 h0 hH hF h2 (by rw [← h4]; exact (List.nodup_cons.mp nF).2) (fun c m => .inl (by rw [h4]; exact m))
        have nG : ∀ c ∈ G, c ≠ a0 := fun c m z => (List.nodup_cons.mp nF).1 (by rw [h4, ← z]; exact List.mem_append_right _ m)
        exact q v _ _ G A2 (h3.frame (pst_upd hH) fun c m ob e => by rw [upd_ne (nG c m)]; exact e)
/-! ### x[i] = e -/
theorem Owns.put {K : PySem.W.Frag} {H : Hp} {v : V} {x : T} {G : List Addr} (p : Own K H v x G) : ∀ {vs : List V} {xs : List T} {F : List Addr} {j : Nat}, Owns K H vs xs F → j < xs.length → (F ++ G).Nodup → ∃ F', Owns K H (vs.set j v) (xs.set j x) F' ∧ F'.Nodup ∧ ∀ c ∈ F', c ∈ F ∨ c ∈ G
  | _, _, _, j, .nil, h, _ => absurd h (Nat.not_lt_zero _)
  | _, _, _, 0, .cons (F := F) (G := F2) o t, _, nd => by
    refine ⟨G ++ F2, .cons p t, ?_, fun c m => (List.mem_append.mp m).elim .inr fun z => .inl (List.mem_append_right _ z)⟩
    obtain ⟨n1, n2, n3⟩ := List.nodup_append.mp nd
    exact List.nodup_append.mpr ⟨n2, (List.nodup_append.mp n1).2.1, fun c hc d hd z => n3 d (List.mem_append_right _ hd) c hc z.symm⟩
  | _, _, _, j + 1, .cons (F := F) (G := F2) o t, h, nd => by
    obtain ⟨n1, n2, n3⟩ := List.nodup_append.mp nd
    obtain ⟨m1, m2, m3⟩ := List.nodup_append.mp n1
    obtain ⟨F', h1, h2, h3⟩ := Owns.put p t (Nat.lt_of_succ_lt_succ h) (List.nodup_append.mpr ⟨m2, n2, fun c hc d hd z => n3 c (List.mem_append_right _ hc) d hd z⟩)
    refine ⟨F ++ F', .cons o h1, List.nodup_append.mpr ⟨m1, h2, fun c hc d hd z => (h3 d hd).elim (fun y => m3 c hc d y z) fun y => n3 c (List.mem_append_left _ hc) d y z⟩, fun c m => (List.mem_append.mp m).elim (fun z => .inl (List.mem_append_left _ z)) fun z => (h3 c z).imp (List.mem_append_right _) id⟩
def fStore (i : Nat) (gi : En → R T) (m : En → RM T) : En → SR := fun en => (m en).s fun x en1 => match gi en1 with
  | .ok (.d (.int k)) => match ownAt en1 i with
    | some (.l xs) => match ixN xs.length k with
      | some j => .nx (setO en1 i (.l (xs.set j x)))
      | none => .no
    | _ => .no
  | _ => .no
theorem ixN_lt {n j : Nat} {k : Int} (h : ixN n k = some j) : j < n := (ixN_seq h).2.1
theorem s_store (i : Nat) {x : Str} {p tpos : Pos} {ix : Expr} (he : PM X W e m) (hi : PV X W ix gi) (hN : X.N[i]? = some x := by rfl) (hv : Vis X.env.scope x := by first | exact Or.inl rfl | exact Or.inr (Or.inl rfl) | exact Or.inr (Or.inr rfl)) (hd : (x == ("__debug__" : Str)) = false := by decide) (hcd : (x == ("__classdict__" : Str)) = false := by decide)
    (ha : ∀ v, assign (.Subscript (.Name x p) ix tpos) X.env v = (do
      let ov ← holding [v] (eval (.Name x p) X.env)
      let iv ← holding [v, ov] (eval ix X.env); standAt tpos
      holding [v, ov, iv] (setItem ov iv v); release [v, ov, iv] []) := by intro _; rfl) (hs : swapsWithSole [.Subscript (.Name x p) ix tpos] e pos.line X.env = pure false := by rfl) (hw : swappedStores [.Subscript (.Name x p) ix tpos] e X.env = pure none := by rfl)
    (h1 : (assignEach [.Subscript (.Name x p) ix tpos] X.env).map (·.2) = [assign (.Subscript (.Name x p) ix tpos) X.env] := by rfl) : PSt X W (.Assign [.Subscript (.Name x p) ix tpos] e pos) (fStore i gi m) := by
  obtain ⟨t, pp, s⟩ := he
  obtain ⟨t2, p2, s2⟩ := hi
  refine ⟨_, ps_asg pp (pg_sub (pe_var hN hv hd hcd) p2 set_list ha) hs hw h1, fun σ H en Fs D ok q => s σ H en Fs _ ok ?_⟩
  unfold fStore at q
  cases e1 : m en with
  | ok x en1 =>
    rw [e1] at q
    simp only [RM.s_ok] at q
    intro v H' Fs' G A o
    cases eg : gi en1 with
    | ex c => rw [eg] at q; exact q.elim
    | no => rw [eg] at q; exact q.elim
    | ok y =>
      rw [eg] at q
      cases y with
      | l _ => exact q.elim
      | d y =>
        cases y with
        | int k =>
          simp only at q
          cases e2 : ownAt en1 i with
          | none => rw [e2] at q; exact q.elim
          | some x1 =>
            rw [e2] at q
            cases x1 with
            | d d => exact q.elim
            | l xs =>
              simp only at q
              cases ej : ixN xs.length k with
              | none => rw [ej] at q; exact q.elim
              | some j =>
                rw [ej] at q
                obtain ⟨v1, h1, o1⟩ := A.ok.has i _ (own_at e2)
                refine ⟨v1, h1, s2 σ H' en1 _ A.ok.ven ?_⟩
                rw [eg]
                intro w H2 G2 sm ow2
                have r := ow2.rep
                cases r
                have A' : Aft X.K H Fs σ en H2 Fs' σ en1 G := ⟨A.ok.same sm, A.nod, A.dis, ⟨A.stp.pst.trans (.of sm), fun c ob e n => sm _ _ (A.stp.keep c ob e n), fun c e => A.stp.dom c (sm.free e), A.stp.subO, A.stp.subA⟩, A.bk⟩
                obtain ⟨a0, vs, F, rfl, hH, ow, hF⟩ := (o1.mono sm).lst
                have oi : ownAt en1 i ≠ none := by rw [e2]; exact fun z => by cases z
                have nF := A.ok.nod i oi
                rw [hF] at nF
                have o' := o.mono sm
                obtain ⟨F', n1, n2, n3⟩ := ow.put o' (ixN_lt ej) (List.nodup_append.mpr ⟨(List.nodup_cons.mp nF).2, A.nod, fun c hc d hd z => A.dis d hd ⟨i, by rw [hF, ← z]; exact List.mem_cons_of_mem _ hc⟩⟩)
                exact ⟨a0, vs, k, j, rfl, rfl, hH, by rw [ow.length]; exact ej, q _ _ σ (A'.mut (G' := []) e2 h1 hH hF n1 (by rw [List.append_nil]; exact n2) (fun c m => n3 c (by rwa [List.append_nil] at m)))⟩
        | _ => exact q.elim
  | ex c en1 => rw [e1] at q; exact q
  | no => rw [e1] at q; exact q
end
end Z
/-! Z: comprehensions that change the frame's lists; names = comprehensions. -/
namespace Z
open PySem PySem.Spec L2
open PyProof.Rows hiding St

theorem wipeE_get (en : En) (i : Nat) : ∀ vs : List Nat, (wipeE en vs)[i]? = if i ∈ vs then (en[i]?).map fun _ => Sl.n else en[i]?
  | [] => by simp [wipeE]
  | v :: vs => by
    unfold wipeE
    by_cases e : v = i
    · subst e
      rw [if_pos List.mem_cons_self]
      by_cases hl : v < en.length
      · rw [List.getElem?_set_self (by rw [wipeE_len]; exact hl), List.getElem?_eq_getElem hl]; rfl
      · rw [List.getElem?_eq_none (by rw [List.length_set, wipeE_len]; omega), List.getElem?_eq_none (by omega)]; rfl
    · rw [List.getElem?_set_ne e, wipeE_get en i vs]
      have : (i ∈ v :: vs) ↔ i ∈ vs := by simp only [List.mem_cons]; exact ⟨fun h => h.elim (fun z => absurd z.symm e) id, .inr⟩
      by_cases hm : i ∈ vs
      · rw [if_pos hm, if_pos (this.mpr hm)]
      · rw [if_neg hm, if_neg fun z => hm (this.mp z)]
def wipeF (Fs : Ft) (vs : List Nat) : Ft := fun i => if i ∈ vs then [] else Fs i
theorem wipeF_in {Fs : Ft} {vs : List Nat} {i : Nat} {a : Addr} (m : a ∈ wipeF Fs vs i) : i ∉ vs ∧ a ∈ Fs i := by
  unfold wipeF at m
  split at m
  · cases m
  · exact ⟨by assumption, m⟩
theorem wipe_at {en : En} {vs : List Nat} {i : Nat} {x : T} (h : at_ (wipeE en vs) i = some x) : i ∉ vs ∧ at_ en i = some x := by
  unfold at_ at h ⊢
  rw [wipeE_get] at h
  by_cases hm : i ∈ vs
  · rw [if_pos hm] at h; cases e : en[i]? <;> (rw [e] at h; cases h)
  · rw [if_neg hm] at h; exact ⟨hm, h⟩
theorem wipe_own {en : En} {vs : List Nat} {i : Nat} (h : ownAt (wipeE en vs) i ≠ none) : i ∉ vs ∧ ownAt en i ≠ none := by
  unfold ownAt at h ⊢
  rw [wipeE_get] at h
  by_cases hm : i ∈ vs
  · rw [if_pos hm] at h; cases e : en[i]? <;> (rw [e] at h; exact absurd rfl h)
  · rw [if_neg hm] at h; exact ⟨hm, h⟩
/-- the names vs forgotten -/
theorem Aft.wipeTo {K : PySem.W.Frag} {H0 H : Hp} {Fs0 Fs : Ft} {σ0 σ σ' : L2.St} {en0 en : En} {G : List Addr} {vs : List Nat} (a : Aft K H0 Fs0 σ0 en0 H Fs σ en G) (hs : ∀ i, i ∉ vs → σ'[i]? = σ[i]?) (hl : en.length ≤ σ'.length) : Aft K H0 Fs0 σ0 en0 H (wipeF Fs vs) σ' (wipeE en vs) G := by
  refine ⟨⟨by rw [wipeE_len]; exact hl, fun i x h => ?_, fun i h => ?_, fun i j c ne h m => ?_, fun i h => ?_⟩, a.nod, fun c m z => ?_, a.stp.imp (fun c z => z.imp (fun ⟨i, h, m⟩ => ⟨i, (wipe_own h).2, (wipeF_in m).2⟩) id) (fun c z => z.imp (fun ⟨i, m⟩ => ⟨i, (wipeF_in m).2⟩) id), fun i x h => ?_⟩
  · obtain ⟨hn, h⟩ := wipe_at h
    obtain ⟨v, h1, h2⟩ := a.ok.has i x h
    exact ⟨v, by rw [hs i hn]; exact h1, by unfold wipeF; rw [if_neg hn]; exact h2⟩
  · obtain ⟨hn, h⟩ := wipe_own h
    unfold wipeF; rw [if_neg hn]; exact a.ok.nod i h
  · obtain ⟨hn, h⟩ := wipe_own h
    exact fun z => a.ok.dis i j c ne h (wipeF_in m).2 (wipeF_in z).2
  · by_cases hn : i ∈ vs
    · unfold wipeF; rw [if_pos hn]
    · unfold wipeF; rw [if_neg hn]
      refine a.ok.emp i ?_
      unfold at_ at h ⊢
      rw [wipeE_get, if_neg hn] at h
      exact h
  · obtain ⟨i, z⟩ := z
    exact a.dis c m ⟨i, (wipeF_in z).2⟩
  · rw [wipeE_get] at h
    by_cases hn : i ∈ vs
    · rw [if_pos hn] at h; cases e : en[i]? <;> (rw [e] at h; cases h)
    · rw [if_neg hn] at h
      obtain ⟨h1, h2⟩ := a.bk i x h
      exact ⟨h1, by rw [hs i hn]; exact h2⟩
theorem setS_len : ∀ (σ : L2.St) (ws : List (Nat × V)), (setS σ ws).length = σ.length
  | _, [] => rfl
  | σ, (i, v) :: r => by
    show (setS (σ.set i (some v)) r).length = _
    rw [setS_len, List.length_set]
/-- a list that is held aside grows -/
theorem Aft.grow {K : PySem.W.Frag} {H0 H : Hp} {Fs0 Fs : Ft} {σ0 σ : L2.St} {en0 en : En} {F G : List Addr} {D : Addr} {vs : List V} {ts : List T} {v : V} {y : T} (a : Aft K H0 Fs0 σ0 en0 H Fs σ en (D :: F ++ G)) (hD : H D = some (.lst vs)) (o : Owns K H vs ts F) (oy : Own K H v y G) :
    Aft K H0 Fs0 σ0 en0 (upd H D (.lst (vs ++ [v]))) Fs σ en (D :: (F ++ G)) ∧ Owns K (upd H D (.lst (vs ++ [v]))) (vs ++ [v]) (ts ++ [y]) (F ++ G) := by
  have p := pst_upd (ws := vs ++ [v]) hD
  have nd : (D :: (F ++ G)).Nodup := a.nod
  have nD : ∀ c ∈ F ++ G, c ≠ D := fun c m z => (List.nodup_cons.mp nd).1 (z ▸ m)
  have inD : D ∈ D :: F ++ G := List.mem_cons_self
  have up : ∀ {c ob}, c ≠ D → H c = some ob → upd H D (.lst (vs ++ [v])) c = some ob := fun {c ob} h e => by rw [upd_ne h]; exact e
  have fD : ∀ {c}, InF Fs c → c ≠ D := fun {c} m z => a.dis D inD (z ▸ m)
  refine ⟨⟨⟨a.ok.len, fun i x h => ?_, a.ok.nod, a.ok.dis, a.ok.emp⟩, nd, a.dis, ⟨a.stp.pst.trans p, fun c ob e n => ?_, fun c e => ?_, a.stp.subO, a.stp.subA⟩, a.bk⟩, ?_⟩
  · obtain ⟨w, h1, h2⟩ := a.ok.has i x h
    exact ⟨w, h1, h2.frame p fun c m ob e => up (fD ⟨i, m⟩) e⟩
  · have hc : c ≠ D := fun z => (a.stp.subO D (.inr inD)).elim (fun y => n (z ▸ y)) fun y => by rw [z, y] at e; cases e
    exact up hc (a.stp.keep c ob e n)
  · by_cases hc : c = D
    · rw [hc, upd_same] at e; cases e
    · rw [upd_ne hc] at e; exact a.stp.dom c e
  · exact (o.frame p fun c m ob e => up (nD c (List.mem_append_left _ m)) e).snoc (oy.frame p fun c m ob e => up (nD c (List.mem_append_right _ m)) e)
def lcM (vs : List Nat) (k : T → Option Ass) (tt : En → R Bool) (te : En → RM T) : List T → En → RM (List T)
  | [], en => .ok [] en
  | x :: xs, en => match (kD k x).bind fun as => stowD (wipeE en vs) as with
    | none => .no
    | some en2 => match tt en2 with
      | .ok true => match te en2 with
        | .ok y en4 => (lcM vs k tt te xs (wipeE en4 vs)).bind fun ys en' => .ok (y :: ys) en'
        | _ => .no
      | .ok false => lcM vs k tt te xs (wipeE en2 vs)
      | _ => .no
def RM.calm {α : Type} : RM α → RM α
  | .ok a en => .ok a en
  | _ => .no
def mLc (vs : List Nat) (mi : En → RM (List T)) (k : T → Option Ass) (tt : En → R Bool) (te : En → RM T) : En → RM T := fun en => (mi en).bind fun xs en1 => (lcM vs k tt te xs en1).calm.bind fun ys en2 => if ys.length < most then .ok (.l ys) en2 else .no
section
variable (X : Cx) (W : WX)
def cM (m : En → RM T) : TE := fun σ H Q => ∃ en Fs, EOk X.K H σ en Fs ∧ MQ X W H Fs σ en Q (m en)
def cMI (m : En → RM (List T)) : TI := fun σ H Q => ∃ en Fs, EOk X.K H σ en Fs ∧ MI X W H Fs σ en Q (m en)
end
theorem PM.can {X : Cx} {W : WX} {e : Expr} {m : En → RM T} (h : PM X W e m) : PE X e (cM X W m) := by
  obtain ⟨t, p, s⟩ := h
  exact ⟨fun pins st σ H Q I ⟨en, Fs, ok, q⟩ => p.run pins st σ H Q I (s σ H en Fs Q ok q)⟩
theorem PMI.can {X : Cx} {W : WX} {tg e : Expr} {m : En → RM (List T)} (h : PMI X W tg e m) : PI X tg e (cMI X W m) := by
  obtain ⟨t, p, s⟩ := h
  exact ⟨fun pins st σ H Q I ⟨en, Fs, ok, q⟩ => p.run pins st σ H Q I (s σ H en Fs Q ok q)⟩
theorem wipe_ne {σ : L2.St} {i : Nat} {vs : List Nat} (h : i ∉ vs) : (wipe σ vs)[i]? = σ[i]? := by rw [wipe_get, if_neg h]
section
variable {X : Cx} {W : WX} {elt tg it : Expr} {ifs : List Expr} {scope : Scope} {pos : Pos} {mi : En → RM (List T)} {gi : En → R (List T)} {k : T → Option Ass} {tt : En → R Bool} {te : En → RM T} {tq : En → R T}
theorem sp_lcM {own : List (Str × Nat)} (hk : ∀ x as, k x = some as → ∀ p ∈ as, p.1 ∈ own.map (·.2)) : ∀ σ H en Fs Q, EOk X.K H σ en Fs → MQ X W H Fs σ en Q (mLc (own.map (·.2)) mi k tt te en) → tLc (cMI X W mi) (tgt X.K k) (cT X W0 tt) (cM X W0 te) (own.map (·.2)) σ H Q := by
  intro σ H en Fs Q ok q
  refine ⟨en, Fs, ok, ?_⟩
  unfold mLc at q
  cases e : mi en with
  | ex c en1 => rw [e] at q; exact q
  | no => rw [e] at q; exact q
  | ok xs en1 =>
    rw [e] at q
    intro J H1 Fs1 Gi a1 iok tG D nD
    simp only [RM.bind_ok] at q
    cases el : lcM (own.map (·.2)) k tt te xs en1 with
    | ex c en2 => rw [el] at q; exact q.elim
    | no => rw [el] at q; exact q.elim
    | ok ys enf =>
      rw [el] at q
      simp only [RM.calm, RM.bind_ok] at q
      split at q
      · rename_i yz
        have base : Aft X.K H1 Fs1 σ en1 (upd H1 D (.lst [])) Fs1 σ en1 [D] := .quiet a1.ok (same_new nD) (fresh1 nD)
        have nDG : D ∉ Gi := fun m => tG D m nD
        refine lc_it iok (fun i H2 => ∃ en2 Fs2 vs ts F rest, Aft X.K H Fs σ en H2 Fs2 σ en2 (D :: F) ∧ H2 D = some (.lst vs) ∧ Owns X.K H2 vs ts F ∧ Kept Gi H1 H2 ∧ (∀ c ∈ Gi, ¬ InO en2 Fs2 c) ∧ lcM (own.map (·.2)) k tt te (xs.drop i) en2 = .ok rest enf ∧ ts ++ rest = ys)
          ⟨en1, Fs1, [], [], [], ys, a1.drop.trans base, upd_same, .nil, .of (same_new nD), fun c m z => a1.dis c m z.a, by rw [List.drop_zero]; exact el, rfl⟩ (fun i H2 _ h => ?_) (fun i v H2 H3 hi h y => ?_) (fun H2 h => ?_)
        · obtain ⟨_, _, _, _, _, _, _, _, _, kp, _⟩ := h
          exact kp
        · obtain ⟨en2, Fs2, vs, ts, F, rest, A, hD, ow, kp, nO, er, eq⟩ := h
          obtain ⟨s3, x, Fx, hx, ox, hF⟩ := y
          have hd : xs.drop i = x :: xs.drop (i + 1) := by
            rw [List.drop_eq_getElem_cons hi]
            rw [List.getElem?_eq_getElem hi] at hx
            rw [Option.some.inj hx]
          rw [hd] at er
          unfold lcM at er
          cases ek : kD k x with
          | none => rw [ek] at er; cases er
          | some as =>
            rw [ek] at er
            simp only [Option.bind_some] at er
            obtain ⟨d, rfl, ek⟩ : ∃ d, x = .d d ∧ k x = some as := by
              cases x with
              | d d => exact ⟨d, rfl, ek⟩
              | l _ => cases ek
            have ox : Own X.K H3 v (.d d) [] := .d ox.rep
            cases es : stowD (wipeE en2 (own.map (·.2))) as with
            | none => rw [es] at er; cases er
            | some en3 =>
              rw [es] at er
              simp only at er
              refine ⟨_, [], as, ox, ek, fun ws aok => ⟨by rw [wipe_sets aok (hk _ as ek), wipe_wipe], ?_⟩⟩
              have A3 : Aft X.K H Fs σ en H3 Fs2 σ en2 (D :: F) := by
                have b : Aft X.K H2 Fs2 σ en2 H3 Fs2 σ en2 [] := .quiet A.ok s3 Fresh.nil
                have := A.held (fun c m => by
                  rcases List.mem_cons.mp m with rfl | m
                  · rw [hD]; exact fun z => by cases z
                  · exact ow.there c m) b
                rwa [List.append_nil] at this
              have A4 := A3.wipeTo (σ' := wipe σ (own.map (·.2))) (vs := own.map (·.2)) (fun j hj => wipe_ne hj) (by rw [wipe_length]; exact A3.ok.len)
              obtain ⟨Fs3, B⟩ := (Aft.refl A4.ok).putD aok es
              have ow3 := ow.mono s3
              have hD3 := s3 _ _ hD
              have tDF : ∀ c ∈ D :: F, H3 c ≠ none := fun c m => by
                rcases List.mem_cons.mp m with rfl | m
                · rw [hD3]; exact fun z => by cases z
                · exact ow3.there c m
              have AB := A4.held tDF B
              rw [List.append_nil] at AB
              have kp3 : Kept Gi H1 H3 := kp.trans (.of s3)
              have tG3 : ∀ c ∈ Gi, H3 c ≠ none := fun c m z => by
                cases e1 : H1 c with
                | none => exact tG c m e1
                | some o => rw [kp3.2 c m o e1] at z; cases z
              have nO3 : ∀ c ∈ Gi, ¬ InO en3 Fs3 c := fun c m z => (B.stp.subO c (.inl z)).elim (fun ⟨j, h, y⟩ => nO c m ⟨j, (wipe_own h).2, (wipeF_in y).2⟩) (tG3 c m)
              have len2 : (setS (wipe σ (own.map (·.2))) ws).length = σ.length := by rw [setS_len, wipe_length]
              have same2 : ∀ j, j ∉ own.map (·.2) → σ[j]? = (setS (wipe σ (own.map (·.2))) ws)[j]? := fun j hj => by
                have := wipe_sets (σ := wipe σ (own.map (·.2))) aok (hk _ as ek)
                have t := congrArg (fun l : L2.St => l[j]?) this
                simp only [wipe_ne hj] at t
                exact t.symm
              refine ⟨en3, B.ok.ven, ?_⟩
              cases et : tt en3 with
              | ex c => rw [et] at er; cases er
              | no => rw [et] at er; cases er
              | ok b =>
                rw [et] at er
                intro H4 s4
                have hD4 := s4 _ _ hD3
                have ow4 := ow3.mono s4
                have AB4 : Aft X.K H Fs σ en H4 Fs3 (setS (wipe σ (own.map (·.2))) ws) en3 (D :: F) := by
                  have := AB.held tDF (.quiet AB.ok s4 Fresh.nil)
                  rwa [List.append_nil] at this
                cases b with
                | false =>
                  simp only [Bool.false_eq_true, if_false] at er ⊢
                  refine ⟨_, _, vs, ts, F, rest, AB4.wipeTo same2 (by rw [← len2]; exact AB4.ok.len), hD4, ow4, kp3.trans (.of s4), fun c m ⟨j, h, y⟩ => nO3 c m ⟨j, (wipe_own h).2, (wipeF_in y).2⟩, er, eq⟩
                | true =>
                  simp only [if_true] at er ⊢
                  refine ⟨en3, Fs3, AB4.ok, ?_⟩
                  cases ee : te en3 with
                  | ex c en5 => rw [ee] at er; cases er
                  | no => rw [ee] at er; cases er
                  | ok y en5 =>
                    rw [ee] at er
                    simp only at er
                    cases e2 : lcM (own.map (·.2)) k tt te (xs.drop (i + 1)) (wipeE en5 (own.map (·.2))) with
                    | ex c en6 => rw [e2] at er; cases er
                    | no => rw [e2] at er; cases er
                    | ok rs en6 =>
                      rw [e2] at er
                      simp only [RM.bind_ok] at er
                      cases er
                      intro v5 H5 Fs5 G5 C o5
                      have nDF : ∀ c ∈ D :: F, ¬ InF Fs3 c := fun c m => AB4.dis c m
                      have hD5 : H5 D = some (.lst vs) := C.stp.keep D _ hD4 fun z => nDF D List.mem_cons_self z.a
                      have ow5 := (C.stp.frames (fun _ z => z.a) ow4 fun c m => nDF c (List.mem_cons_of_mem _ m)).1
                      have tz : ts.length < most := by rw [← eq, List.length_append] at yz; omega
                      have tDF4 : ∀ c ∈ D :: F, H4 c ≠ none := fun c m z => tDF c m (s4.free z)
                      have A6 := (AB4.held tDF4 C).wipeTo same2 (by rw [← len2]; exact C.ok.len)
                      obtain ⟨A7, ow7⟩ := A6.grow hD5 ow5 o5
                      refine ⟨vs, hD5, by rw [most_eq, ow5.length]; exact tz, _, _, vs ++ [v5], ts ++ [y], F ++ G5, rs, A7, upd_same, ow7, ?_, fun c m ⟨j, h, z⟩ => ?_, e2, by rw [← eq, List.append_assoc]; rfl⟩
                      · exact kept_grow (K := X.K) (H0 := H) (H3 := H) ((kp3.trans (.of s4)).trans ⟨C.stp.pst, fun c m o e => C.stp.keep c o e (nO3 c m)⟩) hD5 nDG
                      · exact (C.stp.subO c (.inl ⟨j, (wipe_own h).2, (wipeF_in z).2⟩)).elim (nO3 c m) fun z => tG3 c m (s4.free z)
        · obtain ⟨en2, Fs2, vs, ts, F, rest, A, hD, ow, kp, nO, er, eq⟩ := h
          rw [List.drop_length] at er
          cases er
          rw [List.append_nil] at eq
          subst eq
          exact q _ H2 Fs2 (D :: F) A (.l hD ow)
      · exact q.elim
variable (own : List (Str × Nat))
theorem m_lc (cz : Cz X W) (hi : PMI X W tg it mi) (ok : blkC X.N X.env.scope scope own = true) (hk : ∀ x as, k x = some as → ∀ p ∈ as, p.1 ∈ own.map (·.2))
    (hg : ∀ (s : Shared) (H : Hp) (C : Addr) (cl : List (Str × Addr)) (fp : List Addr), PTg (X.blk s H scope (compEnvC scope cl C X.env) fp) tg k) (ht : ∀ (s : Shared) (H : Hp) (C : Addr) (cl : List (Str × Addr)) (fp : List Addr), PCs (X.blk s H scope (compEnvC scope cl C X.env) fp) W0 ifs tt)
    (he : ∀ (s : Shared) (H : Hp) (C : Addr) (cl : List (Str × Addr)) (fp : List Addr), PM (X.blk s H scope (compEnvC scope cl C X.env) fp) W0 elt te) (hs : ∀ x, foldedSetIterable it X.env x = pure x := by intro _; rfl) :
    PM X W (.ListComp elt [⟨tg, it, ifs, 0⟩] scope pos) (mLc (own.map (·.2)) mi k tt te) :=
  ⟨_, pe_lc (own := own) (g := tgt X.K k) (tt := cT X W0 tt) (te := cM X W0 te) cz.calm cz.nd hi.can (blkOk_by ok) hg ht (fun s H C cl fp => (he s H C cl fp).can) hs, sp_lcM hk⟩
/-- name = [..] -/
theorem s_setLc (i : Nat) {y : Str} {py spos : Pos} (cz : Cz X W) (hi : PIv X W tg it gi) (ok : blkC X.N X.env.scope scope own = true) (hk : ∀ x as, k x = some as → ∀ p ∈ as, p.1 ∈ own.map (·.2))
    (hg : ∀ (s : Shared) (H : Hp) (C : Addr) (cl : List (Str × Addr)) (fp : List Addr), PTg (X.blk s H scope (compEnvC scope cl C X.env) fp) tg k) (ht : ∀ (s : Shared) (H : Hp) (C : Addr) (cl : List (Str × Addr)) (fp : List Addr), PCs (X.blk s H scope (compEnvC scope cl C X.env) fp) W0 ifs tt)
    (he : ∀ (s : Shared) (H : Hp) (C : Addr) (cl : List (Str × Addr)) (fp : List Addr), PN (X.blk s H scope (compEnvC scope cl C X.env) fp) W0 elt tq) (hy : X.N[i]? = some y := by rfl) (hyl : X.env.scope.names.lookup y = some .local := by rfl)
    (hsw : swapsWith (.ListComp elt [⟨tg, it, ifs, 0⟩] scope pos) (some (.Name y py)) spos.line X.env = pure true := by exact sw_true rfl rfl rfl (by decide +kernel)) (hs : ∀ x, foldedSetIterable it X.env x = pure x := by intro _; rfl) :
    PSt X W (.Assign [.Name y py] (.ListComp elt [⟨tg, it, ifs, 0⟩] scope pos) spos) (fSet i (lft (gLc (own.map (·.2)) gi k tt tq))) := by
  refine ⟨_, ps_setLc (own := own) (g := tgt X.K k) (tt := cT X W0 tt) (te := cN X W0 tq) cz.calm cz.nd hy hyl hsw hi.can (blkOk_by ok) hg ht (fun s H C cl fp => (he s H C cl fp).can) hs, sp_set ?_⟩
  intro σ H en Fs Q okE q
  refine sp_lc (W := W) hk σ H en Q okE.ven ?_
  unfold lft at q
  cases e : gLc (own.map (·.2)) gi k tt tq en with
  | ok x => rw [e] at q; exact fun v H' G sm o fr => q v H' Fs G (.quiet okE sm fr) o
  | ex c => rw [e] at q; exact XQ.xm (W := W) okE q
  | no => rw [e] at q; exact q
theorem s_setLcM (i : Nat) {y : Str} {py spos : Pos} (cz : Cz X W) (hi : PMI X W tg it mi) (ok : blkC X.N X.env.scope scope own = true) (hk : ∀ x as, k x = some as → ∀ p ∈ as, p.1 ∈ own.map (·.2))
    (hg : ∀ (s : Shared) (H : Hp) (C : Addr) (cl : List (Str × Addr)) (fp : List Addr), PTg (X.blk s H scope (compEnvC scope cl C X.env) fp) tg k) (ht : ∀ (s : Shared) (H : Hp) (C : Addr) (cl : List (Str × Addr)) (fp : List Addr), PCs (X.blk s H scope (compEnvC scope cl C X.env) fp) W0 ifs tt)
    (he : ∀ (s : Shared) (H : Hp) (C : Addr) (cl : List (Str × Addr)) (fp : List Addr), PM (X.blk s H scope (compEnvC scope cl C X.env) fp) W0 elt te) (hy : X.N[i]? = some y := by rfl) (hyl : X.env.scope.names.lookup y = some .local := by rfl)
    (hsw : swapsWith (.ListComp elt [⟨tg, it, ifs, 0⟩] scope pos) (some (.Name y py)) spos.line X.env = pure true := by exact sw_true rfl rfl rfl (by decide +kernel)) (hs : ∀ x, foldedSetIterable it X.env x = pure x := by intro _; rfl) :
    PSt X W (.Assign [.Name y py] (.ListComp elt [⟨tg, it, ifs, 0⟩] scope pos) spos) (fSet i (mLc (own.map (·.2)) mi k tt te)) :=
  ⟨_, ps_setLc (own := own) (g := tgt X.K k) (tt := cT X W0 tt) (te := cM X W0 te) cz.calm cz.nd hy hyl hsw hi.can (blkOk_by ok) hg ht (fun s H C cl fp => (he s H C cl fp).can) hs, sp_set (sp_lcM hk)⟩
end
section
variable {X : Cx} {W : WX} {elt tg it tg1 it1 : Expr} {ifs ifs1 : List Expr} {scope : Scope} {pos : Pos} {gi gi1 : En → R (List T)} {k k1 : T → Option Ass} {tt tt1 : En → R Bool} {te : En → R T}
theorem s_setLc2 (own : List (Str × Nat)) (vs1 : List Nat) (i : Nat) {y : Str} {py spos : Pos} (cz : Cz X W) (hi : PIv X W tg it gi) (ok : blkC X.N X.env.scope scope own = true) (hv : ∀ i ∈ vs1, i ∈ own.map (·.2)) (hk : ∀ x as, k x = some as → ∀ p ∈ as, p.1 ∈ own.map (·.2)) (hk1 : ∀ x as, k1 x = some as → ∀ p ∈ as, p.1 ∈ vs1)
    (hg : ∀ (s : Shared) (H : Hp) (C : Addr) (cl : List (Str × Addr)) (fp : List Addr), PTg (X.blk s H scope (compEnvC scope cl C X.env) fp) tg k) (ht : ∀ (s : Shared) (H : Hp) (C : Addr) (cl : List (Str × Addr)) (fp : List Addr), PCs (X.blk s H scope (compEnvC scope cl C X.env) fp) W0 ifs tt)
    (hi1 : ∀ (s : Shared) (H : Hp) (C : Addr) (cl : List (Str × Addr)) (fp : List Addr), PIn (X.blk s H scope (compEnvC scope cl C X.env) fp) W0 tg1 it1 gi1)
    (hg1 : ∀ (s : Shared) (H : Hp) (C : Addr) (cl : List (Str × Addr)) (fp : List Addr), PTg (X.blk s H scope (compEnvC scope cl C X.env) fp) tg1 k1) (ht1 : ∀ (s : Shared) (H : Hp) (C : Addr) (cl : List (Str × Addr)) (fp : List Addr), PCs (X.blk s H scope (compEnvC scope cl C X.env) fp) W0 ifs1 tt1)
    (he : ∀ (s : Shared) (H : Hp) (C : Addr) (cl : List (Str × Addr)) (fp : List Addr), PN (X.blk s H scope (compEnvC scope cl C X.env) fp) W0 elt te) (hy : X.N[i]? = some y := by rfl) (hyl : X.env.scope.names.lookup y = some .local := by rfl)
    (hsw : swapsWith (.ListComp elt [⟨tg, it, ifs, 0⟩, ⟨tg1, it1, ifs1, 0⟩] scope pos) (some (.Name y py)) spos.line X.env = pure true := by exact sw_true rfl rfl rfl (by decide +kernel)) (hs : ∀ x, foldedSetIterable it X.env x = pure x := by intro _; rfl) (hs1 : ∀ env x, foldedSetIterable it1 env x = pure x := by intro _ _; rfl) :
    PSt X W (.Assign [.Name y py] (.ListComp elt [⟨tg, it, ifs, 0⟩, ⟨tg1, it1, ifs1, 0⟩] scope pos) spos) (fSet i (lft (gLc2 (own.map (·.2)) gi k tt gi1 vs1 k1 tt1 te))) := by
  refine ⟨_, ps_setLc2 (own := own) (vs1 := vs1) (g := tgt X.K k) (tt := cT X W0 tt) (te := cN X W0 te) (wi1 := cJ X W0 gi1) (g1 := tgt X.K k1) (tt1 := cT X W0 tt1) cz.calm cz.nd hy hyl hsw hi.can (blkOk_by ok) hv hg ht (fun s H C cl fp => (hi1 s H C cl fp).can) hg1 ht1 (fun s H C cl fp => (he s H C cl fp).can) hs hs1, sp_set ?_⟩
  intro σ H en Fs Q okE q
  refine sp_lc2 (W := W) hk hk1 σ H en Q okE.ven ?_
  unfold lft at q
  cases e : gLc2 (own.map (·.2)) gi k tt gi1 vs1 k1 tt1 te en with
  | ok x => rw [e] at q; exact fun v H' G sm o fr => q v H' Fs G (.quiet okE sm fr) o
  | ex c => rw [e] at q; exact XQ.xm (W := W) okE q
  | no => rw [e] at q; exact q
end
end Z
/-! Z: defs: what their bodies compute; a first argument that is changed. -/
namespace Z
open PySem PySem.Spec L2
open PyProof.Rows hiding St

/-! ### a def that changes its first argument's list -/
inductive RF where
  | ok (r x0 : T) | ex (c : Exc) (x0 : T) | no
/-- seen, away from some addresses -/
inductive Vwa (K : PySem.W.Frag) (H : Hp) (Z : List Addr) : List V → List T → Prop
  | nil : Vwa K H Z [] []
  | cons {v : V} {vs : List V} {x : T} {xs : List T} {G : List Addr} : Own K H v x G → (∀ a ∈ G, a ∉ Z) → Vwa K H Z vs xs → Vwa K H Z (v :: vs) (x :: xs)
def spM (K : PySem.W.Frag) (mg : Str → Option Value) (F : T → List T → RF) : Sp := fun vs H Q E => ∃ v0 us x0 G0 xs, vs = v0 :: us ∧ Own K H v0 x0 G0 ∧ G0.Nodup ∧ Vwa K H G0 us xs ∧ match F x0 xs with
  | .ok r x' => ∀ v H' G' G, Stp H (· ∈ G0) (· ∈ G0) H' (· ∈ G' ++ G) (· ∈ G' ++ G) → Own K H' v0 x' G' → Own K H' v r G → (G' ++ G).Nodup → Q v H'
  | .ex c x' => ∀ cls dx H' G', Stp H (· ∈ G0) (· ∈ G0) H' (· ∈ G') (· ∈ G') → Own K H' v0 x' G' → G'.Nodup → ExIs K mg H' c cls dx → E cls dx H'
  | .no => False
structure FnM (P : Program) (w : World) (K : PySem.W.Frag) (mg : Str → Option Value) (base : Heap) (x : Str) (k : Nat) (F : T → List T → RF) : Prop where
  ex : ∃ (f : Addr) (fd : FuncData) (ps : List Str), FnOk P w K mg base (L2.CX P w) k f fd ps (spM K mg F) ∧ mg x = some (.ref f) ∧ PySem.W.keepIn K (.ref f) = true ∧ Binds K fd ps []
/-! arguments: values of our own, or names -/
inductive Hd where
  | o (x : T) | n (i : Nat)
inductive HdsOk (K : PySem.W.Frag) (H : Hp) (σ : L2.St) : List Hd → List V → List Addr → Prop
  | nil : HdsOk K H σ [] [] []
  | o {v : V} {vs : List V} {x : T} {hs : List Hd} {F G : List Addr} : Own K H v x F → HdsOk K H σ hs vs G → HdsOk K H σ (.o x :: hs) (v :: vs) (F ++ G)
  | n {v : V} {vs : List V} {i : Nat} {hs : List Hd} {G : List Addr} : σ[i]? = some (some v) → HdsOk K H σ hs vs G → HdsOk K H σ (.n i :: hs) (v :: vs) G
theorem HdsOk.frame {K : PySem.W.Frag} {H H' : Hp} {σ : L2.St} (p : Pst H H') : ∀ {hs : List Hd} {vs : List V} {G : List Addr}, HdsOk K H σ hs vs G → (∀ a ∈ G, ∀ o, H a = some o → H' a = some o) → HdsOk K H' σ hs vs G
  | _, _, _, .nil, _ => .nil
  | _, _, _, .o r t, k => .o (r.frame p fun a m => k a (List.mem_append_left _ m)) (HdsOk.frame p t fun a m => k a (List.mem_append_right _ m))
  | _, _, _, .n e t, k => .n e (HdsOk.frame p t k)
theorem HdsOk.there {K : PySem.W.Frag} {H : Hp} {σ : L2.St} : ∀ {hs : List Hd} {vs : List V} {G : List Addr}, HdsOk K H σ hs vs G → ∀ a ∈ G, H a ≠ none
  | _, _, _, .nil, a, m => absurd m List.not_mem_nil
  | _, _, _, .o r t, a, m => (List.mem_append.mp m).elim (r.there a) (HdsOk.there t a)
  | _, _, _, .n e t, a, m => HdsOk.there t a m
section
variable (X : Cx) (W : WX)
def MH (H : Hp) (Fs : Ft) (σ : L2.St) (en : En) (Q : List V → Hp → Prop) : RM (List Hd) → Prop
  | .ok hs en' => ∀ vs H' Fs' G, Aft X.K H Fs σ en H' Fs' σ en' G → HdsOk X.K H' σ hs vs G → Q vs H'
  | .ex c en' => XM X W H Fs σ en c en'
  | .no => False
def PMH (es : List Expr) (m : En → RM (List Hd)) : Prop := ∃ t, PA X es t ∧ ∀ σ H en Fs Q, EOk X.K H σ en Fs → MH X W H Fs σ en Q (m en) → t σ H Q
end
section
variable {X : Cx} {W : WX} {a : Expr} {es : List Expr} {pos : Pos} {m : En → RM T} {ms : En → RM (List Hd)}
def hNil : En → RM (List Hd) := fun en => .ok [] en
def hO (m : En → RM T) (ms : En → RM (List Hd)) : En → RM (List Hd) := fun en => (m en).bind fun x en1 => (ms en1).bind fun xs en2 => .ok (.o x :: xs) en2
def hN (i : Nat) (ms : En → RM (List Hd)) : En → RM (List Hd) := fun en => if (at_ en i).isSome then (ms en).bind fun xs en2 => .ok (.n i :: xs) en2 else .no
theorem mh_nil : PMH X W [] hNil := ⟨_, pa_nil, fun σ H en Fs Q ok q => q [] H Fs [] (.refl ok) .nil⟩
theorem mh_o (ha : PM X W a m) (hr : PMH X W es ms) (hs : starEach (a :: es) X.env = (false, eval a X.env) :: starEach es X.env := by rfl) : PMH X W (a :: es) (hO m ms) := by
  obtain ⟨t, p, s⟩ := ha
  obtain ⟨t2, p2, s2⟩ := hr
  refine ⟨_, pa_cons p p2 hs, fun σ H en Fs Q ok q => s σ H en Fs _ ok ?_⟩
  unfold hO at q
  cases e : m en with
  | ok x en1 =>
    rw [e] at q
    simp only [RM.bind_ok] at q
    intro v H' Fs' G a o
    refine s2 σ H' en1 Fs' _ a.ok ?_
    cases e2 : ms en1 with
    | ok xs en2 =>
      rw [e2] at q
      exact fun vs H2 Fs2 G2 a2 o2 => q (v :: vs) H2 Fs2 (G ++ G2) (a.held o.there a2) (.o (a2.stp.frame (fun _ z => z.a) o a.dis).1 o2)
    | ex c en2 => rw [e2] at q; exact XM.after (W := W) a q
    | no => rw [e2] at q; exact q
  | ex c en1 => rw [e] at q; exact q
  | no => rw [e] at q; exact q
theorem mh_n (i : Nat) {x : Str} {p : Pos} (hr : PMH X W es ms) (hN : X.N[i]? = some x := by rfl) (hv : Vis X.env.scope x := by first | exact Or.inl rfl | exact Or.inr (Or.inl rfl) | exact Or.inr (Or.inr rfl)) (hd : (x == ("__debug__" : Str)) = false := by decide) (hcd : (x == ("__classdict__" : Str)) = false := by decide)
    (hs : starEach (.Name x p :: es) X.env = (false, eval (.Name x p) X.env) :: starEach es X.env := by rfl) : PMH X W (.Name x p :: es) (Z.hN i ms) := by
  obtain ⟨t2, p2, s2⟩ := hr
  refine ⟨_, pa_cons (pe_var hN hv hd hcd) p2 hs, fun σ H en Fs Q ok q => ?_⟩
  unfold Z.hN at q
  split at q
  · rename_i h
    cases e : at_ en i with
    | none => rw [e] at h; cases h
    | some x =>
      obtain ⟨v, h1, _⟩ := ok.has i x e
      refine ⟨v, h1, s2 σ H en Fs _ ok ?_⟩
      cases e2 : ms en with
      | ok xs en2 =>
        rw [e2] at q
        exact fun vs H2 Fs2 G2 a2 o2 => q (v :: vs) H2 Fs2 G2 a2 (.n h1 o2)
      | ex c en2 => rw [e2] at q; exact q
      | no => rw [e2] at q; exact q
  · exact q.elim
/-- what the arguments are, beside the name i -/
def hds (en : En) (i : Nat) : List Hd → Option (List T)
  | [] => some []
  | .o x :: r => (hds en i r).map (x :: ·)
  | .n j :: r => if j = i then none else (at_ en j).bind fun x => (hds en i r).map (x :: ·)
theorem HdsOk.vwa {K : PySem.W.Frag} {H : Hp} {σ : L2.St} {en : En} {Fs : Ft} {i : Nat} (ok : EOk K H σ en Fs) (oi : ownAt en i ≠ none) : ∀ {hs : List Hd} {vs : List V} {G : List Addr} {xs : List T}, HdsOk K H σ hs vs G → (∀ a ∈ G, ¬ InF Fs a) → hds en i hs = some xs → Vwa K H (Fs i) vs xs
  | _, _, _, _, .nil, _, h => by cases h; exact .nil
  | _, _, _, _, .o r t, d, h => by
    obtain ⟨ys, h1, rfl⟩ := Option.map_eq_some_iff.mp h
    exact .cons r (fun a m z => d a (List.mem_append_left _ m) ⟨i, z⟩) (HdsOk.vwa ok oi t (fun a m => d a (List.mem_append_right _ m)) h1)
  | _, _, _, _, .n (i := j) e t, d, h => by
    unfold hds at h
    split at h
    · cases h
    · rename_i hj
      obtain ⟨x, h0, h⟩ := Option.bind_eq_some_iff.mp h
      obtain ⟨ys, h1, rfl⟩ := Option.map_eq_some_iff.mp h
      obtain ⟨v, h2, h3⟩ := ok.has j x h0
      rw [e] at h2; cases h2
      exact .cons h3 (fun a m z => ok.dis i j a (Ne.symm hj) oi z m) (HdsOk.vwa ok oi t d h1)
/-- what one name holds was changed -/
theorem Aft.slot {K : PySem.W.Frag} {H0 H H' : Hp} {Fs0 Fs : Ft} {σ0 σ : L2.St} {en0 en : En} {G G' F' : List Addr} {i : Nat} {x x' : T} {v : V} (A : Aft K H0 Fs0 σ0 en0 H Fs σ en G) (e : ownAt en i = some x) (hσ : σ[i]? = some (some v)) (s : Stp H (· ∈ Fs i) (· ∈ Fs i) H' (· ∈ F' ++ G') (· ∈ F' ++ G')) (o : Own K H' v x' F') (nd : (F' ++ G').Nodup) :
    Aft K H0 Fs0 σ0 en0 H' (updF Fs i F') σ (setO en i x') G' := by
  have oi : ownAt en i ≠ none := by rw [e]; exact fun z => by cases z
  have own : ∀ j, ownAt (setO en i x') j ≠ none → ownAt en j ≠ none := fun j h => by
    by_cases hj : j = i
    · rw [hj]; exact oi
    · rwa [setO_own_ne hj] at h
  have nj : ∀ {j c}, j ≠ i → c ∈ F' ++ G' → c ∉ Fs j := fun {j c} hj m z => (s.subO c m).elim (fun y => A.ok.dis i j c (Ne.symm hj) oi y z) fun y => by
    obtain ⟨vs, hv⟩ := A.ok.there ⟨j, z⟩
    rw [y] at hv; cases hv
  have F'l : ∀ c ∈ F', c ∈ F' ++ G' := fun c m => List.mem_append_left _ m
  refine ⟨⟨by rw [setO_len]; exact A.ok.len, fun j y h => ?_, fun j h => ?_, fun j l c ne h m => ?_, fun j h => ?_⟩, (List.nodup_append.mp nd).2.1, fun c m z => ?_, ⟨A.stp.pst.trans s.pst, fun c ob e n => ?_, fun c e => A.stp.dom c (s.dom c e), fun c m => ?_, fun c m => ?_⟩, fun j y h => ?_⟩
  · by_cases hj : j = i
    · subst hj
      rw [own_at (setO_own e)] at h; cases h
      exact ⟨_, hσ, by rw [updF_same]; exact o⟩
    · rw [setO_at_ne hj] at h
      obtain ⟨w, h1, h2⟩ := A.ok.has j y h
      have h3 : Own K H' w y (Fs j) := h2.frame s.pst fun c m ob e => s.keep c ob e fun z => A.ok.dis i j c (Ne.symm hj) oi z m
      exact ⟨w, h1, by rw [updF_ne hj]; exact h3⟩
  · by_cases hj : j = i
    · rw [hj, updF_same]; exact (List.nodup_append.mp nd).1
    · rw [updF_ne hj]; exact A.ok.nod j (own j h)
  · by_cases hj : j = i
    · rw [hj, updF_same] at m
      have hl : l ≠ i := by rw [← hj]; exact Ne.symm ne
      rw [updF_ne hl]
      exact nj hl (F'l c m)
    · rw [updF_ne hj] at m
      by_cases hl : l = i
      · rw [hl, updF_same]
        exact fun z => nj hj (F'l c z) m
      · rw [updF_ne hl]; exact A.ok.dis j l c ne (own j h) m
  · by_cases hj : j = i
    · rw [hj, own_at (setO_own e)] at h; cases h
    · rw [updF_ne hj]; rw [setO_at_ne hj] at h; exact A.ok.emp j h
  · obtain ⟨j, z⟩ := z
    by_cases hj : j = i
    · rw [hj, updF_same] at z; exact (List.nodup_append.mp nd).2.2 c z c m rfl
    · rw [updF_ne hj] at z; exact nj hj (List.mem_append_right _ m) z
  · refine s.keep c ob (A.stp.keep c ob e n) fun z => ?_
    exact (A.stp.subO c (.inl ⟨i, oi, z⟩)).elim n fun y => by rw [y] at e; cases e
  · have back : c ∈ F' ++ G' → InO en0 Fs0 c ∨ H0 c = none := fun m => (s.subO c m).elim (fun y => A.stp.subO c (.inl ⟨i, oi, y⟩)) fun y => .inr (A.stp.dom c y)
    rcases m with ⟨j, h, m⟩ | m
    · by_cases hj : j = i
      · rw [hj, updF_same] at m; exact back (F'l c m)
      · rw [updF_ne hj] at m; exact A.stp.subO c (.inl ⟨j, own j h, m⟩)
    · exact back (List.mem_append_right _ m)
  · have back : c ∈ F' ++ G' → InF Fs0 c ∨ H0 c = none := fun m => (s.subA c m).elim (fun y => A.stp.subA c (.inl ⟨i, y⟩)) fun y => .inr (A.stp.dom c y)
    rcases m with ⟨j, m⟩ | m
    · by_cases hj : j = i
      · rw [hj, updF_same] at m; exact back (F'l c m)
      · rw [updF_ne hj] at m; exact A.stp.subA c (.inl ⟨j, m⟩)
    · exact back (List.mem_append_right _ m)
  · by_cases hj : j = i
    · subst hj
      unfold setO at h
      cases es : en[j]? with
      | none => unfold ownAt at e; rw [es] at e; cases e
      | some s =>
        rw [es] at h
        cases s with
        | b x0 => exact A.bk j x0 es
        | _ => simp only [List.getElem?_set_self (own_lt e)] at h; cases h
    · rw [setO_ne hj] at h; exact A.bk j y h
def mCallM (i : Nat) (F : T → List T → RF) (ms : En → RM (List Hd)) : En → RM T := fun en => match ownAt en i with
  | none => .no
  | some _ => (ms en).bind fun hs en1 => match ownAt en1 i with
    | none => .no
    | some x0 => match hds en1 i hs with
      | none => .no
      | some xs => match F x0 xs with
        | .ok r x' => .ok r (setO en1 i x')
        | .ex c x' => .ex c (setO en1 i x')
        | .no => .no
theorem m_callM (i : Nat) {x y : Str} {k : Nat} {F : T → List T → RF} {p py : Pos} (f : FnM X.prog X.w X.K X.mg X.base x k F) (tk : Takes X W) (hr : Room k X.A) (ha : PMH X W es ms) (hg : Gl X x := by rfl) (hN : X.N[i]? = some y := by rfl) (hv : Vis X.env.scope y := by first | exact Or.inl rfl | exact Or.inr (Or.inl rfl) | exact Or.inr (Or.inr rfl))
    (hdb : (x == ("__debug__" : Str)) = false := by decide) (hd : (y == ("__debug__" : Str)) = false := by decide) (hcd : (y == ("__classdict__" : Str)) = false := by decide)
    (he : starEach (.Name y py :: es) X.env = (false, eval (.Name y py) X.env) :: starEach es X.env := by rfl) (hpl : (backTo pos (starEach es X.env)).any (·.1) = false := by rfl) : PM X W (.Call (.Name x p) (.Name y py :: es) [] pos) (mCallM i F ms) := by
  obtain ⟨f, fd, ps, okF, hm, hk, hb⟩ := f.ex
  obtain ⟨t, pa, s⟩ := ha
  refine ⟨_, pe_callS (E := WE W) okF hr hg hm hk hb (fun σ => passAt tk σ) (pa_cons (pe_var hN hv hd hcd) pa he) hdb he hpl, fun σ H en Fs Q ok q => ?_⟩
  unfold mCallM at q
  cases e0 : ownAt en i with
  | none => rw [e0] at q; exact q.elim
  | some x00 =>
    rw [e0] at q
    obtain ⟨v0, h0, _⟩ := ok.has i _ (own_at e0)
    refine ⟨v0, h0, s σ H en Fs _ ok ?_⟩
    simp only at q
    cases e : ms en with
    | ok hs en1 =>
      rw [e] at q
      simp only [RM.bind_ok] at q
      intro vs H' Fs' G A o
      cases e1 : ownAt en1 i with
      | none => rw [e1] at q; exact q.elim
      | some x0 =>
        rw [e1] at q
        simp only at q
        have oi : ownAt en1 i ≠ none := by rw [e1]; exact fun z => by cases z
        obtain ⟨v1, h1, o1⟩ := A.ok.has i _ (own_at e1)
        rw [h0] at h1; cases h1
        cases e2 : hds en1 i hs with
        | none => rw [e2] at q; exact q.elim
        | some xs =>
          rw [e2] at q
          simp only at q
          refine ⟨v0, vs, x0, Fs' i, xs, rfl, o1, A.ok.nod i oi, o.vwa A.ok oi A.dis e2, ?_⟩
          cases ef : F x0 xs with
          | ok r x' => rw [ef] at q; exact fun v H2 G' G2 st o2 o3 nd => q v H2 _ G2 (A.slot e1 h0 st o2 nd) o3
          | ex c x' =>
            rw [ef] at q
            exact fun cls dx H2 G' st o2 nd i => q cls dx H2 _ σ (A.slot (G' := []) e1 h0 (by rw [List.append_nil]; exact st) o2 (by rw [List.append_nil]; exact nd)) i
          | no => rw [ef] at q; exact q
    | ex c en1 => rw [e] at q; exact q
    | no => rw [e] at q; exact q
end
/-! ### a def's frame at its entry -/
def startE (n : Nat) (xs : List T) : En := xs.map mkS ++ List.replicate (n - xs.length) .n
theorem startE_at {n : Nat} {xs : List T} {i : Nat} {x : T} (h : at_ (startE n xs) i = some x) : xs[i]? = some x := by
  unfold at_ startE at h
  by_cases hl : i < xs.length
  · rw [List.getElem?_append_left (by rw [List.length_map]; exact hl), List.getElem?_map] at h
    cases e : xs[i]? with
    | none => rw [e] at h; cases h
    | some y => rw [e] at h; rw [← h]; exact (mkS_get y).symm
  · rw [List.getElem?_append_right (by rw [List.length_map]; omega), List.getElem?_replicate] at h
    split at h
    · rename_i h2; split at h2 <;> cases h2; cases h
    · cases h
theorem startE_own {n : Nat} {xs : List T} {i : Nat} (h : ownAt (startE n xs) i ≠ none) : ∃ d, xs[i]? = some (.d d) := by
  unfold ownAt startE at h
  by_cases hl : i < xs.length
  · rw [List.getElem?_append_left (by rw [List.length_map]; exact hl), List.getElem?_map] at h
    cases e : xs[i]? with
    | none => rw [e] at h; exact absurd rfl h
    | some y =>
      rw [e] at h
      cases y with
      | d d => exact ⟨d, rfl⟩
      | l ys => exact absurd rfl h
  · rw [List.getElem?_append_right (by rw [List.length_map]; omega), List.getElem?_replicate] at h
    split at h <;> rename_i h2
    · split at h2 <;> cases h2
    · split at h2 <;> cases h2
    · exact absurd rfl h
theorem Vws.get {K : PySem.W.Frag} {H : Hp} : ∀ {vs : List V} {xs : List T} {i : Nat} {x : T}, Vws K H vs xs → xs[i]? = some x → ∃ v G, vs[i]? = some v ∧ Own K H v x G
  | _, _, _, _, .nil, h => by simp at h
  | _, _, 0, _, .cons o t, h => by simp at h; subst h; exact ⟨_, _, rfl, o⟩
  | _, _, i + 1, x, .cons _ t, h => by
    obtain ⟨v, G, h1, h2⟩ := Vws.get (i := i) (x := x) t (by simpa using h)
    exact ⟨v, G, by simpa using h1, h2⟩
/-- the footprints of what is seen -/
theorem Vws.fts {K : PySem.W.Frag} {H : Hp} {vs : List V} {xs : List T} (w : Vws K H vs xs) : ∃ Fs : Ft, (∀ i x, xs[i]? = some x → ∃ v, vs[i]? = some v ∧ Own K H v x (Fs i)) ∧ ∀ i, xs[i]? = none → Fs i = [] := by
  induction w with
  | nil => exact ⟨fun _ => [], fun i x h => by simp at h, fun _ _ => rfl⟩
  | @cons v vs x xs G o t ih =>
    obtain ⟨Fs, h1, h2⟩ := ih
    refine ⟨fun i => match i with
      | 0 => G
      | i + 1 => Fs i, fun i y h => ?_, fun i h => ?_⟩
    · cases i with
      | zero => simp at h; subst h; exact ⟨v, rfl, o⟩
      | succ i => obtain ⟨w, a, b⟩ := h1 i y (by simpa using h); exact ⟨w, by simpa using a, b⟩
    · cases i with
      | zero => simp at h
      | succ i => exact h2 i (by simpa using h)
theorem start_get {N : List Str} {vs : List V} {i : Nat} {v : V} (h : vs[i]? = some v) : (L2.start N vs)[i]? = some (some v) := by
  unfold L2.start
  obtain ⟨hl, _⟩ := List.getElem?_eq_some_iff.mp h
  rw [List.getElem?_append_left (by rw [List.length_map]; exact hl), List.getElem?_map, h]
  rfl
theorem start_ok {K : PySem.W.Frag} {H : Hp} {N : List Str} {vs : List V} {xs : List T} (w : Vws K H vs xs) : ∃ Fs, EOk K H (L2.start N vs) (startE N.length xs) Fs ∧ (∀ c, ¬ InO (startE N.length xs) Fs c) := by
  obtain ⟨Fs, h1, h2⟩ := w.fts
  have dn : ∀ i, ownAt (startE N.length xs) i ≠ none → Fs i = [] := fun i h => by
    obtain ⟨d, e⟩ := startE_own h
    obtain ⟨v, _, o⟩ := h1 i _ e
    exact o.dnil
  refine ⟨Fs, ⟨?_, fun i x h => ?_, fun i h => by rw [dn i h]; exact List.nodup_nil, fun i j a _ h m => (by rw [dn i h] at m; cases m), fun i h => ?_⟩, fun c ⟨i, h, m⟩ => (by rw [dn i h] at m; cases m)⟩
  · unfold startE L2.start
    rw [List.length_append, List.length_append, List.length_map, List.length_map, List.length_replicate, List.length_replicate, w.length]
    exact Nat.le_refl _
  · obtain ⟨v, a, b⟩ := h1 i x (startE_at h)
    exact ⟨v, start_get a, b⟩
  · cases e : xs[i]? with
    | none => exact h2 i e
    | some x =>
      obtain ⟨hl, _⟩ := List.getElem?_eq_some_iff.mp e
      unfold at_ startE at h
      rw [List.getElem?_append_left (by rw [List.length_map]; exact hl), List.getElem?_map, e] at h
      rw [show (Option.map mkS (some x)) = some (mkS x) from rfl] at h
      simp only [mkS_get] at h
      cases h
def runP (n k : Nat) (f : En → SR) (xs : List T) : R T := if xs.length = k then match f (startE n xs) with
    | .ret x _ => .ok x
    | .nx _ => .ok (.d .non)
    | .ex c _ => .ex c
    | _ => .no
  else .no
section
variable {P : Program} {w : World} {K : PySem.W.Frag} {mg : Str → Option Value} {base : Heap}
/-- THE RULE for a def that changes nothing -/
theorem fnPk {x : String} {st : Stmt} {f : Addr} {fd : FuncData} {N ps : List Str} {k : Nat} {body : En → SR} (F : Fun K x x st f fd) (S : FnScope N ps (defScope st))
    (hbody : ∀ (cdv : Value) (A : Around) (outer : List Env) (s : Shared) (H : Hp) (E : XK), Room k (A.deeper (envOfC x (defScope st) s.heap.objs.size f cdv)) → Cz (cxOf (L2.CX P w) P w K mg base N x (defScope st) f cdv A outer s H E) (fun cls d _ H => E cls d H) →
      PBl (cxOf (L2.CX P w) P w K mg base N x (defScope st) f cdv A outer s H E) (fun cls d _ H => E cls d H) (defBody st) body) : FnOk P w K mg base (L2.CX P w) (k + 1) f fd ps (spP K mg (runP N.length ps.length body)) := by
  refine F.okX S (fun vs H Q E h => ?_) (fun cdv A outer s H vs Q E hr h => ?_)
  · obtain ⟨xs, w, h⟩ := h
    unfold runP at h
    by_cases hl : xs.length = ps.length
    · rw [w.length]; exact hl
    · rw [if_neg hl] at h; exact h.elim
  · obtain ⟨t, p, sp⟩ := hbody cdv A outer s H E hr ⟨takes_of rfl rfl rfl rfl, passes_of rfl, rfl, S.nd⟩
    refine ⟨t, p, ?_⟩
    obtain ⟨xs, w, h⟩ := h
    obtain ⟨Fs, ok, no⟩ := start_ok (N := N) w
    refine sp _ H _ Fs _ ok ?_
    unfold runP at h
    by_cases hl : xs.length = ps.length
    · rw [if_pos hl] at h
      have same : ∀ {H' : Hp} {Fs' : Ft} {σ' : L2.St} {en' : En} {G : List Addr}, Aft K H Fs (L2.start N vs) (startE N.length xs) H' Fs' σ' en' G → Same H H' ∧ Fresh H G := fun {H' Fs' σ' en' G} a =>
        ⟨fun c o e => a.stp.keep c o e (no c), a.nod, fun c m => (a.stp.subO c (.inr m)).elim (fun z => absurd z (no c)) id⟩
      cases e : body (startE N.length xs) with
      | nx en' => rw [e] at h; exact fun H' Fs' σ' a => h .non H' [] (same a).1 (.d .non) Fresh.nil
      | ret x en' => rw [e] at h; exact fun v H' Fs' σ' G a o => h v H' G (same a).1 o (same a).2
      | ex c en' => rw [e] at h; exact fun cls dx H' Fs' σ' a i => h cls dx H' (same a).1 i
      | brk en' => rw [e] at h; exact h.elim
      | ct en' => rw [e] at h; exact h.elim
      | no => rw [e] at h; exact h.elim
    · rw [if_neg hl] at h; exact h.elim
theorem fnP {x : String} {st : Stmt} {f : Addr} {fd : FuncData} {N ps : List Str} {k : Nat} {body : En → SR} (F : Fun K x x st f fd) (S : FnScope N ps (defScope st)) (hm : mg x = some (.ref f)) (hb : Binds K fd ps [])
    (hbody : ∀ (cdv : Value) (A : Around) (outer : List Env) (s : Shared) (H : Hp) (E : XK), Room k (A.deeper (envOfC x (defScope st) s.heap.objs.size f cdv)) → Cz (cxOf (L2.CX P w) P w K mg base N x (defScope st) f cdv A outer s H E) (fun cls d _ H => E cls d H) →
      PBl (cxOf (L2.CX P w) P w K mg base N x (defScope st) f cdv A outer s H E) (fun cls d _ H => E cls d H) (defBody st) body) : FnP P w K mg base x (k + 1) (runP N.length ps.length body) := ⟨f, fd, ps, fnPk F S hbody, hm, F.kp, hb⟩
end
end Z
/-! Z: a def whose first argument's list is changed; the law's own def. -/
namespace Z
open PySem PySem.Spec L2
open PyProof.Rows hiding St

theorem Vwa.vws {K : PySem.W.Frag} {H : Hp} {G : List Addr} : ∀ {vs : List V} {xs : List T}, Vwa K H G vs xs → Vws K H vs xs
  | _, _, .nil => .nil
  | _, _, .cons o _ t => .cons o (Vwa.vws t)
theorem Vwa.fts {K : PySem.W.Frag} {H : Hp} {Z : List Addr} {vs : List V} {xs : List T} (w : Vwa K H Z vs xs) : ∃ Fs : Ft, (∀ i x, xs[i]? = some x → ∃ v, vs[i]? = some v ∧ Own K H v x (Fs i)) ∧ (∀ i, xs[i]? = none → Fs i = []) ∧ ∀ i, ∀ a ∈ Fs i, a ∉ Z := by
  induction w with
  | nil => exact ⟨fun _ => [], fun i x h => by simp at h, fun _ _ => rfl, fun _ _ m => absurd m List.not_mem_nil⟩
  | @cons v vs x xs G o d t ih =>
    obtain ⟨Fs, h1, h2, h3⟩ := ih
    refine ⟨fun i => match i with
      | 0 => G
      | i + 1 => Fs i, fun i y h => ?_, fun i h => ?_, fun i => ?_⟩
    · cases i with
      | zero => simp at h; subst h; exact ⟨v, rfl, o⟩
      | succ i => obtain ⟨w, a, b⟩ := h1 i y (by simpa using h); exact ⟨w, by simpa using a, b⟩
    · cases i with
      | zero => simp at h
      | succ i => exact h2 i (by simpa using h)
    · cases i with
      | zero => exact d
      | succ i => exact h3 i
def startM (n : Nat) (x0 : T) (xs : List T) : En := .b x0 :: startE (n - 1) xs
theorem startM_at {n : Nat} {x0 : T} {xs : List T} {i : Nat} : at_ (startM n x0 xs) (i + 1) = at_ (startE (n - 1) xs) i := rfl
theorem startM_own {n : Nat} {x0 : T} {xs : List T} {i : Nat} : ownAt (startM n x0 xs) (i + 1) = ownAt (startE (n - 1) xs) i := rfl
theorem startM_ok {K : PySem.W.Frag} {H : Hp} {N : List Str} {v0 : V} {us : List V} {x0 : T} {xs : List T} {G0 : List Addr} (o : Own K H v0 x0 G0) (nd : G0.Nodup) (w : Vwa K H G0 us xs) : ∃ Fs, EOk K H (L2.start N (v0 :: us)) (startM N.length x0 xs) Fs ∧ Fs 0 = G0 ∧ ∀ c, InO (startM N.length x0 xs) Fs c → c ∈ G0 := by
  obtain ⟨Fs, h1, h2, h3⟩ := w.fts
  have hs : L2.start N (v0 :: us) = some v0 :: (us.map some ++ List.replicate (N.length - 1 - us.length) none) := by
    unfold L2.start
    rw [List.map_cons, List.length_cons, List.cons_append, Nat.sub_sub, Nat.add_comm 1]
  have dn : ∀ i, ownAt (startE (N.length - 1) xs) i ≠ none → Fs i = [] := fun i h => by
    obtain ⟨d, e⟩ := startE_own h
    obtain ⟨v, _, o⟩ := h1 i _ e
    exact o.dnil
  refine ⟨fun i => match i with
      | 0 => G0
      | i + 1 => Fs i, ⟨?_, fun i x h => ?_, fun i h => ?_, fun i j c ne h m => ?_, fun i h => ?_⟩, rfl, fun c z => ?_⟩
  · rw [hs]
    unfold startM startE
    rw [List.length_cons, List.length_cons, List.length_append, List.length_append, List.length_map, List.length_map, List.length_replicate, List.length_replicate, w.vws.length]
    exact Nat.le_refl _
  · cases i with
    | zero => cases h; exact ⟨v0, by rw [hs]; rfl, o⟩
    | succ i =>
      obtain ⟨v, a, b⟩ := h1 i x (startE_at h)
      refine ⟨v, ?_, b⟩
      obtain ⟨hl, _⟩ := List.getElem?_eq_some_iff.mp a
      rw [hs, List.getElem?_cons_succ, List.getElem?_append_left (by rw [List.length_map]; exact hl), List.getElem?_map, a]
      rfl
  · cases i with
    | zero => exact nd
    | succ i => show (Fs i).Nodup; rw [dn i h]; exact List.nodup_nil
  · cases i with
    | zero =>
      cases j with
      | zero => exact absurd rfl ne
      | succ j => exact fun z => h3 j c z m
    | succ i =>
      have : c ∈ Fs i := m
      rw [dn i h] at this; cases this
  · cases i with
    | zero => cases h
    | succ i =>
      show Fs i = []
      cases e : xs[i]? with
      | none => exact h2 i e
      | some x =>
        obtain ⟨hl, _⟩ := List.getElem?_eq_some_iff.mp e
        rw [startM_at] at h
        unfold at_ startE at h
        rw [List.getElem?_append_left (by rw [List.length_map]; exact hl), List.getElem?_map, e] at h
        rw [show (Option.map mkS (some x)) = some (mkS x) from rfl] at h
        simp only [mkS_get] at h
        cases h
  · obtain ⟨i, h, m⟩ := z
    cases i with
    | zero => exact m
    | succ i =>
      have : c ∈ Fs i := m
      rw [dn i h] at this; cases this
def back0 (en : En) : Option T := match (en[(0 : Nat)]? : Option Sl) with
  | some (.b x) => some x
  | _ => none
def runM (n k : Nat) (f : En → SR) (x0 : T) (xs : List T) : RF := if xs.length + 1 = k then match f (startM n x0 xs) with
    | .ret r en' => match back0 en' with
      | some x' => .ok r x'
      | none => .no
    | .nx en' => match back0 en' with
      | some x' => .ok (.d .non) x'
      | none => .no
    | .ex c en' => match back0 en' with
      | some x' => .ex c x'
      | none => .no
    | _ => .no
  else .no
section
variable {P : Program} {w : World} {K : PySem.W.Frag} {mg : Str → Option Value} {base : Heap}
/-- THE RULE for a def that changes its first argument -/
theorem fnM {x : String} {st : Stmt} {f : Addr} {fd : FuncData} {N ps : List Str} {k : Nat} {body : En → SR} (F : Fun K x x st f fd) (S : FnScope N ps (defScope st)) (hm : mg x = some (.ref f)) (hb : Binds K fd ps [])
    (hbody : ∀ (cdv : Value) (A : Around) (outer : List Env) (s : Shared) (H : Hp) (E : XK), Room k (A.deeper (envOfC x (defScope st) s.heap.objs.size f cdv)) → Cz (cxOf (L2.CX P w) P w K mg base N x (defScope st) f cdv A outer s H E) (fun cls d _ H => E cls d H) →
      PBl (cxOf (L2.CX P w) P w K mg base N x (defScope st) f cdv A outer s H E) (fun cls d _ H => E cls d H) (defBody st) body) : FnM P w K mg base x (k + 1) (runM N.length ps.length body) := by
  refine ⟨f, fd, ps, F.okX S (fun vs H Q E h => ?_) (fun cdv A outer s H vs Q E hr h => ?_), hm, F.kp, hb⟩
  · obtain ⟨v0, us, x0, G0, xs, rfl, o, nd, w, h⟩ := h
    unfold runM at h
    by_cases hl : xs.length + 1 = ps.length
    · rw [List.length_cons, w.vws.length]; exact hl
    · rw [if_neg hl] at h; exact h.elim
  · obtain ⟨t, p, sp⟩ := hbody cdv A outer s H E hr ⟨takes_of rfl rfl rfl rfl, passes_of rfl, rfl, S.nd⟩
    refine ⟨t, p, ?_⟩
    obtain ⟨v0, us, x0, G0, xs, rfl, o, nd, w, h⟩ := h
    obtain ⟨Fs, ok, e0, no⟩ := startM_ok (N := N) o nd w
    refine sp _ H _ Fs _ ok ?_
    unfold runM at h
    by_cases hl : xs.length + 1 = ps.length
    · rw [if_pos hl] at h
      have zero : (L2.start N (v0 :: us))[0]? = some (some v0) := start_get rfl
      have fin : ∀ {H' : Hp} {Fs' : Ft} {σ' : L2.St} {en' : En} {G : List Addr} {x' : T}, Aft K H Fs (L2.start N (v0 :: us)) (startM N.length x0 xs) H' Fs' σ' en' G → back0 en' = some x' → Own K H' v0 x' (Fs' 0) ∧ (Fs' 0 ++ G).Nodup ∧ Stp H (· ∈ G0) (· ∈ G0) H' (· ∈ Fs' 0 ++ G) (· ∈ Fs' 0 ++ G) := fun {H' Fs' σ' en' G x'} a b => by
        have e : en'[(0 : Nat)]? = some (Sl.b x') := by
          unfold back0 at b
          cases e : en'[(0 : Nat)]? with
          | none => rw [e] at b; cases b
          | some y => rw [e] at b; cases y <;> cases b; rfl
        have oe : ownAt en' 0 = some x' := by unfold ownAt; rw [e]
        have on : ownAt en' 0 ≠ none := by rw [oe]; exact fun z => by cases z
        obtain ⟨v, h1, h2⟩ := a.ok.has 0 x' (own_at oe)
        rw [(a.bk 0 x' e).2, zero] at h1
        cases h1
        refine ⟨h2, List.nodup_append.mpr ⟨a.ok.nod 0 on, a.nod, fun c hc d hd z => a.dis d hd ⟨0, z ▸ hc⟩⟩, a.stp.pst, fun c ob e n => a.stp.keep c ob e fun z => n (no c z), a.stp.dom, fun c m => ?_, fun c m => ?_⟩
        · exact (a.stp.subO c ((List.mem_append.mp m).imp (fun z => ⟨0, on, z⟩) id)).imp (no c) id
        · exact (a.stp.subO c ((List.mem_append.mp m).imp (fun z => ⟨0, on, z⟩) id)).imp (no c) id
      cases e : body (startM N.length x0 xs) with
      | nx en' =>
        rw [e] at h
        simp only at h
        cases eb : back0 en' with
        | none => rw [eb] at h; exact h.elim
        | some x' => rw [eb] at h; exact fun H' Fs' σ' a => let ⟨h1, h2, h3⟩ := fin a eb; h .non H' (Fs' 0) [] h3 h1 (.d .non) h2
      | ret x en' =>
        rw [e] at h
        simp only at h
        cases eb : back0 en' with
        | none => rw [eb] at h; exact h.elim
        | some x' => rw [eb] at h; exact fun v H' Fs' σ' G a o => let ⟨h1, h2, h3⟩ := fin a eb; h v H' (Fs' 0) G h3 h1 o h2
      | ex c en' =>
        rw [e] at h
        simp only at h
        cases eb : back0 en' with
        | none => rw [eb] at h; exact h.elim
        | some x' => rw [eb] at h; exact fun cls dx H' Fs' σ' a i => let ⟨h1, h2, h3⟩ := fin a eb; h cls dx H' (Fs' 0) (by rw [List.append_nil] at h3; exact h3) h1 (by rw [List.append_nil] at h2; exact h2) i
      | brk en' => rw [e] at h; exact h.elim
      | ct en' => rw [e] at h; exact h.elim
      | no => rw [e] at h; exact h.elim
    · rw [if_neg hl] at h; exact h.elim
/-- the script, as the law's def gets it -/
theorem script_ro {H : Hp} {a : Addr} {ns : List Int} (h : Only H) (s : SqL K H a (ns.map V.int)) : RepD K H (.ref a) (.rol (ns.map D.int)) := by
  refine .rol (fun H' p => ?_) (ints_rep ns)
  rcases s with (s | ⟨o, s⟩) | s
  · rcases h a with z | ⟨o, xs, z⟩ <;> (rw [s] at z; cases z)
  · exact .inl (.inr ⟨o, p.2 _ _ _ s⟩)
  · exact .inr s
where
  ints_rep : ∀ ns : List Int, RepDs K H (ns.map V.int) (ns.map D.int)
    | [] => .nil
    | n :: r => .cons (.int n) (ints_rep r)
/-- the law's def hands back True -/
theorem law_sp {F : List T → R T} {H : Hp} {a : Addr} {ns : List Int} (h : Only H) (s : SqL K H a (ns.map V.int)) (e : F [.d (.rol (ns.map D.int))] = .ok (.d (.bl true))) : spP K mg F [.ref a] H (fun v _ => v = .bl true) fun _ _ _ => False := by
  refine ⟨[.d (.rol (ns.map D.int))], .cons (.d (script_ro h s)) .nil, ?_⟩
  rw [e]
  intro v H' G _ o _
  have r := o.rep
  cases r
  rfl
end
end Z
/-! Z: short names for what is computed; operations in place; any; recursion. -/
namespace Z
open PySem PySem.Spec L2
open PyProof.Rows hiding St

def vN (i : Nat) : En → R T := fun en => R.of (at_ en i)
def kI (i : Int) : En → R T := fun _ => .ok (.d (.int i))
def kB (b : Bool) : En → R T := fun _ => .ok (.d (.bl b))
def kS (s : Str) : En → R T := fun _ => .ok (.d (.str s))
def kD' (d : D) : En → R T := fun _ => .ok (.d d)
def gPur (g : En → R T) : En → R T := fun en => (g en).pur
def fAddA : T → T → Option T
  | .d (.int i), .d (.int j) => some (.d (.int (i + j)))
  | .d (.str a), .d (.str b) => if a.length + b.length ≤ most then some (.d (.str (a ++ b))) else none
  | _, _ => none
def fMulA : T → T → Option T
  | .d (.int i), .d (.int j) => if i.natAbs < 18446744073709551616 ∨ j.natAbs < 18446744073709551616 then some (.d (.int (i * j))) else none
  | _, _ => none
def fDivA : T → T → Option T
  | .d (.int i), .d (.int j) => if 0 < j ∧ j < 1073741824 then some (.d (.int (i / j))) else none
  | _, _ => none
section
variable {X : Cx}
theorem i_add : Ib X .Add fAddA := ⟨_, iop_add.or iop_add_str, fun H x y z vx vy Gx Gy Q ox oy e q => by
  unfold fAddA at e
  split at e
  · cases e
    cases ox with | d r1 => cases oy with | d r2 => cases r1; cases r2; exact .inl ⟨_, _, rfl, rfl, fin_d (.int _) q⟩
  · split at e <;> cases e
    rename_i h
    cases ox with | d r1 => cases oy with | d r2 => cases r1; cases r2; exact .inr ⟨_, _, rfl, rfl, by rw [most_eq]; exact h, fin_d (.str _) q⟩
  · cases e⟩
theorem i_sub : Ib X .Sub fSub := ⟨_, iop_sub, fun H x y z vx vy Gx Gy Q ox oy e q => by
  unfold fSub at e
  split at e <;> cases e
  cases ox with | d r1 => cases oy with | d r2 => cases r1; cases r2; exact ⟨_, _, rfl, rfl, fin_d (.int _) q⟩⟩
theorem i_mul : Ib X .Mult fMulA := ⟨_, iop_mul, fun H x y z vx vy Gx Gy Q ox oy e q => by
  unfold fMulA at e
  split at e
  · split at e <;> cases e
    rename_i h
    cases ox with | d r1 => cases oy with | d r2 => cases r1; cases r2; exact ⟨_, _, rfl, rfl, h.imp (fun z => by omega) (fun z => by omega), fin_d (.int _) q⟩
  · cases e⟩
theorem i_div : Ib X .FloorDiv fDivA := ⟨_, iop_fdiv, fun H x y z vx vy Gx Gy Q ox oy e q => by
  unfold fDivA at e
  split at e
  · split at e <;> cases e
    rename_i h
    cases ox with | d r1 => cases oy with | d r2 => cases r1; cases r2; exact ⟨_, _, rfl, rfl, h, fin_d (.int _) q⟩
  · cases e⟩
theorem i_mod : Ib X .Mod fMod := ⟨_, iop_mod, fun H x y z vx vy Gx Gy Q ox oy e q => by
  unfold fMod at e
  split at e
  · split at e <;> cases e
    rename_i h
    cases ox with | d r1 => cases oy with | d r2 => cases r1; cases r2; exact ⟨_, _, rfl, rfl, h, fin_d (.int _) q⟩
  · cases e⟩
/-! ### any of ints and bools -/
def tr1 : D → Option Bool
  | .bl b => some b
  | .int i => some (i != 0)
  | _ => none
def trs : List D → Option (List Bool)
  | [] => some []
  | d :: r => (tr1 d).bind fun b => (trs r).map (b :: ·)
theorem trs_len : ∀ {ds : List D} {bs : List Bool}, trs ds = some bs → bs.length = ds.length
  | [], _, h => by cases h; rfl
  | d :: r, bs, h => by
    obtain ⟨b, _, h⟩ := Option.bind_eq_some_iff.mp h
    obtain ⟨cs, h2, rfl⟩ := Option.map_eq_some_iff.mp h
    exact congrArg Nat.succ (trs_len h2)
theorem truth_trs {prog : Program} {w : World} {A : Around} {K : PySem.W.Frag} {H : Hp} : ∀ {vs : List V} {ds : List D} {its : List Value} {bs : List Bool}, RepDs K H vs ds → Vals vs its → trs ds = some bs → ∀ (i : Nat) (v : Value) (s : Shared) (Q : Bool → Shared → Prop) (E : Value → Shared → Prop), its[i]? = some v → Q (bs.getD i false) s → wpAny (model prog w) A (truthy v) Q E s
  | _, _, _, _, .nil, .nil, _, i, v, s, Q, E, hv, hq => by simp at hv
  | _, _, _, bs, .cons r t, .cons r2 t2, h, i, v, s, Q, E, hv, hq => by
    obtain ⟨b, h1, h⟩ := Option.bind_eq_some_iff.mp h
    obtain ⟨cs, h2, rfl⟩ := Option.map_eq_some_iff.mp h
    cases i with
    | succ i => exact truth_trs t t2 h2 i v s Q E (by simpa using hv) (by simpa using hq)
    | zero =>
      simp at hv
      subst hv
      have hq : Q b s := hq
      cases r with
      | bl k => cases h1; cases r2; exact wpAny_truthy_bool hq
      | int k => cases h1; obtain ⟨tk, rfl⟩ := r2; exact PySem.P.truthy_int hq
      | _ => cases h1
def fAny : List T → Option T
  | [x] => (lstOf x).bind fun ds => (trs ds).map fun bs => .d (.bl (bs.any id))
  | _ => none
theorem call_anyT (hc : X.calm = true) : CallR X (.builtin "any") (fun vs H Q => ∃ (a : Addr) (us : List V) (ds : List D) (bs : List Bool), vs = [V.ref a] ∧ SqL X.K H a us ∧ RepDs X.K H us ds ∧ trs ds = some bs ∧ Q (.bl (bs.any id)) H) := by
  intro pins s σ H vs us Q I r h
  obtain ⟨a, ws, ds, bs, rfl, hs, rr, ht, q⟩ := h
  obtain ⟨its, rv, hl, _⟩ := I.list hs
  rw [Vals.ref1 r]
  refine call_any_walk (iter_any hl.isList fun s2 e2 st hne => ?_)
  subst e2
  refine ⟨_, _, _, _, _, _, _, rfl, Walks.list (A := X.A.in1) (I.ok.hd hc) _ a hne its.toArray, st, (fun i v s Q E hv hq => truth_trs rr rv ht i v s Q E (by simpa using hv) hq), fun h' tk hk => ?_⟩
  refine ⟨.bl _, H, I.kept fun b o eo => hk b o (fun hmem => (by
    rcases List.mem_cons.mp hmem with e1 | hmem
    · exact absurd (e1 ▸ Heap.lt_size eo) (Nat.lt_irrefl _)
    · cases hmem)) (Heap.get?_push_of_some _ eo), ?_, q⟩
  show Value.bool _ = Value.bool _
  rw [← L2.any_range, trs_len ht, ← rr.length, rv.length, List.size_toArray]
theorem f_any (hc : X.calm = true) : Bf X (.builtin "any") fAny := ⟨_, call_anyT hc, fun H xs vs z Q w e q => by
  unfold fAny at e
  split at e
  · obtain ⟨ds, e1, e⟩ := Option.bind_eq_some_iff.mp e
    obtain ⟨ns, e2, rfl⟩ := Option.map_eq_some_iff.mp e
    cases w with
    | cons o t =>
      cases t
      obtain ⟨a, us, rfl, s, r⟩ := lstOf_ok o e1
      exact ⟨a, us, ds, ns, rfl, s, r, e2, fin_d (.bl _) q⟩
  · cases e⟩
/-! ### what is walked, of our own -/
variable {W : WX} {tg e : Expr} {m : En → RM T} {p pos : Pos}
def mIt (m : En → RM T) : En → RM (List T) := fun en => (m en).bind fun x en' => RM.of (R.of (items x)) en'
theorem mi_sq (h : PM X W e m) : PMI X W tg e (mIt m) := by
  obtain ⟨t, p, s⟩ := h
  refine ⟨_, pi_sq p, fun σ H en Fs Q ok q => s σ H en Fs _ ok ?_⟩
  unfold mIt at q
  cases e : m en with
  | ok x en1 =>
    rw [e] at q
    intro v H' Fs' G a o
    cases ef : items x with
    | none => simp only [RM.bind_ok, ef, R.of_none] at q; exact q.elim
    | some xs =>
      simp only [RM.bind_ok, ef, R.of_some] at q
      exact it_own o ef fun J j => q J H' Fs' G a j o.there
  | ex c en1 => rw [e] at q; exact q
  | no => rw [e] at q; exact q
def mR1 (m : En → RM T) : En → RM (List T) := fun en => (m en).bind fun x en' => RM.of (fR1 x) en'
theorem mi_rng1 (hm : X.mg "range" = none) (h : PM X W e m) (hg : Gl X "range" := by rfl) (hs : starEach [e] X.env = [(false, eval e X.env)] := by rfl) : PMI X W tg (.Call (.Name "range" p) [e] [] pos) (mR1 m) := by
  obtain ⟨t, pp, s⟩ := h
  refine ⟨_, pi_range1 hg hm (pa_cons pp pa_nil (by rw [hs]; rfl)) hs, fun σ H en Fs Q ok q => s σ H en Fs _ ok ?_⟩
  unfold mR1 at q
  cases e : m en with
  | ok x en1 =>
    rw [e] at q
    intro v H' Fs' G a o
    simp only [RM.bind_ok] at q
    unfold fR1 at q
    split at q
    · split at q
      · rename_i hj
        have r := o.rep
        cases r
        exact ⟨_, rfl, hj.1, hj.2, q _ H' Fs' [] a.drop it_rng fun _ m => absurd m List.not_mem_nil⟩
      · exact q.elim
    · exact q.elim
  | ex c en1 => rw [e] at q; exact q
  | no => rw [e] at q; exact q
end
/-! ### a def that calls itself: at depth 0 nothing is said -/
theorem fnP_no {P : Program} {w : World} {K : PySem.W.Frag} {mg : Str → Option Value} {base : Heap} {x : String} {st : Stmt} {f : Addr} {fd : FuncData} {ps : List Str} {k : Nat} (F : Fun K x x st f fd) (hm : mg x = some (.ref f)) (hb : Binds K fd ps []) : FnP P w K mg base x k (fun _ => .no) :=
  ⟨f, fd, ps, ⟨fun _ _ _ _ ⟨_, _, h⟩ => h.elim, fun _ _ _ _ _ _ _ _ _ _ _ _ _ ⟨_, _, h⟩ => h.elim⟩, hm, F.kp, hb⟩
theorem fnM_no {P : Program} {w : World} {K : PySem.W.Frag} {mg : Str → Option Value} {base : Heap} {x : String} {st : Stmt} {f : Addr} {fd : FuncData} {ps : List Str} {k : Nat} (F : Fun K x x st f fd) (hm : mg x = some (.ref f)) (hb : Binds K fd ps []) : FnM P w K mg base x k (fun _ _ => .no) :=
  ⟨f, fd, ps, ⟨fun _ _ _ _ ⟨_, _, _, _, _, _, _, _, _, h⟩ => h.elim, fun _ _ _ _ _ _ _ _ _ _ _ _ _ ⟨_, _, _, _, _, _, _, _, _, h⟩ => h.elim⟩, hm, F.kp, hb⟩
end Z
/-! Z: the rest that printed texts ask. -/
namespace Z
open PySem PySem.Spec L2
open PyProof.Rows hiding St

def mIxNg (i : Nat) (mb : En → RM T) : En → RM T := fun en => if (at_ en i).isSome then mIxN i mb en else .no
/-- the places that a target stores to -/
def Ixs (vs : List Nat) (k : T → Option Ass) : Prop := ∀ x as, k x = some as → ∀ p ∈ as, p.1 ∈ vs
def Ixd (vs : List Nat) (k : List D → Option Ass) : Prop := ∀ x as, k x = some as → ∀ p ∈ as, p.1 ∈ vs
theorem ix_name {vs : List Nat} {i : Nat} (h : i ∈ vs) : Ixs vs (kName i) := fun x as e p m => by
  cases e
  have : p = (i, x) := by simpa using m
  rw [this]; exact h
theorem ix_nil {vs : List Nat} : Ixd vs kNil := fun x as e p m => by
  cases x with
  | nil => cases e; cases m
  | cons _ _ => cases e
theorem ix_cons {vs : List Nat} {k : T → Option Ass} {r : List D → Option Ass} (h1 : Ixs vs k) (h2 : Ixd vs r) : Ixd vs (kCons k r) := fun x as e p m => by
  cases x with
  | nil => cases e
  | cons d ds =>
    obtain ⟨a, e1, e⟩ := Option.bind_eq_some_iff.mp e
    obtain ⟨b, e2, rfl⟩ := Option.map_eq_some_iff.mp e
    exact (List.mem_append.mp m).elim (h1 _ _ e1 p) (h2 _ _ e2 p)
theorem ix_tup {vs : List Nat} {n : Nat} {k : List D → Option Ass} (h : Ixd vs k) : Ixs vs (kTup n k) := fun x as e p m => by
  unfold kTup at e
  split at e
  · split at e
    · exact h _ _ e p m
    · cases e
  · cases e
/-- the law's promise: a value, no error -/
def spL (K : PySem.W.Frag) (F : List T → R T) : Sp := fun vs H Q _ => ∃ xs r, Vws K H vs xs ∧ F xs = .ok r ∧ ∀ v H' G, Same H H' → Own K H' v r G → Fresh H G → Q v H'
theorem law_ok {P : Program} {w : World} {K : PySem.W.Frag} {mg : Str → Option Value} {base : Heap} {k : Nat} {f : Addr} {fd : FuncData} {ps : List Str} {F : List T → R T} (h : FnOk P w K mg base (L2.CX P w) k f fd ps (spP K mg F)) : FnOk P w K mg base (L2.CX P w) k f fd ps (spL K F) :=
  h.imp fun vs H Q E ⟨xs, r, w, e, q⟩ => ⟨xs, w, by rw [e]; exact q⟩
theorem law_spL {K : PySem.W.Frag} {F : List T → R T} {H : Hp} {a : Addr} {ns : List Int} (h : Only H) (s : SqL K H a (ns.map V.int)) (e : F [.d (.rol (ns.map D.int))] = .ok (.d (.bl true))) : spL K F [.ref a] H (fun v _ => v = .bl true) fun _ _ _ => False := by
  refine ⟨[.d (.rol (ns.map D.int))], _, .cons (.d (script_ro h s)) .nil, e, ?_⟩
  intro v H' G _ o _
  have r := o.rep
  cases r
  rfl
theorem blk_ok {N : List Str} {sc scope : Scope} {own : List (Str × Nat)} (h : blkC N sc scope own = true) : blkC N sc scope own = true := h
theorem cx_false {P : Program} {w : World} {H : Hp} {s : Shared} {e : Value} {s' : Shared} (h : L2.CX P w [] H s (fun _ _ _ => False) e s') : False := by
  obtain ⟨_, _, _, _, _, _, _, _, _, _, _, _, z⟩ := h
  exact z
end Z
/-! Z: reckoning with what is told. -/
namespace Z
open PySem PySem.Spec L2
open PyProof.Rows hiding St
variable {α : Type} {g h ga gb gc : En → R T} {f f' : T → T → Option T} {en : En} {m ma mb : En → RM T} {c : En → RM Bool} {gt ht : En → R Bool} {i j n : Nat} {x y : T} {s : Sl} {gs : En → R (List T)} {ms : En → RM (List T)} {hm : En → RM (List Hd)} {b d : En → SR}
/-! slots -/
@[simp] theorem at_nil : at_ [] i = none := rfl
@[simp] theorem at_zero : at_ (s :: en) 0 = s.get := rfl
@[simp] theorem at_succ : at_ (s :: en) (i + 1) = at_ en i := rfl
@[simp] theorem get_n : Sl.get .n = none := rfl
@[simp] theorem get_v : Sl.get (.v x) = some x := rfl
@[simp] theorem get_w : Sl.get (.w x) = some x := rfl
@[simp] theorem get_b : Sl.get (.b x) = some x := rfl
@[simp] theorem own_v0 : ownAt (.v x :: en) 0 = some x := rfl
@[simp] theorem own_b0 : ownAt (.b x :: en) 0 = some x := rfl
@[simp] theorem own_w0 : ownAt (.w x :: en) 0 = none := rfl
@[simp] theorem own_n0 : ownAt (.n :: en) 0 = none := rfl
@[simp] theorem own_succ : ownAt (s :: en) (i + 1) = ownAt en i := rfl
@[simp] theorem stow_v0 : stow (.v x :: en) 0 s = some (s :: en) := rfl
@[simp] theorem stow_w0 : stow (.w x :: en) 0 s = some (s :: en) := rfl
@[simp] theorem stow_n0 : stow (.n :: en) 0 s = some (s :: en) := rfl
@[simp] theorem stow_b0 : stow (.b x :: en) 0 s = none := rfl
@[simp] theorem stow_succ {s2 : Sl} : stow (s2 :: en) (i + 1) s = (stow en i s).map (s2 :: ·) := by
  unfold stow
  simp only [List.getElem?_cons_succ]
  cases e : en[i]? with
  | none => rfl
  | some z => cases z <;> rfl
@[simp] theorem setO_b0 : setO (.b y :: en) 0 x = .b x :: en := rfl
@[simp] theorem setO_v0 : setO (.v y :: en) 0 x = .v x :: en := rfl
@[simp] theorem setO_succ : setO (s :: en) (i + 1) x = s :: setO en i x := by
  unfold setO
  simp only [List.getElem?_cons_succ]
  cases e : en[i]? with
  | none => rfl
  | some z => cases z <;> rfl
@[simp] theorem mkS_d {d : D} : mkS (.d d) = .v (.d d) := rfl
@[simp] theorem mkS_l {xs : List T} : mkS (.l xs) = .w (.l xs) := rfl
@[simp] theorem setE_nil : setE en [] = en := rfl
@[simp] theorem setE_cons {r : Ass} : setE en ((i, x) :: r) = setE (en.set i (mkS x)) r := rfl
@[simp] theorem wipeE_nil : wipeE en [] = en := rfl
@[simp] theorem wipeE_cons {r : List Nat} : wipeE en (i :: r) = (wipeE en r).set i .n := rfl
@[simp] theorem stows_nil : stows en [] = some en := rfl
@[simp] theorem stows_cons {r : Ass} : stows en ((i, x) :: r) = (stow en i (mkS x)).bind fun en' => stows en' r := rfl
@[simp] theorem stowD_nil : stowD en [] = some en := rfl
@[simp] theorem stowD_cons {d : D} {r : Ass} : stowD en ((i, .d d) :: r) = (stow en i (.v (.d d))).bind fun en' => stowD en' r := rfl
@[simp] theorem weak_l0 {xs : List T} : weak (.v (.l xs) :: en) 0 = .w (.l xs) :: en := rfl
@[simp] theorem weak_d0 {d : D} : weak (.v (.d d) :: en) 0 = .v (.d d) :: en := rfl
@[simp] theorem weak_w0 : weak (.w x :: en) 0 = .w x :: en := rfl
@[simp] theorem weak_succ : weak (s :: en) (i + 1) = s :: weak en i := by
  unfold weak
  simp only [List.getElem?_cons_succ]
  cases e : en[i]? with
  | none => rfl
  | some z => cases z with
    | v x => cases x <;> rfl
    | _ => rfl
@[simp] theorem notOwn_w0 : notOwn (.w x :: en) 0 = true := rfl
@[simp] theorem notOwn_d0 {d : D} : notOwn (.v (.d d) :: en) 0 = true := rfl
@[simp] theorem notOwn_succ : notOwn (s :: en) (i + 1) = notOwn en i := rfl
@[simp] theorem kName_ev : kName i x = some [(i, x)] := rfl
@[simp] theorem kD_d {k : T → Option Ass} {d : D} : kD k (.d d) = k (.d d) := rfl
@[simp] theorem kNil_ev : kNil [] = some [] := rfl
@[simp] theorem kCons_ev {k : T → Option Ass} {r : List D → Option Ass} {d : D} {ds : List D} : kCons k r (d :: ds) = (k (.d d)).bind fun a => (r ds).map fun b => a ++ b := rfl
@[simp] theorem kTup_ev {k : List D → Option Ass} {ds : List D} : kTup n k (.d (.tup ds)) = if ds.length = n then k ds else none := rfl
/-! reading -/
@[simp] theorem vN_ev : vN i en = R.of (at_ en i) := rfl
@[simp] theorem kI_ev {z : Int} : kI z en = .ok (.d (.int z)) := rfl
@[simp] theorem kB_ev {z : Bool} : kB z en = .ok (.d (.bl z)) := rfl
@[simp] theorem kS_ev {z : Str} : kS z en = .ok (.d (.str z)) := rfl
@[simp] theorem kD'_ev {z : D} : kD' z en = .ok (.d z) := rfl
@[simp] theorem gPur_ev : gPur g en = (g en).pur := rfl
@[simp] theorem g2_ev : g2 f ga gb en = (ga en).bind fun x => (gb en).bind fun y => .of (f x y) := rfl
@[simp] theorem g1_ev {f : T → Option T} : g1 f g en = (g en).bind fun x => .of (f x) := rfl
@[simp] theorem gT_ev : gT g en = (g en).bind fun x => .of (tst x) := rfl
@[simp] theorem gTru_ev : gTru g en = (g en).bind fun x => .of (tru x) := rfl
@[simp] theorem gNot_ev : gNot gt en = (gt en).bind fun b => .ok (!b) := rfl
@[simp] theorem gAnd_ev : gAnd gt ht en = (gt en).bind fun b => if b = true then ht en else .ok false := rfl
@[simp] theorem gOr_ev : gOr gt ht en = (gt en).bind fun b => if b = true then .ok true else ht en := rfl
@[simp] theorem gNotV_ev : gNotV g en = (g en).bind fun x => (R.of (tru x)).bind fun b => .ok (.d (.bl (!b))) := rfl
@[simp] theorem gAndV_ev : gAndV g h en = (g en).bind fun x => (R.of (tru x)).bind fun b => if b = true then h en else .ok x := rfl
@[simp] theorem gOrV_ev : gOrV g h en = (g en).bind fun x => (R.of (tru x)).bind fun b => if b = true then .ok x else h en := rfl
@[simp] theorem gIf_ev {p q : En → R α} : gIf gt p q en = (gt en).bind fun b => if b = true then p en else q en := rfl
@[simp] theorem gCh_ev : gCh f f' ga gb gc en = (ga en).bind fun x => (gb en).bind fun y => (R.of (f x y)).bind fun z => (R.of (tst z)).bind fun k => if k = true then (gc en).bind fun u => R.of (f' y u) else .ok (.d (.bl false)) := rfl
@[simp] theorem oN_ev : oN en = .ok none := rfl
@[simp] theorem oS_ev : oS g en = (g en).bind fun x => (R.of (asI x)).bind fun i => .ok (some i) := rfl
@[simp] theorem asI_ev {z : Int} : asI (.d (.int z)) = some z := rfl
@[simp] theorem gSl_ev {lo hi : En → R (Option Int)} : gSl g lo hi en = (g en).bind fun x => (lo en).bind fun l => (hi en).bind fun h => .of (fSl x l h) := rfl
@[simp] theorem aNil_ev : (aNil : En → R (List α)) en = .ok [] := rfl
@[simp] theorem aCons_ev {p : En → R α} {q : En → R (List α)} : aCons p q en = (p en).bind fun x => (q en).bind fun xs => .ok (x :: xs) := rfl
@[simp] theorem gTup_ev : gTup gs en = (gs en).bind mkTup := rfl
@[simp] theorem gLst_ev : gLst gs en = (gs en).bind mkLst := rfl
@[simp] theorem gCall_ev {f : List T → Option T} : gCall f gs en = (gs en).bind fun xs => .of (f xs) := rfl
@[simp] theorem gFn_ev {F : List T → R T} : gFn F gs en = (gs en).bind F := rfl
@[simp] theorem gIsi_ev {p : T → Bool} : gIsi p g en = (g en).bind fun x => .ok (.d (.bl (p x))) := rfl
@[simp] theorem gIt_ev : gIt g en = (g en).bind fun x => .of (items x) := rfl
theorem gR1_ev : gR1 g en = (g en).bind fR1 := rfl
theorem gR2_ev : gR2 ga gb en = (ga en).bind fun x => (gb en).bind fun y => fR2 x y := rfl
theorem gR3_ev : gR3 ga gb gc en = (ga en).bind fun x => (gb en).bind fun y => (gc en).bind fun z => fR3 x y z := rfl
theorem gLR1_ev : gLR1 g en = (g en).bind fun x => match x with
  | .d (.int n) => if 0 ≤ n ∧ n ≤ 16777216 then .ok (.l (rng 0 1 n.toNat)) else .no
  | _ => .no := rfl
theorem gLR2_ev : gLR2 ga gb en = (ga en).bind fun x => (gb en).bind fun y => match x, y with
  | .d (.int m), .d (.int n) => if 0 ≤ m ∧ m ≤ 16777216 ∧ 0 ≤ n ∧ n ≤ 16777216 then .ok (.l (rng m 1 (n - m).toNat)) else .no
  | _, _ => .no := rfl
@[simp] theorem gYes_ev : gYes en = .ok true := rfl
@[simp] theorem gLc_ev {vs : List Nat} {k : T → Option Ass} : gLc vs gs k gt g en = (gs en).bind fun xs => if xs.length < most then (lcL k gt g (wipeE en vs) xs).calm.bind fun ys => .ok (.l ys) else .no := rfl
@[simp] theorem calm_ok {a : α} : (R.ok a).calm = .ok a := rfl
@[simp] theorem mcalm_ok {a : α} : (RM.ok a en).calm = .ok a en := rfl
/-! operations -/
variable {p q : Int} {u v : Bool} {as bs : List D}
@[simp] theorem fAdd_i : fAdd (.d (.int p)) (.d (.int q)) = some (.d (.int (p + q))) := rfl
@[simp] theorem fAdd_t : fAdd (.d (.tup as)) (.d (.tup bs)) = if as.length + bs.length ≤ most then some (.d (.tup (as ++ bs))) else none := rfl
@[simp] theorem fSub_i : fSub (.d (.int p)) (.d (.int q)) = some (.d (.int (p - q))) := rfl
@[simp] theorem fMul_i : fMul (.d (.int p)) (.d (.int q)) = if MulOk p q then some (.d (.int (p * q))) else none := rfl
@[simp] theorem fMod_i : fMod (.d (.int p)) (.d (.int q)) = if 0 < q then some (.d (.int (p % q))) else none := rfl
@[simp] theorem fDiv_i : fDiv (.d (.int p)) (.d (.int q)) = if 0 < q ∧ q.natAbs.log2 < 9000 then some (.d (.int (p / q))) else none := rfl
@[simp] theorem fPow_i : fPow (.d (.int p)) (.d (.int q)) = if 0 ≤ q ∧ q ≤ 1000000 ∧ p.natAbs < 18446744073709551616 then some (.d (.int (p ^ q.toNat))) else none := rfl
@[simp] theorem fNeg_i : fNeg (.d (.int p)) = some (.d (.int (-p))) := rfl
@[simp] theorem fAddA_i : fAddA (.d (.int p)) (.d (.int q)) = some (.d (.int (p + q))) := rfl
theorem fDivA_i : fDivA (.d (.int p)) (.d (.int q)) = if 0 < q ∧ q < 1073741824 then some (.d (.int (p / q))) else none := rfl
@[simp] theorem fLt_i : fLt (.d (.int p)) (.d (.int q)) = some (.d (.bl (decide (p < q)))) := rfl
@[simp] theorem fLe_i : fLe (.d (.int p)) (.d (.int q)) = some (.d (.bl (decide (p ≤ q)))) := rfl
@[simp] theorem fGt_i : fGt (.d (.int p)) (.d (.int q)) = some (.d (.bl (decide (q < p)))) := rfl
@[simp] theorem fGe_i : fGe (.d (.int p)) (.d (.int q)) = some (.d (.bl (decide (q ≤ p)))) := rfl
theorem eqv_ii : PyData.eqv (.int p) (.int q) = decide (p = q) := by
  by_cases e : p = q
  · subst e; simp [PyData.eqv]
  · simp [PyData.eqv, e]
@[simp] theorem fEq_i : fEq (.d (.int p)) (.d (.int q)) = some (.d (.bl (decide (p = q)))) := by
  show (if _ then _ else _) = _
  rw [if_pos (show (shp (T.py (.d (.int p))) && shp (T.py (.d (.int q)))) = true from rfl)]
  show some (T.d (.bl (PyData.eqv (.int p) (.int q)))) = _
  rw [eqv_ii]
@[simp] theorem fNe_i : fNe (.d (.int p)) (.d (.int q)) = some (.d (.bl (!decide (p = q)))) := by
  show (if _ then _ else _) = _
  rw [if_pos (show (shp (T.py (.d (.int p))) && shp (T.py (.d (.int q)))) = true from rfl)]
  show some (T.d (.bl (!PyData.eqv (.int p) (.int q)))) = _
  rw [eqv_ii]
@[simp] theorem tst_b : tst (.d (.bl u)) = some u := rfl
@[simp] theorem tru_n : tru (.d .non) = some false := rfl
@[simp] theorem tru_b : tru (.d (.bl u)) = some u := rfl
@[simp] theorem tru_i : tru (.d (.int p)) = some (p != 0) := rfl
@[simp] theorem tru_t : tru (.d (.tup as)) = some (!as.isEmpty) := rfl
@[simp] theorem tru_r : tru (.d (.rol as)) = some (!as.isEmpty) := rfl
@[simp] theorem tru_l {xs : List T} : tru (.l xs) = some (!xs.isEmpty) := rfl
@[simp] theorem isInt_i : isInt (.d (.int p)) = true := rfl
@[simp] theorem isInt_b : isInt (.d (.bl u)) = true := rfl
@[simp] theorem isInt_t : isInt (.d (.tup as)) = false := rfl
@[simp] theorem isBl_i : isBl (.d (.int p)) = false := rfl
@[simp] theorem isBl_b : isBl (.d (.bl u)) = true := rfl
@[simp] theorem isBl_t : isBl (.d (.tup as)) = false := rfl
@[simp] theorem fLen_l {xs : List T} : fLen [.l xs] = some (.d (.int xs.length)) := rfl
@[simp] theorem fLen_t : fLen [.d (.tup as)] = some (.d (.int as.length)) := rfl
@[simp] theorem fLen_r : fLen [.d (.rol as)] = some (.d (.int as.length)) := rfl
@[simp] theorem fAbs_i : fAbs [.d (.int p)] = some (.d (.int (if p < 0 then -p else p))) := rfl
@[simp] theorem fInt_i : fInt [.d (.int p)] = some (.d (.int p)) := rfl
@[simp] theorem fInt_b : fInt [.d (.bl u)] = some (.d (.int (if u then 1 else 0))) := rfl
@[simp] theorem fMin2_i : fMin2 [.d (.int p), .d (.int q)] = some (.d (.int (min p q))) := rfl
@[simp] theorem fMax2_i : fMax2 [.d (.int p), .d (.int q)] = some (.d (.int (max p q))) := rfl
@[simp] theorem dataOf_t : dataOf (.d (.tup as)) = some as := rfl
@[simp] theorem dataOf_r : dataOf (.d (.rol as)) = some as := rfl
@[simp] theorem dataOf_l {xs : List T} : dataOf (.l xs) = allD xs := rfl
@[simp] theorem lstOf_r : lstOf (.d (.rol as)) = some as := rfl
@[simp] theorem lstOf_l {xs : List T} : lstOf (.l xs) = allD xs := rfl
@[simp] theorem fList_ev : fList [x] = (dataOf x).map fun ds => .l (ds.map T.d) := rfl
@[simp] theorem fTuple_ev : fTuple [x] = (dataOf x).map fun ds => .d (.tup ds) := rfl
@[simp] theorem fSum_ev : fSum [x] = (lstOf x).bind fun ds => (asInts ds).map fun ns => .d (.int ns.sum) := rfl
@[simp] theorem fAll_ev : fAll [x] = (lstOf x).bind fun ds => (asBls ds).map fun ns => .d (.bl (ns.all id)) := rfl
@[simp] theorem fAny_ev : fAny [x] = (lstOf x).bind fun ds => (trs ds).map fun bs => .d (.bl (bs.any id)) := rfl
@[simp] theorem items_t : items (.d (.tup as)) = some (as.map T.d) := rfl
@[simp] theorem items_r : items (.d (.rol as)) = some (as.map T.d) := rfl
@[simp] theorem items_l {xs : List T} : items (.l xs) = some xs := rfl
@[simp] theorem pur_ok_t {d : D} : R.pur (.ok (.d d)) = .ok (.d d) := rfl
theorem fR1_i : fR1 (.d (.int p)) = if -far ≤ p ∧ p < far then .ok (rng 0 1 p.toNat) else .no := rfl
theorem fR2_i : fR2 (.d (.int p)) (.d (.int q)) = if -far ≤ p ∧ p < far ∧ -far ≤ q ∧ q < far then .ok (rng p 1 (q - p).toNat) else .no := rfl
theorem fIx_t {i : Int} : fIx (.d (.tup as)) (.d (.int i)) = (atI as i).map T.d := rfl
theorem fIx_r {i : Int} : fIx (.d (.rol as)) (.d (.int i)) = (atI as i).map T.d := rfl
theorem fIx_l {xs : List T} {i : Int} : fIx (.l xs) (.d (.int i)) = atI xs i := rfl
theorem atI_nat {xs : List α} {k : Int} (h0 : 0 ≤ k) (h1 : k < xs.length) : atI xs k = xs[k.toNat]? := by
  unfold atI ixN
  rw [if_pos h0, if_pos h1]
  rfl
theorem fIx_l_num {xs : List T} (k : Nat) (h : k < xs.length) : fIx (.l xs) (.d (.int (k : Int))) = xs[k]? := by
  rw [fIx_l, atI_nat (Int.natCast_nonneg k) (Int.ofNat_lt.mpr h)]
  rfl
@[simp] theorem mkTup_nil : mkTup [] = .ok (.d (.tup [])) := rfl
@[simp] theorem mkLst_ev {xs : List T} : mkLst xs = if xs.length ≤ most then .ok (.l xs) else .no := rfl
@[simp] theorem mkTup_ev {xs : List T} : mkTup xs = R.of ((allD xs).bind fun ds => if ds.length ≤ most then some (.d (.tup ds)) else none) := by
  unfold mkTup
  cases allD xs with
  | none => rfl
  | some ds => by_cases h : ds.length ≤ most <;> simp [h]
@[simp] theorem allD_nil : allD [] = some [] := rfl
@[simp] theorem allD_cons {d : D} {r : List T} : allD (.d d :: r) = (allD r).map (d :: ·) := rfl
/-! effects -/
@[simp] theorem lft_ev {g : En → R α} : lft g en = RM.of (g en) en := rfl
@[simp] theorem mT_ev : mT m en = (m en).bind fun x en' => RM.of (R.of (tst x)) en' := rfl
@[simp] theorem mTru_ev : mTru m en = (m en).bind fun x en' => RM.of (R.of (tru x)) en' := rfl
@[simp] theorem mNot_ev : mNot c en = (c en).bind fun b en' => .ok (!b) en' := rfl
@[simp] theorem m2_ev : m2 f ma mb en = (ma en).bind fun x en1 => (mb en1).bind fun y en2 => RM.of (R.of (f x y)) en2 := rfl
@[simp] theorem mNil_ev : mNil en = .ok [] en := rfl
@[simp] theorem mCons_ev : mCons m ms en = (m en).bind fun x en1 => (ms en1).bind fun xs en2 => .ok (x :: xs) en2 := rfl
@[simp] theorem mOf_ev {f : List T → R T} : mOf f ms en = (ms en).bind fun xs en' => RM.of (f xs) en' := rfl
@[simp] theorem mIt_ev : mIt m en = (m en).bind fun x en' => RM.of (R.of (items x)) en' := rfl
theorem mR1_ev : mR1 m en = (m en).bind fun x en' => RM.of (fR1 x) en' := rfl
@[simp] theorem hNil_ev : hNil en = .ok [] en := rfl
@[simp] theorem hO_ev : hO m hm en = (m en).bind fun x en1 => (hm en1).bind fun xs en2 => .ok (.o x :: xs) en2 := rfl
@[simp] theorem hN_ev : hN i hm en = if (at_ en i).isSome then (hm en).bind fun xs en2 => .ok (.n i :: xs) en2 else .no := rfl
@[simp] theorem hds_nil : hds en i [] = some [] := rfl
@[simp] theorem hds_o {r : List Hd} : hds en i (.o x :: r) = (hds en i r).map (x :: ·) := rfl
@[simp] theorem hds_n {r : List Hd} : hds en i (.n j :: r) = if j = i then none else (at_ en j).bind fun x => (hds en i r).map (x :: ·) := rfl
theorem mName_n {d : D} : ∀ {en : En} {i : Nat}, at_ en i = some (.d d) → mName i en = .ok (.d d) en
  | en, i, h => by
    unfold mName; unfold at_ at h
    cases e : en[i]? with
    | none => rw [e] at h; cases h
    | some s =>
      rw [e] at h
      cases s with
      | n => cases h
      | v x => cases h; rfl
      | w x => cases h; rfl
      | b x => cases h; rfl
theorem mName_l {xs : List T} {en : En} {i : Nat} (h : en[i]? = some (.v (.l xs))) : mName i en = .ok (.l xs) (en.set i .n) := by
  unfold mName; rw [h]
theorem callM {F : T → List T → RF} {hs : List Hd} {en en1 : En} {x0 x1 x' r : T} {xs : List T} (h0 : ownAt en i = some x0) (h1 : hm en = .ok hs en1) (h2 : ownAt en1 i = some x1) (h3 : hds en1 i hs = some xs) (h4 : F x1 xs = .ok r x') : mCallM i F hm en = .ok r (setO en1 i x') := by
  unfold mCallM
  rw [h0]
  simp only [h1, RM.bind_ok]
  rw [h2]
  simp only [h3, h4]
/-! statements -/
def SR.sq (r : SR) (d : En → SR) : SR := match r with
  | .nx en => d en
  | r => r
@[simp] theorem sq_nx : (SR.nx en).sq d = d en := rfl
@[simp] theorem sq_ret : (SR.ret x en).sq d = .ret x en := rfl
@[simp] theorem sq_brk : (SR.brk en).sq d = .brk en := rfl
@[simp] theorem sq_ct : (SR.ct en).sq d = .ct en := rfl
@[simp] theorem sq_no : SR.no.sq d = .no := rfl
@[simp] theorem sq_ex {c : Exc} : (SR.ex c en).sq d = .ex c en := rfl
@[simp] theorem fSeq_ev : fSeq b d en = (b en).sq d := by
  unfold fSeq SR.sq
  cases b en <;> rfl
@[simp] theorem fNil_ev : fNil en = .nx en := rfl
@[simp] theorem toS_some : toS (some en) = .nx en := rfl
@[simp] theorem toS_none : toS none = .no := rfl
@[simp] theorem fSet_ev : fSet i m en = (m en).s fun x en' => toS (stow en' i (.v x)) := rfl
@[simp] theorem fAsg_ev {k : T → Option Ass} : fAsg k m en = (m en).s fun x en' => toS ((k x).bind fun as => stowD en' as) := rfl
@[simp] theorem fExpr_ev : fExpr m en = (m en).s fun _ en' => .nx en' := rfl
@[simp] theorem fRet_ev : fRet m en = (m en).s fun x en' => .ret x en' := rfl
@[simp] theorem fIf_ev : fIf c b d en = (c en).s fun u en' => if u = true then b en' else d en' := rfl
theorem fAug_i {k z : Int} {t : T} (h : at_ en i = some (.d (.int k))) (hm : m en = .ok (.d (.int z)) en) (hf : f (.d (.int k)) (.d (.int z)) = some t) : fAug i f m en = toS (stow en i (.v t)) := by
  unfold fAug datAt
  rw [h]
  simp only [R.of_some, R.pur_d, hm, RM.s_ok, hf]
theorem sif_t {P : Prop} [Decidable P] {r s : SR} (h : P) : (if P then r else s) = r := if_pos h
/-! a whole def -/
theorem runP_ret {k : Nat} {xs : List T} {r : T} (hk : xs.length = k) (h : ∃ e, b (startE n xs) = .ret r e) : runP n k b xs = .ok r := by
  obtain ⟨e, h⟩ := h
  unfold runP
  rw [if_pos hk, h]
theorem runP_nx {k : Nat} {xs : List T} (hk : xs.length = k) (h : ∃ e, b (startE n xs) = .nx e) : runP n k b xs = .ok (.d .non) := by
  obtain ⟨e, h⟩ := h
  unfold runP
  rw [if_pos hk, h]
theorem runM_ret {k : Nat} {x0 x' : T} {xs : List T} {r : T} (hk : xs.length + 1 = k) (h : ∃ e, b (startM n x0 xs) = .ret r (.b x' :: e)) : runM n k b x0 xs = .ok r x' := by
  obtain ⟨e, h⟩ := h
  unfold runM
  rw [if_pos hk, h]
  rfl
theorem ret_seq {r : T} {en en1 : En} (h1 : b en = .nx en1) (h2 : ∃ e, d en1 = .ret r e) : ∃ e, fSeq b d en = .ret r e := by
  rw [fSeq_ev, h1]; exact h2
theorem nx_seq {en en1 : En} {P : En → Prop} (h1 : b en = .nx en1) (h2 : ∃ e, d en1 = .nx e ∧ P e) : ∃ e, fSeq b d en = .nx e ∧ P e := by
  rw [fSeq_ev, h1]; exact h2
theorem ret_if_f {r : T} {en : En} {z : En → SR} {g : En → R Bool} (h1 : g en = .ok false) (h2 : ∃ e, z en = .ret r e) : ∃ e, fSeq (fIf (lft g) b fNil) z en = .ret r e := by
  refine ret_seq (en1 := en) ?_ h2
  rw [fIf_ev, lft_ev, h1]; rfl
theorem fIf_f {en : En} {g : En → R Bool} (h1 : g en = .ok false) : fIf (lft g) b d en = d en := by
  rw [fIf_ev, lft_ev, h1]; rfl
theorem fIf_t {en : En} {g : En → R Bool} (h1 : g en = .ok true) : fIf (lft g) b d en = b en := by
  rw [fIf_ev, lft_ev, h1]; rfl
/-! loops -/
theorem forE_ix {k : T → Option Ass} {f : En → SR} : ∀ (xs : List T) (Q : Nat → En → Prop) (j : Nat), (∀ i (hi : i < xs.length) en, Q (j + i) en → ∃ as en1 en2, k xs[i] = some as ∧ stows en as = some en1 ∧ (f en1 = .nx en2 ∨ f en1 = .ct en2) ∧ Q (j + i + 1) en2) → ∀ en, Q j en → ∃ en', forE k f xs en = .nx en' ∧ Q (j + xs.length) en'
  | [], Q, j, _, en, q => ⟨en, rfl, q⟩
  | x :: xs, Q, j, h, en, q => by
    obtain ⟨as, en1, en2, h1, h2, h3, h4⟩ := h 0 (Nat.succ_pos _) en q
    obtain ⟨en', h5, h6⟩ := forE_ix xs Q (j + 1) (fun i hi en q => by
      have := h (i + 1) (Nat.succ_lt_succ hi) en (by rwa [Nat.add_assoc, Nat.add_comm 1] at q)
      rw [show j + 1 + i + 1 = j + (i + 1) + 1 by omega]
      exact this) en2 h4
    refine ⟨en', ?_, by rw [List.length_cons, show j + (xs.length + 1) = j + 1 + xs.length by omega]; exact h6⟩
    show (match (k x).bind fun as => stows en as with
    | none => SR.no
    | some en1 => match f en1 with
      | .nx en2 => forE k f xs en2
      | .ct en2 => forE k f xs en2
      | .brk en2 => .nx en2
      | r => r) = _
    rw [show k x = some as from h1, Option.bind_some, h2]
    rcases h3 with h3 | h3 <;> simp only [h3] <;> exact h5
/-- a loop over names, by what holds beside the count -/
theorem for_ix {v : Nat} {mi : En → RM (List T)} {f : En → SR} {xs : List T} (Q : Nat → En → Prop) (en : En) {en0 : En} (hm : mi en = .ok xs en0) (h0 : Q 0 en0) (h : ∀ i (hi : i < xs.length) en, Q i en → ∃ en1 en2, stow en v (mkS xs[i]) = some en1 ∧ (f en1 = .nx en2 ∨ f en1 = .ct en2) ∧ Q (i + 1) en2) : ∃ en', fFor (kName v) mi f en = .nx en' ∧ Q xs.length en' := by
  obtain ⟨en', h1, h2⟩ := forE_ix (k := kName v) (f := f) xs Q 0 (fun i hi en q => by
    rw [Nat.zero_add] at q ⊢
    obtain ⟨en1, en2, a, b, c⟩ := h i hi en q
    exact ⟨_, en1, en2, rfl, by rw [stows_cons, a]; rfl, b, c⟩) en0 h0
  refine ⟨en', ?_, by rwa [Nat.zero_add] at h2⟩
  show (mi en).s _ = _
  rw [hm]; exact h1
theorem forN_ix {v i : Nat} {f : En → SR} {xs : List T} (Q : Nat → En → Prop) (en : En) (hn : notOwn (weak en i) i = true) (hm : (at_ (weak en i) i).bind items = some xs) (h0 : Q 0 (weak en i)) (h : ∀ j (hj : j < xs.length) en, Q j en → ∃ en1 en2, stow en v (mkS xs[j]) = some en1 ∧ (f en1 = .nx en2 ∨ f en1 = .ct en2) ∧ Q (j + 1) en2) : ∃ en', fForN (kName v) i f en = .nx en' ∧ Q xs.length en' := by
  obtain ⟨en', h1, h2⟩ := forE_ix (k := kName v) (f := f) xs Q 0 (fun i hi en q => by
    rw [Nat.zero_add] at q ⊢
    obtain ⟨en1, en2, a, b, c⟩ := h i hi en q
    exact ⟨_, en1, en2, rfl, by rw [stows_cons, a]; rfl, b, c⟩) _ h0
  refine ⟨en', ?_, by rwa [Nat.zero_add] at h2⟩
  show (if _ then _ else _) = _
  rw [if_pos hn]
  simp only [hm]; exact h1
/-- a comprehension of things told one by one -/
theorem lcL_map {v : Nat} {te : En → R T} {en : En} {G : T → T} : ∀ {xs : List T}, (∀ x ∈ xs, te (en.set v (mkS x)) = .ok (G x)) → lcL (kName v) gYes te en xs = .ok (xs.map G)
  | [], _ => rfl
  | x :: xs, h => by
    unfold lcL
    simp only [kName_ev, R.of_some, R.bind_ok, setE_cons, setE_nil, gYes_ev, if_true, h x (List.mem_cons_self ..), lcL_map (xs := xs) fun y m => h y (List.mem_cons_of_mem _ m), List.map_cons]
theorem lc_rng {vs : List Nat} {v : Nat} {gs : En → R (List T)} {te : En → R T} {en : En} {a : Int} {n : Nat} {G : Nat → D} (hg : gs en = .ok (rng a 1 n)) (hn : n < 16777216) (h : ∀ i, i < n → te ((wipeE en vs).set v (.v (.d (.int (a + i))))) = .ok (.d (G i))) : gLc vs gs (kName v) gYes te en = .ok (.l (((List.range n).map G).map T.d)) := by
  rw [gLc_ev, hg]
  simp only [R.bind_ok]
  rw [if_pos (show (rng a 1 n).length < most by rw [rng_len]; exact hn)]
  have : ∀ (L : List Nat), (∀ i ∈ L, i < n) → lcL (kName v) gYes te (wipeE en vs) (L.map fun (i : Nat) => T.d (.int (a + (i : Nat) * 1))) = .ok ((L.map G).map T.d) := by
    intro L
    induction L with
    | nil => intro _; rfl
    | cons i L ih =>
      intro hL
      rw [List.map_cons]
      unfold lcL
      have e := h i (hL i (List.mem_cons_self ..))
      simp only [kName_ev, R.of_some, R.bind_ok, setE_cons, setE_nil, gYes_ev, if_true, mkS_d, Int.mul_one, e]
      have e2 := ih fun j m => hL j (List.mem_cons_of_mem _ m)
      simp only [Int.mul_one] at e2
      rw [e2]
      rfl
  have e := this (List.range n) fun i m => List.mem_range.mp m
  unfold rng
  rw [e]
  rfl
/-! the law's own draws -/
def St (ns : List Int) (i j k : Int) : T := .l [.l (ns.map fun z => T.d (.int z)), .d (.int i), .d (.int j), .d (.int k)]
def Stt (ns : List Int) (s : T) : Prop := ∃ i j k, s = St ns i j k
end Z
/-! Z: the draws that the laws make. -/
namespace Z
open PySem PySem.Spec L2
open PyProof.Rows hiding St
def d_start : En → SR :=
  (fRet (lft (gLst (aCons (gCall fList (aCons (vN 0) aNil)) (aCons (kI 0) (aCons (kI 0) (aCons (kI 0) aNil)))))))
def F_start := runP 1 1 d_start
def d_draw : En → SR :=
  (fSeq (fStore 0 (kI 3) (lft (g2 fAdd (g2 fIx (vN 0) (kI 3)) (kI 1))))
  (fSeq (fIf (lft (gT (g2 fGt (g2 fIx (vN 0) (kI 2)) (kI 0)))) (fSeq (fSet 2 (lft (g2 fMod (gCall fInt (aCons (g2 fIx (vN 0) (kI 2)) aNil)) (vN 1))))
  (fSeq (fStore 0 (kI 2) (lft (g2 fDiv (g2 fIx (vN 0) (kI 2)) (vN 1))))
  (fRet (mName 2)))) fNil)
  (fSeq (fSet 3 (lft (kI 0)))
  (fSeq (fIf (lft (gT (g2 fGt (gCall fLen (aCons (g2 fIx (vN 0) (kI 0)) aNil)) (kI 0)))) (fSet 3 (lft (gCall fAbs (aCons (g2 fIx (g2 fIx (vN 0) (kI 0)) (g2 fMod (gCall fInt (aCons (g2 fIx (vN 0) (kI 1)) aNil)) (gCall fLen (aCons (g2 fIx (vN 0) (kI 0)) aNil)))) aNil)))) fNil)
  (fSeq (fStore 0 (kI 1) (lft (g2 fAdd (g2 fIx (vN 0) (kI 1)) (kI 1))))
  (fSeq (fIf (lft (gT (g2 fGe (vN 3) (g2 fPow (kI 10) (kI 18))))) (fSeq (fStore 0 (kI 2) (lft (g2 fDiv (vN 3) (vN 1))))
  (fRet (lft (g2 fMod (gCall fInt (aCons (vN 3) aNil)) (vN 1))))) fNil)
  (fSeq (fSet 4 (lft (g2 fMod (gCall fInt (aCons (g2 fAdd (g2 fMul (g2 fAdd (vN 3) (kI 1)) (kI 48271)) (g2 fMul (g2 fIx (vN 0) (kI 3)) (kI 69621))) aNil)) (kI 2147483647))))
  (fSeq (fSet 4 (lft (g2 fMod (gCall fInt (aCons (g2 fAdd (g2 fAdd (g2 fMul (vN 4) (kI 16807)) (g2 fDiv (vN 3) (kI 97))) (g2 fIx (vN 0) (kI 3))) aNil)) (kI 2147483629))))
  (fRet (lft (g2 fMod (g2 fDiv (vN 4) (kI 11)) (vN 1))))))))))))
def F_draw := runM 5 2 d_draw
def d_oneof : En → SR :=
  (fRet (mIxNg 1 (mCallM 0 F_draw (hO (lft (gCall fLen (aCons (vN 1) aNil))) hNil))))
def F_oneof := runM 2 2 d_oneof
theorem start_St (ns : List Int) : F_start [.d (.rol (ns.map D.int))] = .ok (St ns 0 0 0) := by
  refine runP_ret rfl ⟨[.v (.d (.rol (ns.map D.int)))], ?_⟩
  simp [startE, d_start, St, most]
theorem log2_lt9000 {m : Int} (h1 : m < 1000000000) (h0 : 0 < m) : m.natAbs.log2 < 9000 := by
  have : m.natAbs < 1000000000 := by omega
  have : m.natAbs.log2 < 30 := by
    by_cases e : m.natAbs = 0
    · rw [e]; decide
    · rw [Nat.log2_lt e]; omega
  omega
theorem draw_ok {ns : List Int} (hl : ns.length ≤ 63) {s : T} (hs : Stt ns s) {m : Int} (h0 : 0 < m) (h1 : m < 1000000000) : ∃ v s', 0 ≤ v ∧ v < m ∧ F_draw s [.d (.int m)] = .ok (.d (.int v)) s' ∧ Stt ns s' := by
  obtain ⟨i, j, k, rfl⟩ := hs
  have hm := log2_lt9000 h1 h0
  have r : ∀ z : Int, 0 ≤ z % m ∧ z % m < m := fun z => ⟨Int.emod_nonneg _ (by omega), Int.emod_lt_of_pos _ h0⟩
  have ix3 : ∀ i j k, fIx (St ns i j k) (.d (.int 3)) = some (.d (.int k)) := fun i j k => rfl
  have ix2 : ∀ i j k, fIx (St ns i j k) (.d (.int 2)) = some (.d (.int j)) := fun i j k => rfl
  have ix1 : ∀ i j k, fIx (St ns i j k) (.d (.int 1)) = some (.d (.int i)) := fun i j k => rfl
  have ix0 : ∀ i j k, fIx (St ns i j k) (.d (.int 0)) = some (.l (ns.map fun z => T.d (.int z))) := fun i j k => rfl
  have st3 : ∀ i j k z (m : En → RM T) en t, m (.b (St ns i j k) :: en) = .ok (.d (.int z)) (.b (St ns i j k) :: en) → fStore 0 (kI 3) m (.b (St ns i j k) :: t) = fStore 0 (kI 3) m (.b (St ns i j k) :: t) := fun _ _ _ _ _ _ _ _ => rfl
  have s3 : ∀ i j k z (m : En → RM T) en, m (.b (St ns i j k) :: en) = .ok (.d (.int z)) (.b (St ns i j k) :: en) → fStore 0 (kI 3) m (.b (St ns i j k) :: en) = .nx (.b (St ns i j z) :: en) := fun i j k z m en h => by unfold fStore; rw [h]; rfl
  have s2 : ∀ i j k z (m : En → RM T) en, m (.b (St ns i j k) :: en) = .ok (.d (.int z)) (.b (St ns i j k) :: en) → fStore 0 (kI 2) m (.b (St ns i j k) :: en) = .nx (.b (St ns i z k) :: en) := fun i j k z m en h => by unfold fStore; rw [h]; rfl
  have s1 : ∀ i j k z (m : En → RM T) en, m (.b (St ns i j k) :: en) = .ok (.d (.int z)) (.b (St ns i j k) :: en) → fStore 0 (kI 1) m (.b (St ns i j k) :: en) = .nx (.b (St ns z j k) :: en) := fun i j k z m en h => by unfold fStore; rw [h]; rfl
  by_cases hj : 0 < j
  · refine ⟨j % m, St ns i (j / m) (k + 1), (r j).1, (r j).2, runM_ret rfl ⟨[.v (.d (.int m)), .v (.d (.int (j % m))), .n, .n], ?_⟩, _, _, _, rfl⟩
    show d_draw [.b (St ns i j k), .v (.d (.int m)), .n, .n, .n] = _
    unfold d_draw
    rw [fSeq_ev, s3 i j k (k + 1) _ _ (by simp [ix3]), sq_nx, fSeq_ev, fIf_t (by simp [ix2, hj]), fSeq_ev]
    rw [show (fSet 2 (lft (g2 fMod (gCall fInt (aCons (g2 fIx (vN 0) (kI 2)) aNil)) (vN 1)))) [.b (St ns i j (k + 1)), .v (.d (.int m)), .n, .n, .n] = .nx [.b (St ns i j (k + 1)), .v (.d (.int m)), .v (.d (.int (j % m))), .n, .n] from by simp [ix2, h0]]
    rw [sq_nx, fSeq_ev, s2 i j (k + 1) (j / m) _ _ (by simp [ix2, h0, hm]), sq_nx]
    rfl
  · have main : ∀ (c : Int), 0 ≤ c → ∃ v s', 0 ≤ v ∧ v < m ∧ (∃ e, (fSeq (fStore 0 (kI 1) (lft (g2 fAdd (g2 fIx (vN 0) (kI 1)) (kI 1))))
  (fSeq (fIf (lft (gT (g2 fGe (vN 3) (g2 fPow (kI 10) (kI 18))))) (fSeq (fStore 0 (kI 2) (lft (g2 fDiv (vN 3) (vN 1))))
  (fRet (lft (g2 fMod (gCall fInt (aCons (vN 3) aNil)) (vN 1))))) fNil)
  (fSeq (fSet 4 (lft (g2 fMod (gCall fInt (aCons (g2 fAdd (g2 fMul (g2 fAdd (vN 3) (kI 1)) (kI 48271)) (g2 fMul (g2 fIx (vN 0) (kI 3)) (kI 69621))) aNil)) (kI 2147483647))))
  (fSeq (fSet 4 (lft (g2 fMod (gCall fInt (aCons (g2 fAdd (g2 fAdd (g2 fMul (vN 4) (kI 16807)) (g2 fDiv (vN 3) (kI 97))) (g2 fIx (vN 0) (kI 3))) aNil)) (kI 2147483629))))
  (fRet (lft (g2 fMod (g2 fDiv (vN 4) (kI 11)) (vN 1)))))))) [.b (St ns i j (k + 1)), .v (.d (.int m)), .n, .v (.d (.int c)), .n] = .ret (.d (.int v)) (.b s' :: e)) ∧ Stt ns s' := by
      intro c hc
      by_cases hb : 10 ^ 18 ≤ c
      · refine ⟨c % m, St ns (i + 1) (c / m) (k + 1), (r c).1, (r c).2, ⟨[.v (.d (.int m)), .n, .v (.d (.int c)), .n], ?_⟩, _, _, _, rfl⟩
        rw [fSeq_ev, s1 i j (k + 1) (i + 1) _ _ (by simp [ix1]), sq_nx, fSeq_ev, fIf_t (by simp [hb]; exact hb), fSeq_ev, s2 (i + 1) j (k + 1) (c / m) _ _ (by simp [h0, hm]), sq_nx]
        simp [h0]
      · refine ⟨(((c + 1) * 48271 + (k + 1) * 69621) % 2147483647 * 16807 + c / 97 + (k + 1)) % 2147483629 / 11 % m, St ns (i + 1) j (k + 1), (r _).1, (r _).2, ⟨[.v (.d (.int m)), .n, .v (.d (.int c)), .v (.d (.int ((((c + 1) * 48271 + (k + 1) * 69621) % 2147483647 * 16807 + c / 97 + (k + 1)) % 2147483629)))], ?_⟩, _, _, _, rfl⟩
        rw [fSeq_ev, s1 i j (k + 1) (i + 1) _ _ (by simp [ix1]), sq_nx, fSeq_ev, fIf_f (by simp [hb]; omega), fNil_ev, sq_nx, fSeq_ev]
        have m1 : ∀ x : Int, MulOk x 48271 := fun x => .r (by decide)
        have m2 : ∀ x : Int, MulOk x 69621 := fun x => .r (by decide)
        have m3 : ∀ x : Int, MulOk x 16807 := fun x => .r (by decide)
        have l1 : Nat.log2 97 < 9000 := by decide
        have l2 : Nat.log2 11 < 9000 := by decide
        simp [ix3, m1, m2, m3, h0, l1, l2]
    have hd : ∃ c : Int, 0 ≤ c ∧ (fSeq (fSet 3 (lft (kI 0))) (fIf (lft (gT (g2 fGt (gCall fLen (aCons (g2 fIx (vN 0) (kI 0)) aNil)) (kI 0)))) (fSet 3 (lft (gCall fAbs (aCons (g2 fIx (g2 fIx (vN 0) (kI 0)) (g2 fMod (gCall fInt (aCons (g2 fIx (vN 0) (kI 1)) aNil)) (gCall fLen (aCons (g2 fIx (vN 0) (kI 0)) aNil)))) aNil)))) fNil)) [.b (St ns i j (k + 1)), .v (.d (.int m)), .n, .n, .n] = .nx [.b (St ns i j (k + 1)), .v (.d (.int m)), .n, .v (.d (.int c)), .n] := by
      by_cases hn : 0 < (ns.length : Int)
      · have b1 : 0 ≤ i % (ns.length : Int) := Int.emod_nonneg _ (by omega)
        have b2 : i % (ns.length : Int) < (ns.length : Int) := Int.emod_lt_of_pos _ hn
        have b3 : (i % (ns.length : Int)).toNat < ns.length := by omega
        have e : fIx (.l (ns.map fun z => T.d (.int z))) (.d (.int (i % (ns.length : Int)))) = some (.d (.int ns[(i % (ns.length : Int)).toNat])) := by
          rw [fIx_l, atI_nat b1 (by simpa using b2), List.getElem?_map, List.getElem?_eq_getElem b3]; rfl
        refine ⟨if ns[(i % (ns.length : Int)).toNat] < 0 then -ns[(i % (ns.length : Int)).toNat] else ns[(i % (ns.length : Int)).toNat], by split <;> omega, ?_⟩
        rw [fSeq_ev]
        have hn' : 0 < ns.length := by omega
        simp [ix0, ix1, hn', e]
      · refine ⟨0, by omega, ?_⟩
        have : ns = [] := by
          cases ns with
          | nil => rfl
          | cons _ _ => simp at hn
        subst this
        rw [fSeq_ev]
        simp [ix0]
    obtain ⟨c, hc, hd⟩ := hd
    obtain ⟨v, s', v0, v1, hv, hs'⟩ := main c hc
    refine ⟨v, s', v0, v1, runM_ret rfl ?_, hs'⟩
    obtain ⟨e, hv⟩ := hv
    refine ⟨e, ?_⟩
    show d_draw [.b (St ns i j k), .v (.d (.int m)), .n, .n, .n] = _
    unfold d_draw
    rw [fSeq_ev, s3 i j k (k + 1) _ _ (by simp [ix3]), sq_nx, fSeq_ev, fIf_f (by simp [ix2, hj]), fNil_ev, sq_nx]
    rw [fSeq_ev] at hd
    rw [fSeq_ev]
    cases e1 : (fSet 3 (lft (kI 0))) [.b (St ns i j (k + 1)), .v (.d (.int m)), .n, .n, .n] with
    | nx en1 =>
      rw [e1, sq_nx] at hd
      rw [sq_nx, fSeq_ev, hd, sq_nx]
      exact hv
    | _ => rw [e1] at hd; cases hd
end Z
/-! Z: more of the laws' common ways. -/
namespace Z
open PySem PySem.Spec L2
open PyProof.Rows hiding St
abbrev I (z : Int) : T := .d (.int z)
mutual
def beqD : D → D → Bool
  | .non, .non => true
  | .bl a, .bl b => a == b
  | .int a, .int b => a == b
  | .tup a, .tup b => beqDs a b
  | _, _ => false
def beqDs : List D → List D → Bool
  | [], [] => true
  | a :: r, b :: s => beqD a b && beqDs r s
  | _, _ => false
end
mutual
theorem beqD_eq : ∀ {a b : D}, beqD a b = true → a = b
  | .non, b, h => by cases b <;> first | rfl | cases h
  | .bl a, b, h => by
    cases b with
    | bl b => simp [beqD] at h; rw [h]
    | _ => cases h
  | .int a, b, h => by
    cases b with
    | int b => simp [beqD] at h; rw [h]
    | _ => cases h
  | .str a, b, h => by cases b <;> cases h
  | .tup a, b, h => by
    cases b with
    | tup b => rw [beqDs_eq (a := a) (b := b) h]
    | _ => cases h
  | .rol a, b, h => by cases b <;> cases h
theorem beqDs_eq : ∀ {a b : List D}, beqDs a b = true → a = b
  | [], [], _ => rfl
  | [], _ :: _, h => by cases h
  | _ :: _, [], h => by cases h
  | a :: r, b :: s, h => by
    rw [beqDs, Bool.and_eq_true] at h
    rw [beqD_eq h.1, beqDs_eq h.2]
end
def okIs (r : R T) (d : D) : Bool := match r with
  | .ok (.d e) => beqD e d
  | _ => false
theorem okIs_eq {r : R T} {d : D} (h : okIs r d = true) : r = .ok (.d d) := by
  unfold okIs at h
  split at h
  · rw [beqD_eq h]
  · cases h
theorem ret_lft {g : En → R T} {x : T} {en : En} (h : g en = .ok x) : ∃ e, fRet (lft g) en = .ret x e := ⟨en, by rw [fRet_ev, lft_ev, h]; rfl⟩
theorem small_ok {i j : Int} (h0 : -1000000 ≤ i) (h1 : i ≤ 1000000) : MulOk i j := .l (by omega)
theorem mod_range (z : Int) {p : Int} (h : 0 < p) : 0 ≤ z % p ∧ z % p < p := ⟨Int.emod_nonneg _ (by omega), Int.emod_lt_of_pos _ h⟩
theorem dvd_mod (z p : Int) : ∃ k, z % p = z + p * k := ⟨-(z / p), by rw [Int.emod_def, Int.mul_neg, Int.sub_eq_add_neg]⟩
theorem fR1_n {z : Int} (h1 : -1000000000 ≤ z) (h2 : z ≤ 1000000000) : fR1 (I z) = .ok (rng 0 1 z.toNat) := by
  show (if _ then _ else _) = _
  exact if_pos ⟨Int.le_trans (by decide) h1, Int.lt_of_le_of_lt h2 (by decide)⟩
theorem fR2_n {y z : Int} (h1 : -1000000000 ≤ y) (h2 : y ≤ 1000000000) (h3 : -1000000000 ≤ z) (h4 : z ≤ 1000000000) : fR2 (I y) (I z) = .ok (rng y 1 (z - y).toNat) := by
  show (if _ then _ else _) = _
  exact if_pos ⟨Int.le_trans (by decide) h1, Int.lt_of_le_of_lt h2 (by decide), Int.le_trans (by decide) h3, Int.lt_of_le_of_lt h4 (by decide)⟩
theorem gR1_n {g : En → R T} {en : En} {z : Int} (h : g en = .ok (I z)) (h1 : -1000000000 ≤ z) (h2 : z ≤ 1000000000) : gR1 g en = .ok (rng 0 1 z.toNat) := by
  rw [gR1_ev, h, R.bind_ok, fR1_n h1 h2]
theorem gR2_n {ga gb : En → R T} {en : En} {y z : Int} (ha : ga en = .ok (I y)) (hb : gb en = .ok (I z)) (h1 : -1000000000 ≤ y) (h2 : y ≤ 1000000000) (h3 : -1000000000 ≤ z) (h4 : z ≤ 1000000000) : gR2 ga gb en = .ok (rng y 1 (z - y).toNat) := by
  rw [gR2_ev, ha, R.bind_ok, hb, R.bind_ok, fR2_n h1 h2 h3 h4]
theorem gLR1_n {g : En → R T} {en : En} {z : Int} (h : g en = .ok (I z)) (h1 : 0 ≤ z) (h2 : z ≤ 16777216) : gLR1 g en = .ok (.l (rng 0 1 z.toNat)) := by
  rw [gLR1_ev, h, R.bind_ok]
  exact if_pos ⟨h1, h2⟩
theorem lft_n {α : Type} {g : En → R α} {en : En} {x : α} (h : g en = .ok x) : lft g en = .ok x en := by rw [lft_ev, h, RM.of_ok]
def NB (o : Sl) : Prop := ∀ z, o ≠ .b z
theorem NB.n : NB .n := fun z e => by cases e
theorem NB.v {x : T} : NB (.v x) := fun z e => by cases e
theorem NB.w {x : T} : NB (.w x) := fun z e => by cases e
theorem NB.s {o : Sl} (h : NB o) {en : En} {s : Sl} : stow (o :: en) 0 s = some (s :: en) := by
  cases o with
  | b z => exact absurd rfl (h z)
  | _ => rfl
theorem rng_at {n i : Nat} {a : Int} (h : i < (rng a 1 n).length) : (rng a 1 n)[i] = I (a + i) := by
  have h' : i < n := by rwa [rng_len] at h
  have := rng_get (a := a) (c := 1) h'
  rw [List.getElem?_eq_getElem h] at this
  injection this with this
  rw [this, Int.mul_one]
theorem rng_d (a c : Int) (n : Nat) : rng a c n = ((List.range n).map fun i => D.int (a + (i : Nat) * c)).map T.d := by
  unfold rng; rw [List.map_map]; rfl
theorem fAdd_l {as bs : List D} (h : as.length + bs.length ≤ most) : fAdd (.l (as.map T.d)) (.l (bs.map T.d)) = some (.l ((as ++ bs).map T.d)) := by
  unfold fAdd
  simp only [allD_map]
  rw [if_pos h]
theorem ints_of {P : Int → Prop} : ∀ {ys : List T}, (∀ y ∈ ys, ∃ z, y = I z ∧ P z) → ∃ zs : List Int, ys = (zs.map D.int).map T.d ∧ ∀ z ∈ zs, P z
  | [], _ => ⟨[], rfl, fun _ m => absurd m List.not_mem_nil⟩
  | y :: ys, h => by
    obtain ⟨z, rfl, hz⟩ := h y (List.mem_cons_self ..)
    obtain ⟨zs, rfl, hs⟩ := ints_of (ys := ys) fun y m => h y (List.mem_cons_of_mem _ m)
    exact ⟨z :: zs, rfl, fun w m => by
      rcases List.mem_cons.mp m with e | m
      · rw [e]; exact hz
      · exact hs w m⟩
/-- a comprehension with effects over data -/
theorem lcM_inv {vs : List Nat} {v : Nat} {te : En → RM T} (Q : En → Prop) (P : T → Prop) (h : ∀ d en, Q en → ∃ en2 y en4, stow (wipeE en vs) v (.v (.d d)) = some en2 ∧ te en2 = .ok y en4 ∧ P y ∧ Q (wipeE en4 vs)) : ∀ (ds : List D) en, Q en → ∃ ys en', lcM vs (kName v) gYes te (ds.map T.d) en = .ok ys en' ∧ ys.length = ds.length ∧ (∀ y ∈ ys, P y) ∧ Q en'
  | [], en, q => ⟨[], en, rfl, rfl, fun _ m => absurd m List.not_mem_nil, q⟩
  | d :: ds, en, q => by
    obtain ⟨en2, y, en4, h1, h2, h3, h4⟩ := h d en q
    obtain ⟨ys, en', h5, h6, h7, h8⟩ := lcM_inv Q P h ds _ h4
    refine ⟨y :: ys, en', ?_, by rw [List.length_cons, h6, List.length_cons], fun z m => ?_, h8⟩
    · rw [List.map_cons]
      unfold lcM
      simp only [kD_d, kName_ev, Option.bind_some, stowD_cons, stowD_nil, h1, gYes_ev, h2, h5, RM.bind_ok]
    · rcases List.mem_cons.mp m with e | m
      · rw [e]; exact h3
      · exact h7 z m
/-- one of many, drawn -/
theorem oneof_ok {ns : List Int} (hl : ns.length ≤ 63) {s : T} (hs : Stt ns s) {ds : List D} (h0 : 0 < ds.length) (h1 : ds.length < 1000000000) : ∃ d s', d ∈ ds ∧ F_oneof s [.l (ds.map T.d)] = .ok (.d d) s' ∧ Stt ns s' := by
  obtain ⟨v, s', v0, v1, e, hs'⟩ := draw_ok hl hs (m := (ds.length : Int)) (by omega) (by omega)
  have hv : v.toNat < ds.length := by omega
  refine ⟨ds[v.toNat], s', List.getElem_mem hv, runM_ret rfl ⟨[.w (.l (ds.map T.d))], ?_⟩, hs'⟩
  show d_oneof [.b s, .w (.l (ds.map T.d))] = _
  unfold d_oneof
  rw [fRet_ev]
  have c : mCallM 0 F_draw (hO (lft (gCall fLen (aCons (vN 1) aNil))) hNil) [.b s, .w (.l (ds.map T.d))] = .ok (I v) [.b s', .w (.l (ds.map T.d))] := by
    refine callM (hs := [.o (I ds.length)]) (x0 := s) (en1 := [.b s, .w (.l (ds.map T.d))]) (x1 := s) (xs := [I ds.length]) rfl ?_ rfl rfl e
    simp
  have e2 : fIx (.l (ds.map T.d)) (I v) = some (.d ds[v.toNat]) := by
    rw [fIx_l, atI_nat v0 (by simpa using v1), List.getElem?_map, List.getElem?_eq_getElem hv]; rfl
  unfold mIxNg
  rw [if_pos (show (at_ [.b s, .w (.l (ds.map T.d))] 1).isSome = true from rfl)]
  unfold mIxN
  rw [c]
  simp [e2]
end Z
/-! Z: enumerate of a tuple. -/
namespace Z
open PySem PySem.Spec L2
open PyProof.Rows hiding St
open AutoSeq1 (wpAny_loadPart')
theorem enumT_new (tp : Addr) (its : Array Value) (k : Nat) (dc : Option Addr) (sl : Array (Option Value)) :
    Meets (Builtin.«enumerate.__new__» ⟨[.type "enumerate", .ref tp], []⟩) (fun _ R u => u.heap.get? tp = some { cls := .type "tuple", dict := dc, data := .seq its k, slots := sl } ∧
      R (.ok (.ret (.ref (u.heap.push { cls := .type "tuple_iterator", data := .fields #[.ref tp, .int 0 0] }).objs.size)))
        { u with heap := (u.heap.push { cls := .type "tuple_iterator", data := .fields #[.ref tp, .int 0 0] }).push { cls := .type "enumerate", data := .fields #[.none, .bool false, .ref u.heap.objs.size, rawInt 0, .none, .none] } }) :=
  .of_wp fun prog w A R u h => by
    obtain ⟨hq, gq, dq, tq, oq⟩ := u
    obtain ⟨hl, h⟩ := h
    have su := sub_enumerate
    have isT : Heap.IsTuple (Shared.heap ⟨hq, gq, dq, tq, oq⟩) tp its := ⟨_, hl, rfl, k, rfl⟩
    wp_walk using wpAny_loadPart' hl
    refine wpAny_stack_any fun z => wpAny_pure ?_
    split
    · rename_i cq _ _ _ _ _
      cases (cq == Value.type "enumerate")
      · wp_walk using wpAny_loadPart' hl, wpAny_pyIter_tuple isT
        exact ⟨_, rfl, h⟩
      · wp_walk using wpAny_loadPart' hl, wpAny_pyIter_tuple isT
        exact ⟨_, rfl, h⟩
    · wp_walk using wpAny_loadPart' hl, wpAny_pyIter_tuple isT
      exact ⟨_, rfl, h⟩
section
variable {prog : Program} {w : World} {A : Around} {E : Value → Shared → Prop} {s : Shared}
theorem call_enumT {tp : Addr} {its : Array Value} {Q : Value → Shared → Prop} (isT : s.heap.IsTuple tp its)
    (q : ∀ hp', IsEnum hp' (s.heap.objs.size + 1) s.heap.objs.size 0 .none → hp'.IsTupleIter s.heap.objs.size tp 0 → hp'.objs.size = s.heap.objs.size + 2 →
      (∀ c o, s.heap.get? c = some o → hp'.get? c = some o) → Q (.ref (s.heap.objs.size + 1)) { s with heap := hp' }) :
    wpAny (model prog w) A (call (.type "enumerate") [.ref tp]) Q E s := by
  obtain ⟨⟨cq, dc, dt, sl⟩, hl, hc, k, hd⟩ := isT
  cases (show cq = .type "tuple" from hc)
  cases (show dt = .seq its k from hd)
  refine callType_new F.called_enumerate (by decide) (F.typeCall_enumerate_1 _) (F.newCall_enumerate_1 _) (fun ob => F.args_object_init_2 ob _) F.entry_enumerate_new (enumT_new tp its k dc sl) ⟨hl, ?_⟩
  have z1 : (s.heap.push { cls := .type "tuple_iterator", data := .fields #[.ref tp, .int 0 0] }).objs.size = s.heap.objs.size + 1 := Heap.size_push ..
  show _ ∧ _
  rw [z1]
  have en : IsEnum ((s.heap.push { cls := .type "tuple_iterator", data := .fields #[.ref tp, .int 0 0] }).push
      { cls := .type "enumerate", data := .fields #[.none, .bool false, .ref s.heap.objs.size, rawInt 0, .none, .none] }) (s.heap.objs.size + 1) s.heap.objs.size 0 .none := by
    have g := Heap.get?_push_size (s.heap.push { cls := .type "tuple_iterator", data := .fields #[.ref tp, .int 0 0] })
      (o := { cls := .type "enumerate", data := .fields #[.none, .bool false, .ref s.heap.objs.size, rawInt 0, .none, .none] }) rfl
    rwa [z1] at g
  refine ⟨⟨_, en, rfl⟩, q _ en ⟨_, Heap.get?_push_of_some _ (Heap.get?_push_size _ rfl), rfl, rfl⟩ (by rw [Heap.size_push, z1]) fun c o g => Heap.get?_push_of_some _ (Heap.get?_push_of_some _ g)⟩
end
theorem draws_tup {prog : Program} {w : World} {A : Around} (hh : A.handled = none) (it tp : Addr) (ne : tp ≠ it) (its : Array Value) :
    Draws prog w A it [it, tp] its.size (fun i v => its[i]? = some v) (fun i h => h.IsTupleIter it tp i ∧ h.IsTuple tp its) where
  live := fun _ _ z => let ⟨o, ho, _⟩ := z.1; ⟨o, ho⟩
  frame := fun _ _ _ z k => ⟨z.1.at fun o e => k it (by simp) o e, z.2.at fun o e => k tp (by simp) o e⟩
  item := fun i s Q E hi z q => by
    refine RZ.nextOf_tuple_item z.1 z.2 (x := its[i]) (by simp [hi]) fun hp' z1 sb => ?_
    exact q _ hp' s.toks (by simp [hi]) ⟨z1, z.2.extBut sb.extBut ne⟩ sb
  done := fun s Q E z q => RZ.nextOf_tuple_end hh z.1 z.2 (by simp) q
/-- a tuple's items with their places, each in a new pair -/
def IteT (K : PySem.W.Frag) (a : Addr) : It :=
  ⟨fun i H => ∃ (xs : List V) (x : V), SqT K H a xs ∧ xs[i]? = some x, fun i H v H' => ∃ T x, v = .ref T ∧ H T = none ∧ H' = upd H T (.tup [.int (i : Nat), x]) ∧ ∀ xs, SqT K H a xs → xs[i]? = some x, fun i H => ∃ xs : List V, SqT K H a xs ∧ xs.length ≤ i⟩
theorem turn_enumT {P : Program} {w : World} {K : PySem.W.Frag} {elts : List Expr} {kk : Nat} {tpos : Pos} (a e it : Addr) :
    Turn P w K (.Tuple elts kk tpos) (IteT K a) [e, it] e (fun i h => (∃ old, IsEnum h e it ((i : Nat) : Int) old) ∧ h.IsTupleIter it a i ∧ e ≠ it ∧ a ≠ it ∧ a ≠ e) where
  mem := by simp
  obj := fun i h st b hb => by
    obtain ⟨⟨old, he⟩, ⟨o, ho, hc, hd⟩, _⟩ := st
    rcases (show b = e ∨ b = it by simpa using hb) with z | z
    · rw [z]; exact ⟨_, he, fun v q => nomatch q⟩
    · rw [z]; exact ⟨o, ho, fun v q => by rw [hd] at q; cases q⟩
  keep := fun i h h' st k => let ⟨⟨old, he⟩, hi, hne⟩ := st; ⟨⟨old, k e (by simp) _ he⟩, hi.at fun o q => k it (by simp) o q, hne⟩
  item := by
    intro X hP hw hK hc i pins s σ H E J hf st hg
    subst hP hw hK
    obtain ⟨⟨old, he⟩, hit, ne1, ne2, ne3⟩ := st
    obtain ⟨xs, x, hq, hx⟩ := hg
    obtain ⟨its, rv, tp, hz⟩ := J.tuple hq
    obtain ⟨u, hu, ru⟩ := rv.get hx
    have el : e < s.heap.objs.size := Heap.lt_size he
    have il : it < s.heap.objs.size := by obtain ⟨_, q, _⟩ := hit; exact Heap.lt_size q
    have hlt : i < its.toArray.size := by
      have := (List.getElem?_eq_some_iff.mp hu).1
      simpa using this
    refine wpAny_pyNext_enum_itemD (draws_tup (A := X.A.in1) (J.ok.hd hc) it a ne2 its.toArray) he ⟨hit, tp⟩ hlt ne1 (by simp [ne1, Ne.symm ne3]) fun y hp' tk hy ho st2 hT sz k => ?_
    have ey : y = u := by
      have : its[i]? = some y := by simpa using hy
      rw [hu] at this; injection this with this; exact this.symm
    subst ey
    refine ⟨_, rfl, wpAny_letOwnedTupleGo_enum (s := { s with heap := hp', toks := tk + 1 }) ho fun hp'' he' sb => ?_⟩
    have hT2 : hp''.get? s.heap.objs.size = some { cls := .type "tuple", data := .seq #[.int i tk, y] } := (sb.2 _ (Nat.ne_of_gt el)).trans hT
    have new : ObjOk X.prog X.w (upd H s.heap.objs.size (.tup [.int (i : Nat), x])) hp'' s.heap.objs.size (.tup [.int (i : Nat), x]) :=
      ⟨by show 2 ≤ sizeLine; decide, [.int i tk, y], .cons ⟨_, rfl⟩ (.cons ru .nil), ⟨_, hT2, rfl, _, rfl⟩⟩
    have I1 : Inv X pins σ (upd H s.heap.objs.size (.tup [.int (i : Nat), x])) { s with heap := hp'', toks := tk + 1 } :=
      J.turnedNew (ch := [e, it]) (fun b ob hb q => (sb.2 b (fun z => hb (by simp [z]))).trans (k b ob (fun z => hb (by simp [z])) (fun z => hb (by simp [z])) q)) hf (Nat.le_refl _) new
    refine ⟨.ref s.heap.objs.size, _, I1, rfl, ⟨_, x, rfl, J.hok.fresh (Nat.le_refl _), rfl, fun ys hy => by rw [J.tuple_inj hy hq]; exact hx⟩, ⟨⟨y, ?_⟩, st2.1.at fun o q => (sb.2 it (Ne.symm ne1)).trans q, ne1, ne2, ne3⟩, fun b hb => ?_⟩
    · have e1 : ((i + 1 : Nat) : Int) = (i : Int) + 1 := by omega
      rw [e1]; exact he'
    · have bl : b < s.heap.objs.size := by
        rcases (show b = e ∨ b = it by simpa using hb) with z | z
        · rw [z]; exact el
        · rw [z]; exact il
      rw [upd_ne (Nat.ne_of_lt bl)]
      exact (hf b hb).1
  done := by
    intro X hP hw hK hc i pins s σ H E J hf st hg
    subst hP hw hK
    obtain ⟨⟨old, he⟩, hit, ne1, ne2, ne3⟩ := st
    obtain ⟨xs, hq, hx⟩ := hg
    obtain ⟨its, rv, tp, hz⟩ := J.tuple hq
    obtain ⟨f0, f1, f2, f3, f4, f5⟩ := hf it (by simp)
    have hl := rv.length
    have hT : s.TypeIs (.ref e) "enumerate" := ⟨_, he, rfl⟩
    unfold pyNext
    refine wpAny_bind (wpAny_attempt (wpAny_callSpecial?_slot (name := Str.ofString "__next__") hT F.slot_enumerate_next (wpAny_call_entry F.slot_enumerate_next hT F.entry_enumerate_next ?_ (F.args_enumerate_next_1 _))))
    show wpAny _ _ (field (.ref e) 2 >>= _) _ _ _
    refine wpAny_bind (wpAny_field he rfl (x := .ref it) rfl ?_)
    refine wpAny_bind (RZ.nextOf_tuple_end (A := X.A.in1) (J.ok.hd hc) hit tp (by simp; omega) fun hp' x eb hx' => ?_)
    obtain ⟨o, ho, hc'⟩ := hx'
    refine wpAny_bind (wpAny_isInstance (T := "StopIteration") (b := true) ⟨o, ho, hc'⟩ isSubtype_stop ?_)
    exact wpAny_pure ⟨rfl, J.turned (t' := s.toks) (fun b o hb q => eb b o hb q) f0 f1 f3 f4 f5⟩
  self := fun A i s Q E st h => let ⟨⟨_, he⟩, _⟩ := st; wpAny_pyIter_enum he h
def iEnumA (K : PySem.W.Frag) (ta : TA) : TI := fun σ H R => ta σ H fun vs H1 => ∃ a xs, vs = [.ref a] ∧ ((SqL K H1 a xs ∧ R (Ite K a) H1) ∨ (SqT K H1 a xs ∧ R (IteT K a) H1))
theorem pi_enumA {X : Cx} {e : Expr} {ta : TA} {p pos tpos : Pos} {elts : List Expr} {kk : Nat} (hg : Gl X "enumerate") (hm : X.mg "enumerate" = none) (ha : PA X [e] ta) (hs : starEach [e] X.env = [(false, eval e X.env)] := by rfl) :
    PI X (.Tuple elts kk tpos) (.Call (.Name "enumerate" p) [e] [] pos) (iEnumA X.K ta) := by
  refine ⟨fun pins s σ H R J h => ?_⟩
  refine Call_ (ld_blt J hg hm boot_enumerate (PyProof.Rows.callWith_type1 (thn (ha.run pos pins s σ H _ J h) fun us s1 ⟨vs, H1, I1, r1, q1⟩ => ?_) hs rfl))
  obtain ⟨a, xs, ex, q1⟩ := q1
  subst ex
  cases r1 with
  | cons r rr =>
    cases rr
    cases r
    have fr : ∀ b ∈ [s1.heap.objs.size + 1, s1.heap.objs.size], FpOk X pins H1 b := fun b hb => by
      have hle : s1.heap.objs.size ≤ b := by
        rcases (show b = s1.heap.objs.size + 1 ∨ b = s1.heap.objs.size by simpa using hb) with z | z
        · rw [z]; exact Nat.le_add_right _ _
        · rw [z]; exact Nat.le_refl _
      exact I1.fpOk hle (I1.hok.fresh hle)
    rcases q1 with ⟨hq, q⟩ | ⟨hq, q⟩
    · obtain ⟨its, rv, p', hz⟩ := I1.list hq
      refine call_enumerate_list p'.isList fun h' he hit hsz hk => wpAny_pyIter_enum he ?_
      have I2 : Inv X pins σ H1 { s1 with heap := h' } := I1.kept (t' := s1.toks) hk
      exact ⟨s1.heap.objs.size + 1, [s1.heap.objs.size + 1, s1.heap.objs.size], _, _, H1, rfl, I2, turn_enum a (s1.heap.objs.size + 1) s1.heap.objs.size, ⟨⟨.none, he⟩, hit, Nat.succ_ne_self _⟩, fr, q⟩
    · obtain ⟨its, rv, tp, hz⟩ := I1.tuple hq
      have tp' : s1.heap.IsTuple a its.toArray := tp
      have al : a < s1.heap.objs.size := by obtain ⟨_, z, _⟩ := tp'; exact Heap.lt_size z
      refine call_enumT tp' fun h' he hit hsz hk => wpAny_pyIter_enum he ?_
      have I2 : Inv X pins σ H1 { s1 with heap := h' } := I1.kept (t' := s1.toks) hk
      exact ⟨s1.heap.objs.size + 1, [s1.heap.objs.size + 1, s1.heap.objs.size], _, _, H1, rfl, I2, turn_enumT a (s1.heap.objs.size + 1) s1.heap.objs.size, ⟨⟨.none, he⟩, hit, Nat.succ_ne_self _, Nat.ne_of_lt al, Nat.ne_of_lt (Nat.lt_succ_of_lt al)⟩, fr, q⟩
theorem walk_enumT {K : PySem.W.Frag} {a : Addr} {xs : List V} : Walk (IteT K a) xs.length (fun H => SqT K H a xs) (YPair (fun i => some (.int (i : Nat))) (fun i => xs[i]?)) := by
  refine ⟨fun i _ hi q => ⟨xs, xs[i], q, by simp [hi]⟩, fun _ q => ⟨xs, q, Nat.le_refl _⟩, fun i H v H' _ q y => ?_⟩
  obtain ⟨T, x, e1, e2, e3, e4⟩ := y
  exact ⟨T, .int (i : Nat), x, e1, e2, e3, rfl, e4 xs q⟩
end Z
/-! Z: enumerate and zip. -/
namespace Z
open PySem PySem.Spec L2
open PyProof.Rows hiding St
def enumP : Nat → List D → List T
  | _, [] => []
  | k, d :: r => .d (.tup [.int (k : Nat), d]) :: enumP (k + 1) r
def zipP : List D → List D → List T
  | a :: r, b :: s => .d (.tup [a, b]) :: zipP r s
  | _, _ => []
theorem enumP_len : ∀ (k : Nat) (ds : List D), (enumP k ds).length = ds.length
  | _, [] => rfl
  | k, d :: r => by rw [enumP, List.length_cons, List.length_cons, enumP_len (k + 1) r]
theorem enumP_get : ∀ (k : Nat) (ds : List D) (i : Nat) (d : D), ds[i]? = some d → (enumP k ds)[i]? = some (.d (.tup [.int ((k + i : Nat) : Int), d]))
  | _, [], _, _, h => by simp at h
  | k, e :: r, 0, d, h => by
    simp at h; subst h; rfl
  | k, e :: r, i + 1, d, h => by
    rw [enumP, List.getElem?_cons_succ, enumP_get (k + 1) r i d (by simpa using h)]
    rw [show k + 1 + i = k + (i + 1) by omega]
theorem zipP_len : ∀ (as bs : List D), (zipP as bs).length = min as.length bs.length
  | [], bs => by simp [zipP]
  | a :: r, [] => by simp [zipP]
  | a :: r, b :: s => by rw [zipP, List.length_cons, zipP_len r s, List.length_cons, List.length_cons]; omega
theorem zipP_get : ∀ (as bs : List D) (i : Nat) (a b : D), as[i]? = some a → bs[i]? = some b → (zipP as bs)[i]? = some (.d (.tup [a, b]))
  | [], _, _, _, _, h, _ => by simp at h
  | _ :: _, [], _, _, _, _, h => by simp at h
  | a :: r, b :: s, 0, x, y, h, h2 => by
    simp at h h2; subst h; subst h2; rfl
  | a :: r, b :: s, i + 1, x, y, h, h2 => by
    rw [zipP, List.getElem?_cons_succ, zipP_get r s i x y (by simpa using h) (by simpa using h2)]
def fEnum : List T → Option (List T)
  | [x] => (dataOf x).map (enumP 0)
  | _ => none
def fZip : List T → Option (List T)
  | [x, y] => if (isLst x && isLst y) || (isTup x && isTup y) then (dataOf x).bind fun as => (dataOf y).map fun bs => zipP as bs else none
  | _ => none
def gPr (f : List T → Option (List T)) (gs : En → R (List T)) : En → R (List T) := fun en => (gs en).bind fun xs => .of (f xs)
def gEnum (g : En → R T) : En → R (List T) := gPr fEnum (aCons g aNil)
def gZip (ga gb : En → R T) : En → R (List T) := gPr fZip (aCons ga (aCons gb aNil))
/-- a new pair of data -/
theorem pair_ok {K : PySem.W.Frag} {H : Hp} {T0 : Addr} {x y : V} {a b : D} {G : List Addr} (h : H T0 = none) (r : RepD K H x a) (s : RepD K H y b) : Same H (upd H T0 (.tup [x, y])) ∧ ∃ F, Own K (upd H T0 (.tup [x, y])) (.ref T0) (.d (.tup [a, b])) F ∧ ∀ c ∈ F, c ∈ G := by
  have sm := same_new (o := .tup [x, y]) h
  exact ⟨sm, [], .d (.tup (.inl (.inl upd_same)) (.cons (r.mono (.of sm)) (.cons (s.mono (.of sm)) .nil))), fun _ m => absurd m List.not_mem_nil⟩
theorem RepDs.at {K : PySem.W.Frag} {H : Hp} {vs : List V} {ds : List D} {i : Nat} {v : V} (r : RepDs K H vs ds) (h : vs[i]? = some v) : ∃ d, ds[i]? = some d ∧ RepD K H v d := by
  have hl : i < ds.length := by
    rw [← r.length]
    exact (List.getElem?_eq_some_iff.mp h).1
  obtain ⟨v', G, h1, h2, _⟩ := r.owns.get (i := i) (x := .d ds[i]) (by rw [List.getElem?_map, List.getElem?_eq_getElem hl]; rfl)
  rw [h] at h1; cases h1
  cases h2 with
  | d r => exact ⟨_, List.getElem?_eq_getElem hl, r⟩
theorem it_enumL {K : PySem.W.Frag} {H : Hp} {a : Addr} {vs : List V} {ds : List D} {G : List Addr} (h : ∀ H', Kept G H H' → SqL K H' a vs) (r : RepDs K H vs ds) : ItOk K G H (Ite K a) (enumP 0 ds) := by
  unfold ItOk
  rw [enumP_len, ← r.length]
  refine walk_enum.mono h fun i H1 v H2 hi k y => ?_
  obtain ⟨T0, x, y, rfl, hn, rfl, e1, e2⟩ := y
  cases e1
  obtain ⟨d, hd, rd⟩ := r.at e2
  obtain ⟨sm, F, o, m⟩ := pair_ok (K := K) (G := G) hn (.int (i : Nat)) (rd.mono k.1)
  exact ⟨sm, _, F, by rw [enumP_get 0 ds i d hd, Nat.zero_add], o, m⟩
theorem it_enumT {K : PySem.W.Frag} {H : Hp} {a : Addr} {vs : List V} {ds : List D} {G : List Addr} (h : SqT K H a vs) (r : RepDs K H vs ds) : ItOk K G H (IteT K a) (enumP 0 ds) := by
  unfold ItOk
  rw [enumP_len, ← r.length]
  refine walk_enumT.mono (fun H' k => sqT_pst k.1 h) fun i H1 v H2 hi k y => ?_
  obtain ⟨T0, x, y, rfl, hn, rfl, e1, e2⟩ := y
  cases e1
  obtain ⟨d, hd, rd⟩ := r.at e2
  obtain ⟨sm, F, o, m⟩ := pair_ok (K := K) (G := G) hn (.int (i : Nat)) (rd.mono k.1)
  exact ⟨sm, _, F, by rw [enumP_get 0 ds i d hd, Nat.zero_add], o, m⟩
theorem it_zipL {K : PySem.W.Frag} {H : Hp} {a b : Addr} {vs ws : List V} {ds es : List D} {G : List Addr} (h : ∀ H', Kept G H H' → SqL K H' a vs) (h2 : ∀ H', Kept G H H' → SqL K H' b ws) (r : RepDs K H vs ds) (s : RepDs K H ws es) : ItOk K G H (Itz K a b) (zipP ds es) := by
  unfold ItOk
  rw [zipP_len, ← r.length, ← s.length]
  refine (walk_zip (xs := vs) (ys := ws) rfl).mono (fun H' k => ⟨h H' k, h2 H' k⟩) fun i H1 v H2 hi k y => ?_
  obtain ⟨T0, x, y, rfl, hn, rfl, e1, e2⟩ := y
  obtain ⟨d, hd, rd⟩ := r.at e1
  obtain ⟨e, he, re⟩ := s.at e2
  obtain ⟨sm, F, o, m⟩ := pair_ok (K := K) (G := G) hn (rd.mono k.1) (re.mono k.1)
  exact ⟨sm, _, F, zipP_get ds es i d e hd he, o, m⟩
theorem walk_zipT {K : PySem.W.Frag} {a b : Addr} {xs ys : List V} : Walk (RZ.ItzT K a b) (min xs.length ys.length) (fun H => SqT K H a xs ∧ SqT K H b ys) (YPair (fun i => xs[i]?) (fun i => ys[i]?)) := by
  refine ⟨fun i _ hi q => ?_, fun _ q => ⟨xs, ys, q.1, q.2, by omega⟩, fun i H v H' _ q y => ?_⟩
  · have l1 : i < xs.length := by omega
    have l2 : i < ys.length := by omega
    exact ⟨xs, ys, xs[i], ys[i], q.1, q.2, by simp [l1], by simp [l2]⟩
  · obtain ⟨T0, x, z, e1, e2, e3, e4, e5⟩ := y
    exact ⟨T0, x, z, e1, e2, e3, e4 xs q.1, e5 ys q.2⟩
theorem it_zipT {K : PySem.W.Frag} {H : Hp} {a b : Addr} {vs ws : List V} {ds es : List D} {G : List Addr} (h : SqT K H a vs) (h2 : SqT K H b ws) (r : RepDs K H vs ds) (s : RepDs K H ws es) : ItOk K G H (RZ.ItzT K a b) (zipP ds es) := by
  unfold ItOk
  rw [zipP_len, ← r.length, ← s.length]
  refine (walk_zipT (xs := vs) (ys := ws)).mono (fun H' k => ⟨sqT_pst k.1 h, sqT_pst k.1 h2⟩) fun i H1 v H2 hi k y => ?_
  obtain ⟨T0, x, y, rfl, hn, rfl, e1, e2⟩ := y
  obtain ⟨d, hd, rd⟩ := r.at e1
  obtain ⟨e, he, re⟩ := s.at e2
  obtain ⟨sm, F, o, m⟩ := pair_ok (K := K) (G := G) hn (rd.mono k.1) (re.mono k.1)
  exact ⟨sm, _, F, zipP_get ds es i d e hd he, o, m⟩
/-- a list or tuple of data: how it stands, and stays -/
theorem seq_own {K : PySem.W.Frag} {H : Hp} {v : V} {x : T} {G : List Addr} {ds : List D} (o : Own K H v x G) (h : dataOf x = some ds) : ∃ a vs, v = .ref a ∧ RepDs K H vs ds ∧ ((isLst x = true ∧ isTup x = false ∧ SqL K H a vs ∧ ∀ G', (∀ c ∈ G, c ∈ G') → ∀ H', Kept G' H H' → SqL K H' a vs) ∨ (isTup x = true ∧ isLst x = false ∧ SqT K H a vs)) := by
  cases o with
  | d r =>
    cases r with
    | tup s r => cases h; exact ⟨_, _, rfl, r, .inr ⟨rfl, rfl, s⟩⟩
    | rol s r => cases h; exact ⟨_, _, rfl, r, .inl ⟨rfl, rfl, s H (Pst.refl H), fun G' _ H' k => s H' k.1⟩⟩
    | _ => cases h
  | l s r =>
    have e := allD_eq (show allD _ = some ds from h)
    subst e
    exact ⟨_, _, rfl, r.data.1, .inl ⟨rfl, rfl, SqL.of s, fun G' m H' k => SqL.of (k.2 _ (m _ List.mem_cons_self) _ s)⟩⟩
theorem enum_own {K : PySem.W.Frag} {H : Hp} {v : V} {x : T} {G : List Addr} {xs : List T} {Q : It → Hp → Prop} (o : Own K H v x G) (h : fEnum [x] = some xs) (q : ∀ J, ItOk K G H J xs → Q J H) : ∃ a vs, [v] = [.ref a] ∧ ((SqL K H a vs ∧ Q (Ite K a) H) ∨ (SqT K H a vs ∧ Q (IteT K a) H)) := by
  obtain ⟨ds, hd, rfl⟩ := Option.map_eq_some_iff.mp h
  obtain ⟨a, vs, rfl, r, z | z⟩ := seq_own o hd
  · exact ⟨a, vs, rfl, .inl ⟨z.2.2.1, q _ (it_enumL (z.2.2.2 G fun _ m => m) r)⟩⟩
  · exact ⟨a, vs, rfl, .inr ⟨z.2.2, q _ (it_enumT z.2.2 r)⟩⟩
theorem zip_own {K : PySem.W.Frag} {H : Hp} {v w : V} {x y : T} {G F : List Addr} {xs : List T} {Q : It → Hp → Prop} (o : Own K H v x G) (o2 : Own K H w y F) (h : fZip [x, y] = some xs) (q : ∀ J, ItOk K (G ++ F) H J xs → Q J H) : ∃ a b vs ws, [v, w] = [.ref a, .ref b] ∧ ((SqL K H a vs ∧ SqL K H b ws ∧ Q (Itz K a b) H) ∨ (SqT K H a vs ∧ SqT K H b ws ∧ Q (RZ.ItzT K a b) H)) := by
  have hc : ((isLst x && isLst y) || (isTup x && isTup y)) = true := by
    by_cases hc : ((isLst x && isLst y) || (isTup x && isTup y)) = true
    · exact hc
    · have h : (if ((isLst x && isLst y) || (isTup x && isTup y)) = true then (dataOf x).bind fun as => (dataOf y).map fun bs => zipP as bs else none) = some xs := h
      rw [if_neg hc] at h; cases h
  have h : (if ((isLst x && isLst y) || (isTup x && isTup y)) = true then (dataOf x).bind fun as => (dataOf y).map fun bs => zipP as bs else none) = some xs := h
  rw [if_pos hc] at h
  obtain ⟨ds, hd, h⟩ := Option.bind_eq_some_iff.mp h
  obtain ⟨es, he, rfl⟩ := Option.map_eq_some_iff.mp h
  obtain ⟨a, vs, rfl, r, z⟩ := seq_own o hd
  obtain ⟨b, ws, rfl, s, z2⟩ := seq_own o2 he
  refine ⟨a, b, vs, ws, rfl, ?_⟩
  rcases z with z | z
  · rcases z2 with z2 | z2
    · exact .inl ⟨z.2.2.1, z2.2.2.1, q _ (it_zipL (z.2.2.2 _ fun _ m => List.mem_append_left _ m) (z2.2.2.2 _ fun _ m => List.mem_append_right _ m) r s)⟩
    · rw [z.2.1, z2.2.1] at hc; simp at hc
  · rcases z2 with z2 | z2
    · rw [z.2.1, z2.2.1] at hc; simp at hc
    · exact .inr ⟨z.2.2, z2.2.2, q _ (it_zipT z.2.2 z2.2.2 r s)⟩
section
variable {X : Cx} {W : WX} {a b : Expr} {ga gb : En → R T} {p pos tpos : Pos} {elts : List Expr} {kk : Nat}
theorem i_enum (hm : X.mg "enumerate" = none) (h : PV X W a ga) (hg : Gl X "enumerate" := by rfl) (hs : starEach [a] X.env = [(false, eval a X.env)] := by rfl) : PIv X W (.Tuple elts kk tpos) (.Call (.Name "enumerate" p) [a] [] pos) (gEnum ga) := by
  obtain ⟨t, pp, s⟩ := av_cons h av_nil (by rw [hs]; rfl)
  refine ⟨_, pi_enumA hg hm pp hs, fun σ H en Q ve q => s σ H en _ ve ?_⟩
  unfold gEnum gPr at q
  cases e : aCons ga aNil en with
  | ok xs =>
    rw [e] at q
    intro vs H' sm w
    simp only [R.bind_ok] at q
    cases ef : fEnum xs with
    | none => rw [ef] at q; exact q.elim
    | some ys =>
      rw [ef] at q
      cases w with
      | nil => cases ef
      | cons o t => cases t with
        | nil => exact enum_own o ef fun J j => q J H' _ sm j
        | cons _ _ => cases ef
  | ex c => rw [e] at q; exact q
  | no => rw [e] at q; exact q
theorem j_enum (hm : X.mg "enumerate" = none) (h : PN X W a ga) (hg : Gl X "enumerate" := by rfl) (hs : starEach [a] X.env = [(false, eval a X.env)] := by rfl) : PIn X W (.Tuple elts kk tpos) (.Call (.Name "enumerate" p) [a] [] pos) (gEnum ga) := by
  obtain ⟨t, pp, s⟩ := an_cons h an_nil (by rw [hs]; rfl)
  refine ⟨_, pi_enumA hg hm pp hs, fun σ H en Q ve q => s σ H en _ ve ?_⟩
  unfold gEnum gPr at q
  cases e : aCons ga aNil en with
  | ok xs =>
    rw [e] at q
    intro vs H' F sm w fr
    simp only [R.bind_ok] at q
    cases ef : fEnum xs with
    | none => rw [ef] at q; exact q.elim
    | some ys =>
      rw [ef] at q
      cases w with
      | nil => cases ef
      | cons o t => cases t with
        | nil =>
          rw [List.append_nil] at fr
          exact enum_own o ef fun J j => q J H' _ sm j fr o.there
        | cons _ _ => cases ef
  | ex c => rw [e] at q; exact q
  | no => rw [e] at q; exact q
theorem i_zip (hm : X.mg "zip" = none) (h : PV X W a ga) (h2 : PV X W b gb) (hg : Gl X "zip" := by rfl) (hs : starEach [a, b] X.env = (false, eval a X.env) :: starEach [b] X.env := by rfl) (hs2 : starEach [b] X.env = (false, eval b X.env) :: starEach [] X.env := by rfl) (hpl : (backTo pos (starEach [b] X.env)).any (·.1) = false := by rfl) : PIv X W (.Tuple elts kk tpos) (.Call (.Name "zip" p) [a, b] [] pos) (gZip ga gb) := by
  obtain ⟨t, pp, s⟩ := av_cons h (av_cons h2 av_nil hs2) hs
  refine ⟨_, RZ.pi_zipA hg hm pp hs hpl, fun σ H en Q ve q => s σ H en _ ve ?_⟩
  unfold gZip gPr at q
  cases e : aCons ga (aCons gb aNil) en with
  | ok xs =>
    rw [e] at q
    intro vs H' sm w
    simp only [R.bind_ok] at q
    cases ef : fZip xs with
    | none => rw [ef] at q; exact q.elim
    | some ys =>
      rw [ef] at q
      cases w with
      | nil => cases ef
      | cons o t => cases t with
        | nil => cases ef
        | cons o2 t => cases t with
          | nil => exact zip_own o o2 ef fun J j => q J H' _ sm j
          | cons _ _ => cases ef
  | ex c => rw [e] at q; exact q
  | no => rw [e] at q; exact q
theorem j_zip (hm : X.mg "zip" = none) (h : PN X W a ga) (h2 : PN X W b gb) (hg : Gl X "zip" := by rfl) (hs : starEach [a, b] X.env = (false, eval a X.env) :: starEach [b] X.env := by rfl) (hs2 : starEach [b] X.env = (false, eval b X.env) :: starEach [] X.env := by rfl) (hpl : (backTo pos (starEach [b] X.env)).any (·.1) = false := by rfl) : PIn X W (.Tuple elts kk tpos) (.Call (.Name "zip" p) [a, b] [] pos) (gZip ga gb) := by
  obtain ⟨t, pp, s⟩ := an_cons h (an_cons h2 an_nil hs2) hs
  refine ⟨_, RZ.pi_zipA hg hm pp hs hpl, fun σ H en Q ve q => s σ H en _ ve ?_⟩
  unfold gZip gPr at q
  cases e : aCons ga (aCons gb aNil) en with
  | ok xs =>
    rw [e] at q
    intro vs H' F sm w fr
    simp only [R.bind_ok] at q
    cases ef : fZip xs with
    | none => rw [ef] at q; exact q.elim
    | some ys =>
      rw [ef] at q
      cases w with
      | nil => cases ef
      | cons o t => cases t with
        | nil => cases ef
        | cons o2 t => cases t with
          | nil =>
            rw [List.append_nil] at fr
            exact zip_own o o2 ef fun J j => q J H' _ sm j fr fun c m => (List.mem_append.mp m).elim (o.there c) (o2.there c)
          | cons _ _ => cases ef
  | ex c => rw [e] at q; exact q
  | no => rw [e] at q; exact q
/-- what is not ours is in no list of ours -/
theorem EOk.not_own {K : PySem.W.Frag} {H : Hp} {σ : L2.St} {en : En} {Fs : Ft} {i : Nat} {x : T} {v : V} (ok : EOk K H σ en Fs) (hw : notOwn en i = true) (e : at_ en i = some x) (o : Own K H v x (Fs i)) : ∀ c ∈ Fs i, ¬ InO en Fs c := fun c m z => by
  obtain ⟨j, z1, z2⟩ := z
  by_cases hj : j = i
  · subst hj
    unfold notOwn at hw
    unfold ownAt at z1
    cases es : en[j]? with
    | none => rw [es] at hw; cases hw
    | some y =>
      rw [es] at hw z1
      cases y with
      | v y =>
        cases y with
        | d d =>
          have : x = .d d := by unfold at_ at e; rw [es] at e; cases e; rfl
          subst this
          rw [o.dnil] at m; cases m
        | l _ => cases hw
      | w y => exact absurd rfl z1
      | n => cases hw
      | b y => cases hw
  · exact ok.dis j i c hj z1 z2 m
def fForE (k : T → Option Ass) (i : Nat) (f : En → SR) : En → SR := fun en => let en' := weak en i
  if notOwn en' i = true then match (at_ en' i).bind fun x => fEnum [x] with
    | some xs => forE k f xs en'
    | none => .no
  else .no
def fForZ (k : T → Option Ass) (i j : Nat) (f : En → SR) : En → SR := fun en => let en' := weak (weak en i) j
  if notOwn en' i = true ∧ notOwn en' j = true then match (at_ en' i).bind fun x => (at_ en' j).bind fun y => fZip [x, y] with
    | some xs => forE k f xs en'
    | none => .no
  else .no
variable {f : En → SR} {body : List Stmt} {k : T → Option Ass}
theorem s_forE (i : Nat) {x : Str} {px : Pos} (cz : Cz X W) (hm : X.mg "enumerate" = none) (hg : PTg X (.Tuple elts kk tpos) k) (hb : PBl X W body f) (hN : X.N[i]? = some x := by rfl) (hv : Vis X.env.scope x := by first | exact Or.inl rfl | exact Or.inr (Or.inl rfl) | exact Or.inr (Or.inr rfl)) (he : Gl X "enumerate" := by rfl) (hst : starEach [.Name x px] X.env = [(false, eval (.Name x px) X.env)] := by rfl)
    (hs : ∀ y, foldedSetIterable (.Call (.Name "enumerate" p) [.Name x px] [] pos) X.env y = pure y := by intro _; rfl) (hd : (x == ("__debug__" : Str)) = false := by decide) (hcd : (x == ("__classdict__" : Str)) = false := by decide) {lpos : Pos} : PSt X W (.For (.Tuple elts kk tpos) (.Call (.Name "enumerate" p) [.Name x px] [] pos) body [] lpos) (fForE k i f) := by
  obtain ⟨t2, p2, s2⟩ := hb
  refine ⟨_, ps_for cz.hp cz.calm (pi_enumA he hm (pa_cons (pe_var hN hv hd hcd) pa_nil (by rw [hst]; rfl)) hst) hg p2 hs, fun σ H en Fs D ok q => ?_⟩
  unfold fForE at q
  have a : Aft X.K H Fs σ en H Fs σ (Z.weak en i) [] := (Aft.refl ok).weak i
  simp only at q
  split at q
  · rename_i hw
    cases e : at_ (Z.weak en i) i with
    | none => rw [e] at q; exact q.elim
    | some x =>
      rw [e] at q
      simp only [Option.bind_some] at q
      cases ei : fEnum [x] with
      | none => rw [ei] at q; exact q.elim
      | some xs =>
        rw [ei] at q
        obtain ⟨v, h1, h2⟩ := a.ok.has i x e
        exact ⟨v, h1, enum_own (Q := forQ X.K k t2 D σ) h2 ei fun J iok => sp_for s2 a iok h2.there (a.ok.not_own hw e h2) (fun c m => .inl ⟨i, m⟩) q⟩
  · exact q.elim
theorem s_forZ (i j : Nat) {x y : Str} {px py : Pos} (cz : Cz X W) (hm : X.mg "zip" = none) (hg : PTg X (.Tuple elts kk tpos) k) (hb : PBl X W body f) (hN : X.N[i]? = some x := by rfl) (hN2 : X.N[j]? = some y := by rfl) (hv : Vis X.env.scope x := by first | exact Or.inl rfl | exact Or.inr (Or.inl rfl) | exact Or.inr (Or.inr rfl)) (hv2 : Vis X.env.scope y := by first | exact Or.inl rfl | exact Or.inr (Or.inl rfl) | exact Or.inr (Or.inr rfl)) (he : Gl X "zip" := by rfl) (hst : starEach [.Name x px, .Name y py] X.env = (false, eval (.Name x px) X.env) :: starEach [.Name y py] X.env := by rfl) (hst2 : starEach [.Name y py] X.env = (false, eval (.Name y py) X.env) :: starEach [] X.env := by rfl) (hpl : (backTo pos (starEach [.Name y py] X.env)).any (·.1) = false := by rfl)
    (hs : ∀ z, foldedSetIterable (.Call (.Name "zip" p) [.Name x px, .Name y py] [] pos) X.env z = pure z := by intro _; rfl) (hd : (x == ("__debug__" : Str)) = false := by decide) (hcd : (x == ("__classdict__" : Str)) = false := by decide) (hd2 : (y == ("__debug__" : Str)) = false := by decide) (hcd2 : (y == ("__classdict__" : Str)) = false := by decide) {lpos : Pos} : PSt X W (.For (.Tuple elts kk tpos) (.Call (.Name "zip" p) [.Name x px, .Name y py] [] pos) body [] lpos) (fForZ k i j f) := by
  obtain ⟨t2, p2, s2⟩ := hb
  refine ⟨_, ps_for cz.hp cz.calm (RZ.pi_zipA he hm (pa_cons (pe_var hN hv hd hcd) (pa_cons (pe_var hN2 hv2 hd2 hcd2) pa_nil hst2) hst) hst hpl) hg p2 hs, fun σ H en Fs D ok q => ?_⟩
  unfold fForZ at q
  have a : Aft X.K H Fs σ en H Fs σ (Z.weak (Z.weak en i) j) [] := ((Aft.refl ok).weak i).weak j
  simp only at q
  split at q
  · rename_i hw
    cases e : at_ (Z.weak (Z.weak en i) j) i with
    | none => rw [e] at q; exact q.elim
    | some x =>
      cases e2 : at_ (Z.weak (Z.weak en i) j) j with
      | none => rw [e, e2] at q; exact q.elim
      | some y =>
        rw [e, e2] at q
        simp only [Option.bind_some] at q
        cases ei : fZip [x, y] with
        | none => rw [ei] at q; exact q.elim
        | some xs =>
          rw [ei] at q
          obtain ⟨v, h1, h2⟩ := a.ok.has i x e
          obtain ⟨u, h3, h4⟩ := a.ok.has j y e2
          refine ⟨v, h1, u, h3, zip_own (Q := forQ X.K k t2 D σ) h2 h4 ei fun J iok => sp_for s2 a iok (fun c m => (List.mem_append.mp m).elim (h2.there c) (h4.there c)) (fun c m => (List.mem_append.mp m).elim (a.ok.not_own hw.1 e h2 c) (a.ok.not_own hw.2 e2 h4 c)) (fun c m => .inl ((List.mem_append.mp m).elim (fun z => ⟨i, z⟩) fun z => ⟨j, z⟩)) q⟩
  · exact q.elim
end
end Z
/-! Z: what lies the other way about. -/
namespace Z
open PySem PySem.Spec L2
open PyProof.Rows hiding St
section
variable {prog : Program} {w : World} {A : Around} {E : Value → Shared → Prop} {s : Shared}
theorem applied_rev {sl : Addr} {n : Nat} {tk : Tok} {Q : Int × Int × Nat → Shared → Prop} (hs : s.heap.IsSliceOf sl .none .none (.int (-1) tk))
    (q : Q ((n : Int) - 1, -1, n) s) : wpAny (model prog w) A (Builtin.Slice.sliceApplied (.ref sl) (pure (n : Int))) Q E s := by
  obtain ⟨ob, e1, e2, e3⟩ := id hs
  unfold Builtin.Slice.sliceApplied Builtin.Slice.sliceFields
  refine wpAny_bind (wpAny_bind (wpAny_field e1 e3 (x := .none) rfl (wpAny_bind (wpAny_field e1 e3 (x := .none) rfl (wpAny_bind (wpAny_field e1 e3 (x := .int (-1) tk) rfl (wpAny_pure ?_)))))))
  refine wpAny_bind (slicePart_int ?_)
  show wpAny _ _ (if ((-1 : Int) == 0) = true then _ else _) _ _ s
  rw [if_neg (by decide)]
  refine wpAny_bind (slicePart_none (wpAny_bind (slicePart_none (wpAny_bind (wpAny_pure ?_)))))
  show wpAny _ _ (match Builtin.Slice.sliceAdjust none none (-1) (n : Int) with | (lo, hi) => pure (lo, (-1 : Int), Builtin.Slice.slicePlaces lo hi (-1))) _ _ s
  have ea : Builtin.Slice.sliceAdjust none none (-1) (n : Int) = ((n : Int) - 1, -1) := by
    unfold Builtin.Slice.sliceAdjust
    simp
  rw [ea]
  show wpAny _ _ (pure ((n : Int) - 1, (-1 : Int), Builtin.Slice.slicePlaces ((n : Int) - 1) (-1) (-1))) _ _ s
  have ep : Builtin.Slice.slicePlaces ((n : Int) - 1) (-1) (-1) = n := by
    unfold Builtin.Slice.slicePlaces
    rw [if_neg (by decide)]
    by_cases h : (n : Int) - 1 > -1
    · rw [if_pos h, show -(-1 : Int) = 1 from rfl, Int.ediv_one]; omega
    · rw [if_neg h]; omega
  rw [ep]
  exact wpAny_pure q
theorem fm_all {α : Type} : ∀ l : List α, ((List.range l.length).filterMap fun m => l[m]?) = l
  | [] => rfl
  | x :: l => by
    rw [List.length_cons, List.range_succ_eq_map, List.filterMap_cons]
    simp only [List.getElem?_cons_zero, List.filterMap_map]
    have : ((fun m => (x :: l)[m]?) ∘ Nat.succ) = fun m => l[m]? := by
      funext m
      simp
    rw [this, fm_all l]
theorem fm_congr {α β : Type} {f g : α → Option β} : ∀ {l : List α}, (∀ x ∈ l, f x = g x) → l.filterMap f = l.filterMap g
  | [], _ => rfl
  | x :: l, h => by
    rw [List.filterMap_cons, List.filterMap_cons, h x (List.mem_cons_self ..), fm_congr (l := l) fun y m => h y (List.mem_cons_of_mem _ m)]
theorem pick_rev (xs : Array Value) : ((List.range xs.size).filterMap fun (m : Nat) => xs[((xs.size : Int) - 1 + (m : Int) * (-1)).toNat]?).toArray = xs.toList.reverse.toArray := by
  congr 1
  have e := fm_all xs.toList.reverse
  rw [List.length_reverse, Array.length_toList] at e
  rw [← e]
  have e2 := fm_all xs.toList.reverse
  rw [List.length_reverse, Array.length_toList] at e2
  rw [e2]
  refine (fm_congr fun m hm => ?_).trans e
  have hm := List.mem_range.mp hm
  rw [List.getElem?_reverse (by simpa using hm), show ((xs.size : Int) - 1 + (m : Int) * (-1)).toNat = xs.size - 1 - m by omega]
  simp
theorem item_tup_rev {tp sl : Addr} {its : Array Value} {tk : Tok} {Q : Value → Shared → Prop} (ht : IsTup s.heap tp its) (hs : s.heap.IsSliceOf sl .none .none (.int (-1) tk))
    (q : Q (.ref s.heap.objs.size) { s with heap := s.heap.push { cls := .type "tuple", data := .seq its.toList.reverse.toArray } })
    (hsz : its.size ≤ sizeLine) : wpAny (model prog w) A (getItem (.ref tp) (.ref sl)) Q E s := by
  have sok : sizeOk (.seq its.toList.reverse.toArray) := by
    show its.toList.reverse.toArray.size ≤ sizeLine
    rw [List.size_toArray, List.length_reverse, Array.length_toList]
    exact hsz
  obtain ⟨ob, e1, e2, e3⟩ := id hs
  have tys : s.TypeIs (.ref sl) "slice" := ⟨ob, e1, e2⟩
  unfold getItem
  try with_reducible refine wpAny_holding ?_
  first | refine wpAny_bind (wpAny_pure ?_) | skip
  refine wpAny_bind (wpAny_sequenceKey ht.typeIs (by decide) ?_)
  refine wpAny_bind (wpAny_callSpecial?_slot (name := Str.ofString "__getitem__") ht.typeIs PyProof.Rows.slot_tuple_getitem (wpAny_call_entry PyProof.Rows.slot_tuple_getitem ht.typeIs entry_tuple_getitem ?_ (args_tuple_getitem _ _)))
  show wpAny _ _ (Builtin.Tuple.tupleItemsOf (.ref tp) >>= _) _ _ s
  refine wpAny_bind (tupleItemsOf_ ht ?_)
  refine wpAny_bind (wpAny_typeOf tys ?_)
  rw [if_pos (by decide)]
  refine wpAny_bind (applied_rev hs ?_)
  have hno : ¬ (((((its.size : Nat) : Int) - 1) == 0 && (-1 : Int) == 1 && its.size == its.size) = true) := by simp
  show wpAny _ _ (if ((((its.size : Nat) : Int) - 1) == 0 && (-1 : Int) == 1 && its.size == its.size) = true then _ else _) _ _ s
  rw [if_neg hno, pick_rev]
  first
    | exact wpAny_bind (m := Builtin.Tuple.tupleExact _) (wpAny_newObj_type (wpAny_pure ⟨_, rfl, wpAny_pure q⟩) sok)
    | exact wpAny_bind (m := Builtin.Tuple.tupleExact _) (wpAny_newObj_type (wpAny_bind (wpAny_pure (wpAny_pure ⟨_, rfl, wpAny_pure q⟩))) sok)
    | exact wpAny_bind (wpAny_bind (m := Builtin.Tuple.tupleExact _) (wpAny_newObj_type (wpAny_pure (wpAny_pure ⟨_, rfl, wpAny_pure q⟩)) sok))
    | exact wpAny_bind (wpAny_bind (m := Builtin.Tuple.tupleExact _) (wpAny_newObj_type (wpAny_pure ⟨_, rfl, wpAny_pure q⟩) sok))
end
def tRevA (K : PySem.W.Frag) (te : TE) : TE := fun σ H Q => te σ H fun x H1 => (∃ a xs, x = .ref a ∧ SqL K H1 a xs ∧ ∀ p, H1 p = none → Q (.ref p) (upd H1 p (.lst xs.reverse))) ∨ (∃ a xs, x = .ref a ∧ SqT K H1 a xs ∧ ∀ p, H1 p = none → Q (.ref p) (upd H1 p (.tup xs.reverse)))
theorem pe_revA {X : Cx} {e : Expr} {te : TE} {k : Nat} {p1 p2 p3 pos : Pos} (he : PE X e te) : PE X (.Subscript e (.Slice none none (some (.UnaryOp .USub (.Constant (.int 1) k p1) p2)) p3) pos) (tRevA X.K te) := by
  refine ⟨fun pins s σ H Q J h => ?_⟩
  refine Subscript_ (thn (he.run pins s σ H _ J h) fun v s1 ⟨x, H1, J1, r1, q1⟩ => ?_)
  have hst : PO X (some (.UnaryOp .USub (.Constant (.int 1) k p1) p2)) (tPart (tUn (rU fun i => .int (-i)) (tC (.int 1)))) := po_some (pe_un un_neg pe_int)
  refine wpAny_Slice (thn (po_none.run pins s1 σ H1 (fun o H2 => o = none ∧ H2 = H1) J1 ⟨rfl, rfl⟩) fun vl s2 ⟨l, H2, J2, pl, el, e2⟩ => ?_)
  subst el e2
  refine thn (po_none.run pins s2 σ H2 (fun o H3 => o = none ∧ H3 = H2) J2 ⟨rfl, rfl⟩) fun vu s3 ⟨u, H3, J3, pu, eu, e3⟩ => ?_
  subst eu e3
  refine thn (hst.run pins s3 σ H3 (fun o H4 => o = some (-1) ∧ H4 = H3) J3 ⟨1, rfl, -1, rfl, rfl, rfl⟩) fun vs s4 ⟨o, H4, J4, ps, eo, e4⟩ => ?_
  subst eo e4
  have J5 : Inv X pins σ H4 { s4 with heap := s4.heap.push { cls := .type "slice", data := .fields #[vl, vu, vs] } } := J4.kept (t' := s4.toks) fun b ob q => Heap.get?_push_of_some _ q
  rcases q1 with ⟨a, xs, ex, hx, q⟩ | ⟨a, xs, ex, hx, q⟩
  · subst ex
    cases r1
    obtain ⟨its, r, ht, hz⟩ := J5.list hx
    have hlen := r.length
    show wpAny (model X.prog X.w) X.A (subscriptTail e (.Slice none none (some (.UnaryOp .USub (.Constant (.int 1) k p1) p2)) p3) (.ref a) (.ref s4.heap.objs.size)) (EP X pins σ Q) X.xe { s4 with heap := s4.heap.push { cls := .type "slice", data := .fields #[vl, vu, vs] } }
    refine tail_any (ops := [.ref a, .ref s4.heap.objs.size]) ht.isList.typeIs (PySem.slot_list_getitem.lookup) ?_ (by with_unfolding_all rfl)
    refine wpAny_getItem_list_slice ht.isList (Heap.IsSliceOf.new _ vl vu vs) pl pu ps (by decide) ?_ (by rw [List.size_toArray]; omega)
    rw [PySem.W.krv_pick]
    refine ⟨.ref _, _, J5.laid (t' := s4.toks) (o := .lst xs.reverse) (fun b ob q => Heap.get?_push_of_some _ q) (Nat.le_refl _) ?_, rfl, q _ (J5.hok.fresh (Nat.le_refl _))⟩
    exact ⟨by rw [List.length_reverse]; exact hz, _, 0, r.reverse, Heap.get?_push_size _ rfl⟩
  · subst ex
    cases r1
    obtain ⟨its, r, ht, hz⟩ := J5.tuple hx
    have hlen := r.length
    cases pl
    cases pu
    cases ps with
    | int _ tk =>
    show wpAny (model X.prog X.w) X.A (subscriptTail e (.Slice none none (some (.UnaryOp .USub (.Constant (.int 1) k p1) p2)) p3) (.ref a) (.ref s4.heap.objs.size)) (EP X pins σ Q) X.xe { s4 with heap := s4.heap.push { cls := .type "slice", data := .fields #[.none, .none, .int (-1) tk] } }
    refine tail_any (ops := [.ref a, .ref s4.heap.objs.size]) ht.typeIs PyProof.Rows.slot_tuple_getitem.lookup ?_ (by with_unfolding_all rfl)
    refine item_tup_rev ht (Heap.IsSliceOf.new _ _ _ _) ?_ (by rw [List.size_toArray]; omega)
    refine ⟨.ref _, _, J5.laid (t' := s4.toks) (o := .tup xs.reverse) (fun b ob q => Heap.get?_push_of_some _ q) (Nat.le_refl _) ?_, rfl, q _ (J5.hok.fresh (Nat.le_refl _))⟩
    exact ⟨by rw [List.length_reverse]; exact hz, _, r.reverse, IsTup.new _ _⟩
theorem RepDs.snoc {K : PySem.W.Frag} {H : Hp} {v : V} {d : D} : ∀ {vs : List V} {ds : List D}, RepDs K H vs ds → RepD K H v d → RepDs K H (vs ++ [v]) (ds ++ [d])
  | _, _, .nil, r => .cons r .nil
  | _, _, .cons a t, r => .cons a (RepDs.snoc t r)
theorem RepDs.rev {K : PySem.W.Frag} {H : Hp} : ∀ {vs : List V} {ds : List D}, RepDs K H vs ds → RepDs K H vs.reverse ds.reverse
  | _, _, .nil => .nil
  | _, _, .cons a t => by rw [List.reverse_cons, List.reverse_cons]; exact RepDs.snoc (RepDs.rev t) a
def fRev : T → Option T
  | .d (.tup ds) => some (.d (.tup ds.reverse))
  | .d (.rol ds) => some (.l (ds.reverse.map T.d))
  | .l xs => (allD xs).map fun ds => .l (ds.reverse.map T.d)
  | _ => none
theorem n_rev {X : Cx} {W : WX} {a : Expr} {g : En → R T} {k : Nat} {p1 p2 p3 pos : Pos} (ha : PV X W a g) : PN X W (.Subscript a (.Slice none none (some (.UnaryOp .USub (.Constant (.int 1) k p1) p2)) p3) pos) (g1 fRev g) := by
  obtain ⟨t, p, s⟩ := ha
  refine ⟨_, pe_revA p, fun σ H en Q ve q => s σ H en _ ve ?_⟩
  unfold g1 at q
  cases e : g en with
  | ok x =>
    rw [e] at q
    intro v H' G sm o
    simp only [R.bind_ok] at q
    have lst : ∀ {b : Addr} {vs : List V} {ds : List D} {H' : Hp}, Same H H' → SqL X.K H' b vs → RepDs X.K H' vs ds → NQ X W σ H Q (.ok (.l (ds.reverse.map T.d))) → ∀ p, H' p = none → Q (.ref p) (upd H' p (.lst vs.reverse)) := fun {b vs ds H'} sm hs r q p hp =>
      have s2 := same_new (o := .lst vs.reverse) hp
      q _ _ [p] (sm.trans s2) (.l upd_same (r.rev.mono (.of s2)).owns) ⟨by simp, fun c m => by
        have : c = p := by simpa using m
        rw [this]; exact sm.free hp⟩
    cases o with
    | d r =>
      cases r with
      | tup hs r => exact .inr ⟨_, _, rfl, hs, fun p hp =>
          have s2 := same_new (o := .tup _) hp
          q _ _ [] (sm.trans s2) (.d (.tup (.inl (.inl upd_same)) (r.rev.mono (.of s2)))) Fresh.nil⟩
      | rol hs r => exact .inl ⟨_, _, rfl, hs _ (Pst.refl _), lst sm (hs _ (Pst.refl _)) r q⟩
      | _ => exact q.elim
    | l hs r =>
      rename_i xs F
      cases ea : allD xs with
      | none => simp only [fRev, ea] at q; exact q.elim
      | some ds =>
        have e2 := allD_eq ea
        subst e2
        simp only [fRev, allD_map] at q
        exact .inl ⟨_, _, rfl, SqL.of hs, lst sm (SqL.of hs) r.data.1 q⟩
  | ex c => rw [e] at q; exact q
  | no => rw [e] at q; exact q
/-! a module's constant -/
theorem n_glI {X : Cx} {W : WX} {x : Str} {i : Int} {tk : Tok} {pos : Pos} (hm : X.mg x = some (.int i tk)) (hg : Gl X x := by rfl) (hd : (x == ("__debug__" : Str)) = false := by decide) : PN X W (.Name x pos) (kI i) := n_glob (v := .int i) (d := .int i) hg hm ⟨tk, rfl⟩ (fun _ => .int _) hd
theorem n_glS {X : Cx} {W : WX} {x : Str} {z : Str} {tk : Tok} {pos : Pos} (hm : X.mg x = some (.str z tk)) (hg : Gl X x := by rfl) (hd : (x == ("__debug__" : Str)) = false := by decide) : PN X W (.Name x pos) (kS z) := n_glob (v := .str z) (d := .str z) hg hm ⟨tk, rfl⟩ (fun _ => .str _) hd
end Z
/-! Z: sorted ints, pop at a place, a tuple many times. -/
namespace Z
open PySem PySem.Spec L2
open PyProof.Rows hiding St
open AutoSeq1 (wpAny_loadPart')
/-! ### sorted -/
def insI (a : Int) : List Int → List Int
  | [] => [a]
  | b :: r => if a ≤ b then a :: b :: r else b :: insI a r
def srtI : List Int → List Int
  | [] => []
  | a :: r => insI a (srtI r)
theorem insI_perm (a : Int) : ∀ r, (insI a r).Perm (a :: r)
  | [] => .refl _
  | b :: r => by
    unfold insI
    by_cases h : a ≤ b
    · rw [if_pos h]
    · rw [if_neg h]; exact ((insI_perm a r).cons b).trans (.swap a b r)
theorem srtI_perm : ∀ r, (srtI r).Perm r
  | [] => .refl _
  | a :: r => (insI_perm a (srtI r)).trans ((srtI_perm r).cons a)
theorem insI_srt (a : Int) : ∀ r : List Int, r.Pairwise (· ≤ ·) → (insI a r).Pairwise (· ≤ ·)
  | [], _ => by simp [insI]
  | b :: r, h => by
    unfold insI
    obtain ⟨h1, h2⟩ := List.pairwise_cons.mp h
    by_cases hab : a ≤ b
    · rw [if_pos hab]
      exact List.pairwise_cons.mpr ⟨fun c m => by
        rcases List.mem_cons.mp m with rfl | m
        · exact hab
        · exact Int.le_trans hab (h1 c m), h⟩
    · rw [if_neg hab]
      exact List.pairwise_cons.mpr ⟨fun c m => by
        rcases List.mem_cons.mp ((insI_perm a r).mem_iff.mp m) with rfl | m
        · omega
        · exact h1 c m, insI_srt a r h2⟩
theorem srtI_srt : ∀ r : List Int, (srtI r).Pairwise (· ≤ ·)
  | [] => .nil
  | a :: r => insI_srt a _ (srtI_srt r)
theorem srt_uniq : ∀ {xs ys : List Int}, xs.Perm ys → xs.Pairwise (· ≤ ·) → ys.Pairwise (· ≤ ·) → xs = ys
  | [], ys, p, _, _ => (List.nil_perm.mp p).symm
  | x :: xs, [], p, _, _ => absurd p.length_eq (by simp)
  | x :: xs, y :: ys, p, hx, hy => by
    obtain ⟨hx1, hx2⟩ := List.pairwise_cons.mp hx
    obtain ⟨hy1, hy2⟩ := List.pairwise_cons.mp hy
    have e : x = y := by
      have m1 : x ∈ y :: ys := p.mem_iff.mp (List.mem_cons_self ..)
      have m2 : y ∈ x :: xs := p.mem_iff.mpr (List.mem_cons_self ..)
      rcases List.mem_cons.mp m1 with e | m1
      · exact e
      · rcases List.mem_cons.mp m2 with e | m2
        · exact e.symm
        · have := hy1 x m1; have := hx1 y m2; omega
    subst e
    rw [srt_uniq p.cons_inv hx2 hy2]
def fSortI : List T → Option T
  | [x] => (lstOf x).bind fun ds => (asInts ds).map fun ns => .l (((srtI ns).map D.int).map T.d)
  | _ => none
theorem ints_rep {K : PySem.W.Frag} {H : Hp} : ∀ ns : List Int, RepDs K H (ns.map V.int) (ns.map D.int)
  | [] => .nil
  | n :: r => .cons (.int n) (ints_rep r)
theorem f_sorted {X : Cx} : Bf X (.builtin "sorted") fSortI := ⟨_, cr_sortedI, fun H xs vs z Q w e q => by
  unfold fSortI at e
  split at e
  · obtain ⟨ds, e1, e⟩ := Option.bind_eq_some_iff.mp e
    obtain ⟨ns, e2, rfl⟩ := Option.map_eq_some_iff.mp e
    have e3 := asInts_eq e2
    subst e3
    cases w with
    | cons o t =>
      cases t
      obtain ⟨a, us, rfl, s, r⟩ := lstOf_ok o e1
      have e4 := r.ints
      subst e4
      refine ⟨a, ns, rfl, s, fun ns' p hp hs np => ?_⟩
      have e5 : ns' = srtI ns := srt_uniq (hp.trans (srtI_perm ns).symm) hs (srtI_srt ns)
      subst e5
      have sm := same_new (o := .lst ((srtI ns).map V.int)) np
      refine q _ _ [p] sm (.l upd_same (ints_rep _).owns) ⟨by simp, fun c m => ?_⟩
      have e : c = p := by simpa using m
      rw [e]; exact np
  · cases e⟩
/-! ### pop at a place, of data -/
def mPopAt (i : Nat) (gi : En → R T) : En → RM T := fun en => match ownAt en i with
  | some (.l xs) => match allD xs, gi en with
    | some ds, .ok (.d (.int k)) => if -9223372036854775808 ≤ k ∧ k < 9223372036854775808 then match ixN ds.length k with
      | some j => match ds[j]? with
        | some d => .ok (.d d) (setO en i (.l ((ds.eraseIdx j).map T.d)))
        | none => .no
      | none => .no
      else .no
    | _, _ => .no
  | _ => .no
theorem RepDs.erase {K : PySem.W.Frag} {H : Hp} : ∀ {vs : List V} {ds : List D} (j : Nat), RepDs K H vs ds → RepDs K H (vs.eraseIdx j) (ds.eraseIdx j)
  | _, _, _, .nil => by simp; exact .nil
  | _, _, 0, .cons a t => t
  | _, _, j + 1, .cons a t => .cons a (RepDs.erase j t)
theorem m_popAt (i : Nat) {X : Cx} {W : WX} {x : Str} {e : Expr} {p apos pos : Pos} {gi : En → R T} (hi : PV X W e gi) (hN : X.N[i]? = some x := by rfl) (hv : Vis X.env.scope x := by first | exact Or.inl rfl | exact Or.inr (Or.inl rfl) | exact Or.inr (Or.inr rfl)) (hd : (x == ("__debug__" : Str)) = false := by decide) (hcd : (x == ("__classdict__" : Str)) = false := by decide)
    (hbase : attributeBase (.Name x p) "pop" X.env (eval (.Name x p) X.env) = eval (.Name x p) X.env := by rfl)
    (hfew : ((backTo pos (starEach [e] X.env)).all (fun x => !x.1) && (backToKw pos (keywordEach [] X.env)).all (fun x => x.1.isSome) && decide ([e].length + ([] : List Keyword).length + (if ([] : List Keyword).isEmpty then 0 else 1) < 30)) = true := by rfl)
    (hline : (apos.endLine == pos.line) = true := by rfl) (hs : starEach [e] X.env = (false, eval e X.env) :: starEach [] X.env := by rfl) (hplain : (backTo pos (starEach [] X.env)).any (·.1) = false := by rfl) :
    PM X W (.Call (.Attribute (.Name x p) "pop" apos) [e] [] pos) (mPopAt i gi) := by
  obtain ⟨t, pp, s⟩ := hi
  refine ⟨_, pe_bm PySem.F.plainAttrs_list PySem.F.slot_list_pop PySem.F.type_list_pop mt_popAt (pe_var hN hv hd hcd) (pa_cons pp pa_nil hs) hbase hfew hline hs hplain, fun σ H en Fs Q ok q => ?_⟩
  unfold mPopAt at q
  cases e0 : ownAt en i with
  | none => rw [e0] at q; exact q.elim
  | some x0 =>
    rw [e0] at q
    cases x0 with
    | d d => exact q.elim
    | l xs =>
      simp only at q
      cases ea : allD xs with
      | none => rw [ea] at q; exact q.elim
      | some ds =>
        rw [ea] at q
        have exs := allD_eq ea
        subst exs
        obtain ⟨v0, h0, o0⟩ := ok.has i _ (own_at e0)
        obtain ⟨a0, vs0, F0, rfl, hH0, ow0, hF0⟩ := o0.lst
        refine ⟨_, h0, ty_list hH0, s σ H en _ ok.ven ?_⟩
        cases eg : gi en with
        | ok y =>
          rw [eg] at q
          cases y with
          | l _ => exact q.elim
          | d y =>
            cases y with
            | int k =>
              simp only at q
              split at q
              · rename_i hk
                cases ej : ixN ds.length k with
                | none => rw [ej] at q; exact q.elim
                | some j =>
                  rw [ej] at q
                  simp only at q
                  cases ed : ds[j]? with
                  | none => rw [ed] at q; exact q.elim
                  | some d =>
                    rw [ed] at q
                    intro v H' G sm o
                    have r := o.rep
                    cases r
                    have A : Aft X.K H Fs σ en H' Fs σ en [] := Aft.quiet ok sm Fresh.nil
                    obtain ⟨v1, h1, o1⟩ := A.ok.has i _ (own_at e0)
                    rw [h0] at h1; cases h1
                    obtain ⟨a1, vs, F, e3, hH, ow, hF⟩ := o1.lst
                    cases e3
                    obtain ⟨rp, hFn⟩ := ow.data
                    obtain ⟨w, hw, rw'⟩ := rp.get ed
                    obtain ⟨z1, z2, z3, z4⟩ := ixN_seq ej
                    refine ⟨a0, vs, k, j, w, rfl, rfl, hH, by omega, by omega, by rw [rp.length]; exact z1, hw, ?_⟩
                    have A2 := A.mut (G' := []) e0 h0 hH hF (xs' := (ds.eraseIdx j).map T.d) (vs' := vs.eraseIdx j) (F' := []) (rp.erase j).owns (by simp) (fun c m => by simp at m)
                    exact q w _ _ [] A2 (.d (rw'.mono (pst_upd hH)))
              · exact q.elim
            | _ => exact q.elim
        | ex c => rw [eg] at q; exact q.elim
        | no => rw [eg] at q; exact q.elim
/-! ### a tuple many times -/
section
variable {X : Cx}
theorem mulT_one (l : Addr) (its : Array Value) (n : Nat) (dd : Option Addr) (sl : Array (Option Value)) (u : Tok) :
    Meets (Builtin.«tuple.__mul__» ⟨[.ref l, .int 1 u], []⟩) (fun _ R s => s.heap.get? l = some { cls := .type "tuple", dict := dd, data := .seq its n, slots := sl } ∧ R (.ok (.ret (Value.ref l))) s) :=
  .of_wp fun prog w A R s hq => by
    obtain ⟨hp, gg, dg, tk, og⟩ := s
    obtain ⟨hl, hq⟩ := hq
    have f1 := AutoSeq1.idx_int
    have cc : (its.isEmpty || (1 : Int) == 1) = true := by simp
    wp_walk using wpAny_loadPart' hl
    repeat (first
      | (refine wpAny_ite_true (decide_eq_true cc) ?_; wp_walk using wpAny_loadPart' hl))
    exact ⟨_, rfl, hq⟩
theorem mulT_none (l : Addr) (its : Array Value) (n : Nat) (dd : Option Addr) (sl : Array (Option Value)) (x : Int) (u : Tok) (b0 : (decide (x < -(2 ^ 63)) || decide (x ≥ 2 ^ 63)) = false) (b1 : (its.isEmpty || x == 1) = false) (b2 : (decide (x ≤ 0) || its.isEmpty) = true) :
    Meets (Builtin.«tuple.__mul__» ⟨[.ref l, .int x u], []⟩) (fun _ R s => s.heap.get? l = some { cls := .type "tuple", dict := dd, data := .seq its n, slots := sl } ∧
      R (.ok (.ret (Value.ref s.heap.objs.size))) { s with heap := s.heap.push { cls := Value.type "tuple", data := Data.seq #[] }, toks := s.toks }) :=
  .of_wp fun prog w A R s hq => by
    obtain ⟨hp, gg, dg, tk, og⟩ := s
    obtain ⟨hl, hq⟩ := hq
    have f1 := AutoSeq1.idx_int
    wp_walk using wpAny_loadPart' hl
    repeat (first
      | (refine wpAny_ite_false (decide_eq_false (by rw [b0]; exact Bool.false_ne_true)) ?_; wp_walk using wpAny_loadPart' hl)
      | (refine wpAny_ite_false (decide_eq_false (by rw [b1]; exact Bool.false_ne_true)) ?_; wp_walk using wpAny_loadPart' hl)
      | (refine wpAny_ite_true (decide_eq_true b2) ?_; wp_walk using wpAny_loadPart' hl))
    exact ⟨_, rfl, hq⟩
def rRepS (K : PySem.W.Frag) : R2 := fun x y H Q => ∃ l k xs, x = .ref l ∧ y = .int k ∧ SqT K H l xs ∧ xs ≠ [] ∧ ((k = 1 ∧ Q (.ref l) H) ∨ (-1000000 ≤ k ∧ k ≤ 0 ∧ ∀ p, H p = none → Q (.ref p) (upd H p (.tup []))))
theorem op_repS : OpR X (binaryOp .Mult) (rRepS X.K) := by
  intro pins s σ H x y v u Q J rx ry h
  obtain ⟨l, k, xs, rfl, rfl, hT, hne, q⟩ := h
  cases rx
  obtain ⟨t, rfl⟩ := ry
  obtain ⟨its, r, ⟨⟨cls, dd, data, sl⟩, ho, hc, n, hd⟩, hs⟩ := J.tuple hT
  cases (show cls = .type "tuple" from hc)
  cases (show data = .seq its.toArray n from hd)
  have ni : its ≠ [] := fun e => hne (by
    have := r.length
    rw [e] at this
    exact List.eq_nil_of_length_eq_zero this)
  have hi : its.toArray.isEmpty = false := by
    cases its with
    | nil => exact absurd rfl ni
    | cons a b => rfl
  rcases q with ⟨rfl, q⟩ | ⟨h1, h2, q⟩
  · refine wpAny_binaryOp_repeat_ref (T := "tuple") (U := "int") (by decide) ⟨_, ho, rfl⟩ (fun s' => typeIs_int s' 1 t) noFill_tuple_mul F.fills_int_mul F.slot_int_rmul repeat_tuple F.slot_int_index.lookup
      (call_meets F.slot_int_rmul (typeIs_int s 1 t) F.entry_int_rmul (F.args_int_rmul_2 _ _) (int_rmul_tuple 1 t l its.toArray n dd sl)
        ⟨ho, rfl, ⟨_, ho, rfl⟩, call_meets F.slot_tuple_mul ⟨_, ho, rfl⟩ F.entry_tuple_mul (F.args_tuple_mul_2 _ _) (mulT_one l its.toArray n dd sl t) ⟨ho, ?_⟩⟩)
    exact ⟨.ref l, H, J, rfl, q⟩
  · have b0 : (decide (k < -(2 ^ 63)) || decide (k ≥ 2 ^ 63)) = false := by
      rw [decide_eq_false (by omega), decide_eq_false (by omega)] <;> rfl
    have b1 : (its.toArray.isEmpty || k == 1) = false := by
      rw [hi, Bool.false_or]
      exact beq_eq_false_iff_ne.mpr (by omega)
    have b2 : (decide (k ≤ 0) || its.toArray.isEmpty) = true := by
      rw [decide_eq_true h2]; rfl
    refine wpAny_binaryOp_repeat_ref (T := "tuple") (U := "int") (by decide) ⟨_, ho, rfl⟩ (fun s' => typeIs_int s' k t) noFill_tuple_mul F.fills_int_mul F.slot_int_rmul repeat_tuple F.slot_int_index.lookup
      (call_meets F.slot_int_rmul (typeIs_int s k t) F.entry_int_rmul (F.args_int_rmul_2 _ _) (int_rmul_tuple k t l its.toArray n dd sl)
        ⟨ho, rfl, ⟨_, ho, rfl⟩, call_meets F.slot_tuple_mul ⟨_, ho, rfl⟩ F.entry_tuple_mul (F.args_tuple_mul_2 _ _) (mulT_none l its.toArray n dd sl k t b0 b1 b2) ⟨ho, ?_⟩⟩)
    refine ⟨.ref s.heap.objs.size, _, J.laid (t' := s.toks) (o := .tup []) (fun b ob q => Heap.get?_push_of_some _ q) (Nat.le_refl _) ?_, rfl, q _ (J.hok.fresh (Nat.le_refl _))⟩
    exact ⟨Nat.zero_le _, [], .nil, IsTup.new _ _⟩
/-- a tuple that is not empty, k times -/
def fMulT : T → T → Option T
  | .d (.tup ds), .d (.int k) => if ds.isEmpty = false ∧ ds.length ≤ 1000 ∧ -1000000 ≤ k ∧ k ≤ 1000 then some (.d (.tup (List.replicate k.toNat ds).flatten)) else none
  | _, _ => none
theorem RepDs.reps {K : PySem.W.Frag} {H : Hp} {vs : List V} {ds : List D} (r : RepDs K H vs ds) : ∀ m, RepDs K H (List.replicate m vs).flatten (List.replicate m ds).flatten
  | 0 => .nil
  | m + 1 => by
    rw [List.replicate_succ, List.replicate_succ, List.flatten_cons, List.flatten_cons]
    exact r.append (RepDs.reps r m)
theorem b_mulT : Bn X .Mult fMulT := ⟨_, op_repT.or op_repS, fun H x y z vx vy Gx Gy Q ox oy e q => by
  unfold fMulT at e
  split at e
  · rename_i ds k
    split at e <;> cases e
    rename_i h
    obtain ⟨h1, h2, h3, h4⟩ := h
    cases ox with
    | d r1 =>
      cases oy with
      | d r2 =>
        cases r2
        cases r1 with
        | tup sq r =>
          rename_i a vs
          have hne : vs ≠ [] := fun e => by
            have := r.length
            rw [e] at this
            have : ds = [] := List.eq_nil_of_length_eq_zero this.symm
            rw [this] at h1; cases h1
          by_cases hk : 2 ≤ k
          · exact .inl ⟨_, _, vs, rfl, rfl, sq, hne, hk, h4, by rw [r.length]; exact h2, fun p np => q _ _ [] (same_new np) (.d (.tup (.inl (.inl upd_same)) ((r.reps k.toNat).mono (.of (same_new np))))) Fresh.nil⟩
          · by_cases hk1 : k = 1
            · subst hk1
              refine .inr ⟨_, _, vs, rfl, rfl, sq, hne, .inl ⟨rfl, ?_⟩⟩
              refine q _ H [] (Same.refl H) ?_ Fresh.nil
              have : (List.replicate (1 : Int).toNat ds).flatten = ds := by simp
              rw [this]
              exact .d (.tup sq r)
            · refine .inr ⟨_, _, vs, rfl, rfl, sq, hne, .inr ⟨h3, by omega, fun p np => ?_⟩⟩
              have : (List.replicate k.toNat ds).flatten = [] := by rw [show k.toNat = 0 by omega]; rfl
              rw [this] at q
              exact q _ _ [] (same_new np) (.d (.tup (.inl (.inl upd_same)) .nil)) Fresh.nil
  · cases e⟩
end
end Z
/-! Z: list(zip(t, u)) of two tuples. -/
namespace Z
open PySem PySem.Spec L2
open PyProof.Rows hiding St
section
variable {prog : Program} {w : World} {A : Around} {E : Value → Shared → Prop} {s : Shared}
variable {z TI TO Th i1 i2 t1 t2 : Addr} {f : Bool} {oT : Obj} {k1 k2 : Nat} {xs ys : Array Value}
theorem zt_item {x y : Value} {Q : Value → Shared → Prop} (D : ZipApart z TI TO i1 i2 t1 t2)
    (hz : IsZipHeld s.heap z TI TO Th f) (hT : s.heap.get? Th = some oT) (hI : IsPair s.heap TI (.ref i1) (.ref i2))
    (a1 : s.heap.IsTupleIter i1 t1 k1) (a2 : s.heap.IsTupleIter i2 t2 k2) (b1 : s.heap.IsTuple t1 xs) (b2 : s.heap.IsTuple t2 ys) (hx : xs[k1]? = some x) (hy : ys[k2]? = some y)
    (q : ∀ hp', IsZipHeld hp' z TI TO Th true → hp'.IsTupleIter i1 t1 (k1 + 1) → hp'.IsTupleIter i2 t2 (k2 + 1) → IsPair hp' s.heap.objs.size x y → hp'.objs.size = s.heap.objs.size + 1 →
      (∀ c o, c ≠ z → c ≠ i1 → c ≠ i2 → s.heap.get? c = some o → hp'.get? c = some o) → Q (.ref s.heap.objs.size) { s with heap := hp' }) :
    wpAny (model prog w) A (Builtin.«zip.__next__» ⟨[.ref z], []⟩) (fun fin s' => ∃ v, fin = .done (.ret v) ∧ Q v s') E s := by
  show wpAny _ _ (field (.ref z) 2 >>= _) _ _ _
  refine wpAny_bind (wpAny_field hz rfl (x := .bool false) rfl ?_)
  show wpAny _ _ (field (.ref z) 3 >>= _) _ _ _
  refine wpAny_bind (wpAny_field hz rfl (x := .ref TI) rfl ?_)
  refine wpAny_bind (wpAny_seqItems hI rfl ?_)
  show wpAny _ _ (Builtin.SmallTypes.ownedTupleIsFree (.ref z) >>= _) _ _ _
  refine wpAny_bind (wpAny_tupleHeld_zip hz hT fun g1 z1 s1 => ?_)
  simp only [Bool.false_eq_true, if_false]
  refine wpAny_bind ?_
  rw [← Array.forIn_toList]
  simp only [List.forIn_cons, List.forIn_nil]
  refine wpAny_bind (wpAny_bind (wpAny_holding ?_))
  show wpAny _ _ (Builtin.SmallTypes.nextOf (.ref i1) >>= _) _ _ _
  refine wpAny_bind (RZ.nextOf_tuple_item (s := { s with heap := g1 }) (a1.extBut s1.extBut D.i1z) (b1.extBut s1.extBut D.l1z) hx fun g2 c2 s2 => wpAny_pure ?_)
  refine wpAny_pure ?_
  refine wpAny_bind (wpAny_bind (wpAny_holding ?_))
  show wpAny _ _ (Builtin.SmallTypes.nextOf (.ref i2) >>= _) _ _ _
  refine wpAny_bind (RZ.nextOf_tuple_item (s := { s with heap := g2 }) ((a2.extBut s1.extBut D.i2z).extBut s2.extBut D.i12.symm) ((b2.extBut s1.extBut D.l2z).extBut s2.extBut D.l2i1) hy fun g3 c3 s3 => wpAny_pure ?_)
  refine wpAny_pure (wpAny_pure ?_)
  show wpAny _ _ (newTuple [x, y] >>= _) _ _ _
  refine wpAny_bind (wpAny_newTuple ?_)
  have sz : g3.objs.size = s.heap.objs.size := by rw [s3.1, s2.1, s1.1]
  have z3 : IsZipHeld g3 z TI TO Th true := s3.extBut _ _ D.i2z.symm (s2.extBut _ _ D.i1z.symm z1)
  have kp : ∀ c o, c ≠ z → c ≠ i1 → c ≠ i2 → s.heap.get? c = some o → g3.get? c = some o := fun c o n1 n2 n3 e => s3.extBut _ _ n3 (s2.extBut _ _ n2 (s1.extBut _ _ n1 e))
  have d1 : g3.IsTupleIter i1 t1 (k1 + 1) := c2.extBut s3.extBut D.i12
  refine wpAny_pure ⟨_, rfl, ?_⟩
  show Q (.ref g3.objs.size) _
  have pr : IsPair (g3.push { cls := .type "tuple", data := .seq #[x, y] }) g3.objs.size x y := Heap.get?_push_size _ rfl
  have sz4 : (g3.push { cls := .type "tuple", data := .seq #[x, y] }).objs.size = g3.objs.size + 1 := Heap.size_push ..
  rw [sz] at pr sz4 ⊢
  exact q _ (Heap.get?_push_of_some _ z3) (d1.at fun o e => Heap.get?_push_of_some _ e) (c3.at fun o e => Heap.get?_push_of_some _ e) pr sz4 fun c o n1 n2 n3 e => Heap.get?_push_of_some _ (kp c o n1 n2 n3 e)
theorem zt_end {Q : Fin → Shared → Prop} (hh : A.handled = none) (D : ZipApart z TI TO i1 i2 t1 t2)
    (hz : IsZipHeld s.heap z TI TO Th f) (hT : s.heap.get? Th = some oT) (hI : IsPair s.heap TI (.ref i1) (.ref i2))
    (a1 : s.heap.IsTupleIter i1 t1 k1) (a2 : s.heap.IsTupleIter i2 t2 k2) (b1 : s.heap.IsTuple t1 xs) (b2 : s.heap.IsTuple t2 ys) (he : xs[k1]? = none ∨ ys[k2]? = none)
    (q : ∀ hp' e, (∀ c o, c ≠ z → c ≠ i1 → c ≠ i2 → s.heap.get? c = some o → hp'.get? c = some o) → (∃ o, hp'.get? e = some o ∧ o.cls = .type "StopIteration") → E (.ref e) { s with heap := hp' }) :
    wpAny (model prog w) A (Builtin.«zip.__next__» ⟨[.ref z], []⟩) Q E s := by
  show wpAny _ _ (field (.ref z) 2 >>= _) _ _ _
  refine wpAny_bind (wpAny_field hz rfl (x := .bool false) rfl ?_)
  show wpAny _ _ (field (.ref z) 3 >>= _) _ _ _
  refine wpAny_bind (wpAny_field hz rfl (x := .ref TI) rfl ?_)
  refine wpAny_bind (wpAny_seqItems hI rfl ?_)
  show wpAny _ _ (Builtin.SmallTypes.ownedTupleIsFree (.ref z) >>= _) _ _ _
  refine wpAny_bind (wpAny_tupleHeld_zip hz hT fun g1 z1 s1 => ?_)
  simp only [Bool.false_eq_true, if_false]
  refine wpAny_bind ?_
  rw [← Array.forIn_toList]
  simp only [List.forIn_cons, List.forIn_nil]
  refine wpAny_bind (wpAny_bind (wpAny_holding ?_))
  show wpAny _ _ (Builtin.SmallTypes.nextOf (.ref i1) >>= _) _ _ _
  cases hx : xs[k1]? with
  | none =>
    refine wpAny_bind (RZ.nextOf_tuple_end (s := { s with heap := g1 }) hh (a1.extBut s1.extBut D.i1z) (b1.extBut s1.extBut D.l1z) hx fun g2 e s2 he => ?_)
    exact q g2 e (fun c o n1 n2 _ x => s2 _ _ n2 (s1.extBut _ _ n1 x)) he
  | some x =>
    have hy : ys[k2]? = none := by rcases he with h | h; rw [hx] at h; cases h; exact h
    refine wpAny_bind (RZ.nextOf_tuple_item (s := { s with heap := g1 }) (a1.extBut s1.extBut D.i1z) (b1.extBut s1.extBut D.l1z) hx fun g2 c2 s2 => wpAny_pure ?_)
    refine wpAny_pure ?_
    refine wpAny_bind (wpAny_bind (wpAny_holding ?_))
    show wpAny _ _ (Builtin.SmallTypes.nextOf (.ref i2) >>= _) _ _ _
    refine wpAny_bind (RZ.nextOf_tuple_end (s := { s with heap := g2 }) hh ((a2.extBut s1.extBut D.i2z).extBut s2.extBut D.i12.symm) ((b2.extBut s1.extBut D.l2z).extBut s2.extBut D.l2i1) hy fun g3 e s3 he => ?_)
    exact q g3 e (fun c o n1 n2 n3 x => s3 _ _ n3 (s2.extBut _ _ n2 (s1.extBut _ _ n1 x))) he
/-- how far a zip of two tuples has gone; its pairs are kept by others -/
def ZtSt (S : Addr) (hp : Heap) (z TI TO i1 i2 t1 t2 : Addr) (i : Nat) : Prop :=
  ((i = 0 ∧ IsZip hp z TI TO .none ∧ ∃ a b, IsPair hp TO a b) ∨ ∃ Th f oT, IsZipHeld hp z TI TO Th f ∧ hp.get? Th = some oT ∧ Th ≠ z ∧ Th ≠ i1 ∧ Th ≠ i2 ∧ Th ≠ S) ∧ IsPair hp TI (.ref i1) (.ref i2) ∧ hp.IsTupleIter i1 t1 i ∧ hp.IsTupleIter i2 t2 i
theorem zt_next {S : Addr} {i : Nat} {x y : Value} {Q : Option Value → Shared → Prop} (D : ZipApart z TI TO i1 i2 t1 t2) (lS : S < s.heap.objs.size) (st : ZtSt S s.heap z TI TO i1 i2 t1 t2 i) (b1 : s.heap.IsTuple t1 xs) (b2 : s.heap.IsTuple t2 ys) (hx : xs[i]? = some x) (hy : ys[i]? = some y)
    (q : ∀ hp', ZtSt S hp' z TI TO i1 i2 t1 t2 (i + 1) → IsPair hp' s.heap.objs.size x y → hp'.objs.size = s.heap.objs.size + 1 → (∀ c o, c ≠ z → c ≠ TO → c ≠ i1 → c ≠ i2 → s.heap.get? c = some o → hp'.get? c = some o) → Q (some (.ref s.heap.objs.size)) { s with heap := hp' }) :
    wpAny (model prog w) A (pyNext (.ref z)) Q E s := by
  obtain ⟨st, hI, a1, a2⟩ := st
  have l1 : i1 < s.heap.objs.size := by obtain ⟨_, e, _⟩ := a1; exact Heap.lt_size e
  have l2 : i2 < s.heap.objs.size := by obtain ⟨_, e, _⟩ := a2; exact Heap.lt_size e
  rcases st with ⟨rfl, hz, a, b, hO⟩ | ⟨Th, f, oT, hz, hT, n1, n2, n3, n4⟩
  · refine RZ.pyNext_zipT_item D hz hI hO a1 a2 b1 b2 hx hy fun hp' c1 c2 c3 c4 c5 c6 c7 => ?_
    have lz : z < s.heap.objs.size := Heap.lt_size hz
    exact q hp' ⟨.inr ⟨s.heap.objs.size, false, _, c1, c5, Nat.ne_of_gt lz, Nat.ne_of_gt l1, Nat.ne_of_gt l2, Nat.ne_of_gt lS⟩, c7 _ _ D.TIz D.TITO D.TIi1 D.TIi2 hI, c3, c4⟩ c5 c6 c7
  · have tz : s.TypeIs (.ref z) "zip" := ⟨_, hz, rfl⟩
    unfold pyNext
    exact wpAny_bind (wpAny_attempt (wpAny_callSpecial?_slot (name := Str.ofString "__next__") tz F.slot_zip_next (wpAny_call_entry F.slot_zip_next tz F.entry_zip_next
      (zt_item D hz hT hI a1 a2 b1 b2 hx hy fun hp' c1 c3 c4 c5 c6 c7 => wpAny_pure (q hp' ⟨.inr ⟨Th, true, oT, c1, c7 Th _ n1 n2 n3 hT, n1, n2, n3, n4⟩, c7 _ _ D.TIz D.TIi1 D.TIi2 hI, c3, c4⟩ c5 c6 fun c o m1 _ m3 m4 e => c7 c o m1 m3 m4 e)) (F.args_zip_next_1 _))))
theorem zt_stop {S : Addr} {i : Nat} {Q : Option Value → Shared → Prop} (hh : A.handled = none) (D : ZipApart z TI TO i1 i2 t1 t2) (st : ZtSt S s.heap z TI TO i1 i2 t1 t2 i) (b1 : s.heap.IsTuple t1 xs) (b2 : s.heap.IsTuple t2 ys) (he : xs[i]? = none ∨ ys[i]? = none)
    (q : ∀ hp', (∀ c o, c ≠ z → c ≠ TO → c ≠ i1 → c ≠ i2 → s.heap.get? c = some o → hp'.get? c = some o) → Q none { s with heap := hp' }) : wpAny (model prog w) A (pyNext (.ref z)) Q E s := by
  obtain ⟨st, hI, a1, a2⟩ := st
  rcases st with ⟨rfl, hz, a, b, hO⟩ | ⟨Th, f, oT, hz, hT, n1, n2, n3, n4⟩
  · exact RZ.pyNext_zipT_end hh D hz hI hO a1 a2 b1 b2 he q
  · have tz : s.TypeIs (.ref z) "zip" := ⟨_, hz, rfl⟩
    unfold pyNext
    refine wpAny_bind (wpAny_attempt (wpAny_callSpecial?_slot (name := Str.ofString "__next__") tz F.slot_zip_next (wpAny_call_entry F.slot_zip_next tz F.entry_zip_next (zt_end hh D hz hT hI a1 a2 b1 b2 he fun hp' e k x => ?_) (F.args_zip_next_1 _))))
    obtain ⟨o, ho, hc⟩ := x
    refine wpAny_bind (wpAny_isInstance (T := "StopIteration") (b := true) ⟨o, ho, hc⟩ isSubtype_stop ?_)
    exact wpAny_pure (q _ fun c o m1 _ m3 m4 e => k c o m1 m3 m4 e)
end
end Z
/-! Z: list(zip(t, u)): the loop. -/
namespace Z
open PySem PySem.Spec L2
open PyProof.Rows hiding St
theorem ZtSt.keep {S : Addr} {h h' : Heap} {z TI TO i1 i2 t1 t2 : Addr} {i : Nat} (st : ZtSt S h z TI TO i1 i2 t1 t2 i) (k : ∀ b o, b ≠ S → h.get? b = some o → h'.get? b = some o) (n1 : z ≠ S) (n2 : TI ≠ S) (n3 : TO ≠ S) (n4 : i1 ≠ S) (n5 : i2 ≠ S) : ZtSt S h' z TI TO i1 i2 t1 t2 i := by
  obtain ⟨st, hI, a1, a2⟩ := st
  refine ⟨?_, k _ _ n2 hI, a1.at fun o e => k _ o n4 e, a2.at fun o e => k _ o n5 e⟩
  rcases st with ⟨e, hz, a, b, hO⟩ | ⟨Th, f, oT, hz, hT, m1, m2, m3, m4⟩
  · exact .inl ⟨e, k _ _ n1 hz, a, b, k _ _ n3 hO⟩
  · exact .inr ⟨Th, f, oT, k _ _ n1 hz, k _ _ m4 hT, m1, m2, m3, m4⟩
/-- the new pairs at their places -/
structure ZG (ps : List (Value × Value)) (lo : Addr) (h : Heap) (as : List Addr) : Prop where
  rise : as.Pairwise (· < ·)
  above : ∀ a ∈ as, lo < a
  pairs : ∀ (j : Nat) (a : Addr), as[j]? = some a → ∃ x y, ps[j]? = some (x, y) ∧ IsPair h a x y
theorem ZG.there {ps : List (Value × Value)} {lo : Addr} {h : Heap} {as : List Addr} (g : ZG ps lo h as) {a : Addr} (m : a ∈ as) : a < h.objs.size := by
  obtain ⟨j, hj⟩ := List.mem_iff_getElem?.mp m
  obtain ⟨_, _, _, e⟩ := g.pairs j a hj
  exact Heap.lt_size e
/-- a list's object -/
abbrev LstAt (h : Heap) (S : Addr) (acc : Array Value) (c : Nat) : Prop := h.get? S = some { cls := .type "list", dict := none, data := .seq acc c, slots := #[] }
structure Below (S z TI TO i1 i2 t1 t2 : Addr) : Prop where
  z : z < S
  I : TI < S
  O : TO < S
  a : i1 < S
  b : i2 < S
  t : t1 < S
  u : t2 < S
section
variable {prog : Program} {w : World} {A : Around} {s : Shared} {R : Result → Shared → Prop} {S z TI TO i1 i2 t1 t2 : Addr} {xs ys : Array Value} {ps : List (Value × Value)}
theorem zl_loop (hh : A.handled = none) (D : ZipApart z TI TO i1 i2 t1 t2) (B : Below S z TI TO i1 i2 t1 t2) (hn : ps.length ≤ sizeLine) (hp : ∀ (i : Nat) (x y : Value), ps[i]? = some (x, y) → xs[i]? = some x ∧ ys[i]? = some y) (he : xs[ps.length]? = none ∨ ys[ps.length]? = none) (res : Value) {h0 : Heap}
    (hR : ∀ h' tk acc c as, (∀ b o, b ≠ S → b ≠ z → b ≠ TO → b ≠ i1 → b ≠ i2 → h0.get? b = some o → h'.get? b = some o) → LstAt h' S acc c → as.length = ps.length → ZG ps S h' as → acc.toList = as.map Value.ref → R (.ok (.ret res)) { s with heap := h', toks := tk }) :
    ∀ (k i : Nat) (h : Heap) (tk c : Nat) (acc : Array Value) (as : List Addr), ps.length - i = k → i ≤ ps.length → ZtSt S h z TI TO i1 i2 t1 t2 i → h.IsTuple t1 xs → h.IsTuple t2 ys → (∀ b o, b ≠ S → b ≠ z → b ≠ TO → b ≠ i1 → b ≠ i2 → h0.get? b = some o → h.get? b = some o) →
      LstAt h S acc c → acc.toList = as.map Value.ref → as.length = i → ZG ps S h as →
      codeAny (model prog w) A (.builtin "list.extend.loop" ⟨[.ref S, .ref z, res], []⟩) R { s with heap := h, toks := tk } := by
  have nz := Nat.ne_of_lt B.z
  have nI := Nat.ne_of_lt B.I
  have nO := Nat.ne_of_lt B.O
  have na := Nat.ne_of_lt B.a
  have nb := Nat.ne_of_lt B.b
  have nt := Nat.ne_of_lt B.t
  have nu := Nat.ne_of_lt B.u
  intro k
  induction k with
  | zero =>
    intro i h tk c acc as hk hi st b1 b2 kp hS hacc hal hG
    have ei : i = ps.length := by omega
    refine codeAny_builtin PySem.F.entry_extend_loop ?_
    rw [Around.under_plainId PySem.F.plain_extend_loop _]
    show wpAny _ A.in1 (pyNext (.ref z) >>= _) _ _ _
    refine wpAny_bind (zt_stop (s := { s with heap := h, toks := tk }) (A := A.in1) hh D st b1 b2 (by rw [ei]; exact he) fun h' ke => ?_)
    refine wpAny_pure (hR h' tk acc c as (fun b o m1 m2 m3 m4 m5 e => ke b o m2 m3 m4 m5 (kp b o m1 m2 m3 m4 m5 e)) (ke S _ nz.symm nO.symm na.symm nb.symm hS) (by omega) ⟨hG.rise, hG.above, fun j a hj => ?_⟩ hacc)
    obtain ⟨x, y, e1, e2⟩ := hG.pairs j a hj
    have lo := hG.above a (List.mem_of_getElem? hj)
    exact ⟨x, y, e1, ke a _ (Nat.ne_of_gt (Nat.lt_trans B.z lo)) (Nat.ne_of_gt (Nat.lt_trans B.O lo)) (Nat.ne_of_gt (Nat.lt_trans B.a lo)) (Nat.ne_of_gt (Nat.lt_trans B.b lo)) e2⟩
  | succ k ih =>
    intro i h tk c acc as hk hi st b1 b2 kp hS hacc hal hG
    have hlt : i < ps.length := by omega
    obtain ⟨⟨x, y⟩, hx⟩ : ∃ p, ps[i]? = some p := ⟨ps[i], List.getElem?_eq_getElem hlt⟩
    obtain ⟨ex, ey⟩ := hp i x y hx
    have sz : acc.size = i := by rw [← Array.length_toList, hacc, List.length_map, hal]
    have lS : S < h.objs.size := Heap.lt_size hS
    refine codeAny_builtin PySem.F.entry_extend_loop ?_
    rw [Around.under_plainId PySem.F.plain_extend_loop _]
    show wpAny _ A.in1 (pyNext (.ref z) >>= _) _ _ _
    refine wpAny_bind (zt_next (s := { s with heap := h, toks := tk }) (S := S) D lS st b1 b2 ex ey fun h' st' pr zs ke => ?_)
    dsimp only at pr zs ke ⊢
    have hS' := ke S _ nz.symm nO.symm na.symm nb.symm hS
    have up : ∀ b o, b ≠ S → h'.get? b = some o → (h'.update S (Obj.mapSeq (·.push (Value.ref h.objs.size)))).get? b = some o := fun b o m e => (Heap.get?_update_other _ _ (Ne.symm m)).trans e
    have b1' : h'.IsTuple t1 xs := b1.at fun o e => ke t1 o D.l1z D.l1TO D.l1i1 D.l1i2 e
    have b2' : h'.IsTuple t2 ys := b2.at fun o e => ke t2 o D.l2z D.l2TO D.l2i1 D.l2i2 e
    show wpAny _ A.in1 (updateSeq S (·.push (Value.ref h.objs.size)) >>= _) _ _ _
    refine wpAny_bind ?_
    refine wpAny_updateSeq hS' rfl (wpAny_pure ⟨plainId_quiet PySem.F.plain_extend_loop _, ih (i + 1) _ tk _ (acc.push (Value.ref h.objs.size)) (as ++ [h.objs.size]) (by omega) hlt (st'.keep up nz nI nO na nb) (b1'.at fun o e => up t1 o nt e) (b2'.at fun o e => up t2 o nu e)
      (fun b o m1 m2 m3 m4 m5 e => up b o m1 (ke b o m2 m3 m4 m5 (kp b o m1 m2 m3 m4 m5 e))) (Heap.get?_update_self _ hS' rfl) (by rw [Array.toList_push, hacc, List.map_append]; rfl) (by rw [List.length_append, hal]; rfl) ⟨?_, ?_, ?_⟩⟩) (by rw [sz]; omega) (by show (acc.push (Value.ref h.objs.size)).size ≤ sizeLine + 1; rw [Array.size_push, sz]; omega)
    · refine List.pairwise_append.mpr ⟨hG.rise, List.pairwise_singleton _ _, fun a m b m2 => ?_⟩
      rw [List.mem_singleton.mp m2]
      exact hG.there m
    · intro a m
      rcases List.mem_append.mp m with m | m
      · exact hG.above a m
      · rw [List.mem_singleton.mp m]; exact lS
    · intro j b hj
      rcases Nat.lt_trichotomy j as.length with c1 | c1 | c1
      · rw [List.getElem?_append_left c1] at hj
        obtain ⟨x', y', e1, e2⟩ := hG.pairs j b hj
        have lo := hG.above b (List.mem_of_getElem? hj)
        exact ⟨x', y', e1, up b _ (Nat.ne_of_gt lo) (ke b _ (Nat.ne_of_gt (Nat.lt_trans B.z lo)) (Nat.ne_of_gt (Nat.lt_trans B.O lo)) (Nat.ne_of_gt (Nat.lt_trans B.a lo)) (Nat.ne_of_gt (Nat.lt_trans B.b lo)) e2)⟩
      · subst c1
        have hb : h.objs.size = b := by simpa using hj
        subst hb
        exact ⟨x, y, by rw [hal]; exact hx, up _ _ (Nat.ne_of_gt lS) pr⟩
      · have no : (as ++ [h.objs.size])[j]? = none := List.getElem?_eq_none (by rw [List.length_append, List.length_singleton]; omega)
        rw [no] at hj; cases hj
end
end Z
/-! Z: list(zip(t, u)): the call. -/
namespace Z
open PySem PySem.Spec L2
open PyProof.Rows hiding St
theorem zip_no_len : typeLookup (.type "zip") "__len__" = pure none := am_miss_of_fast (by decide +kernel)
theorem zip_no_hint : typeLookup (.type "zip") "__length_hint__" = pure none := am_miss_of_fast (by decide +kernel)
section
variable {prog : Program} {w : World} {A : Around} {E : Value → Shared → Prop} {s : Shared} {R : Result → Shared → Prop} {S z TI TO i1 i2 t1 t2 : Addr} {xs ys : Array Value} {ps : List (Value × Value)}
theorem zip_hint (hT : s.TypeIs (.ref z) "zip") {Q : Bool → Shared → Prop} (q : Q true s) : wpAny (model prog w) A (Builtin.List.listLengthHint (.ref z)) Q E s := by
  unfold Builtin.List.listLengthHint
  refine wpAny_bind (wpAny_specialOf hT zip_no_len ?_)
  refine wpAny_bind (wpAny_specialOf hT zip_no_hint ?_)
  exact wpAny_pure q
theorem zl_extend (hh : A.handled = none) (D : ZipApart z TI TO i1 i2 t1 t2) (B : Below S z TI TO i1 i2 t1 t2) (hn : ps.length ≤ sizeLine) (hp : ∀ (i : Nat) (x y : Value), ps[i]? = some (x, y) → xs[i]? = some x ∧ ys[i]? = some y) (he : xs[ps.length]? = none ∨ ys[ps.length]? = none)
    (hz : IsZip s.heap z TI TO .none) (hO : ∃ a b, IsPair s.heap TO a b) (hI : IsPair s.heap TI (.ref i1) (.ref i2)) (a1 : s.heap.IsTupleIter i1 t1 0) (a2 : s.heap.IsTupleIter i2 t2 0) (b1 : s.heap.IsTuple t1 xs) (b2 : s.heap.IsTuple t2 ys) (res : Value) (c0 : Nat) (hS : s.heap.get? S = some { cls := .type "list", data := .seq #[] c0 })
    (hR : ∀ h' tk acc c as, (∀ b o, b ≠ S → b ≠ z → b ≠ TO → b ≠ i1 → b ≠ i2 → s.heap.get? b = some o → h'.get? b = some o) → LstAt h' S acc c → as.length = ps.length → ZG ps S h' as → acc.toList = as.map Value.ref → R (.ok (.ret res)) { s with heap := h', toks := tk }) :
    wpAny (model prog w) A.in1 (Builtin.List.listExtendWith (.ref S) (.ref z) res)
      (fun fin s' => match fin with | .done f => R (.ok f) s' | .again c' => c'.quiet = true ∧ codeAny (model prog w) A c' R s') (fun e s' => R (.error e) s') s := by
  have key : ∀ (h : Heap) (c1 tk : Nat), (∀ b o, b ≠ S → s.heap.get? b = some o → h.get? b = some o) → h.get? S = some { cls := .type "list", data := .seq #[] c1 } →
      codeAny (model prog w) A (.builtin "list.extend.loop" ⟨[.ref S, .ref z, res], []⟩) R { s with heap := h, toks := tk } := by
    intro h c1 tk k hS1
    have st : ZtSt S h z TI TO i1 i2 t1 t2 0 := by
      have st0 : ZtSt S s.heap z TI TO i1 i2 t1 t2 0 := ⟨.inl ⟨rfl, hz, hO⟩, hI, a1, a2⟩
      exact st0.keep k (Nat.ne_of_lt B.z) (Nat.ne_of_lt B.I) (Nat.ne_of_lt B.O) (Nat.ne_of_lt B.a) (Nat.ne_of_lt B.b)
    refine zl_loop (h0 := s.heap) hh D B hn hp he res hR ps.length 0 h tk c1 #[] [] (Nat.sub_zero _) (Nat.zero_le _) st (b1.at fun o e => k t1 o (Nat.ne_of_lt B.t) e) (b2.at fun o e => k t2 o (Nat.ne_of_lt B.u) e) (fun b o m1 _ _ _ _ e => k b o m1 e) hS1 rfl rfl
      ⟨List.Pairwise.nil, (fun _ m => nomatch m), (fun j a hj => by simp at hj)⟩
  have tz : s.TypeIs (.ref z) "zip" := ⟨_, hz, rfl⟩
  unfold Builtin.List.listExtendWith
  refine wpAny_bind (wpAny_typeOf (T := "zip") tz ?_)
  have q1 : Builtin.List.listSameRef (.ref S) (.ref z) = false := by simp [Builtin.List.listSameRef, Nat.ne_of_gt B.z]
  have q2 : (Value.type "zip" == Value.type "list") = false := by decide
  have q3 : (Value.type "zip" == Value.type "tuple") = false := by decide
  simp only [q1, q2, q3, Bool.or_false, Bool.false_eq_true, if_false]
  refine wpAny_bind (wpAny_pyIter_zip hz ?_)
  refine wpAny_bind (wpAny_holding (zip_hint tz ?_))
  refine wpAny_ite_split (fun _ => ?_) (fun hab => absurd (by decide) hab)
  refine wpAny_bind (wpAny_rule ?_)
  refine wpAny_bind ?_
  show wpAny _ _ (updateSeq S (·.push .none) >>= fun _ => updateSeq S (·.pop)) _ _ _
  refine wpAny_bind (wpAny_updateSeq hS rfl ?_)
  have s2 := Heap.get?_update_self (Obj.mapSeq (·.push Value.none)) hS rfl
  refine wpAny_updateSeq (hz := by seq_fits) s2 rfl ?_
  have s3 := Heap.get?_update_self (Obj.mapSeq (·.pop)) s2 rfl
  refine wpAny_pure ⟨plainId_quiet PySem.F.plain_extend_loop _, key _ _ _ (fun b o m e => ?_) s3⟩
  exact (Heap.get?_update_other _ _ (Ne.symm m)).trans ((Heap.get?_update_other _ _ (Ne.symm m)).trans e)
theorem zl_call {Q : Value → Shared → Prop} (hh : A.handled = none) (D : ZipApart z TI TO i1 i2 t1 t2) (B : Below s.heap.objs.size z TI TO i1 i2 t1 t2) (hn : ps.length ≤ sizeLine) (hp : ∀ (i : Nat) (x y : Value), ps[i]? = some (x, y) → xs[i]? = some x ∧ ys[i]? = some y) (he : xs[ps.length]? = none ∨ ys[ps.length]? = none)
    (hz : IsZip s.heap z TI TO .none) (hO : ∃ a b, IsPair s.heap TO a b) (hI : IsPair s.heap TI (.ref i1) (.ref i2)) (a1 : s.heap.IsTupleIter i1 t1 0) (a2 : s.heap.IsTupleIter i2 t2 0) (b1 : s.heap.IsTuple t1 xs) (b2 : s.heap.IsTuple t2 ys)
    (q : ∀ h' tk acc c as, (∀ b o, b ≠ z → b ≠ TO → b ≠ i1 → b ≠ i2 → s.heap.get? b = some o → h'.get? b = some o) → LstAt h' s.heap.objs.size acc c → as.length = ps.length → ZG ps s.heap.objs.size h' as → acc.toList = as.map Value.ref → Q (.ref s.heap.objs.size) { s with heap := h', toks := tk }) :
    wpAny (model prog w) A (call (.type "list") [.ref z]) Q E s := by
  refine callType_codes (Q₁ := fun obj s₁ => obj = .ref s.heap.objs.size ∧ s₁ = { s with heap := s.heap.push { cls := .type "list", data := .seq #[] } }) PySem.F.called_list (PySem.F.typeCall_list_1 _) PySem.F.entry_list_init (code_list_new _ ⟨rfl, rfl⟩) fun obj s1 e1 => ?_
  obtain ⟨rfl, rfl⟩ := e1
  have hS : (s.heap.push { cls := .type "list", data := .seq #[] }).get? s.heap.objs.size = some { cls := .type "list", data := .seq #[] } := Heap.get?_push_size _ rfl
  refine ⟨⟨_, hS, rfl⟩, PySem.F.args_list_init_2 _ _, ?_⟩
  generalize hS0 : s.heap.objs.size = S at *
  have oth : ∀ b o, b ≠ S → s.heap.get? b = some o → ((s.heap.push { cls := .type "list", data := .seq #[] }).update S (Obj.mapSeq (fun _ => (#[] : Array Value)))).get? b = some o := fun b o m e => (Heap.get?_update_other _ _ (Ne.symm m)).trans (Heap.get?_push_of_some _ e)
  show wpAny _ _ (do let old ← Builtin.List.listItems (.ref S); Builtin.List.listUpdate (.ref S) (fun _ => #[]); letGo old.toList.reverse; Builtin.List.listExtendWith (.ref S) (.ref z) .none) _ _ _
  refine wpAny_bind ?_
  unfold Builtin.List.listItems
  refine wpAny_bind (wpAny_seqItems hS rfl (wpAny_pure ?_))
  show wpAny _ _ (updateSeq S (fun _ => #[]) >>= fun _ => letGo (#[] : Array Value).toList.reverse >>= fun _ => Builtin.List.listExtendWith (.ref S) (.ref z) .none) _ _ _
  refine wpAny_bind (wpAny_updateSeq hS rfl ?_)
  have s2 := Heap.get?_update_self (Obj.mapSeq (fun _ => (#[] : Array Value))) hS rfl
  refine wpAny_bind (wpAny_letGo ?_)
  obtain ⟨ta, tb, hO⟩ := hO
  refine zl_extend (A := A.in1) hh D B hn hp he (oth _ _ (Nat.ne_of_lt B.z) hz) ⟨ta, tb, oth _ _ (Nat.ne_of_lt B.O) hO⟩ (oth _ _ (Nat.ne_of_lt B.I) hI) (a1.at fun o e => oth _ o (Nat.ne_of_lt B.a) e) (a2.at fun o e => oth _ o (Nat.ne_of_lt B.b) e) (b1.at fun o e => oth _ o (Nat.ne_of_lt B.t) e) (b2.at fun o e => oth _ o (Nat.ne_of_lt B.u) e) .none _ s2 (fun h' tk acc c as k hS' hl hG hacc => ?_)
  exact ⟨rfl, q h' tk acc c as (fun b o m1 m2 m3 m4 e => k b o (fun x => by
    rw [x, ← hS0] at e
    exact absurd (Heap.lt_size e) (Nat.lt_irrefl _)) m1 m2 m3 m4 (oth b o (fun x => by
    rw [x, ← hS0] at e
    exact absurd (Heap.lt_size e) (Nat.lt_irrefl _)) e)) hS' hl hG hacc⟩
end
end Z
/-! Z: list(zip(t, u)) as an expression. -/
namespace Z
open PySem PySem.Spec L2
open PyProof.Rows hiding St
/-- the pairs at their places -/
def putP : Hp → List Addr → List (V × V) → Hp
  | H, a :: as, p :: r => putP (upd H a (.tup [p.1, p.2])) as r
  | H, _, _ => H
theorem putP_off {b : Addr} : ∀ (as : List Addr) (r : List (V × V)) (H : Hp), b ∉ as → putP H as r b = H b
  | [], _, _, _ => rfl
  | _ :: _, [], _, _ => rfl
  | a :: as, p :: r, H, h => by
    show putP (upd H a (.tup [p.1, p.2])) as r b = H b
    rw [putP_off as r _ (fun m => h (List.mem_cons_of_mem _ m)), upd_ne (fun e => h (by rw [e]; exact List.mem_cons_self))]
theorem putP_at : ∀ (as : List Addr) (r : List (V × V)) (H : Hp), as.length = r.length → as.Nodup → ∀ (j : Nat) (a : Addr), as[j]? = some a → ∃ p, r[j]? = some p ∧ putP H as r a = some (.tup [p.1, p.2])
  | [], [], _, _, _, j, a, h => by simp at h
  | [], _ :: _, _, h, _, _, _, _ => by cases h
  | _ :: _, [], _, h, _, _, _, _ => by cases h
  | b :: as, p :: r, H, hl, nd, j, a, h => by
    obtain ⟨n1, n2⟩ := List.nodup_cons.mp nd
    cases j with
    | zero =>
      simp at h
      subst h
      refine ⟨p, rfl, ?_⟩
      show putP (upd H b (.tup [p.1, p.2])) as r b = _
      rw [putP_off as r _ n1, upd_same]
    | succ j => exact putP_at as r (upd H b (.tup [p.1, p.2])) (Nat.succ.inj hl) n2 j a (by simpa using h)
section
variable {X : Cx}
theorem zip_laid {pins : List (Addr × Obj)} {σ : L2.St} {H : Hp} {s : Shared} {h' : Heap} {tk : Nat} {pv : List (V × V)} {ps : List (Value × Value)} {acc : Array Value} {c : Nat} {as : List Addr} {S : Addr} (J : Inv X pins σ H s) (lS : s.heap.objs.size ≤ S) (hz : ps.length ≤ sizeLine) (hl : pv.length = ps.length) (hv : ∀ (j : Nat) (p : V × V) (u : Value × Value), pv[j]? = some p → ps[j]? = some u → RelV p.1 u.1 ∧ RelV p.2 u.2)
    (hk : ∀ b o, s.heap.get? b = some o → h'.get? b = some o) (hS : LstAt h' S acc c) (la : as.length = ps.length) (hG : ZG ps S h' as) (hacc : acc.toList = as.map Value.ref) :
    ∃ H' : Hp, (∀ b o, H b = some o → H' b = some o) ∧ H S = none ∧ H' S = some (.lst (as.map V.ref)) ∧ (∀ (j : Nat) (a : Addr), as[j]? = some a → ∃ p, pv[j]? = some p ∧ H' a = some (.tup [p.1, p.2])) ∧ Inv X pins σ H' { s with heap := h', toks := tk } := by
  have nS : S ∉ as := fun m => Nat.lt_irrefl _ (hG.above _ m)
  have nd : as.Nodup := List.Pairwise.imp (fun {a b} (h : a < b) => Nat.ne_of_lt h) hG.rise
  have new : ∀ t ∈ as, H t = none := fun t m => J.hok.fresh (Nat.le_trans lS (Nat.le_of_lt (hG.above t m)))
  have newS : H S = none := J.hok.fresh lS
  have atP := putP_at as pv (upd H S (.lst (as.map V.ref))) (by omega) nd
  have off : ∀ b, b ∉ as → b ≠ S → putP (upd H S (.lst (as.map V.ref))) as pv b = H b := fun b n1 n2 => by rw [putP_off as pv _ n1, upd_ne n2]
  have low : ∀ b o, s.heap.get? b = some o → b ∉ as ∧ b ≠ S := fun b o e => ⟨fun m => absurd (Heap.lt_size e) (Nat.not_lt.mpr (Nat.le_trans lS (Nat.le_of_lt (hG.above b m)))), Nat.ne_of_lt (Nat.lt_of_lt_of_le (Heap.lt_size e) lS)⟩
  have kp : ∀ b u, H b = some u → (putP (upd H S (.lst (as.map V.ref))) as pv) b = some u := fun b u e => by
    rw [off b (fun m => by rw [new b m] at e; cases e) (fun m => by rw [m, newS] at e; cases e)]
    exact e
  have eS : putP (upd H S (.lst (as.map V.ref))) as pv S = some (.lst (as.map V.ref)) := by rw [putP_off as pv _ nS, upd_same]
  refine ⟨putP (upd H S (.lst (as.map V.ref))) as pv, kp, newS, eS, atP, ?_⟩
  refine J.call' (ch := []) rfl ⟨fun b o q _ _ _ => hk b o q, fun b o q _ _ _ => ⟨o.slots, hk b o q⟩, fun b o q n _ => ?_, fun b o q _ => ⟨o, hk b o q⟩, fun b xs q => kp b _ q, fun b o u q => kp b _ q, fun b ps q => ⟨#[], by rw [kp b _ q]; simp⟩⟩ (fun b u q => ?_) J.bare fun b m => by simp at m
  · obtain ⟨m1, m2⟩ := low b o q
    rw [off b m1 m2]
    exact n
  · by_cases hb : b ∈ as
    · obtain ⟨j, hj⟩ := List.mem_iff_getElem?.mp hb
      obtain ⟨p, e1, e2⟩ := atP j b hj
      rw [e2] at q
      cases q
      obtain ⟨x, y, f1, f2⟩ := hG.pairs j b hj
      obtain ⟨r1, r2⟩ := hv j p (x, y) e1 f1
      exact ⟨by show 2 ≤ sizeLine; decide, [x, y], .cons r1 (.cons r2 .nil), ⟨_, f2, rfl, _, rfl⟩⟩
    · by_cases hb2 : b = S
      · rw [hb2] at q ⊢
        rw [eS] at q
        cases q
        refine ⟨by rw [List.length_map]; omega, acc.toList, c, by rw [hacc]; exact LiI.vals_refs as, ?_⟩
        rw [Array.toArray_toList]
        exact hS
      · rw [off b hb hb2] at q
        exact (J.hok b u q).stay (fun d v _ y => hk d v y) (fun d y => kp d _ y) fun d xs y => kp d _ y
def tListZip (K : PySem.W.Frag) (ta : TA) : TE := fun σ H Q => ta σ H fun vs H1 => ∃ a b xs ys, vs = [.ref a, .ref b] ∧ SqT K H1 a xs ∧ SqT K H1 b ys ∧
  ∀ (H' : Hp) (S : Addr) (as : List Addr), (∀ b o, H1 b = some o → H' b = some o) → H1 S = none → as.length = min xs.length ys.length → H' S = some (.lst (as.map V.ref)) → (∀ (j : Nat) (a : Addr), as[j]? = some a → ∃ x y, xs[j]? = some x ∧ ys[j]? = some y ∧ H' a = some (.tup [x, y])) → Q (.ref S) H'
theorem zip_get {α β : Type} : ∀ {xs : List α} {ys : List β} {i : Nat} {x : α} {y : β}, (xs.zip ys)[i]? = some (x, y) → xs[i]? = some x ∧ ys[i]? = some y
  | [], _, _, _, _, h => by simp at h
  | _ :: _, [], _, _, _, h => by simp at h
  | a :: xs, b :: ys, 0, x, y, h => by simp at h; obtain ⟨rfl, rfl⟩ := h; exact ⟨rfl, rfl⟩
  | a :: xs, b :: ys, i + 1, x, y, h => by
    obtain ⟨h1, h2⟩ := zip_get (xs := xs) (ys := ys) (i := i) (x := x) (y := y) (by simpa using h)
    exact ⟨by simpa using h1, by simpa using h2⟩
theorem pe_listZip {e e2 : Expr} {ta : TA} {p p2 pos pos2 : Pos} (hc : X.calm = true) (hg : Gl X "list") (hm : X.mg "list" = none) (hg2 : Gl X "zip") (hm2 : X.mg "zip" = none) (ha : PA X [e, e2] ta)
    (hs : starEach [.Call (.Name "zip" p2) [e, e2] [] pos2] X.env = (false, eval (.Call (.Name "zip" p2) [e, e2] [] pos2) X.env) :: starEach [] X.env := by rfl)
    (hs2 : starEach [e, e2] X.env = (false, eval e X.env) :: starEach [e2] X.env := by rfl) (hpl : (backTo pos2 (starEach [e2] X.env)).any (·.1) = false := by rfl) :
    PE X (.Call (.Name "list" p) [.Call (.Name "zip" p2) [e, e2] [] pos2] [] pos) (tListZip X.K ta) := by
  refine ⟨fun pins s σ H Q J h => ?_⟩
  refine wpAny_Call_Name_kw (ld_blt J hg hm (by decide +kernel : bootBuiltins "list" = some (.type "list")) ?_)
  refine PyProof.Rows.callWith_type1 ?_ hs rfl
  rw [hs]
  show wpAny _ _ (spliced ((false, eval (.Call (.Name "zip" p2) [e, e2] [] pos2) X.env) :: backTo pos (starEach [] X.env))) _ _ s
  refine Calls.spliced_cons ?_
  refine Call_ (ld_blt J hg2 hm2 PyProof.Rows.boot_zip (PyProof.Rows.callWith_type1 (thn (ha.run pos2 pins s σ H _ J h) fun us s1 ⟨vs, H1, J1, r1, q1⟩ => ?_) hs2 hpl))
  obtain ⟨a, b, xs, ys, ex, hqx, hqy, q⟩ := q1
  subst ex
  cases r1 with
  | cons r rr =>
    cases rr with
    | cons r' rr =>
      cases rr
      cases r
      cases r'
      obtain ⟨its, rv, tp1, z1⟩ := J1.tuple hqx
      obtain ⟨its2, rv2, tp2, z2⟩ := J1.tuple hqy
      obtain ⟨o1, ho1, _⟩ := id tp1
      obtain ⟨o2, ho2, _⟩ := id tp2
      have la := Heap.lt_size ho1
      have lb := Heap.lt_size ho2
      have t1 : s1.heap.IsTuple a its.toArray := tp1
      have t2 : s1.heap.IsTuple b its2.toArray := tp2
      refine RZ.call_zipT t1 t2 fun h' hz hTI hTO h1 h2 hsz hk => ?_
      refine Calls.spliced_nil ?_
      have lv := rv.length
      have lv2 := rv2.length
      have lz : (its.zip its2).length ≤ sizeLine := by rw [List.length_zip]; omega
      refine zl_call (s := { s1 with heap := h' }) (ps := its.zip its2) (J1.ok.hd hc) (PySem.W.ktu_apart s1.heap.objs.size a b la lb) ⟨by show _ < h'.objs.size; omega, by show _ < h'.objs.size; omega, by show _ < h'.objs.size; omega, by show _ < h'.objs.size; omega, by show _ < h'.objs.size; omega, Nat.lt_of_lt_of_le la (by rw [hsz]; exact Nat.le_add_right _ _), Nat.lt_of_lt_of_le lb (by rw [hsz]; exact Nat.le_add_right _ _)⟩ lz (fun i x y e => by
        obtain ⟨e1, e2⟩ := zip_get e
        exact ⟨by simpa using e1, by simpa using e2⟩) (by
        rw [List.length_zip]
        by_cases hle : its.length ≤ its2.length
        · exact .inl (by simp; omega)
        · exact .inr (by simp; omega)) hz ⟨_, _, hTO⟩ hTI h1 h2 (t1.at fun o e => hk _ o e) (t2.at fun o e => hk _ o e) fun h'' tk acc c as k hS hl hG hacc => ?_
      obtain ⟨H', k1, k2, k3, k4, J2⟩ := zip_laid (tk := tk) (pv := xs.zip ys) J1 (S := h'.objs.size) (by omega) lz (by rw [List.length_zip, List.length_zip]; omega) (fun j p u e1 e2 => by
        obtain ⟨x, y⟩ := p
        obtain ⟨u, v⟩ := u
        obtain ⟨f1, f2⟩ := zip_get e1
        obtain ⟨f3, f4⟩ := zip_get e2
        obtain ⟨w1, g1, g2⟩ := rv.get f1
        obtain ⟨w2, g3, g4⟩ := rv2.get f2
        rw [f3] at g1; rw [f4] at g3
        cases g1; cases g3
        exact ⟨g2, g4⟩) (fun b o e => k b o (Nat.ne_of_lt (Nat.lt_of_lt_of_le (Heap.lt_size e) (Nat.le_add_right _ _))) (Nat.ne_of_lt (Nat.lt_of_lt_of_le (Heap.lt_size e) (Nat.le_add_right _ _))) (Nat.ne_of_lt (Heap.lt_size e)) (Nat.ne_of_lt (Nat.lt_of_lt_of_le (Heap.lt_size e) (Nat.le_add_right _ _))) (hk b o e)) hS hl hG hacc
      refine ⟨.ref _, H', J2, rfl, q H' _ as k1 k2 (by rw [hl, List.length_zip]; omega) k3 fun j a hj => ?_⟩
      obtain ⟨p, e1, e2⟩ := k4 j a hj
      obtain ⟨x, y⟩ := p
      obtain ⟨f1, f2⟩ := zip_get e1
      exact ⟨x, y, f1, f2, e2⟩
def fLZ : List T → Option T
  | [x, y] => if (isTup x && isTup y) = true then (dataOf x).bind fun as => (dataOf y).map fun bs => .l (zipP as bs) else none
  | _ => none
theorem owns_pairs {K : PySem.W.Frag} {H : Hp} : ∀ (as : List Addr) (ds es : List D) (vs ws : List V), RepDs K H vs ds → RepDs K H ws es → as.length = min vs.length ws.length → (∀ (j : Nat) (a : Addr), as[j]? = some a → ∃ x y, vs[j]? = some x ∧ ws[j]? = some y ∧ H a = some (.tup [x, y])) → Owns K H (as.map V.ref) (zipP ds es) []
  | [], ds, es, vs, ws, r, s, hl, _ => by
    have e := zipP_len ds es
    rw [← r.length, ← s.length, ← hl] at e
    have : zipP ds es = [] := List.eq_nil_of_length_eq_zero e
    rw [this]; exact .nil
  | a :: as, _, _, _, _, .nil, s, hl, _ => by simp at hl
  | a :: as, _, _, _, _, .cons _ _, .nil, hl, _ => by simp at hl
  | a :: as, _, _, _, _, .cons (vs := vs) (ds := ds) r t, .cons (vs := ws) (ds := es) r2 t2, hl, h => by
    obtain ⟨x, y, e1, e2, e3⟩ := h 0 a rfl
    cases e1
    cases e2
    have ih := owns_pairs as ds es vs ws t t2 (by simp at hl; omega) fun j b hj => by
      obtain ⟨x, y, f1, f2, f3⟩ := h (j + 1) b (by simpa using hj)
      exact ⟨x, y, by simpa using f1, by simpa using f2, f3⟩
    exact .cons (F := []) (G := []) (.d (.tup (.inl (.inl e3)) (.cons r (.cons r2 .nil)))) ih
theorem n_listZip {W : WX} {a b : Expr} {ga gb : En → R T} {p p2 pos pos2 : Pos} (hc : X.calm = true) (hm : X.mg "list" = none) (hm2 : X.mg "zip" = none) (ha : PV X W a ga) (hb : PV X W b gb) (hg : Gl X "list" := by rfl) (hg2 : Gl X "zip" := by rfl)
    (hs : starEach [.Call (.Name "zip" p2) [a, b] [] pos2] X.env = (false, eval (.Call (.Name "zip" p2) [a, b] [] pos2) X.env) :: starEach [] X.env := by rfl)
    (hs2 : starEach [a, b] X.env = (false, eval a X.env) :: starEach [b] X.env := by rfl) (hs3 : starEach [b] X.env = (false, eval b X.env) :: starEach [] X.env := by rfl) (hpl : (backTo pos2 (starEach [b] X.env)).any (·.1) = false := by rfl) :
    PN X W (.Call (.Name "list" p) [.Call (.Name "zip" p2) [a, b] [] pos2] [] pos) (gCall fLZ (aCons ga (aCons gb aNil))) := by
  obtain ⟨t, pp, s⟩ := av_cons ha (av_cons hb av_nil hs3) hs2
  refine ⟨_, pe_listZip hc hg hm hg2 hm2 pp hs hs2 hpl, fun σ H en Q ve q => s σ H en _ ve ?_⟩
  unfold gCall at q
  cases e : aCons ga (aCons gb aNil) en with
  | ok xs =>
    rw [e] at q
    intro vs H' sm w
    simp only [R.bind_ok] at q
    cases ef : fLZ xs with
    | none => rw [ef] at q; exact q.elim
    | some y =>
      rw [ef] at q
      cases w with
      | nil => cases ef
      | cons o t => cases t with
        | nil => cases ef
        | cons o2 t => cases t with
          | cons _ _ => cases ef
          | nil =>
            rename_i x1 _ _ x2 _
            have ef : (if (isTup x1 && isTup x2) = true then (dataOf x1).bind fun as => (dataOf x2).map fun bs => T.l (zipP as bs) else none) = some y := ef
            by_cases hc : (isTup x1 && isTup x2) = true
            · rw [if_pos hc] at ef
              obtain ⟨ds, hd, ef⟩ := Option.bind_eq_some_iff.mp ef
              obtain ⟨es, he, rfl⟩ := Option.map_eq_some_iff.mp ef
              obtain ⟨a0, vs, rfl, r, z⟩ := seq_own o hd
              obtain ⟨b0, ws, rfl, r2, z2⟩ := seq_own o2 he
              rw [Bool.and_eq_true] at hc
              rcases z with z | z
              · rw [z.2.1] at hc; cases hc.1
              rcases z2 with z2 | z2
              · rw [z2.2.1] at hc; cases hc.2
              refine ⟨a0, b0, vs, ws, rfl, z.2.2, z2.2.2, fun H2 S as k1 k2 k3 k4 k5 => ?_⟩
              have sm2 : Same H' H2 := fun c o e => k1 c o e
              refine q _ H2 [S] (sm.trans sm2) (.l k4 (owns_pairs as ds es vs ws (r.mono (.of sm2)) (r2.mono (.of sm2)) k3 k5)) ⟨by simp, fun c m => ?_⟩
              have : c = S := by simpa using m
              rw [this]; exact sm.free k2
            · rw [if_neg hc] at ef; cases ef
  | ex c => rw [e] at q; exact q
  | no => rw [e] at q; exact q
end
end Z
/-! Z: and, or with effects in a test; more to reckon with. -/
namespace Z
open PySem PySem.Spec L2
open PyProof.Rows hiding St
section
variable {X : Cx} {W : WX} {a b : Expr} {rest : List Expr} {pos : Pos} {ma mb : En → RM Bool}
def PMW (X : Cx) (W : WX) (e : Expr) (m : En → RM Bool) : Prop := ∃ t, PW X e t ∧ SpMT X W m t
def mAnd (ma mb : En → RM Bool) : En → RM Bool := fun en => (ma en).bind fun x en1 => if x = true then mb en1 else .ok false en1
def mOr (ma mb : En → RM Bool) : En → RM Bool := fun en => (ma en).bind fun x en1 => if x = true then .ok true en1 else mb en1
theorem MT.after {H H1 : Hp} {Fs Fs1 : Ft} {σ : L2.St} {en en1 : En} {Q : Bool → Hp → Prop} {r : RM Bool} (x : Aft X.K H Fs σ en H1 Fs1 σ en1 []) (q : MT X W H Fs σ en Q r) : MT X W H1 Fs1 σ en1 Q r := by
  cases r with
  | ok y en2 => exact fun H2 Fs2 x2 => q H2 Fs2 (x.trans x2)
  | ex c en2 => exact XM.after (W := W) x q
  | no => exact q
theorem mw_and1 (ha : PMT X W a ma) : PMW X W (.BoolOp .And [a] pos) ma := let ⟨t, p, s⟩ := ha; ⟨t, pw_and1 p, s⟩
theorem mw_or1 (ha : PMT X W a ma) : PMW X W (.BoolOp .Or [a] pos) ma := let ⟨t, p, s⟩ := ha; ⟨t, pw_or1 p, s⟩
theorem mw_and (ha : PMT X W a ma) (hb : PMW X W (.BoolOp .And (b :: rest) pos) mb) : PMW X W (.BoolOp .And (a :: b :: rest) pos) (mAnd ma mb) := by
  obtain ⟨t, p, s⟩ := ha
  obtain ⟨t2, p2, s2⟩ := hb
  refine ⟨_, pw_and p p2, fun σ H en Fs Q ok q => s σ H en Fs _ ok ?_⟩
  unfold mAnd at q
  cases e : ma en with
  | ok x en1 =>
    rw [e] at q
    intro H' Fs' x1
    cases x with
    | true => exact iteT (s2 σ H' en1 Fs' Q x1.ok (MT.after (W := W) x1 q))
    | false => exact iteF (q H' Fs' x1)
  | ex c en1 => rw [e] at q; exact q
  | no => rw [e] at q; exact q
theorem mw_or (ha : PMT X W a ma) (hb : PMW X W (.BoolOp .Or (b :: rest) pos) mb) : PMW X W (.BoolOp .Or (a :: b :: rest) pos) (mOr ma mb) := by
  obtain ⟨t, p, s⟩ := ha
  obtain ⟨t2, p2, s2⟩ := hb
  refine ⟨_, pw_or p p2, fun σ H en Fs Q ok q => s σ H en Fs _ ok ?_⟩
  unfold mOr at q
  cases e : ma en with
  | ok x en1 =>
    rw [e] at q
    intro H' Fs' x1
    cases x with
    | false => exact iteF (s2 σ H' en1 Fs' Q x1.ok (MT.after (W := W) x1 q))
    | true => exact iteT (q H' Fs' x1)
  | ex c en1 => rw [e] at q; exact q
  | no => rw [e] at q; exact q
theorem mc_w (h : PMW X W a ma) : PMT X W a ma := let ⟨t, p, s⟩ := h; ⟨t, p.pt, s⟩
end
end Z
/-! Z: plain data, told in full; comprehensions and loops over told lists. -/
namespace Z
open PySem PySem.Spec L2
open PyProof.Rows hiding St
/-! plain data: integers, texts, tuples of them -/
mutual
def pln : Nat → D → Bool
  | _, .int _ => true
  | _, .str s => PyData.strOk s
  | n, .tup ds => match n with
    | 0 => false
    | m + 1 => plns m ds
  | _, _ => false
def plns : Nat → List D → Bool
  | _, [] => true
  | n, d :: r => pln n d && plns n r
end
theorem plns_mem {n : Nat} : ∀ {ds : List D}, plns n ds = true → ∀ d ∈ ds, pln n d = true
  | [], _, d, m => absurd m List.not_mem_nil
  | e :: r, h, d, m => by
    rw [plns, Bool.and_eq_true] at h
    rcases List.mem_cons.mp m with rfl | m
    · exact h.1
    · exact plns_mem h.2 d m
theorem plns_of {n : Nat} : ∀ {ds : List D}, (∀ d ∈ ds, pln n d = true) → plns n ds = true
  | [], _ => by rw [plns]
  | e :: r, h => by rw [plns, h e (List.mem_cons_self ..), plns_of fun d m => h d (List.mem_cons_of_mem _ m)]; rfl
@[simp] theorem pln_int (n : Nat) (i : Int) : pln n (.int i) = true := by unfold pln; rfl
theorem pln_str {n : Nat} {s : Str} (h : PyData.strOk s = true) : pln n (.str s) = true := by unfold pln; exact h
theorem pln_tup {n : Nat} {ds : List D} (h : ∀ d ∈ ds, pln n d = true) : pln (n + 1) (.tup ds) = true := by unfold pln; exact plns_of h
theorem pln_tupI {n : Nat} {ds : List D} (h : pln (n + 1) (.tup ds) = true) : plns n ds = true := by unfold pln at h; exact h
mutual
theorem pln_lay : ∀ {n : Nat} {d : D}, pln n d = true → PyData.canLay0 d.py = true ∧ PyData.depth d.py ≤ n
  | n, .int i, _ => ⟨by rw [D.py, PyData.canLay0], by rw [D.py, PyData.depth]; exact Nat.zero_le _⟩
  | n, .str s, h => by
    unfold pln at h
    exact ⟨by rw [D.py, PyData.canLay0]; exact h, by rw [D.py, PyData.depth]; exact Nat.zero_le _⟩
  | 0, .tup ds, h => by unfold pln at h; cases h
  | n + 1, .tup ds, h => by
    have := plns_lay (pln_tupI h)
    exact ⟨by rw [D.py, PyData.canLay0]; exact this.1, by rw [D.py, PyData.depth]; omega⟩
  | n, .non, h => by unfold pln at h; cases h
  | n, .bl _, h => by unfold pln at h; cases h
  | n, .rol _, h => by unfold pln at h; cases h
theorem plns_lay : ∀ {n : Nat} {ds : List D}, plns n ds = true → PyData.canLayAll0 (D.pys ds) = true ∧ PyData.depthAll (D.pys ds) ≤ n
  | n, [], _ => ⟨by rw [D.pys, PyData.canLayAll0], by rw [D.pys, PyData.depthAll]; exact Nat.zero_le _⟩
  | n, d :: r, h => by
    rw [plns, Bool.and_eq_true] at h
    have a := pln_lay h.1
    have b := plns_lay h.2
    exact ⟨by rw [D.pys, PyData.canLayAll0, a.1, b.1]; rfl, by rw [D.pys, PyData.depthAll]; omega⟩
end
theorem shp_pln {n : Nat} {d : D} (h : pln n d = true) (hn : n ≤ 64) : shp (T.py (.d d)) = true := by
  have := pln_lay h
  show (PyData.canLay0 d.py && decide (PyData.depth d.py ≤ 64)) = true
  rw [this.1, decide_eq_true (by omega)]; rfl
def deq (a b : D) : Bool := PyData.eqv a.py b.py
def deqs (a b : List D) : Bool := PyData.eqvAll (D.pys a) (D.pys b)
mutual
theorem deq_iff : ∀ {n m : Nat} {a b : D}, pln n a = true → pln m b = true → (deq a b = true ↔ a = b)
  | n, m, .int i, b, _, h2 => by
    cases b with
    | int j => unfold deq; rw [D.py, D.py, eqv_ii, decide_eq_true_iff]; exact ⟨fun e => by rw [e], fun e => by injection e⟩
    | str s => unfold deq; rw [D.py, D.py, PyData.eqv]; exact ⟨nofun, nofun⟩
    | tup s => unfold deq; rw [D.py, D.py, PyData.eqv]; exact ⟨nofun, nofun⟩
    | _ => unfold pln at h2; cases h2
  | n, m, .str i, b, _, h2 => by
    cases b with
    | int j => unfold deq; rw [D.py, D.py, PyData.eqv]; exact ⟨nofun, nofun⟩
    | str s =>
      unfold deq; rw [D.py, D.py, PyData.eqv, beq_iff_eq]; exact ⟨fun e => by rw [e], fun e => by injection e⟩
    | tup s => unfold deq; rw [D.py, D.py, PyData.eqv]; exact ⟨nofun, nofun⟩
    | _ => unfold pln at h2; cases h2
  | 0, m, .tup ds, b, h, _ => by unfold pln at h; cases h
  | n + 1, m, .tup ds, b, h, h2 => by
    cases b with
    | int j => unfold deq; rw [D.py, D.py, PyData.eqv]; exact ⟨nofun, nofun⟩
    | str s => unfold deq; rw [D.py, D.py, PyData.eqv]; exact ⟨nofun, nofun⟩
    | tup es =>
      cases m with
      | zero => unfold pln at h2; cases h2
      | succ m =>
        have := deqs_iff (pln_tupI h) (pln_tupI h2)
        unfold deqs at this
        unfold deq; rw [D.py, D.py, PyData.eqv, this]; exact ⟨fun e => by rw [e], fun e => by injection e⟩
    | _ => unfold pln at h2; cases h2
  | n, m, .non, b, h, _ => by unfold pln at h; cases h
  | n, m, .bl _, b, h, _ => by unfold pln at h; cases h
  | n, m, .rol _, b, h, _ => by unfold pln at h; cases h
theorem deqs_iff : ∀ {n m : Nat} {a b : List D}, plns n a = true → plns m b = true → (deqs a b = true ↔ a = b)
  | n, m, [], [], _, _ => by unfold deqs; rw [D.pys, PyData.eqvAll]; exact ⟨fun _ => rfl, fun _ => rfl⟩
  | n, m, [], _ :: _, _, _ => by unfold deqs; rw [D.pys, D.pys, PyData.eqvAll]; exact ⟨nofun, nofun⟩
  | n, m, _ :: _, [], _, _ => by unfold deqs; rw [D.pys, D.pys, PyData.eqvAll]; exact ⟨nofun, nofun⟩
  | n, m, a :: r, b :: s, h, h2 => by
    rw [plns, Bool.and_eq_true] at h h2
    have e1 := deq_iff h.1 h2.1
    have e2 := deqs_iff h.2 h2.2
    unfold deq at e1; unfold deqs at e2
    unfold deqs; rw [D.pys, D.pys, PyData.eqvAll, Bool.and_eq_true, e1, e2]
    exact ⟨fun e => by rw [e.1, e.2], fun e => by injection e with e1 e2; exact ⟨e1, e2⟩⟩
end
theorem fEq_pln {n m : Nat} {a b : D} (h : pln n a = true) (h2 : pln m b = true) (hn : n ≤ 64) (hm : m ≤ 64) : fEq (.d a) (.d b) = some (.d (.bl (deq a b))) := by
  unfold fEq
  rw [shp_pln h hn, shp_pln h2 hm]; rfl
theorem fNe_pln {n m : Nat} {a b : D} (h : pln n a = true) (h2 : pln m b = true) (hn : n ≤ 64) (hm : m ≤ 64) : fNe (.d a) (.d b) = some (.d (.bl (!deq a b))) := by
  unfold fNe
  rw [shp_pln h hn, shp_pln h2 hm]; rfl
theorem deq_self {n : Nat} {a : D} (h : pln n a = true) : deq a a = true := (deq_iff h h).mpr rfl
theorem deq_ne {n m : Nat} {a b : D} (h : pln n a = true) (h2 : pln m b = true) (e : a ≠ b) : deq a b = false := by
  cases z : deq a b with
  | false => rfl
  | true => exact absurd ((deq_iff h h2).mp z) e
theorem deq_dec {n m : Nat} {a b : D} {P : Prop} [Decidable P] (h : pln n a = true) (h2 : pln m b = true) (e : a = b ↔ P) : deq a b = decide P := by
  by_cases z : P
  · rw [decide_eq_true z]; exact (deq_iff h h2).mpr (e.mpr z)
  · rw [decide_eq_false z]; exact deq_ne h h2 fun w => z (e.mp w)
@[simp] theorem deq_ii (i j : Int) : deq (.int i) (.int j) = decide (i = j) := by unfold deq; rw [D.py, D.py, eqv_ii]
theorem map_inj {α β : Type} {f : α → β} (h : ∀ a b, f a = f b → a = b) : ∀ {xs ys : List α}, xs.map f = ys.map f → xs = ys
  | [], [], _ => rfl
  | [], _ :: _, e => by cases e
  | _ :: _, [], e => by cases e
  | a :: r, b :: s, e => by
    rw [List.map_cons, List.map_cons] at e
    injection e with e1 e2
    rw [h _ _ e1, map_inj h e2]
/-! rows of numbers -/
abbrev rowD (zs : List Int) : D := .tup (zs.map D.int)
abbrev tp (zs : List Int) : T := .d (.tup (zs.map D.int))
abbrev ls (zs : List Int) : T := .l ((zs.map D.int).map T.d)
/-- a tuple of rows; a list of rows -/
abbrev tps (rs : List (List Int)) : T := .d (.tup (rs.map rowD))
abbrev lss (rs : List (List Int)) : T := .l ((rs.map rowD).map T.d)
theorem int_inj : ∀ a b : Int, D.int a = D.int b → a = b := fun _ _ e => by injection e
theorem rowD_inj : ∀ a b : List Int, rowD a = rowD b → a = b := fun _ _ e => map_inj int_inj (by injection e)
theorem rowD_pln (n : Nat) (zs : List Int) : pln (n + 1) (rowD zs) = true := pln_tup fun d m => by
  obtain ⟨z, _, rfl⟩ := List.mem_map.mp m; exact pln_int n z
theorem rowsD_pln (n : Nat) (rs : List (List Int)) : pln (n + 2) (.tup (rs.map rowD)) = true := pln_tup fun d m => by
  obtain ⟨z, _, rfl⟩ := List.mem_map.mp m; exact rowD_pln n z
theorem deq_row (xs ys : List Int) : deq (rowD xs) (rowD ys) = decide (xs = ys) := deq_dec (rowD_pln 0 xs) (rowD_pln 0 ys) ⟨rowD_inj _ _, fun e => by rw [e]⟩
theorem fEq_tp (xs ys : List Int) : fEq (tp xs) (tp ys) = some (.d (.bl (decide (xs = ys)))) := by
  rw [show tp xs = .d (rowD xs) from rfl, show tp ys = .d (rowD ys) from rfl, fEq_pln (rowD_pln 0 xs) (rowD_pln 0 ys) (by decide) (by decide), deq_row]
theorem fNe_tp (xs ys : List Int) : fNe (tp xs) (tp ys) = some (.d (.bl (!decide (xs = ys)))) := by
  rw [show tp xs = .d (rowD xs) from rfl, show tp ys = .d (rowD ys) from rfl, fNe_pln (rowD_pln 0 xs) (rowD_pln 0 ys) (by decide) (by decide), deq_row]
theorem gd {α : Type} {l : List α} {i : Nat} {d : α} (h : i < l.length) : l.getD i d = l[i] := by simp [List.getD, h]
theorem gd_ge {α : Type} {l : List α} {i : Nat} {d : α} (h : l.length ≤ i) : l.getD i d = d := by simp [List.getD, h]
theorem fIx_tup {ds : List D} {z : Int} (i : Nat) (hz : z = (i : Int)) (h : i < ds.length) : fIx (.d (.tup ds)) (.d (.int z)) = some (.d ds[i]) := by
  rw [hz]
  show (atI ds (i : Int)).map T.d = _
  rw [atI_nat (by omega) (by omega), Int.toNat_natCast, List.getElem?_eq_getElem h]; rfl
theorem fIx_lst {xs : List T} {z : Int} (i : Nat) (hz : z = (i : Int)) (h : i < xs.length) : fIx (.l xs) (.d (.int z)) = some xs[i] := by
  rw [hz, fIx_l_num i h, List.getElem?_eq_getElem h]
theorem fIx_tp {zs : List Int} {z : Int} (i : Nat) (hz : z = (i : Int)) (h : i < zs.length) : fIx (tp zs) (.d (.int z)) = some (I (zs.getD i 0)) := by
  rw [fIx_tup i hz (by simpa using h), List.getElem_map, gd h]
theorem fIx_ls {zs : List Int} {z : Int} (i : Nat) (hz : z = (i : Int)) (h : i < zs.length) : fIx (ls zs) (.d (.int z)) = some (I (zs.getD i 0)) := by
  rw [fIx_lst i hz (by simpa using h), List.getElem_map, List.getElem_map, gd h]
theorem fIx_tps {rs : List (List Int)} {z : Int} (i : Nat) (hz : z = (i : Int)) (h : i < rs.length) : fIx (tps rs) (.d (.int z)) = some (tp (rs.getD i [])) := by
  rw [fIx_tup i hz (by simpa using h), List.getElem_map, gd h]
theorem fIx_lss {rs : List (List Int)} {z : Int} (i : Nat) (hz : z = (i : Int)) (h : i < rs.length) : fIx (lss rs) (.d (.int z)) = some (tp (rs.getD i [])) := by
  rw [fIx_lst i hz (by simpa using h), List.getElem_map, List.getElem_map, gd h]
@[simp] theorem fLen_tp (zs : List Int) : fLen [tp zs] = some (I zs.length) := by rw [fLen_t, List.length_map]
@[simp] theorem fLen_ls (zs : List Int) : fLen [ls zs] = some (I zs.length) := by rw [fLen_l, List.length_map, List.length_map]
@[simp] theorem fLen_tps (zs : List (List Int)) : fLen [tps zs] = some (I zs.length) := by rw [fLen_t, List.length_map]
@[simp] theorem fLen_lss (zs : List (List Int)) : fLen [lss zs] = some (I zs.length) := by rw [fLen_l, List.length_map, List.length_map]
/-! comprehensions over told lists -/
theorem lcL_gen {β : Type} {k : T → Option Ass} {tt : En → R Bool} {te : En → R T} {en : En} {h G : β → T} {c : β → Bool} : ∀ (L : List β), (∀ x ∈ L, ∃ as, k (h x) = some as ∧ tt (setE en as) = .ok (c x) ∧ (c x = true → te (setE en as) = .ok (G x))) → lcL k tt te en (L.map h) = .ok ((L.filter c).map G)
  | [], _ => rfl
  | i :: L, H => by
    obtain ⟨as, h1, h2, h3⟩ := H i (List.mem_cons_self ..)
    have ih := lcL_gen (k := k) (tt := tt) (te := te) (en := en) (h := h) (G := G) (c := c) L fun j m => H j (List.mem_cons_of_mem _ m)
    rw [List.map_cons]
    unfold lcL
    rw [h1, R.of_some, R.bind_ok, h2, R.bind_ok, ih]
    by_cases e : c i = true
    · rw [if_pos e, h3 e, R.bind_ok, R.bind_ok, List.filter_cons_of_pos e]; rfl
    · rw [if_neg e, List.filter_cons_of_neg e]
theorem gLc_if {β : Type} {vs : List Nat} {gs : En → R (List T)} {k : T → Option Ass} {tt : En → R Bool} {te : En → R T} {en : En} (L : List β) (h : β → T) (g : β → D) (c : β → Bool) (hg : gs en = .ok (L.map h)) (hn : L.length < 16777216) (H : ∀ x ∈ L, ∃ as, k (h x) = some as ∧ tt (setE (wipeE en vs) as) = .ok (c x) ∧ (c x = true → te (setE (wipeE en vs) as) = .ok (.d (g x)))) : gLc vs gs k tt te en = .ok (.l (((L.filter c).map g).map T.d)) := by
  rw [gLc_ev, hg, R.bind_ok, if_pos (show (L.map h).length < most by rw [List.length_map]; exact hn), lcL_gen (G := fun x => .d (g x)) (c := c) L H, calm_ok, R.bind_ok, List.map_map]; rfl
theorem gLc_all {β : Type} {vs : List Nat} {gs : En → R (List T)} {k : T → Option Ass} {te : En → R T} {en : En} (L : List β) (h : β → T) (g : β → D) (hg : gs en = .ok (L.map h)) (hn : L.length < 16777216) (H : ∀ x ∈ L, ∃ as, k (h x) = some as ∧ te (setE (wipeE en vs) as) = .ok (.d (g x))) : gLc vs gs k gYes te en = .ok (.l ((L.map g).map T.d)) := by
  have := gLc_if (vs := vs) (gs := gs) (k := k) (tt := gYes) (te := te) (en := en) L h g (fun _ => true) hg hn fun x m => let ⟨as, a, b⟩ := H x m; ⟨as, a, rfl, fun _ => b⟩
  rwa [List.filter_eq_self.mpr fun _ _ => rfl] at this
/-- what is walked -/
theorem gIt_of {β : Type} {g : En → R T} {en : En} {x : T} {xs : List β} {e : β → D} (hx : g en = .ok x) (hd : items x = some ((xs.map e).map T.d)) : gIt g en = .ok (xs.map fun a => T.d (e a)) := by
  rw [gIt_ev, hx, R.bind_ok, hd, R.of_some, List.map_map]; rfl
theorem gR1_of {g : En → R T} {en : En} {n : Nat} (hx : g en = .ok (I n)) (hn : n ≤ 1000000000) : gR1 g en = .ok ((List.range n).map fun (i : Nat) => T.d (.int (i : Int))) := by
  rw [gR1_n hx (by omega) (by omega), Int.toNat_natCast, rng_d, List.map_map]
  congr 1
  apply List.map_congr_left
  intro i _
  show T.d (.int (0 + (i : Int) * 1)) = _
  rw [Int.mul_one, Int.zero_add]
theorem enumP_map {β : Type} (e : β → D) : ∀ (xs : List β) (k : Nat), enumP k (xs.map e) = (xs.zipIdx k).map fun q => T.d (.tup [.int (q.2 : Nat), e q.1])
  | [], _ => rfl
  | a :: r, k => by rw [List.map_cons, enumP, enumP_map e r (k + 1), List.zipIdx_cons, List.map_cons]
theorem gEnum_of {β : Type} {g : En → R T} {en : En} {x : T} {xs : List β} {e : β → D} (hx : g en = .ok x) (hd : dataOf x = some (xs.map e)) : gEnum g en = .ok (xs.zipIdx.map fun q => T.d (.tup [.int (q.2 : Nat), e q.1])) := by
  unfold gEnum gPr
  rw [aCons_ev, hx, R.bind_ok, aNil_ev, R.bind_ok, R.bind_ok]
  unfold fEnum
  simp only [hd, Option.map_some, enumP_map]
  rfl
theorem zipP_map {β γ : Type} (e : β → D) (f : γ → D) : ∀ (xs : List β) (ys : List γ), zipP (xs.map e) (ys.map f) = (xs.zip ys).map fun q => T.d (.tup [e q.1, f q.2])
  | [], _ => by simp [zipP]
  | _ :: _, [] => by simp [zipP]
  | a :: r, b :: s => by rw [List.map_cons, List.map_cons, zipP, zipP_map e f r s]; rfl
theorem gZip_of {β γ : Type} {ga gb : En → R T} {en : En} {x y : T} {xs : List β} {ys : List γ} {e : β → D} {f : γ → D} (hx : ga en = .ok x) (hy : gb en = .ok y) (hd : dataOf x = some (xs.map e)) (he : dataOf y = some (ys.map f)) (hk : ((isLst x && isLst y) || (isTup x && isTup y)) = true := by rfl) : gZip ga gb en = .ok ((xs.zip ys).map fun q => T.d (.tup [e q.1, f q.2])) := by
  unfold gZip gPr
  rw [aCons_ev, hx, R.bind_ok, aCons_ev, hy, R.bind_ok, aNil_ev, R.bind_ok, R.bind_ok, R.bind_ok]
  unfold fZip
  simp only [hk, if_true, hd, he, Option.bind_some, Option.map_some, zipP_map]
  rfl
theorem stows2 {en en1 en2 : En} {i j : Nat} {x y : D} (h1 : stow en i (.v (.d x)) = some en1) (h2 : stow en1 j (.v (.d y)) = some en2) : stows en [(i, .d x), (j, .d y)] = some en2 := by
  rw [stows_cons, mkS_d, h1, Option.bind_some, stows_cons, mkS_d, h2, Option.bind_some, stows_nil]
/-! loops over told lists -/
theorem forE_pre {β : Type} {k : T → Option Ass} {f : En → SR} {h : β → T} (Q : List β → En → Prop) : ∀ (L pre : List β), (∀ p x s en, pre ++ L = p ++ x :: s → Q p en → ∃ as en1 en2, k (h x) = some as ∧ stows en as = some en1 ∧ (f en1 = .nx en2 ∨ f en1 = .ct en2) ∧ Q (p ++ [x]) en2) → ∀ en, Q pre en → ∃ en', forE k f (L.map h) en = .nx en' ∧ Q (pre ++ L) en'
  | [], pre, _, en, q => ⟨en, rfl, by rwa [List.append_nil]⟩
  | x :: L, pre, H, en, q => by
    obtain ⟨as, en1, en2, h1, h2, h3, h4⟩ := H pre x L en rfl q
    obtain ⟨en', h5, h6⟩ := forE_pre Q L (pre ++ [x]) (fun p y s en e q => H p y s en (by rw [← e, List.append_assoc]; rfl) q) en2 h4
    refine ⟨en', ?_, by rw [List.append_assoc] at h6; exact h6⟩
    rw [List.map_cons]
    show (match (k (h x)).bind fun as => stows en as with
    | none => SR.no
    | some en1 => match f en1 with
      | .nx en2 => forE k f (L.map h) en2
      | .ct en2 => forE k f (L.map h) en2
      | .brk en2 => .nx en2
      | r => r) = _
    rw [h1, Option.bind_some, h2]
    rcases h3 with h3 | h3 <;> simp only [h3] <;> exact h5
/-- a loop told by places, over what is walked -/
theorem for_pre {β : Type} {k : T → Option Ass} {mi : En → RM (List T)} {f : En → SR} {h : β → T} (Q : List β → En → Prop) (L : List β) (en : En) {en0 : En} (hm : mi en = .ok (L.map h) en0) (h0 : Q [] en0) (H : ∀ p x s en, L = p ++ x :: s → Q p en → ∃ as en1 en2, k (h x) = some as ∧ stows en as = some en1 ∧ (f en1 = .nx en2 ∨ f en1 = .ct en2) ∧ Q (p ++ [x]) en2) : ∃ en', fFor k mi f en = .nx en' ∧ Q L en' := by
  obtain ⟨en', h1, h2⟩ := forE_pre (k := k) (f := f) (h := h) Q L [] (fun p x s en e q => H p x s en e q) en0 h0
  refine ⟨en', ?_, h2⟩
  show (mi en).s _ = _
  rw [hm]; exact h1
theorem forN_pre {β : Type} {k : T → Option Ass} {i : Nat} {f : En → SR} {h : β → T} (Q : List β → En → Prop) (L : List β) (en : En) (hn : notOwn (weak en i) i = true) (hm : (at_ (weak en i) i).bind items = some (L.map h)) (h0 : Q [] (weak en i)) (H : ∀ p x s en, L = p ++ x :: s → Q p en → ∃ as en1 en2, k (h x) = some as ∧ stows en as = some en1 ∧ (f en1 = .nx en2 ∨ f en1 = .ct en2) ∧ Q (p ++ [x]) en2) : ∃ en', fForN k i f en = .nx en' ∧ Q L en' := by
  obtain ⟨en', h1, h2⟩ := forE_pre (k := k) (f := f) (h := h) Q L [] (fun p x s en e q => H p x s en e q) _ h0
  refine ⟨en', ?_, h2⟩
  show (if _ then _ else _) = _
  rw [if_pos hn]
  simp only [hm]; exact h1
theorem items_tp (zs : List Int) : items (tp zs) = some (zs.map fun z => T.d (.int z)) := by rw [items_t, List.map_map]; rfl
theorem items_tps (zs : List (List Int)) : items (tps zs) = some (zs.map fun z => T.d (rowD z)) := by rw [items_t, List.map_map]; rfl
theorem items_lss (zs : List (List Int)) : items (lss zs) = some (zs.map fun z => T.d (rowD z)) := by rw [items_l, List.map_map]; rfl
/-! alike, by the laws' own look -/
def d_isint : En → SR :=
  (fRet (lft (gPur (gAndV (gIsi isInt (vN 0)) (gNotV (gIsi isBl (vN 0)))))))
def F_isint := runP 1 1 d_isint
def d_same (Fr : List T → R T) : En → SR :=
  (fSeq (fIf (lft (gTru (gIsi isTup (vN 1)))) (fSeq (fIf (lft (gOr (gNot (gTru (gIsi isTup (vN 0)))) (gT (g2 fNe (gCall fLen (aCons (vN 0) aNil)) (gCall fLen (aCons (vN 1) aNil)))))) (fRet (lft (kB false))) fNil)
  (fRet (lft (gCall fAll (aCons (gLc [2] (gR1 (gCall fLen (aCons (vN 1) aNil))) (kName 2) gYes (gFn Fr (aCons (g2 fIx (vN 0) (vN 2)) (aCons (g2 fIx (vN 1) (vN 2)) aNil)))) aNil))))) fNil)
  (fSeq (fIf (lft (gTru (gIsi isStr (vN 1)))) (fRet (lft (gPur (gAndV (gIsi isStr (vN 0)) (g2 fEq (vN 0) (vN 1)))))) fNil)
  (fRet (lft (gPur (gAndV (gFn F_isint (aCons (vN 0) aNil)) (g2 fEq (vN 0) (vN 1))))))))
def F_same : Nat → List T → R T
  | 0 => fun _ => .no
  | n + 1 => runP 3 2 (d_same (F_same n))
theorem all_map {β : Type} (L : List β) (g : β → Bool) : (L.map g).all id = L.all g := by rw [List.all_map]; rfl
theorem fAll_of {β : Type} (L : List β) (g : β → Bool) : fAll [.l ((L.map fun x => D.bl (g x)).map T.d)] = some (.d (.bl (L.all g))) := by
  rw [fAll_ev, lstOf_l, allD_map, Option.bind_some, show (L.map fun x => D.bl (g x)) = (L.map g).map D.bl by rw [List.map_map]; rfl, asBls_map, Option.map_some, all_map]
theorem deqs_all : ∀ {xs ys : List D}, xs.length = ys.length → deqs xs ys = (List.range ys.length).all fun k => deq (xs.getD k .non) (ys.getD k .non)
  | [], [], _ => by unfold deqs; rw [D.pys, PyData.eqvAll]; rfl
  | a :: r, b :: s, h => by
    have ih := deqs_all (xs := r) (ys := s) (by simpa using h)
    unfold deqs at ih ⊢
    rw [D.pys, D.pys, PyData.eqvAll, ih, List.length_cons, List.range_succ_eq_map, List.all_cons, List.all_map]
    rfl
  | [], _ :: _, h => by cases h
  | _ :: _, [], h => by cases h
mutual
def sz : D → Bool
  | .tup ds => decide (ds.length < 1000000) && szs ds
  | _ => true
def szs : List D → Bool
  | [] => true
  | d :: r => sz d && szs r
end
theorem szs_of : ∀ {ds : List D}, (∀ d ∈ ds, sz d = true) → szs ds = true
  | [], _ => by rw [szs]
  | e :: r, h => by rw [szs, h e (List.mem_cons_self ..), szs_of fun d m => h d (List.mem_cons_of_mem _ m)]; rfl
theorem szs_mem : ∀ {ds : List D}, szs ds = true → ∀ d ∈ ds, sz d = true
  | [], _, d, m => absurd m List.not_mem_nil
  | e :: r, h, d, m => by
    rw [szs, Bool.and_eq_true] at h
    rcases List.mem_cons.mp m with rfl | m
    · exact h.1
    · exact szs_mem h.2 d m
theorem sz_tup {ds : List D} (hl : ds.length < 1000000) (h : ∀ d ∈ ds, sz d = true) : sz (.tup ds) = true := by rw [sz, szs_of h, decide_eq_true hl]; rfl
@[simp] theorem sz_int (i : Int) : sz (.int i) = true := by rw [sz]; intro _ h; cases h
@[simp] theorem sz_str (i : Str) : sz (.str i) = true := by rw [sz]; intro _ h; cases h
theorem same_ok : ∀ (n m : Nat) {x y : D}, pln n y = true → pln m x = true → n ≤ 64 → m ≤ 64 → sz y = true → F_same (n + 1) [.d x, .d y] = .ok (.d (.bl (deq x y)))
  | n, m, x, .int j, hy, hx, hn, hm, hz => by
    refine runP_ret rfl ?_
    show ∃ e, d_same (F_same n) [.v (.d x), .v (.d (.int j)), .n] = _
    unfold d_same
    refine ret_if_f rfl ?_
    refine ret_if_f rfl ?_
    refine ret_lft ?_
    cases x with
    | int i =>
      have e : F_isint [.d (.int i)] = .ok (.d (.bl true)) := rfl
      simp only [gPur_ev, gAndV_ev, gFn_ev, aCons_ev, aNil_ev, vN_ev, at_succ, at_zero, get_v, R.of_some, R.bind_ok, e, tru_b, if_true, g2_ev, fEq_i, R.pur_d, deq_ii]
    | str i =>
      have e : F_isint [.d (.str i)] = .ok (.d (.bl false)) := rfl
      simp only [gPur_ev, gAndV_ev, gFn_ev, aCons_ev, aNil_ev, vN_ev, at_succ, at_zero, get_v, R.of_some, R.bind_ok, e, tru_b, Bool.false_eq_true, if_false, R.pur_d, deq_ne hx hy (fun e => by cases e)]
    | tup i =>
      have e : F_isint [.d (.tup i)] = .ok (.d (.bl false)) := rfl
      simp only [gPur_ev, gAndV_ev, gFn_ev, aCons_ev, aNil_ev, vN_ev, at_succ, at_zero, get_v, R.of_some, R.bind_ok, e, tru_b, Bool.false_eq_true, if_false, R.pur_d, deq_ne hx hy (fun e => by cases e)]
    | _ => unfold pln at hx; cases hx
  | n, m, x, .str j, hy, hx, hn, hm, hz => by
    refine runP_ret rfl ?_
    show ∃ e, d_same (F_same n) [.v (.d x), .v (.d (.str j)), .n] = _
    unfold d_same
    refine ret_if_f rfl ?_
    rw [fSeq_ev, fIf_t rfl]
    cases x with
    | str i =>
      refine ⟨[.v (.d (.str i)), .v (.d (.str j)), .n], ?_⟩
      rw [fRet_ev, lft_n (x := .d (.bl (deq (.str i) (.str j)))) (by
        simp only [gPur_ev, gAndV_ev, gIsi_ev, g2_ev, vN_ev, at_succ, at_zero, get_v, R.of_some, R.bind_ok, isStr, tru_b, if_true, fEq_pln hx hy hm hn, R.pur_d])]; rfl
    | int i => exact ⟨_, by rw [deq_ne hx hy (fun e => by cases e)]; rfl⟩
    | tup i => exact ⟨_, by rw [deq_ne hx hy (fun e => by cases e)]; rfl⟩
    | _ => unfold pln at hx; cases hx
  | 0, m, x, .tup ds, hy, hx, hn, hm, hz => by unfold pln at hy; cases hy
  | n + 1, m, x, .tup ds, hy, hx, hn, hm, hz => by
    refine runP_ret rfl ?_
    show ∃ e, d_same (F_same (n + 1)) [.v (.d x), .v (.d (.tup ds)), .n] = _
    unfold d_same
    rw [fSeq_ev, fIf_t rfl, fSeq_ev]
    cases x with
    | str i => exact ⟨_, by rw [fIf_t rfl, deq_ne hx hy (fun e => by cases e)]; rfl⟩
    | int i => exact ⟨_, by rw [fIf_t rfl, deq_ne hx hy (fun e => by cases e)]; rfl⟩
    | tup es =>
      have hl : ds.length < 1000000 := by
        rw [sz, Bool.and_eq_true] at hz; exact of_decide_eq_true hz.1
      have hz' := hz
      rw [sz, Bool.and_eq_true] at hz'
      by_cases he : es.length = ds.length
      · rw [fIf_f (by simp only [gOr_ev, gNot_ev, gTru_ev, gIsi_ev, gT_ev, g2_ev, gCall_ev, aCons_ev, aNil_ev, vN_ev, at_succ, at_zero, get_v, R.of_some, R.bind_ok, isTup, tru_b, Bool.not_true, Bool.false_eq_true, if_false, fLen_t, fNe_i, tst_b, he, decide_true]), fNil_ev, sq_nx]
        cases m with
        | zero => unfold pln at hx; cases hx
        | succ m =>
          have er := gR1_of (g := gCall fLen (aCons (vN 1) aNil)) (en := [.v (.d (.tup es)), .v (.d (.tup ds)), .n]) (n := ds.length) (by simp only [gCall_ev, aCons_ev, aNil_ev, vN_ev, at_succ, at_zero, get_v, R.of_some, R.bind_ok, fLen_t]) (by omega)
          have el := gLc_all (vs := [2]) (gs := gR1 (gCall fLen (aCons (vN 1) aNil))) (k := kName 2) (te := gFn (F_same (n + 1)) (aCons (g2 fIx (vN 0) (vN 2)) (aCons (g2 fIx (vN 1) (vN 2)) aNil))) (List.range ds.length) _ (fun k => D.bl (deq (es.getD k .non) (ds.getD k .non))) er (by rw [List.length_range]; omega) (fun k hk => by
            have hk := List.mem_range.mp hk
            have hk2 : k < es.length := by omega
            have ih := same_ok n m (x := es[k]) (y := ds[k]) (plns_mem (pln_tupI hy) _ (List.getElem_mem hk)) (plns_mem (pln_tupI hx) _ (List.getElem_mem hk2)) (by omega) (by omega) (szs_mem hz'.2 _ (List.getElem_mem hk))
            refine ⟨_, rfl, ?_⟩
            simp only [wipeE_cons, wipeE_nil, List.set_cons_succ, List.set_cons_zero, setE_cons, setE_nil, mkS_d, gFn_ev, aCons_ev, aNil_ev, g2_ev, vN_ev, at_succ, at_zero, get_v, R.of_some, R.bind_ok, fIx_tup k rfl hk, fIx_tup k rfl hk2, ih, gd hk, gd hk2])
          have ef : gCall fAll (aCons (gLc [2] (gR1 (gCall fLen (aCons (vN 1) aNil))) (kName 2) gYes (gFn (F_same (n + 1)) (aCons (g2 fIx (vN 0) (vN 2)) (aCons (g2 fIx (vN 1) (vN 2)) aNil)))) aNil) [.v (.d (.tup es)), .v (.d (.tup ds)), .n] = .ok (.d (.bl (deq (.tup es) (.tup ds)))) := by
            rw [gCall_ev, aCons_ev, el, R.bind_ok, aNil_ev, R.bind_ok, R.bind_ok, fAll_of, ← deqs_all he, R.of_some]
            congr 3
          exact ⟨_, by rw [fRet_ev, lft_n ef]; rfl⟩
      · refine ⟨[.v (.d (.tup es)), .v (.d (.tup ds)), .n], ?_⟩
        rw [fIf_t (by simp only [gOr_ev, gNot_ev, gTru_ev, gIsi_ev, gT_ev, g2_ev, gCall_ev, aCons_ev, aNil_ev, vN_ev, at_succ, at_zero, get_v, R.of_some, R.bind_ok, isTup, tru_b, Bool.not_true, Bool.false_eq_true, if_false, fLen_t, fNe_i, tst_b, Int.ofNat_inj, he, decide_false, Bool.not_false]), deq_ne hx hy (fun e => he (by injection e with e; rw [e]))]
        rfl
    | _ => unfold pln at hx; cases hx
end Z
/-! Z: numbers by a prime, as a ring. -/
namespace Z
def Rs (p : Int) : Setoid Int := ⟨fun a b => ∃ k, a = b + p * k, ⟨fun a => ⟨0, by simp⟩, fun ⟨k, h⟩ => ⟨-k, by grind⟩, fun ⟨k, h⟩ ⟨l, h2⟩ => ⟨k + l, by grind⟩⟩⟩
def M (p : Int) := Quotient (Rs p)
def q (p a : Int) : M p := Quotient.mk (Rs p) a
theorem q_of {p a b : Int} (h : ∃ k, a = b + p * k) : q p a = q p b := Quotient.sound h
theorem q_ex {p a b : Int} (h : q p a = q p b) : ∃ k, a = b + p * k := Quotient.exact h
instance (p : Int) : Add (M p) := ⟨Quotient.lift₂ (fun a b => q p (a + b)) fun a b c d ⟨k, h⟩ ⟨l, h2⟩ => q_of ⟨k + l, by grind⟩⟩
instance (p : Int) : Mul (M p) := ⟨Quotient.lift₂ (fun a b => q p (a * b)) fun a b c d ⟨k, h⟩ ⟨l, h2⟩ => q_of ⟨k * d + c * l + p * k * l, by grind⟩⟩
instance (p : Int) : Neg (M p) := ⟨Quotient.lift (fun a => q p (-a)) fun a b ⟨k, h⟩ => q_of ⟨-k, by grind⟩⟩
instance (p : Int) : Sub (M p) := ⟨Quotient.lift₂ (fun a b => q p (a - b)) fun a b c d ⟨k, h⟩ ⟨l, h2⟩ => q_of ⟨k - l, by grind⟩⟩
instance (p : Int) : NatCast (M p) := ⟨fun n => q p n⟩
instance (p : Int) : IntCast (M p) := ⟨fun n => q p n⟩
instance (p : Int) (n : Nat) : OfNat (M p) n := ⟨q p n⟩
instance (p : Int) : SMul Nat (M p) := ⟨fun n a => (n : M p) * a⟩
instance (p : Int) : SMul Int (M p) := ⟨fun n a => (n : M p) * a⟩
def M.pw {p : Int} (a : M p) : Nat → M p
  | 0 => 1
  | n + 1 => M.pw a n * a
instance (p : Int) : HPow (M p) Nat (M p) := ⟨M.pw⟩
theorem q_add (p a b : Int) : q p (a + b) = q p a + q p b := rfl
theorem q_mul (p a b : Int) : q p (a * b) = q p a * q p b := rfl
theorem q_neg (p a : Int) : q p (-a) = -q p a := rfl
theorem q_sub (p a b : Int) : q p (a - b) = q p a - q p b := rfl
theorem q_zero (p : Int) : q p 0 = 0 := rfl
theorem q_one (p : Int) : q p 1 = 1 := rfl
theorem q_ind {p : Int} {P : M p → Prop} (h : ∀ a, P (q p a)) (x : M p) : P x := Quotient.ind h x
theorem q1 {p : Int} {P : M p → Prop} (x : M p) (h : ∀ a, P (q p a)) : P x := Quotient.ind h x
theorem q2 {p : Int} {P : M p → M p → Prop} (x y : M p) (h : ∀ a b, P (q p a) (q p b)) : P x y := q1 (P := fun x => P x y) x fun a => q1 (P := fun y => P (q p a) y) y fun b => h a b
theorem q3 {p : Int} {P : M p → M p → M p → Prop} (x y z : M p) (h : ∀ a b c, P (q p a) (q p b) (q p c)) : P x y z := q2 (P := fun x y => P x y z) x y fun a b => q1 (P := fun z => P (q p a) (q p b) z) z fun c => h a b c
instance (p : Int) : Lean.Grind.CommRing (M p) where
  add_zero a := q1 (P := fun a => a + 0 = a) a fun a => congrArg (q p) (Int.add_zero a)
  add_comm a b := q2 (P := fun a b => a + b = b + a) a b fun a b => congrArg (q p) (Int.add_comm a b)
  add_assoc a b c := q3 (P := fun a b c => a + b + c = a + (b + c)) a b c fun a b c => congrArg (q p) (Int.add_assoc a b c)
  mul_assoc a b c := q3 (P := fun a b c => a * b * c = a * (b * c)) a b c fun a b c => congrArg (q p) (Int.mul_assoc a b c)
  mul_one a := q1 (P := fun a => a * 1 = a) a fun a => congrArg (q p) (Int.mul_one a)
  one_mul a := q1 (P := fun a => 1 * a = a) a fun a => congrArg (q p) (Int.one_mul a)
  left_distrib a b c := q3 (P := fun a b c => a * (b + c) = a * b + a * c) a b c fun a b c => congrArg (q p) (Int.mul_add a b c)
  right_distrib a b c := q3 (P := fun a b c => (a + b) * c = a * c + b * c) a b c fun a b c => congrArg (q p) (Int.add_mul a b c)
  zero_mul a := q1 (P := fun a => 0 * a = 0) a fun a => congrArg (q p) (Int.zero_mul a)
  mul_zero a := q1 (P := fun a => a * 0 = 0) a fun a => congrArg (q p) (Int.mul_zero a)
  pow_zero a := rfl
  pow_succ a n := rfl
  ofNat_succ n := rfl
  ofNat_eq_natCast n := rfl
  nsmul_eq_natCast_mul n a := rfl
  neg_add_cancel a := q1 (P := fun a => -a + a = 0) a fun a => congrArg (q p) (Int.add_left_neg a)
  sub_eq_add_neg a b := q2 (P := fun a b => a - b = a + -b) a b fun a b => congrArg (q p) (Int.sub_eq_add_neg (a := a) (b := b))
  neg_zsmul i a := q1 (P := fun a => -i • a = -(i • a)) a fun a => congrArg (q p) (Int.neg_mul i a)
  zsmul_natCast_eq_nsmul n a := rfl
  intCast_ofNat n := rfl
  intCast_neg i := rfl
  mul_comm a b := q2 (P := fun a b => a * b = b * a) a b fun a b => congrArg (q p) (Int.mul_comm a b)
theorem q_mod {p : Int} (a : Int) : q p (a % p) = q p a := let ⟨k, h⟩ := dvd_mod a p; q_of ⟨k, h⟩
theorem q_emod {p a b : Int} (h : q p a = q p b) : a % p = b % p := by
  obtain ⟨k, rfl⟩ := q_ex h
  exact Int.add_mul_emod_self_left ..
theorem q_iff {p a b : Int} : q p a = q p b ↔ a % p = b % p := ⟨q_emod, fun h => by rw [← q_mod a, h, q_mod]⟩
/-- numbers in their range are told by their residue -/
theorem q_inj {p a b : Int} (ha : 0 ≤ a ∧ a < p) (hb : 0 ≤ b ∧ b < p) (h : q p a = q p b) : a = b := by
  have := q_emod h
  rwa [Int.emod_eq_of_lt ha.1 ha.2, Int.emod_eq_of_lt hb.1 hb.2] at this
theorem q_dvd {p a : Int} : q p a = 0 ↔ a % p = 0 := by
  rw [← q_zero, q_iff]; simp
/-! sums -/
section
variable {p : Int}
def sm : Nat → (Nat → M p) → M p
  | 0, _ => 0
  | n + 1, f => sm n f + f n
theorem sm_congr {f g : Nat → M p} : ∀ {n : Nat}, (∀ k, k < n → f k = g k) → sm n f = sm n g
  | 0, _ => rfl
  | n + 1, h => by rw [sm, sm, sm_congr fun k hk => h k (Nat.lt_succ_of_lt hk), h n (Nat.lt_succ_self n)]
theorem sm_zero {f : Nat → M p} : ∀ {n : Nat}, (∀ k, k < n → f k = 0) → sm n f = 0
  | 0, _ => rfl
  | n + 1, h => by rw [sm, sm_zero fun k hk => h k (Nat.lt_succ_of_lt hk), h n (Nat.lt_succ_self n)]; grind
theorem sm_add (f g : Nat → M p) : ∀ n, sm n (fun k => f k + g k) = sm n f + sm n g
  | 0 => by show (0 : M p) = 0 + 0; grind
  | n + 1 => by rw [sm, sm, sm, sm_add f g n]; grind
theorem sm_sub (f g : Nat → M p) : ∀ n, sm n (fun k => f k - g k) = sm n f - sm n g
  | 0 => by show (0 : M p) = 0 - 0; grind
  | n + 1 => by rw [sm, sm, sm, sm_sub f g n]; grind
theorem sm_mul (c : M p) (f : Nat → M p) : ∀ n, sm n (fun k => c * f k) = c * sm n f
  | 0 => by show (0 : M p) = c * 0; grind
  | n + 1 => by rw [sm, sm, sm_mul c f n]; grind
theorem sm_one {f : Nat → M p} {j : Nat} : ∀ {n : Nat}, j < n → (∀ k, k < n → k ≠ j → f k = 0) → sm n f = f j
  | 0, h, _ => absurd h (Nat.not_lt_zero _)
  | n + 1, h, z => by
    rw [sm]
    by_cases e : j = n
    · subst e
      rw [sm_zero fun k hk => z k (by omega) (by omega)]; grind
    · rw [sm_one (j := j) (n := n) (by omega) fun k hk hne => z k (by omega) hne, z n (by omega) (fun e2 => e e2.symm)]; grind
theorem sm_none {f : Nat → M p} {n : Nat} (z : ∀ k, k < n → f k = 0) : sm n f = 0 := sm_zero z
theorem sm_swap (f : Nat → Nat → M p) : ∀ n m, sm n (fun i => sm m fun j => f i j) = sm m fun j => sm n fun i => f i j
  | 0, m => by rw [sm_zero (n := m) (f := fun j => sm 0 fun i => f i j) fun k _ => rfl]; rfl
  | n + 1, m => by
    rw [sm, sm_swap f n m, ← sm_add]
    rfl
/-- a sum with one more at its head -/
theorem sm_head (f : Nat → M p) : ∀ n, sm (n + 1) f = f 0 + sm n fun k => f (k + 1)
  | 0 => by show 0 + f 0 = f 0 + 0; grind
  | n + 1 => by rw [sm, sm_head f n, sm]; grind
theorem sm_app (f : Nat → M p) (n : Nat) : ∀ m, sm (n + m) f = sm n f + sm m fun k => f (n + k)
  | 0 => by show sm n f = sm n f + 0; grind
  | m + 1 => by rw [← Nat.add_assoc, sm, sm, sm_app f n m]; grind
theorem q_sum : ∀ (f : Nat → Int) (n : Nat), q p ((List.range n).map f).sum = sm n fun k => q p (f k)
  | _, 0 => rfl
  | f, n + 1 => by
    rw [List.range_succ, List.map_append, List.sum_append, q_add, q_sum f n, sm]
    show _ + q p (f n + 0) = _
    rw [Int.add_zero]
end
/-- numbers in their range -/
def Rg (p z : Int) : Prop := 0 ≤ z ∧ z < p
theorem Rg.mod {p : Int} (h : 0 < p) (z : Int) : Rg p (z % p) := mod_range z h
/-- a row of so many numbers by p -/
structure Rw (p : Int) (w : Nat) (r : List Int) : Prop where
  len : r.length = w
  rg : ∀ a ∈ r, Rg p a
theorem Rw.at {p : Int} {w : Nat} {r : List Int} (h : Rw p w r) {k : Nat} (hk : k < w) : Rg p (r.getD k 0) := by
  have : k < r.length := by rw [h.len]; exact hk
  rw [gd this]; exact h.rg _ (List.getElem_mem this)
theorem Rw.at' {p : Int} {w : Nat} {r : List Int} (h : Rw p w r) (hp : 0 < p) (k : Nat) : Rg p (r.getD k 0) := by
  by_cases hk : k < w
  · exact h.at hk
  · rw [gd_ge (by rw [h.len]; omega)]; exact ⟨Int.le_refl _, hp⟩
/-- a number of a row, by its place -/
def cq (p : Int) (r : List Int) (k : Nat) : M p := q p (r.getD k 0)
theorem Rw.ext {p : Int} {w : Nat} {r s : List Int} (hr : Rw p w r) (hs : Rw p w s) (h : ∀ k, k < w → cq p r k = cq p s k) : r = s := by
  apply List.ext_getElem (by rw [hr.len, hs.len])
  intro i h1 h2
  have hi : i < w := by rw [← hr.len]; exact h1
  have := q_inj (hr.at hi) (hs.at hi) (h i hi)
  rwa [gd h1, gd h2] at this
def tab (n : Nat) (v : Nat → Int) : List Int := (List.range n).map v
theorem tab_len (n : Nat) (v : Nat → Int) : (tab n v).length = n := by simp [tab]
theorem tab_gd {n k : Nat} {v : Nat → Int} (h : k < n) : (tab n v).getD k 0 = v k := by
  rw [gd (by rw [tab_len]; exact h)]; simp [tab]
theorem tab_Rw {p : Int} {n : Nat} {v : Nat → Int} (h : ∀ k, k < n → Rg p (v k)) : Rw p n (tab n v) := ⟨tab_len n v, fun a m => by
  obtain ⟨k, hk, rfl⟩ := List.mem_map.mp m
  exact h k (List.mem_range.mp hk)⟩
theorem tab_self (r : List Int) : tab r.length (fun k => r.getD k 0) = r := by
  apply List.ext_getElem (by rw [tab_len])
  intro i h1 h2
  rw [← gd (d := 0) h1, tab_gd (by rwa [tab_len] at h1), gd h2]
theorem tab_congr {n : Nat} {v w : Nat → Int} (h : ∀ k, k < n → v k = w k) : tab n v = tab n w := List.map_congr_left fun k m => h k (List.mem_range.mp m)
theorem zip_tab {α β γ : Type} (f : α × β → γ) (a : List α) (b : List β) (da : α) (db : β) (h : a.length = b.length) : (a.zip b).map f = (List.range a.length).map fun k => f (a.getD k da, b.getD k db) := by
  apply List.ext_getElem (by simp [h])
  intro i h1 h2
  simp only [List.length_map, List.length_zip] at h1
  simp [List.getD, List.getElem?_eq_getElem (show i < a.length by omega), List.getElem?_eq_getElem (show i < b.length by omega)]
theorem map_tab {α β : Type} (f : α → β) (a : List α) (d : α) : a.map f = (List.range a.length).map fun k => f (a.getD k d) := by
  apply List.ext_getElem (by simp)
  intro i h1 h2
  simp only [List.length_map] at h1
  simp [List.getD, List.getElem?_eq_getElem h1]
end Z
/-! Z: rows cut, made, stored to. -/
namespace Z
open PySem PySem.Spec L2
open PyProof.Rows hiding St
theorem cut_take {α : Type} (xs : List α) {m : Nat} (h : m ≤ xs.length) : cutG xs none (some (m : Int)) = xs.take m := by
  have e1 : HT.sIx xs.length 0 none = 0 := rfl
  unfold cutG
  rw [e1, HT.sIx_nat, List.drop_zero, Nat.sub_zero, Nat.min_eq_left h]
theorem cut_drop {α : Type} (xs : List α) {m : Nat} (h : m ≤ xs.length) : cutG xs (some (m : Int)) none = xs.drop m := by
  have e1 : HT.sIx xs.length xs.length none = xs.length := rfl
  unfold cutG
  rw [e1, HT.sIx_nat, Nat.min_eq_left h]
  exact List.take_of_length_le (by rw [List.length_drop]; omega)
theorem fSl_take {zs : List Int} {m : Nat} {z : Int} (hz : z = (m : Int)) (h : m ≤ zs.length) : fSl (tp zs) none (some z) = some (tp (zs.take m)) := by
  show some (T.d (.tup (cutG (zs.map D.int) none (some z)))) = _
  rw [hz, cut_take _ (by simpa using h)]; show _ = some (T.d (.tup ((zs.take m).map D.int))); rw [List.map_take]
theorem fSl_drop {zs : List Int} {m : Nat} {z : Int} (hz : z = (m : Int)) (h : m ≤ zs.length) : fSl (tp zs) (some z) none = some (tp (zs.drop m)) := by
  show some (T.d (.tup (cutG (zs.map D.int) (some z) none))) = _
  rw [hz, cut_drop _ (by simpa using h)]; show _ = some (T.d (.tup ((zs.drop m).map D.int))); rw [List.map_drop]
theorem gd_take {zs : List Int} {m k : Nat} (h : k < m) : (zs.take m).getD k 0 = zs.getD k 0 := by simp [List.getD, List.getElem?_take, h]
theorem gd_drop {zs : List Int} {m k : Nat} : (zs.drop m).getD k 0 = zs.getD (m + k) 0 := by simp [List.getD, List.getElem?_drop]
theorem gd_app_l {a b : List Int} {k : Nat} (h : k < a.length) : (a ++ b).getD k 0 = a.getD k 0 := by simp [List.getD, List.getElem?_append_left h]
theorem gd_app_r {a b : List Int} {k : Nat} : (a ++ b).getD (a.length + k) 0 = b.getD k 0 := by simp [List.getD, List.getElem?_append_right]
/-- noughts -/
def zer (k : Nat) : List Int := tab k fun _ => 0
theorem zer_len (k : Nat) : (zer k).length = k := tab_len ..
theorem zer_gd (k i : Nat) : (zer k).getD i 0 = 0 := by
  by_cases h : i < k
  · exact tab_gd h
  · exact gd_ge (by rw [zer_len]; omega)
theorem flat0 : ∀ k : Nat, (List.replicate k [D.int 0]).flatten = (zer k).map D.int
  | 0 => rfl
  | k + 1 => by
    rw [List.replicate_succ, List.flatten_cons, flat0 k]
    unfold zer tab
    rw [List.range_succ_eq_map, List.map_cons, List.map_cons, List.map_map, List.map_map, List.map_map]
    rfl
theorem fMul_n {as : List D} {k : Nat} (h : as.length * k ≤ 16777216) (hk : k < 1000000) : fMul (.l (as.map T.d)) (.d (.int (k : Int))) = some (.l ((List.replicate k as).flatten.map T.d)) := by
  unfold fMul
  simp only [allD_map]
  rw [if_pos ⟨Int.le_trans (by decide) (Int.natCast_nonneg k), Int.lt_of_lt_of_le (Int.ofNat_lt.mpr hk) (by decide), by rw [Int.toNat_natCast]; exact h⟩, Int.toNat_natCast]
theorem zeros_ok {k : Nat} (hk : k < 1000000) : fMul (.l [.d (.int 0)]) (.d (.int (k : Int))) = some (ls (zer k)) := by
  have e := fMul_n (as := [.int 0]) (k := k) (by show 1 * k ≤ _; omega) hk
  rw [flat0] at e
  exact e
theorem zerosT_ok {k : Nat} {z : Int} (hz : z = (k : Int)) (hk : k ≤ 1000) : fMulT (.d (.tup [.int 0])) (.d (.int z)) = some (tp (zer k)) := by
  rw [hz]
  show (if _ then _ else _) = _
  rw [if_pos ⟨rfl, by decide, by omega, by omega⟩, Int.toNat_natCast, flat0]
theorem fAdd_tp {a b : List Int} (h : a.length + b.length ≤ 16777216) : fAdd (tp a) (tp b) = some (tp (a ++ b)) := by
  show (if _ then _ else _) = _
  rw [if_pos (show (a.map D.int).length + (b.map D.int).length ≤ most by rw [List.length_map, List.length_map]; exact h), ← List.map_append]
theorem zer_Rw {p : Int} (hp : 0 < p) (k : Nat) : Rw p k (zer k) := tab_Rw fun _ _ => ⟨Int.le_refl _, hp⟩
theorem Rw.app {p : Int} {m n : Nat} {a b : List Int} (ha : Rw p m a) (hb : Rw p n b) : Rw p (m + n) (a ++ b) := ⟨by rw [List.length_append, ha.len, hb.len], fun z mz => (List.mem_append.mp mz).elim (ha.rg z) (hb.rg z)⟩
theorem tab_set {n j : Nat} {v : Nat → Int} {z : Int} : (((tab n v).map D.int).map T.d).set j (I z) = ((tab n fun k => if k = j then z else v k).map D.int).map T.d := by
  apply List.ext_getElem?
  intro i
  rw [List.getElem?_set]
  simp only [List.length_map, tab_len, List.getElem?_map]
  unfold tab
  simp only [List.getElem?_map]
  by_cases hi : i < n
  · rw [List.getElem?_range hi]
    by_cases hj : j = i
    · subst hj; simp [hi]
    · have : i ≠ j := fun e => hj e.symm
      simp [hj, this]
  · rw [List.getElem?_eq_none (by simpa using hi)]
    by_cases hj : j = i
    · subst hj; simp [hi]
    · simp [hj]
theorem tab_snoc (n : Nat) (v : Nat → Int) : tab (n + 1) v = tab n v ++ [v n] := by simp [tab, List.range_succ]
theorem store_tab {en : En} {i n j : Nat} {v : Nat → Int} {z k : Int} {gi : En → R T} {m : En → RM T} (hm : m en = .ok (I z) en) (hg : gi en = .ok (I k)) (ho : ownAt en i = some (ls (tab n v))) (hk : k = (j : Int)) (hj : j < n) : fStore i gi m en = .nx (setO en i (ls (tab n fun k => if k = j then z else v k))) := by
  unfold fStore
  rw [hm]
  simp only [RM.s_ok]
  rw [hg]
  simp only [ho]
  have e : ixN (((tab n v).map D.int).map T.d).length k = some j := by
    rw [List.length_map, List.length_map, tab_len, hk]
    unfold L2.ixN
    rw [if_pos (by omega), if_pos (by omega), Int.toNat_natCast]
  rw [e]
  simp only [tab_set]
/-- sums of told numbers -/
theorem fSum_of {β : Type} (L : List β) (g : β → Int) : fSum [.l ((L.map fun x => D.int (g x)).map T.d)] = some (I (L.map g).sum) := by
  rw [fSum_ev, lstOf_l, allD_map, Option.bind_some, show (L.map fun x => D.int (g x)) = (L.map g).map D.int by rw [List.map_map]; rfl, asInts_map, Option.map_some]
theorem fAny_of {β : Type} (L : List β) (g : β → Bool) : fAny [.l ((L.map fun x => D.bl (g x)).map T.d)] = some (.d (.bl (L.any g))) := by
  have : ∀ L : List β, trs (L.map fun x => D.bl (g x)) = some (L.map g) := fun L => by
    induction L with
    | nil => rfl
    | cons a r ih => rw [List.map_cons, trs, ih]; rfl
  rw [fAny_ev, lstOf_l, allD_map, Option.bind_some, this, Option.map_some]
  congr 3
  rw [List.any_map]; rfl
/-- the place within what is walked -/
theorem range_at {n j : Nat} {p s : List Nat} (e : List.range n = p ++ j :: s) : j = p.length ∧ p.length < n := by
  have e1 : (List.range n)[p.length]? = some j := by rw [e]; simp
  obtain ⟨a, b⟩ := List.getElem?_eq_some_iff.mp e1
  rw [List.getElem_range] at b
  rw [List.length_range] at a
  exact ⟨b.symm, a⟩
end Z
/-! Z: calls that look at names' lists beside effects; comprehensions with effects over a name's list. -/
namespace Z
open PySem PySem.Spec L2
open PyProof.Rows hiding St
/-- what the arguments are -/
def hdsA (en : En) : List Hd → Option (List T)
  | [] => some []
  | .o x :: r => (hdsA en r).map (x :: ·)
  | .n j :: r => (at_ en j).bind fun x => (hdsA en r).map (x :: ·)
theorem HdsOk.vwsA {K : PySem.W.Frag} {H : Hp} {σ : L2.St} {en : En} {Fs : Ft} (ok : EOk K H σ en Fs) : ∀ {hs : List Hd} {vs : List V} {G : List Addr} {xs : List T}, HdsOk K H σ hs vs G → hdsA en hs = some xs → Vws K H vs xs
  | _, _, _, _, .nil, h => by cases h; exact .nil
  | _, _, _, _, .o r t, h => by
    obtain ⟨ys, h1, rfl⟩ := Option.map_eq_some_iff.mp h
    exact .cons r (HdsOk.vwsA ok t h1)
  | _, _, _, _, .n (i := j) e t, h => by
    obtain ⟨x, h0, h⟩ := Option.bind_eq_some_iff.mp h
    obtain ⟨ys, h1, rfl⟩ := Option.map_eq_some_iff.mp h
    obtain ⟨v, h2, h3⟩ := ok.has j x h0
    rw [e] at h2; cases h2
    exact .cons h3 (HdsOk.vwsA ok t h1)
def mCallH (F : List T → R T) (ms : En → RM (List Hd)) : En → RM T := fun en => (ms en).bind fun hs en1 => match hdsA en1 hs with
  | some xs => RM.of (F xs) en1
  | none => .no
section
variable {X : Cx} {W : WX} {a : Expr} {es : List Expr} {pos : Pos} {ms : En → RM (List Hd)}
theorem Aft.letGo {K : PySem.W.Frag} {H H' : Hp} {Fs Fs' : Ft} {σ σ' : L2.St} {en en' : En} {G : List Addr} (a : Aft K H Fs σ en H' Fs' σ' en' G) : Aft K H Fs σ en H' Fs' σ' en' [] := a.drop
theorem m_callH {x : Str} {k : Nat} {F : List T → R T} {p : Pos} (f : FnP X.prog X.w X.K X.mg X.base x k F) (tk : Takes X W) (hr : Room k X.A) (ha : PMH X W (a :: es) ms) (hg : Gl X x := by rfl)
    (hdb : (x == ("__debug__" : Str)) = false := by decide) (he : starEach (a :: es) X.env = (false, eval a X.env) :: starEach es X.env := by rfl) (hpl : (backTo pos (starEach es X.env)).any (·.1) = false := by rfl) : PM X W (.Call (.Name x p) (a :: es) [] pos) (mCallH F ms) := by
  obtain ⟨f, fd, ps, ok, hm, hk, hb⟩ := f.ex
  obtain ⟨t, pa, s⟩ := ha
  refine ⟨_, pe_callS (E := WE W) ok hr hg hm hk hb (fun σ => passAt tk σ) pa hdb he hpl, fun σ H en Fs Q ok q => s σ H en Fs _ ok ?_⟩
  unfold mCallH at q
  cases e : ms en with
  | ok hs en1 =>
    rw [e] at q
    simp only [RM.bind_ok] at q
    intro vs H' Fs' G a w
    cases e2 : hdsA en1 hs with
    | none => rw [e2] at q; exact q.elim
    | some xs =>
      rw [e2] at q
      simp only at q
      refine ⟨xs, w.vwsA a.ok e2, ?_⟩
      cases ef : F xs with
      | ok r => rw [ef] at q; exact fun v H2 G2 s2 o fr => q v H2 Fs' G2 (a.fin s2 fr) o
      | ex c => rw [ef] at q; exact fun cls dx H2 s2 i => q cls dx H2 Fs' σ (a.fin s2 Fresh.nil) i
      | no => rw [ef] at q; exact q
  | ex c en1 => rw [e] at q; exact q
  | no => rw [e] at q; exact q
end
/-- a comprehension over what a name's list holds at each turn -/
def lcN (vs : List Nat) (i0 : Nat) (k : T → Option Ass) (tt : En → R Bool) (te : En → RM T) : Nat → Nat → En → RM (List T)
  | 0, j, en => match at_ en i0 with
    | some (.l xs) => if xs.length = j then .ok [] en else .no
    | _ => .no
  | f + 1, j, en => match at_ en i0 with
    | some (.l xs) => match xs[j]? with
      | some x => if xs.length = j + (f + 1) then match (kD k x).bind fun as => stowD (wipeE en vs) as with
        | none => .no
        | some en2 => match tt en2 with
          | .ok true => match te en2 with
            | .ok y en4 => (lcN vs i0 k tt te f (j + 1) (wipeE en4 vs)).bind fun ys en' => .ok (y :: ys) en'
            | _ => .no
          | .ok false => lcN vs i0 k tt te f (j + 1) (wipeE en2 vs)
          | _ => .no
        else .no
      | none => .no
    | _ => .no
def mLcN (vs : List Nat) (i0 : Nat) (k : T → Option Ass) (tt : En → R Bool) (te : En → RM T) : En → RM T := fun en => match at_ en i0 with
  | some (.l xs) => (lcN vs i0 k tt te xs.length 0 en).calm.bind fun ys en2 => if ys.length < most then .ok (.l ys) en2 else .no
  | _ => .no
theorem lcN_len {vs : List Nat} {i0 : Nat} {k : T → Option Ass} {tt : En → R Bool} {te : En → RM T} {n i : Nat} {en enf : En} {rest : List T} (hi : i ≤ n) (h : lcN vs i0 k tt te (n - i) i en = .ok rest enf) : ∃ zs, at_ en i0 = some (.l zs) ∧ zs.length = n := by
  cases e : n - i with
  | zero =>
    rw [e] at h; unfold lcN at h
    split at h
    · split at h
      · rename_i h1 h2; exact ⟨_, h1, by omega⟩
      · cases h
    · cases h
  | succ f =>
    rw [e] at h; unfold lcN at h
    split at h
    · rename_i xs h1
      split at h
      · split at h
        · rename_i h2; exact ⟨_, h1, by omega⟩
        · cases h
      · cases h
    · cases h
theorem walk_own {K : PySem.W.Frag} {a : Addr} {n : Nat} : Walk (Itl K a) n (fun H => ∃ vs, H a = some (.lst vs) ∧ vs.length = n) (fun i H v H' => H' = H ∧ ∃ vs, H a = some (.lst vs) ∧ vs.length = n ∧ vs[i]? = some v) := by
  refine ⟨fun i H hi q => ?_, fun H q => ?_, fun i H x H' hi q y => ?_⟩
  · obtain ⟨vs, h, hl⟩ := q
    exact ⟨vs, vs[i]'(by omega), SqL.of h, by simp [show i < vs.length by omega]⟩
  · obtain ⟨vs, h, hl⟩ := q
    exact ⟨vs, SqL.of h, by omega⟩
  · obtain ⟨vs, h, hl⟩ := q
    exact ⟨y.1, vs, h, hl, y.2 vs (SqL.of h)⟩
theorem Own.isL {K : PySem.W.Frag} {H : Hp} {v : V} {xs : List T} {F : List Addr} (o : Own K H v (.l xs) F) : ∃ a vs G, v = .ref a ∧ H a = some (.lst vs) ∧ Owns K H vs xs G := by
  cases o with | l h r => exact ⟨_, _, _, rfl, h, r⟩
/-- a name's list, walked -/
def tiL (K : PySem.W.Frag) (i : Nat) : TI := fun σ H Q => ∃ a, σ[i]? = some (some (.ref a)) ∧ (∃ xs, SqL K H a xs) ∧ Q (Itl K a) H
section
variable {X : Cx} {W : WX} {elt tg it : Expr} {ifs : List Expr} {scope : Scope} {pos : Pos} {k : T → Option Ass} {tt : En → R Bool} {te : En → RM T}
theorem pi_name {i : Nat} {x : Str} {px : Pos} (hN : X.N[i]? = some x) (hv : Vis X.env.scope x) (hd : (x == ("__debug__" : Str)) = false := by decide) (hcd : (x == ("__classdict__" : Str)) = false := by decide) : PI X tg (.Name x px) (tiL X.K i) := by
  have p := pi_sq (X := X) (tg := tg) (pe_var (pos := px) hN hv hd hcd)
  exact ⟨fun pins st σ H Q I ⟨a, h1, h2, h3⟩ => p.run pins st σ H Q I ⟨.ref a, h1, .inl ⟨a, rfl, h2, h3⟩⟩⟩
theorem sp_lcN {own : List (Str × Nat)} {i0 : Nat} (hi0 : i0 ∉ own.map (·.2)) (hk : ∀ x as, k x = some as → ∀ p ∈ as, p.1 ∈ own.map (·.2)) : ∀ σ H en Fs Q, EOk X.K H σ en Fs → MQ X W H Fs σ en Q (mLcN (own.map (·.2)) i0 k tt te en) → tLc (tiL X.K i0) (tgt X.K k) (cT X W0 tt) (cM X W0 te) (own.map (·.2)) σ H Q := by
  intro σ H en Fs Q ok q
  unfold mLcN at q
  cases e0 : at_ en i0 with
  | none => rw [e0] at q; exact q.elim
  | some x0 =>
    rw [e0] at q
    cases x0 with
    | d _ => exact q.elim
    | l xs0 =>
    simp only at q
    obtain ⟨v0, hσ, o0⟩ := ok.has i0 _ e0
    obtain ⟨a, vs0, rfl, hA⟩ : ∃ a vs, v0 = .ref a ∧ H a = some (.lst vs) := by
      obtain ⟨a, vs, _, e, h, _⟩ := o0.isL; exact ⟨a, vs, e, h⟩
    refine ⟨a, hσ, ⟨_, SqL.of hA⟩, ?_⟩
    have look : ∀ {H2 : Hp} {Fs2 : Ft} {en2 : En} {ys : List T}, EOk X.K H2 σ en2 Fs2 → at_ en2 i0 = some (.l ys) → ∃ vs F, H2 a = some (.lst vs) ∧ Owns X.K H2 vs ys F := fun {H2 Fs2 en2 ys} A e => by
      obtain ⟨v, h1, h2⟩ := A.has i0 _ e
      rw [hσ] at h1; cases h1
      obtain ⟨b, vs, G, e, h, r⟩ := h2.isL
      cases e
      exact ⟨vs, G, h, r⟩
    intro D nD
    cases el : lcN (own.map (·.2)) i0 k tt te xs0.length 0 en with
    | ex c en2 => rw [el] at q; exact q.elim
    | no => rw [el] at q; exact q.elim
    | ok ys enf =>
      rw [el] at q
      simp only [RM.calm, RM.bind_ok] at q
      split at q
      · rename_i yz
        have base : Aft X.K H Fs σ en (upd H D (.lst [])) Fs σ en [D] := .quiet ok (same_new nD) (fresh1 nD)
        generalize hn : xs0.length = n at *
        refine lc_it (walk_own (K := X.K) (a := a) (n := n)) (fun i H2 => ∃ en2 Fs2 vs ts F rest, Aft X.K H Fs σ en H2 Fs2 σ en2 (D :: F) ∧ H2 D = some (.lst vs) ∧ Owns X.K H2 vs ts F ∧ lcN (own.map (·.2)) i0 k tt te (n - i) i en2 = .ok rest enf ∧ ts ++ rest = ys)
          ⟨en, Fs, [], [], [], ys, base, upd_same, .nil, by rw [Nat.sub_zero]; exact el, rfl⟩ (fun i H2 hi h => ?_) (fun i v H2 H3 hi h y => ?_) (fun H2 h => ?_)
        · obtain ⟨en2, Fs2, vs, ts, F, rest, A, hD, ow, er, eq⟩ := h
          obtain ⟨zs, h1, h2⟩ := lcN_len hi er
          obtain ⟨ws, G, h3, h4⟩ := look A.ok h1
          exact ⟨ws, h3, by rw [h4.length, h2]⟩
        · obtain ⟨en2, Fs2, vs, ts, F, rest, A, hD, ow, er, eq⟩ := h
          obtain ⟨e23, ws', hw, hwl, hv⟩ := y
          obtain ⟨zs, h1, h2⟩ := lcN_len (Nat.le_of_lt hi) er
          obtain ⟨ws, G, h3, h4⟩ := look A.ok h1
          rw [hw] at h3; cases h3
          subst e23
          have hiz : i < zs.length := by omega
          obtain ⟨v', G', hv', ox, _⟩ := h4.get (i := i) (x := zs[i]) (List.getElem?_eq_getElem hiz)
          rw [hv] at hv'; cases hv'
          have s3 : Same H3 H3 := Same.refl H3
          rw [show n - i = (n - (i + 1)) + 1 by omega] at er
          unfold lcN at er
          rw [h1] at er
          simp only [List.getElem?_eq_getElem hiz, if_pos (show zs.length = i + ((n - (i + 1)) + 1) by omega)] at er
          generalize zs[i] = x at *
          cases ek : kD k x with
          | none => rw [ek] at er; cases er
          | some as =>
            rw [ek] at er
            simp only [Option.bind_some] at er
            obtain ⟨d, rfl, ek⟩ : ∃ d, x = .d d ∧ k x = some as := by
              cases x with
              | d d => exact ⟨d, rfl, ek⟩
              | l _ => cases ek
            have ox : Own X.K H3 v (.d d) [] := .d ox.rep
            cases es : stowD (wipeE en2 (own.map (·.2))) as with
            | none => rw [es] at er; cases er
            | some en3 =>
              rw [es] at er
              simp only at er
              refine ⟨_, [], as, ox, ek, fun ws aok => ⟨by rw [wipe_sets aok (hk _ as ek), wipe_wipe], ?_⟩⟩
              have A3 : Aft X.K H Fs σ en H3 Fs2 σ en2 (D :: F) := by
                have b : Aft X.K H3 Fs2 σ en2 H3 Fs2 σ en2 [] := .quiet A.ok s3 Fresh.nil
                have := A.held (fun c m => by
                  rcases List.mem_cons.mp m with rfl | m
                  · rw [hD]; exact fun z => by cases z
                  · exact ow.there c m) b
                rwa [List.append_nil] at this
              have A4 := A3.wipeTo (σ' := wipe σ (own.map (·.2))) (vs := own.map (·.2)) (fun j hj => wipe_ne hj) (by rw [wipe_length]; exact A3.ok.len)
              obtain ⟨Fs3, B⟩ := (Aft.refl A4.ok).putD aok es
              have ow3 := ow.mono s3
              have hD3 := s3 _ _ hD
              have tDF : ∀ c ∈ D :: F, H3 c ≠ none := fun c m => by
                rcases List.mem_cons.mp m with rfl | m
                · rw [hD3]; exact fun z => by cases z
                · exact ow3.there c m
              have AB := A4.held tDF B
              rw [List.append_nil] at AB
              have len2 : (setS (wipe σ (own.map (·.2))) ws).length = σ.length := by rw [setS_len, wipe_length]
              have same2 : ∀ j, j ∉ own.map (·.2) → σ[j]? = (setS (wipe σ (own.map (·.2))) ws)[j]? := fun j hj => by
                have := wipe_sets (σ := wipe σ (own.map (·.2))) aok (hk _ as ek)
                have t := congrArg (fun l : L2.St => l[j]?) this
                simp only [wipe_ne hj] at t
                exact t.symm
              refine ⟨en3, B.ok.ven, ?_⟩
              cases et : tt en3 with
              | ex c => rw [et] at er; cases er
              | no => rw [et] at er; cases er
              | ok b =>
                rw [et] at er
                intro H4 s4
                have hD4 := s4 _ _ hD3
                have ow4 := ow3.mono s4
                have AB4 : Aft X.K H Fs σ en H4 Fs3 (setS (wipe σ (own.map (·.2))) ws) en3 (D :: F) := by
                  have := AB.held tDF (.quiet AB.ok s4 Fresh.nil)
                  rwa [List.append_nil] at this
                cases b with
                | false =>
                  simp only [Bool.false_eq_true, if_false] at er ⊢
                  exact ⟨_, _, vs, ts, F, rest, AB4.wipeTo same2 (by rw [← len2]; exact AB4.ok.len), hD4, ow4, er, eq⟩
                | true =>
                  simp only [if_true] at er ⊢
                  refine ⟨en3, Fs3, AB4.ok, ?_⟩
                  cases ee : te en3 with
                  | ex c en5 => rw [ee] at er; cases er
                  | no => rw [ee] at er; cases er
                  | ok y en5 =>
                    rw [ee] at er
                    simp only at er
                    cases e2 : lcN (own.map (·.2)) i0 k tt te (n - (i + 1)) (i + 1) (wipeE en5 (own.map (·.2))) with
                    | ex c en6 => rw [e2] at er; cases er
                    | no => rw [e2] at er; cases er
                    | ok rs en6 =>
                      rw [e2] at er
                      simp only [RM.bind_ok] at er
                      cases er
                      intro v5 H5 Fs5 G5 C o5
                      have nDF : ∀ c ∈ D :: F, ¬ InF Fs3 c := fun c m => AB4.dis c m
                      have hD5 : H5 D = some (.lst vs) := C.stp.keep D _ hD4 fun z => nDF D List.mem_cons_self z.a
                      have ow5 := (C.stp.frames (fun _ z => z.a) ow4 fun c m => nDF c (List.mem_cons_of_mem _ m)).1
                      have tz : ts.length < most := by rw [← eq, List.length_append] at yz; omega
                      have tDF4 : ∀ c ∈ D :: F, H4 c ≠ none := fun c m z => tDF c m (s4.free z)
                      have A6 := (AB4.held tDF4 C).wipeTo same2 (by rw [← len2]; exact C.ok.len)
                      obtain ⟨A7, ow7⟩ := A6.grow hD5 ow5 o5
                      exact ⟨vs, hD5, by rw [most_eq, ow5.length]; exact tz, _, _, vs ++ [v5], ts ++ [y], F ++ G5, rs, A7, upd_same, ow7, e2, by rw [← eq, List.append_assoc]; rfl⟩
        · obtain ⟨en2, Fs2, vs, ts, F, rest, A, hD, ow, er, eq⟩ := h
          rw [Nat.sub_self] at er
          have er' := er
          unfold lcN at er
          cases e1 : at_ en2 i0 with
          | none => rw [e1] at er; cases er
          | some x1 =>
            rw [e1] at er
            cases x1 with
            | d _ => cases er
            | l zs =>
              simp only at er
              split at er
              · cases er
                rw [List.append_nil] at eq
                subst eq
                exact q _ H2 Fs2 (D :: F) A (.l hD ow)
              · cases er
      · exact q.elim
variable (own : List (Str × Nat))
theorem m_lcN (i0 : Nat) {x : Str} {px : Pos} (cz : Cz X W) (hi0 : (own.map (·.2)).contains i0 = false) (ok : blkC X.N X.env.scope scope own = true) (hk : ∀ x as, k x = some as → ∀ p ∈ as, p.1 ∈ own.map (·.2))
    (hg : ∀ (s : Shared) (H : Hp) (C : Addr) (cl : List (Str × Addr)) (fp : List Addr), PTg (X.blk s H scope (compEnvC scope cl C X.env) fp) tg k) (ht : ∀ (s : Shared) (H : Hp) (C : Addr) (cl : List (Str × Addr)) (fp : List Addr), PCs (X.blk s H scope (compEnvC scope cl C X.env) fp) W0 ifs tt)
    (he : ∀ (s : Shared) (H : Hp) (C : Addr) (cl : List (Str × Addr)) (fp : List Addr), PM (X.blk s H scope (compEnvC scope cl C X.env) fp) W0 elt te) (hN : X.N[i0]? = some x := by rfl) (hv : Vis X.env.scope x := by first | exact Or.inl rfl | exact Or.inr (Or.inl rfl) | exact Or.inr (Or.inr rfl)) (hd : (x == ("__debug__" : Str)) = false := by decide) (hcd : (x == ("__classdict__" : Str)) = false := by decide) (hs : ∀ y, foldedSetIterable (.Name x px) X.env y = pure y := by intro _; rfl) :
    PM X W (.ListComp elt [⟨tg, .Name x px, ifs, 0⟩] scope pos) (mLcN (own.map (·.2)) i0 k tt te) :=
  ⟨_, pe_lc (own := own) (g := tgt X.K k) (tt := cT X W0 tt) (te := cM X W0 te) cz.calm cz.nd (pi_name hN hv hd hcd) (blkOk_by ok) hg ht (fun s H C cl fp => (he s H C cl fp).can) hs, sp_lcN (by simpa using hi0) hk⟩
theorem s_setLcN (i0 i : Nat) {x y : Str} {px py spos : Pos} (cz : Cz X W) (hi0 : (own.map (·.2)).contains i0 = false) (ok : blkC X.N X.env.scope scope own = true) (hk : ∀ x as, k x = some as → ∀ p ∈ as, p.1 ∈ own.map (·.2))
    (hg : ∀ (s : Shared) (H : Hp) (C : Addr) (cl : List (Str × Addr)) (fp : List Addr), PTg (X.blk s H scope (compEnvC scope cl C X.env) fp) tg k) (ht : ∀ (s : Shared) (H : Hp) (C : Addr) (cl : List (Str × Addr)) (fp : List Addr), PCs (X.blk s H scope (compEnvC scope cl C X.env) fp) W0 ifs tt)
    (he : ∀ (s : Shared) (H : Hp) (C : Addr) (cl : List (Str × Addr)) (fp : List Addr), PM (X.blk s H scope (compEnvC scope cl C X.env) fp) W0 elt te) (hN : X.N[i0]? = some x := by rfl) (hv : Vis X.env.scope x := by first | exact Or.inl rfl | exact Or.inr (Or.inl rfl) | exact Or.inr (Or.inr rfl)) (hd : (x == ("__debug__" : Str)) = false := by decide) (hcd : (x == ("__classdict__" : Str)) = false := by decide) (hy : X.N[i]? = some y := by rfl) (hyl : X.env.scope.names.lookup y = some .local := by rfl)
    (hsw : swapsWith (.ListComp elt [⟨tg, .Name x px, ifs, 0⟩] scope pos) (some (.Name y py)) spos.line X.env = pure true := by exact sw_true rfl rfl rfl (by decide +kernel)) (hs : ∀ y, foldedSetIterable (.Name x px) X.env y = pure y := by intro _; rfl) :
    PSt X W (.Assign [.Name y py] (.ListComp elt [⟨tg, .Name x px, ifs, 0⟩] scope pos) spos) (fSet i (mLcN (own.map (·.2)) i0 k tt te)) :=
  ⟨_, ps_setLc (own := own) (g := tgt X.K k) (tt := cT X W0 tt) (te := cM X W0 te) cz.calm cz.nd hy hyl hsw (pi_name hN hv hd hcd) (blkOk_by ok) hg ht (fun s H C cl fp => (he s H C cl fp).can) hs, sp_set (sp_lcN (by simpa using hi0) hk)⟩
end
end Z
/-! Z: draws within a def; comprehensions of draws. -/
namespace Z
open PySem PySem.Spec L2
open PyProof.Rows hiding St
section
variable {ns : List Int} (hl : ns.length ≤ 63)
include hl
/-- a draw by a number that is reckoned -/
theorem draw_o {en : En} {i : Nat} {s : T} {m : Int} {g : En → RM T} (h0 : ownAt en i = some s) (hs : Stt ns s) (hg : g en = .ok (I m) en) (h1 : 0 < m) (h2 : m < 1000000000) : ∃ v s', Rg m v ∧ mCallM i F_draw (hO g hNil) en = .ok (I v) (setO en i s') ∧ Stt ns s' := by
  obtain ⟨v, s', v0, v1, e, hs'⟩ := draw_ok hl hs h1 h2
  refine ⟨v, s', ⟨v0, v1⟩, ?_, hs'⟩
  exact callM (hs := [.o (I m)]) (x0 := s) (en1 := en) (x1 := s) (xs := [I m]) h0 (by rw [hO_ev, hg, RM.bind_ok, hNil_ev]; rfl) h0 rfl e
/-- a draw by a number that a name holds -/
theorem draw_n {en : En} {i j : Nat} {s : T} {m : Int} (h0 : ownAt en i = some s) (hs : Stt ns s) (hj : at_ en j = some (I m)) (hij : j ≠ i) (h1 : 0 < m) (h2 : m < 1000000000) : ∃ v s', Rg m v ∧ mCallM i F_draw (hN j hNil) en = .ok (I v) (setO en i s') ∧ Stt ns s' := by
  obtain ⟨v, s', v0, v1, e, hs'⟩ := draw_ok hl hs h1 h2
  refine ⟨v, s', ⟨v0, v1⟩, ?_, hs'⟩
  exact callM (hs := [.n j]) (x0 := s) (en1 := en) (x1 := s) (xs := [I m]) h0 (by rw [hN_ev, hj, hNil_ev]; rfl) h0 (by rw [hds_n, if_neg hij, hj]; rfl) e
end
/-- a comprehension of effects: the state alone changes -/
theorem lcM_st {S P : T → Prop} {k : Nat} {te : En → RM T} (E : T → En) (E2 : T → D → En) (h1 : ∀ s d, stow (wipeE (E s) [k]) k (.v (.d d)) = some (E2 s d)) (h2 : ∀ s d, S s → ∃ y s', P y ∧ te (E2 s d) = .ok y (E2 s' d) ∧ S s') (h3 : ∀ s d, wipeE (E2 s d) [k] = E s) : ∀ (ds : List D) s, S s → ∃ ys s', lcM [k] (kName k) gYes te (ds.map T.d) (E s) = .ok ys (E s') ∧ ys.length = ds.length ∧ (∀ y ∈ ys, P y) ∧ S s'
  | [], s, hs => ⟨[], s, rfl, rfl, fun _ m => absurd m List.not_mem_nil, hs⟩
  | d :: ds, s, hs => by
    obtain ⟨y, s1, hy, e1, hs1⟩ := h2 s d hs
    obtain ⟨ys, s2, e2, hl, hP, hs2⟩ := lcM_st E E2 h1 h2 h3 ds s1 hs1
    refine ⟨y :: ys, s2, ?_, by rw [List.length_cons, hl, List.length_cons], fun z m => ?_, hs2⟩
    · rw [List.map_cons]
      unfold lcM
      simp only [kD_d, kName_ev, Option.bind_some, stowD_cons, stowD_nil, h1, gYes_ev, e1, h3, e2, RM.bind_ok]
    · rcases List.mem_cons.mp m with rfl | m
      · exact hy
      · exact hP z m
/-- .. over a name's list -/
theorem lcN_st {S P : T → Prop} {k i0 : Nat} {te : En → RM T} (L : List D) (E : T → En) (E2 : T → D → En) (h0 : ∀ s, at_ (E s) i0 = some (.l (L.map T.d))) (h1 : ∀ s d, stow (wipeE (E s) [k]) k (.v (.d d)) = some (E2 s d)) (h2 : ∀ s d, S s → ∃ y s', P y ∧ te (E2 s d) = .ok y (E2 s' d) ∧ S s') (h3 : ∀ s d, wipeE (E2 s d) [k] = E s) : ∀ (f j : Nat) s, j + f = L.length → S s → ∃ ys s', lcN [k] i0 (kName k) gYes te f j (E s) = .ok ys (E s') ∧ ys.length = f ∧ (∀ y ∈ ys, P y) ∧ S s'
  | 0, j, s, hj, hs => ⟨[], s, by unfold lcN; rw [h0]; simp only [List.length_map]; rw [if_pos (by omega)], rfl, fun _ m => absurd m List.not_mem_nil, hs⟩
  | f + 1, j, s, hj, hs => by
    have hjl : j < L.length := by omega
    obtain ⟨y, s1, hy, e1, hs1⟩ := h2 s L[j] hs
    obtain ⟨ys, s2, e2, hl, hP, hs2⟩ := lcN_st L E E2 h0 h1 h2 h3 f (j + 1) s1 (by omega) hs1
    refine ⟨y :: ys, s2, ?_, by rw [List.length_cons, hl], fun z m => ?_, hs2⟩
    · unfold lcN
      rw [h0]
      simp only [List.getElem?_map, List.getElem?_eq_getElem hjl, Option.map_some, List.length_map]
      rw [if_pos hj.symm]
      simp only [kD_d, kName_ev, Option.bind_some, stowD_cons, stowD_nil, h1, gYes_ev, e1, h3, e2, RM.bind_ok]
    · rcases List.mem_cons.mp m with rfl | m
      · exact hy
      · exact hP z m
theorem mLc_st {S P : T → Prop} {k : Nat} {te : En → RM T} {mi : En → RM (List T)} (E : T → En) (E2 : T → D → En) (L : List D) {s : T} (hm : mi (E s) = .ok (L.map T.d) (E s)) (hn : L.length < 16777216) (hs : S s) (h1 : ∀ s d, stow (wipeE (E s) [k]) k (.v (.d d)) = some (E2 s d)) (h2 : ∀ s d, S s → ∃ y s', P y ∧ te (E2 s d) = .ok y (E2 s' d) ∧ S s') (h3 : ∀ s d, wipeE (E2 s d) [k] = E s) : ∃ ys s', mLc [k] mi (kName k) gYes te (E s) = .ok (.l ys) (E s') ∧ ys.length = L.length ∧ (∀ y ∈ ys, P y) ∧ S s' := by
  obtain ⟨ys, s', e, h4, h5, h6⟩ := lcM_st E E2 h1 h2 h3 L s hs
  refine ⟨ys, s', ?_, h4, h5, h6⟩
  unfold mLc
  rw [hm, RM.bind_ok, e, mcalm_ok, RM.bind_ok, if_pos (show ys.length < most by rw [h4]; exact hn)]
theorem mLcN_st {S P : T → Prop} {k i0 : Nat} {te : En → RM T} (E : T → En) (E2 : T → D → En) (L : List D) {s : T} (hn : L.length < 16777216) (hs : S s) (h0 : ∀ s, at_ (E s) i0 = some (.l (L.map T.d))) (h1 : ∀ s d, stow (wipeE (E s) [k]) k (.v (.d d)) = some (E2 s d)) (h2 : ∀ s d, S s → ∃ y s', P y ∧ te (E2 s d) = .ok y (E2 s' d) ∧ S s') (h3 : ∀ s d, wipeE (E2 s d) [k] = E s) : ∃ ys s', mLcN [k] i0 (kName k) gYes te (E s) = .ok (.l ys) (E s') ∧ ys.length = L.length ∧ (∀ y ∈ ys, P y) ∧ S s' := by
  obtain ⟨ys, s', e, h4, h5, h6⟩ := lcN_st L E E2 h0 h1 h2 h3 L.length 0 s (by omega) hs
  refine ⟨ys, s', ?_, h4, h5, h6⟩
  unfold mLcN
  rw [h0]
  simp only [List.length_map]
  rw [e, mcalm_ok, RM.bind_ok, if_pos (show ys.length < most by rw [h4]; exact hn)]
/-- numbers in range, drawn -/
theorem row_of {p : Int} {ys : List T} (h : ∀ y ∈ ys, ∃ z, y = I z ∧ Rg p z) : ∃ zs : List Int, T.l ys = ls zs ∧ Rw p ys.length zs := by
  obtain ⟨zs, rfl, hz⟩ := ints_of h
  exact ⟨zs, rfl, by rw [List.length_map, List.length_map], hz⟩
end Z
namespace K02
open PySem PySem.Spec L2 Z
open PyProof.Rows hiding St
/-! what the defs compute -/
def mu_power_0 : En → Nat := (fun _ => 100000)
def d__law_start : En → SR :=
  (fRet (lft (gLst (aCons (gCall fList (aCons (vN 0) aNil)) (aCons (kI 0) (aCons (kI 0) (aCons (kI 0) aNil)))))))
def F__law_start := runP 1 1 d__law_start
def d__law_draw : En → SR :=
  (fSeq (fStore 0 (kI 3) (lft (g2 fAdd (g2 fIx (vN 0) (kI 3)) (kI 1))))
  (fSeq (fIf (lft (gT (g2 fGt (g2 fIx (vN 0) (kI 2)) (kI 0)))) (fSeq (fSet 2 (lft (g2 fMod (gCall fInt (aCons (g2 fIx (vN 0) (kI 2)) aNil)) (vN 1))))
  (fSeq (fStore 0 (kI 2) (lft (g2 fDiv (g2 fIx (vN 0) (kI 2)) (vN 1))))
  (fRet (mName 2)))) fNil)
  (fSeq (fSet 3 (lft (kI 0)))
  (fSeq (fIf (lft (gT (g2 fGt (gCall fLen (aCons (g2 fIx (vN 0) (kI 0)) aNil)) (kI 0)))) (fSet 3 (lft (gCall fAbs (aCons (g2 fIx (g2 fIx (vN 0) (kI 0)) (g2 fMod (gCall fInt (aCons (g2 fIx (vN 0) (kI 1)) aNil)) (gCall fLen (aCons (g2 fIx (vN 0) (kI 0)) aNil)))) aNil)))) fNil)
  (fSeq (fStore 0 (kI 1) (lft (g2 fAdd (g2 fIx (vN 0) (kI 1)) (kI 1))))
  (fSeq (fIf (lft (gT (g2 fGe (vN 3) (g2 fPow (kI 10) (kI 18))))) (fSeq (fStore 0 (kI 2) (lft (g2 fDiv (vN 3) (vN 1))))
  (fRet (lft (g2 fMod (gCall fInt (aCons (vN 3) aNil)) (vN 1))))) fNil)
  (fSeq (fSet 4 (lft (g2 fMod (gCall fInt (aCons (g2 fAdd (g2 fMul (g2 fAdd (vN 3) (kI 1)) (kI 48271)) (g2 fMul (g2 fIx (vN 0) (kI 3)) (kI 69621))) aNil)) (kI 2147483647))))
  (fSeq (fSet 4 (lft (g2 fMod (gCall fInt (aCons (g2 fAdd (g2 fAdd (g2 fMul (vN 4) (kI 16807)) (g2 fDiv (vN 3) (kI 97))) (g2 fIx (vN 0) (kI 3))) aNil)) (kI 2147483629))))
  (fRet (lft (g2 fMod (g2 fDiv (vN 4) (kI 11)) (vN 1))))))))))))
def F__law_draw := runM 5 2 d__law_draw
def d__law_one_of : En → SR :=
  (fRet (mIxNg 1 (mCallM 0 F__law_draw (hO (lft (gCall fLen (aCons (vN 1) aNil))) hNil))))
def F__law_one_of := runM 2 2 d__law_one_of
def d__law_added : En → SR :=
  (fRet (lft (gCall fTuple (aCons (gLc [4] (gR1 (vN 3)) (kName 4) gYes (g2 fMod (gCall fInt (aCons (gCall fSum (aCons (gLc [5] (gR1 (gCall fLen (aCons (vN 1) aNil))) (kName 5) gYes (g2 fMul (g2 fIx (vN 2) (vN 5)) (g2 fIx (g2 fIx (vN 1) (vN 5)) (vN 4)))) aNil)) aNil)) (vN 0))) aNil))))
def F__law_added := runP 6 4 d__law_added
def d__law_some_rows : En → SR :=
  (fSeq (fSet 3 (lft (gLst aNil)))
  (fSeq (fFor (kName 4) (mR1 (mCallM 0 F__law_draw (hO (lft (kI 6)) hNil))) (fIf (mAnd (lft (gT (g2 fGt (gCall fLen (aCons (vN 3) aNil)) (kI 1)))) (mT (m2 fEq (mCallM 0 F__law_draw (hO (lft (kI 3)) hNil)) (lft (kI 0))))) (fExpr (mApp 3 (mCallH F__law_added (hN 1 (hN 3 (hO (mLcN [5] 3 (kName 5) gYes (mCallM 0 F__law_draw (hN 1 hNil))) (hN 2 hNil))))))) (fExpr (mApp 3 (mOf (rOf fTuple) (mCons (mLc [6] (lft (gR1 (vN 2))) (kName 6) gYes (mCallM 0 F__law_draw (hN 1 hNil))) mNil))))))
  (fRet (lft (gCall fTuple (aCons (vN 3) aNil))))))
def F__law_some_rows := runM 7 3 d__law_some_rows
def d__law_lead : En → SR :=
  (fSeq (fSet 1 (lft (gLc [2] (gR1 (gCall fLen (aCons (vN 0) aNil))) (kName 2) (gT (g2 fNe (g2 fIx (vN 0) (vN 2)) (kI 0))) (gPur (vN 2)))))
  (fRet (lft (gPur (g2 fIx (g2 fAdd (vN 1) (gLst (aCons (g1 fNeg (kI 1)) aNil))) (kI 0))))))
def F__law_lead := runP 3 1 d__law_lead
def d__law_is_int : En → SR :=
  (fRet (lft (gPur (gAndV (gIsi isInt (vN 0)) (gNotV (gIsi isBl (vN 0)))))))
def F__law_is_int := runP 1 1 d__law_is_int
def d__law_numbers : En → SR :=
  (fSeq (fIf (lft (gOr (gNot (gTru (gIsi isTup (vN 1)))) (gT (g2 fNe (gCall fLen (aCons (vN 1) aNil)) (vN 2))))) (fRet (lft (kB false))) fNil)
  (fRet (lft (gCall fAll (aCons (gLc [3] (gIt (vN 1)) (kName 3) gYes (gPur (gAndV (gFn F__law_is_int (aCons (vN 3) aNil)) (gAndV (g2 fLe (kI 0) (vN 3)) (g2 fLt (vN 3) (vN 0)))))) aNil)))))
def F__law_numbers := runP 4 3 d__law_numbers
def d_leading : En → SR :=
  (fSeq (fForE (kTup 2 (kCons (kName 1) (kCons (kName 2) kNil))) 0 (fIf (lft (gT (g2 fNe (vN 2) (kI 0)))) (fRet (mName 1)) fNil))
  (fRet (lft (g1 fNeg (kI 1)))))
def F_leading := runP 3 1 d_leading
def d_power : En → SR :=
  (fSeq (fSet 3 (lft (kI 1)))
  (fSeq (fWh mu_power_0 (lft (gT (g2 fGt (vN 2) (kI 0)))) (fSeq (fIf (lft (gT (g2 fEq (g2 fMod (vN 2) (kI 2)) (kI 1)))) (fSet 3 (lft (g2 fMod (g2 fMul (vN 3) (vN 1)) (vN 0)))) fNil)
  (fSeq (fSet 1 (lft (g2 fMod (g2 fMul (vN 1) (vN 1)) (vN 0))))
  (fAug 2 fDivA (lft (kI 2))))))
  (fRet (mName 3))))
def F_power := runP 4 3 d_power
def d_inverse : En → SR :=
  (fRet (lft (gFn F_power (aCons (vN 0) (aCons (vN 1) (aCons (g2 fSub (vN 0) (kI 2)) aNil))))))
def F_inverse := runP 2 2 d_inverse
def d_cleared : En → SR :=
  (fSeq (fSet 4 (lft (gPur (g2 fIx (vN 1) (vN 3)))))
  (fSeq (fIf (lft (gT (g2 fEq (vN 4) (kI 0)))) (fRet (mName 1)) fNil)
  (fRet (lft (gCall fTuple (aCons (gLc [5, 6] (gZip (vN 1) (vN 2)) (kTup 2 (kCons (kName 5) (kCons (kName 6) kNil))) gYes (g2 fMod (g2 fSub (vN 5) (g2 fMul (vN 4) (vN 6))) (vN 0))) aNil))))))
def F_cleared := runP 7 4 d_cleared
def d_unit : En → SR :=
  (fRet (lft (g2 fAdd (g2 fAdd (g2 fMulT (gTup (aCons (kI 0) aNil)) (vN 1)) (gTup (aCons (kI 1) aNil))) (g2 fMulT (gTup (aCons (kI 0) aNil)) (g2 fSub (g2 fSub (vN 0) (vN 1)) (kI 1))))))
def F_unit := runP 2 2 d_unit
def d_echelon : En → SR :=
  (fSeq (fSet 2 (lft (gCall fList (aCons (vN 1) aNil))))
  (fSeq (fSet 3 (lft (gLst aNil)))
  (fSeq (fSet 4 (lft (gIf (gTru (vN 1)) (gCall fLen (aCons (g2 fIx (vN 1) (kI 0)) aNil)) (kI 0))))
  (fSeq (fFor (kName 5) (lft (gR1 (vN 4))) (fSeq (fSet 6 (lft (gLc [9, 7] (gEnum (vN 2)) (kTup 2 (kCons (kName 9) (kCons (kName 7) kNil))) (gT (g2 fNe (g2 fIx (vN 7) (vN 5)) (kI 0))) (gPur (vN 9)))))
  (fIf (lft (gTru (vN 6))) (fSeq (fSet 7 (mPopAt 2 (g2 fIx (vN 6) (kI 0))))
  (fSeq (fSet 8 (lft (gFn F_inverse (aCons (vN 0) (aCons (g2 fIx (vN 7) (vN 5)) aNil)))))
  (fSeq (fSet 7 (lft (gCall fTuple (aCons (gLc [10] (gIt (vN 7)) (kName 10) gYes (g2 fMod (g2 fMul (vN 10) (vN 8)) (vN 0))) aNil))))
  (fSeq (fSet 3 (lft (g2 fAdd (gLc [11] (gIt (vN 3)) (kName 11) gYes (gFn F_cleared (aCons (vN 0) (aCons (vN 11) (aCons (vN 7) (aCons (vN 5) aNil)))))) (gLst (aCons (gPur (vN 7)) aNil)))))
  (fSet 2 (lft (gLc [11] (gIt (vN 2)) (kName 11) gYes (gFn F_cleared (aCons (vN 0) (aCons (vN 11) (aCons (vN 7) (aCons (vN 5) aNil)))))))))))) fNil)))
  (fRet (lft (gCall fTuple (aCons (vN 3) aNil))))))))
def F_echelon := runP 12 2 d_echelon
def d_combination : En → SR :=
  (fSeq (fSet 3 (lft (gCall fLen (aCons (vN 1) aNil))))
  (fSeq (fSet 4 (lft (gLc [12, 8] (gEnum (vN 1)) (kTup 2 (kCons (kName 12) (kCons (kName 8) kNil))) gYes (g2 fAdd (gCall fTuple (aCons (vN 8) aNil)) (gFn F_unit (aCons (vN 3) (aCons (vN 12) aNil)))))))
  (fSeq (fSet 5 (lft (gCall fLen (aCons (vN 2) aNil))))
  (fSeq (fSet 6 (lft (g2 fAdd (gCall fTuple (aCons (vN 2) aNil)) (g2 fMulT (gTup (aCons (kI 0) aNil)) (vN 3)))))
  (fSeq (fSet 7 (lft (gLc [8] (gIt (gFn F_echelon (aCons (vN 0) (aCons (vN 4) aNil)))) (kName 8) (gT (g2 fLt (gFn F_leading (aCons (vN 8) aNil)) (vN 5))) (gPur (vN 8)))))
  (fSeq (fForN (kName 8) 7 (fSet 6 (lft (gFn F_cleared (aCons (vN 0) (aCons (vN 6) (aCons (vN 8) (aCons (gFn F_leading (aCons (vN 8) aNil)) aNil))))))))
  (fSeq (fIf (lft (gT (g2 fLt (gFn F_leading (aCons (gSl (vN 6) oN (oS (vN 5))) aNil)) (kI 0)))) (fRet (lft (gTup (aCons (kS (Str.ofString "weights")) (aCons (gCall fTuple (aCons (gLc [13] (gIt (gSl (vN 6) (oS (vN 5)) oN)) (kName 13) gYes (g2 fMod (g1 fNeg (vN 13)) (vN 0))) aNil)) aNil))))) fNil)
  (fSeq (fSet 9 (lft (gFn F_leading (aCons (gSl (vN 6) oN (oS (vN 5))) aNil))))
  (fSeq (fSet 10 (lft (gFn F_inverse (aCons (vN 0) (aCons (g2 fIx (vN 6) (vN 9)) aNil)))))
  (fSeq (fSet 11 (lft (g2 fMul (gLst (aCons (kI 0) aNil)) (vN 5))))
  (fSeq (fStore 11 (vN 9) (mName 10))
  (fSeq (fForN (kName 8) 7 (fStore 11 (gFn F_leading (aCons (vN 8) aNil)) (lft (g2 fMod (g2 fMul (g1 fNeg (g2 fIx (vN 8) (vN 9))) (vN 10)) (vN 0)))))
  (fRet (lft (gTup (aCons (kS (Str.ofString "column")) (aCons (gCall fTuple (aCons (vN 11) aNil)) aNil)))))))))))))))))
def F_combination := runP 14 3 d_combination
def d__law_is_echelon : En → SR :=
  (fSeq (fIf (lft (gOr (gNot (gTru (gIsi isTup (vN 2)))) (gNot (gTru (gCall fAll (aCons (gLc [6] (gIt (vN 2)) (kName 6) gYes (gFn F__law_numbers (aCons (vN 0) (aCons (vN 6) (aCons (vN 3) aNil))))) aNil)))))) (fRet (lft (kB false))) fNil)
  (fSeq (fSet 4 (lft (gLc [6] (gIt (vN 2)) (kName 6) gYes (gFn F__law_lead (aCons (vN 6) aNil)))))
  (fSeq (fIf (lft (gOr (gT (g2 fIn (g1 fNeg (kI 1)) (vN 4))) (gOr (gT (g2 fNe (vN 4) (gCall fSortI (aCons (vN 4) aNil)))) (gT (g2 fNe (gCall fLen (aCons (gLc [7] (gR1 (vN 3)) (kName 7) (gT (g2 fIn (vN 7) (vN 4))) (gPur (vN 7))) aNil)) (gCall fLen (aCons (vN 4) aNil))))))) (fRet (lft (kB false))) fNil)
  (fSeq (fFor (kName 5) (lft (gR1 (gCall fLen (aCons (vN 2) aNil)))) (fIf (lft (gT (g2 fNe (gLc [6] (gIt (vN 2)) (kName 6) gYes (gPur (g2 fIx (vN 6) (g2 fIx (vN 4) (vN 5))))) (gLc [8] (gR1 (gCall fLen (aCons (vN 2) aNil))) (kName 8) gYes (gCall fInt (aCons (g2 fEq (vN 8) (vN 5)) aNil)))))) (fRet (lft (kB false))) fNil))
  (fSeq (fForN (kName 6) 1 (fIf (lft (gT (g2 fNe (gFn F__law_added (aCons (vN 0) (aCons (vN 2) (aCons (gLc [9] (gIt (vN 4)) (kName 9) gYes (gPur (g2 fIx (vN 6) (vN 9)))) (aCons (vN 3) aNil))))) (vN 6)))) (fRet (lft (kB false))) fNil))
  (fRet (lft (gCall fAll (aCons (gLc [6] (gIt (vN 2)) (kName 6) gYes (g2 fEq (g2 fIx (gFn F_combination (aCons (vN 0) (aCons (vN 1) (aCons (vN 6) aNil)))) (kI 0)) (kS (Str.ofString "weights")))) aNil)))))))))
def F__law_is_echelon := runP 10 4 d__law_is_echelon
def d__law_dot : En → SR :=
  (fRet (lft (g2 fMod (gCall fInt (aCons (gCall fSum (aCons (gLc [3] (gR1 (gCall fLen (aCons (vN 1) aNil))) (kName 3) gYes (g2 fMul (g2 fIx (vN 1) (vN 3)) (g2 fIx (vN 2) (vN 3)))) aNil)) aNil)) (vN 0))))
def F__law_dot := runP 4 3 d__law_dot
def d__law_is_right : En → SR :=
  (fSeq (fIf (lft (gOr (gNot (gTru (gIsi isTup (vN 3)))) (gT (g2 fNe (gCall fLen (aCons (vN 3) aNil)) (kI 2))))) (fRet (lft (kB false))) fNil)
  (fSeq (fIf (lft (gAnd (gT (g2 fEq (g2 fIx (vN 3) (kI 0)) (kS (Str.ofString "weights")))) (gTru (gFn F__law_numbers (aCons (vN 0) (aCons (g2 fIx (vN 3) (kI 1)) (aCons (gCall fLen (aCons (vN 1) aNil)) aNil))))))) (fRet (lft (g2 fEq (gFn F__law_added (aCons (vN 0) (aCons (vN 1) (aCons (g2 fIx (vN 3) (kI 1)) (aCons (gCall fLen (aCons (vN 2) aNil)) aNil))))) (vN 2)))) fNil)
  (fSeq (fIf (lft (gAnd (gT (g2 fEq (g2 fIx (vN 3) (kI 0)) (kS (Str.ofString "column")))) (gTru (gFn F__law_numbers (aCons (vN 0) (aCons (g2 fIx (vN 3) (kI 1)) (aCons (gCall fLen (aCons (vN 2) aNil)) aNil))))))) (fRet (lft (gPur (gAndV (gCall fAll (aCons (gLc [4] (gIt (vN 1)) (kName 4) gYes (g2 fEq (gFn F__law_dot (aCons (vN 0) (aCons (vN 4) (aCons (g2 fIx (vN 3) (kI 1)) aNil)))) (kI 0))) aNil)) (g2 fEq (gFn F__law_dot (aCons (vN 0) (aCons (vN 2) (aCons (g2 fIx (vN 3) (kI 1)) aNil)))) (kI 1)))))) fNil)
  (fRet (lft (kB false))))))
def F__law_is_right := runP 5 4 d__law_is_right
def d__law_says : En → SR :=
  (fSeq (fIf (lft (gTru (vN 1))) (fRet (lft (g2 fIs (vN 0) (kB true)))) fNil)
  (fRet (lft (g2 fIs (vN 0) (kB false)))))
def F__law_says := runP 2 2 d__law_says
def d_is_tuple : En → SR :=
  (fRet (lft (gPur (gAndV (gIsi isTup (vN 0)) (g2 fEq (gCall fLen (aCons (vN 0) aNil)) (vN 1))))))
def F_is_tuple := runP 2 2 d_is_tuple
def d_is_integer : En → SR :=
  (fRet (lft (gPur (gAndV (gIsi isInt (vN 0)) (gNotV (gIsi isBl (vN 0)))))))
def F_is_integer := runP 1 1 d_is_integer
def d_is_number : En → SR :=
  (fRet (lft (gPur (gAndV (gFn F_is_integer (aCons (vN 1) aNil)) (gCh fLe fLt (kI 0) (vN 1) (vN 0))))))
def F_is_number := runP 2 2 d_is_number
def d_are_numbers : En → SR :=
  (fRet (lft (gPur (gAndV (gFn F_is_tuple (aCons (vN 1) (aCons (vN 2) aNil))) (gCall fAll (aCons (gLc [3] (gIt (vN 1)) (kName 3) gYes (gFn F_is_number (aCons (vN 0) (aCons (vN 3) aNil)))) aNil))))))
def F_are_numbers := runP 4 3 d_are_numbers
def d_summed : En → SR :=
  (fRet (lft (g2 fMod (gCall fSum (aCons (gLc [2, 3] (gIt (vN 1)) (kTup 2 (kCons (kName 2) (kCons (kName 3) kNil))) gYes (g2 fMul (vN 2) (vN 3))) aNil)) (vN 0))))
def F_summed := runP 4 2 d_summed
def d_weighted : En → SR :=
  (fRet (lft (gCall fTuple (aCons (gLc [4] (gR1 (vN 3)) (kName 4) gYes (gFn F_summed (aCons (vN 0) (aCons (gLc [5, 6] (gZip (vN 2) (vN 1)) (kTup 2 (kCons (kName 5) (kCons (kName 6) kNil))) gYes (gTup (aCons (vN 5) (aCons (g2 fIx (vN 6) (vN 4)) aNil)))) aNil)))) aNil))))
def F_weighted := runP 7 4 d_weighted
def d_shows_combination : En → SR :=
  (fSeq (fIf (lft (gNot (gTru (gFn F_is_tuple (aCons (vN 3) (aCons (kI 2) aNil)))))) (fRet (lft (kB false))) fNil)
  (fSeq (fIf (lft (gAnd (gT (g2 fEq (g2 fIx (vN 3) (kI 0)) (kS (Str.ofString "weights")))) (gTru (gFn F_are_numbers (aCons (vN 0) (aCons (g2 fIx (vN 3) (kI 1)) (aCons (gCall fLen (aCons (vN 1) aNil)) aNil))))))) (fRet (lft (g2 fEq (gFn F_weighted (aCons (vN 0) (aCons (vN 1) (aCons (g2 fIx (vN 3) (kI 1)) (aCons (gCall fLen (aCons (vN 2) aNil)) aNil))))) (gCall fTuple (aCons (vN 2) aNil))))) fNil)
  (fSeq (fIf (lft (gAnd (gT (g2 fEq (g2 fIx (vN 3) (kI 0)) (kS (Str.ofString "column")))) (gTru (gFn F_are_numbers (aCons (vN 0) (aCons (g2 fIx (vN 3) (kI 1)) (aCons (gCall fLen (aCons (vN 2) aNil)) aNil))))))) (fSeq (fSet 4 (lft (gCall fAll (aCons (gLc [5] (gIt (vN 1)) (kName 5) gYes (g2 fEq (gFn F_summed (aCons (vN 0) (aCons (gCall fLZ (aCons (vN 5) (aCons (g2 fIx (vN 3) (kI 1)) aNil))) aNil))) (kI 0))) aNil))))
  (fRet (lft (gPur (gAndV (vN 4) (g2 fEq (gFn F_summed (aCons (vN 0) (aCons (gCall fLZ (aCons (vN 2) (aCons (g2 fIx (vN 3) (kI 1)) aNil))) aNil))) (kI 1))))))) fNil)
  (fRet (lft (kB false))))))
def F_shows_combination := runP 6 4 d_shows_combination
def d_law : En → SR :=
  (fSeq (fSet 1 (lft (gFn F__law_start (aCons (vN 0) aNil))))
  (fSeq (fFor (kName 2) (lft (gR1 (kI 3))) (fSeq (fSet 3 (mCallM 1 F__law_one_of (hO (lft (gLst (aCons (kI 3) (aCons (kI 5) (aCons (kI 7) (aCons (kI 11) (aCons (kI 251) aNil))))))) hNil)))
  (fSeq (fSet 4 (m2 fAdd (lft (kI 1)) (mCallM 1 F__law_draw (hO (lft (kI 6)) hNil))))
  (fSeq (fSet 5 (mCallM 1 F__law_some_rows (hN 3 (hN 4 hNil))))
  (fSeq (fIf (lft (gNot (gTru (gFn F__law_is_echelon (aCons (vN 3) (aCons (vN 5) (aCons (gFn F_echelon (aCons (vN 3) (aCons (vN 5) aNil))) (aCons (vN 4) aNil)))))))) (fRet (lft (kB false))) fNil)
  (fSeq (fSet 6 (mCallH F__law_added (hN 3 (hN 5 (hO (mLc [13] (lft (gIt (gPur (vN 5)))) (kName 13) gYes (mCallM 1 F__law_draw (hN 3 hNil))) (hN 4 hNil))))))
  (fSeq (fFor (kName 7) (mIt (mOf mkLst (mCons (lft (gPur (vN 6))) (mCons (mOf (rOf fTuple) (mCons (mLc [14] (lft (gR1 (vN 4))) (kName 14) gYes (mCallM 1 F__law_draw (hN 3 hNil))) mNil)) mNil)))) (fSeq (fSet 8 (lft (gFn F_combination (aCons (vN 3) (aCons (vN 5) (aCons (vN 7) aNil))))))
  (fSeq (fIf (lft (gNot (gTru (gFn F__law_is_right (aCons (vN 3) (aCons (vN 5) (aCons (vN 7) (aCons (vN 8) aNil)))))))) (fRet (lft (kB false))) fNil)
  (fSeq (fSet 9 (lft (gLst (aCons (gPur (vN 8)) (aCons (gTup (aCons (kS (Str.ofString "column")) (aCons (g2 fIx (vN 8) (kI 1)) aNil))) (aCons (gTup (aCons (kS (Str.ofString "weights")) (aCons (g2 fIx (vN 8) (kI 1)) aNil))) (aCons (gTup (aCons (g2 fIx (vN 8) (kI 0)) (aCons (g2 fAdd (g2 fIx (vN 8) (kI 1)) (gTup (aCons (kI 0) aNil))) aNil))) (aCons (gSl (vN 8) oN (oS (kI 1))) (aCons (kI 7) (aCons (gTup aNil) aNil))))))))))
  (fSeq (fIf (lft (gT (g2 fGt (gCall fLen (aCons (g2 fIx (vN 8) (kI 1)) aNil)) (kI 0)))) (fSeq (fSet 10 (mCallM 1 F__law_draw (hO (lft (gCall fLen (aCons (g2 fIx (vN 8) (kI 1)) aNil))) hNil)))
  (fSeq (fSet 11 (m2 fMod (mOf (rOf fInt) (mCons (m2 fAdd (lft (g2 fAdd (g2 fIx (g2 fIx (vN 8) (kI 1)) (vN 10)) (kI 1))) (mCallM 1 F__law_draw (hO (lft (g2 fSub (vN 3) (kI 1))) hNil))) mNil)) (lft (gPur (vN 3)))))
  (fSeq (fExpr (mApp 9 (lft (gTup (aCons (g2 fIx (vN 8) (kI 0)) (aCons (g2 fAdd (g2 fAdd (gSl (g2 fIx (vN 8) (kI 1)) oN (oS (vN 10))) (gTup (aCons (vN 11) aNil))) (gSl (g2 fIx (vN 8) (kI 1)) (oS (g2 fAdd (vN 10) (kI 1))) oN)) aNil))))))
  (fExpr (mApp 9 (lft (gTup (aCons (g2 fIx (vN 8) (kI 0)) (aCons (g2 fAdd (g2 fAdd (gSl (g2 fIx (vN 8) (kI 1)) oN (oS (vN 10))) (gTup (aCons (g2 fAdd (g2 fIx (g2 fIx (vN 8) (kI 1)) (vN 10)) (vN 3)) aNil))) (gSl (g2 fIx (vN 8) (kI 1)) (oS (g2 fAdd (vN 10) (kI 1))) oN)) aNil))))))))) fNil)
  (fForN (kName 12) 9 (fIf (lft (gNot (gTru (gFn F__law_says (aCons (gFn F_shows_combination (aCons (vN 3) (aCons (vN 5) (aCons (vN 7) (aCons (vN 12) aNil))))) (aCons (gFn F__law_is_right (aCons (vN 3) (aCons (vN 5) (aCons (vN 7) (aCons (vN 12) aNil))))) aNil)))))) (fRet (lft (kB false))) fNil)))))))
  (fIf (lft (gT (g2 fNe (g2 fIx (gFn F_combination (aCons (vN 3) (aCons (vN 5) (aCons (vN 6) aNil)))) (kI 0)) (kS (Str.ofString "weights"))))) (fRet (lft (kB false))) fNil))))))))
  (fRet (lft (kB true)))))
def F_law := runP 15 1 d_law
end K02
namespace K02
open PySem PySem.Spec L2 Z
open PyProof.Rows hiding St
def topS (i : Nat) : Stmt := PySem.Challenge.pw_countunseen_k02_combinations.main.body.getD i (.Pass ⟨0, 0, 0, 0⟩)
/-! that they do -/
section
variable {P : Program} {w : World} {K : PySem.W.Frag} {base : Heap} {mg : Str → Option Value}
abbrev s__law_start : Stmt := topS 19
abbrev N__law_start : List Str := ["script"]
theorem sc__law_start : FnScope ["script"] ["script"] (defScope s__law_start) := ⟨rfl, rfl, rfl, by decide +kernel, rfl, by decide +kernel, by decide +kernel⟩
theorem ok__law_start {f : Addr} {fd : FuncData} (F : Fun K "_law_start" "_law_start" s__law_start f fd) (hm : mg "_law_start" = some (.ref f)) (hb : Binds K fd ["script"] []) (z_list : mg "list" = none) : FnP P w K mg base "_law_start" 1 F__law_start :=
  fnP F sc__law_start hm hb fun cdv A outer s H E hr cz => (b_one (s_ret (n_lst (an_cons (n_callT f_list boot_list z_list (av_cons (v_name 0) av_nil)) (an_cons n_int (an_cons n_int (an_cons n_int an_nil))))).up))
abbrev s__law_draw : Stmt := topS 20
abbrev N__law_draw : List Str := ["state", "most", "found", "cell", "mixed"]
theorem sc__law_draw : FnScope ["state", "most", "found", "cell", "mixed"] ["state", "most"] (defScope s__law_draw) := ⟨rfl, rfl, rfl, by decide +kernel, rfl, by decide +kernel, by decide +kernel⟩
theorem ok__law_draw {f : Addr} {fd : FuncData} (F : Fun K "_law_draw" "_law_draw" s__law_draw f fd) (hm : mg "_law_draw" = some (.ref f)) (hb : Binds K fd ["state", "most"] []) (z_abs : mg "abs" = none) (z_int : mg "int" = none) (z_len : mg "len" = none) : FnM P w K mg base "_law_draw" 1 F__law_draw :=
  fnM F sc__law_draw hm hb fun cdv A outer s H E hr cz => (b_cons (s_store 0 (n_bin b_add (v_ix (v_name 0) (PN.v n_int)) (PN.v n_int)).up (PN.v n_int))
      (b_cons (s_if (c_cmp m_gt (v_ix (v_name 0) (PN.v n_int)) (PN.v n_int)).up (b_cons (s_set 2 cz (n_bin b_mod (PN.v (n_callT f_int boot_int z_int (av_cons (v_ix (v_name 0) (PN.v n_int)) av_nil))) (v_name 1)).up)
      (b_cons (s_store 0 (n_bin b_div (v_ix (v_name 0) (PN.v n_int)) (v_name 1)).up (PN.v n_int))
      (b_one (s_ret (m_name 2))))) b_nil)
      (b_cons (s_set 3 cz n_int.up)
      (b_cons (s_if (c_cmp m_gt (PN.v (n_callB f_len PySem.boot_len z_len (av_cons (v_ix (v_name 0) (PN.v n_int)) av_nil))) (PN.v n_int)).up (b_one (s_set 3 cz (n_callB f_abs boot_abs z_abs (av_cons (v_ix (v_ix (v_name 0) (PN.v n_int)) (PN.v (n_bin b_mod (PN.v (n_callT f_int boot_int z_int (av_cons (v_ix (v_name 0) (PN.v n_int)) av_nil))) (PN.v (n_callB f_len PySem.boot_len z_len (av_cons (v_ix (v_name 0) (PN.v n_int)) av_nil)))))) av_nil)).up)) b_nil)
      (b_cons (s_store 0 (n_bin b_add (v_ix (v_name 0) (PN.v n_int)) (PN.v n_int)).up (PN.v n_int))
      (b_cons (s_if (c_cmp m_ge (v_name 3) (PN.v (n_bin b_pow (PN.v n_int) (PN.v n_int)))).up (b_cons (s_store 0 (n_bin b_div (v_name 3) (v_name 1)).up (PN.v n_int))
      (b_one (s_ret (n_bin b_mod (PN.v (n_callT f_int boot_int z_int (av_cons (v_name 3) av_nil))) (v_name 1)).up))) b_nil)
      (b_cons (s_set 4 cz (n_bin b_mod (PN.v (n_callT f_int boot_int z_int (av_cons (PN.v (n_bin b_add (PN.v (n_bin b_mul (PN.v (n_bin b_add (v_name 3) (PN.v n_int))) (PN.v n_int))) (PN.v (n_bin b_mul (v_ix (v_name 0) (PN.v n_int)) (PN.v n_int))))) av_nil))) (PN.v n_int)).up)
      (b_cons (s_set 4 cz (n_bin b_mod (PN.v (n_callT f_int boot_int z_int (av_cons (PN.v (n_bin b_add (PN.v (n_bin b_add (PN.v (n_bin b_mul (v_name 4) (PN.v n_int))) (PN.v (n_bin b_div (v_name 3) (PN.v n_int))))) (v_ix (v_name 0) (PN.v n_int)))) av_nil))) (PN.v n_int)).up)
      (b_one (s_ret (n_bin b_mod (PN.v (n_bin b_div (v_name 4) (PN.v n_int))) (v_name 1)).up))))))))))
abbrev s__law_one_of : Stmt := topS 21
abbrev N__law_one_of : List Str := ["state", "items"]
theorem sc__law_one_of : FnScope ["state", "items"] ["state", "items"] (defScope s__law_one_of) := ⟨rfl, rfl, rfl, by decide +kernel, rfl, by decide +kernel, by decide +kernel⟩
theorem ok__law_one_of {f : Addr} {fd : FuncData} (F : Fun K "_law_one_of" "_law_one_of" s__law_one_of f fd) (hm : mg "_law_one_of" = some (.ref f)) (hb : Binds K fd ["state", "items"] []) (G__law_draw : FnM P w K mg base "_law_draw" 1 F__law_draw) (z_len : mg "len" = none) : FnM P w K mg base "_law_one_of" 2 F__law_one_of :=
  fnM F sc__law_one_of hm hb fun cdv A outer s H E hr cz => (b_one (s_ret (m_ixN 1 (m_callM 0 G__law_draw cz.tk (hr.mono (by decide)) (mh_o (n_callB f_len PySem.boot_len z_len (av_cons (v_name 1) av_nil)).up mh_nil)))))
abbrev s__law_added : Stmt := topS 25
abbrev N__law_added : List Str := ["p", "rows", "weights", "width", "k", "j"]
theorem sc__law_added : FnScope ["p", "rows", "weights", "width", "k", "j"] ["p", "rows", "weights", "width"] (defScope s__law_added) := ⟨rfl, rfl, rfl, by decide +kernel, rfl, by decide +kernel, by decide +kernel⟩
theorem ok__law_added {f : Addr} {fd : FuncData} (F : Fun K "_law_added" "_law_added" s__law_added f fd) (hm : mg "_law_added" = some (.ref f)) (hb : Binds K fd ["p", "rows", "weights", "width"] []) (z_int : mg "int" = none) (z_len : mg "len" = none) (z_range : mg "range" = none) (z_sum : mg "sum" = none) (z_tuple : mg "tuple" = none) : FnP P w K mg base "_law_added" 1 F__law_added :=
  fnP F sc__law_added hm hb fun cdv A outer s H E hr cz => (b_one (s_ret (n_callT f_tuple boot_tuple z_tuple (av_cons (PN.v (n_lc [("k", 4)] cz.calm cz.nd (j_rng1 z_range (v_name 3)).v (blk_ok (N := N__law_added) (sc := defScope s__law_added) (by decide +kernel)) (ix_name (by decide)) (fun _ _ _ _ _ => (t_name 4 cz.nd)) (fun _ _ _ _ _ => cs_nil) (fun _ _ _ _ _ => (n_bin b_mod (PN.v (n_callT f_int boot_int z_int (av_cons (PN.v (n_callB (f_sum rfl) (by decide +kernel) z_sum (av_cons (PN.v (n_lc [("j", 5)] cz.calm cz.nd (j_rng1 z_range (PN.v (n_callB f_len PySem.boot_len z_len (av_cons (v_name 1) av_nil)))).v (by rfl) (ix_name (by decide)) (fun _ _ _ _ _ => (t_name 5 cz.nd)) (fun _ _ _ _ _ => cs_nil) (fun _ _ _ _ _ => (n_bin b_mul (v_ix (v_name 2) (v_name 5)) (v_ix (v_ix (v_name 1) (v_name 5)) (v_name 4)))))) av_nil))) av_nil))) (v_name 0))))) av_nil)).up))
abbrev s__law_some_rows : Stmt := topS 26
abbrev N__law_some_rows : List Str := ["state", "p", "width", "rows", "turn", "row", "k"]
theorem sc__law_some_rows : FnScope ["state", "p", "width", "rows", "turn", "row", "k"] ["state", "p", "width"] (defScope s__law_some_rows) := ⟨rfl, rfl, rfl, by decide +kernel, rfl, by decide +kernel, by decide +kernel⟩
theorem ok__law_some_rows {f : Addr} {fd : FuncData} (F : Fun K "_law_some_rows" "_law_some_rows" s__law_some_rows f fd) (hm : mg "_law_some_rows" = some (.ref f)) (hb : Binds K fd ["state", "p", "width"] []) (G__law_added : FnP P w K mg base "_law_added" 1 F__law_added) (G__law_draw : FnM P w K mg base "_law_draw" 1 F__law_draw) (z_len : mg "len" = none) (z_range : mg "range" = none) (z_tuple : mg "tuple" = none) : FnM P w K mg base "_law_some_rows" 2 F__law_some_rows :=
  fnM F sc__law_some_rows hm hb fun cdv A outer s H E hr cz => (b_cons (s_set 3 cz (n_lst an_nil).up)
      (b_cons (s_for cz (mi_rng1 z_range (m_callM 0 G__law_draw cz.tk (hr.mono (by decide)) (mh_o n_int.up mh_nil))) (t_name 4 cz.nd) (b_one (s_if (mc_w (mw_and (c_cmp m_gt (PN.v (n_callB f_len PySem.boot_len z_len (av_cons (v_name 3) av_nil))) (PN.v n_int)).up (mw_and1 (mc_cmp (m_eq hr.units) (m_callM 0 G__law_draw cz.tk (hr.mono (by decide)) (mh_o n_int.up mh_nil)) n_int.up)))) (b_one (s_expr (m_app 3 (m_callH G__law_added cz.tk (hr.mono (by decide)) (mh_n 1 (mh_n 3 (mh_o (m_lcN [("row", 5)] 3 cz (by decide) (blk_ok (N := N__law_some_rows) (sc := defScope s__law_some_rows) (by decide +kernel)) (ix_name (by decide)) (fun _ _ _ _ _ => (t_name 5 cz.nd)) (fun _ _ _ _ _ => cs_nil) (fun _ _ _ _ _ => (m_callM 0 G__law_draw takes0 (hr.mono (by decide)) (mh_n 1 mh_nil)))) (mh_n 2 mh_nil)))))))) (b_one (s_expr (m_app 3 (m_callT f_tuple boot_tuple z_tuple (ma_cons (m_lc [("k", 6)] cz (j_rng1 z_range (v_name 2)).up (blk_ok (N := N__law_some_rows) (sc := defScope s__law_some_rows) (by decide +kernel)) (ix_name (by decide)) (fun _ _ _ _ _ => (t_name 6 cz.nd)) (fun _ _ _ _ _ => cs_nil) (fun _ _ _ _ _ => (m_callM 0 G__law_draw takes0 (hr.mono (by decide)) (mh_n 1 mh_nil)))) ma_nil))))))))
      (b_one (s_ret (n_callT f_tuple boot_tuple z_tuple (av_cons (v_name 3) av_nil)).up))))
abbrev s__law_lead : Stmt := topS 29
abbrev N__law_lead : List Str := ["row", "places", "k"]
theorem sc__law_lead : FnScope ["row", "places", "k"] ["row"] (defScope s__law_lead) := ⟨rfl, rfl, rfl, by decide +kernel, rfl, by decide +kernel, by decide +kernel⟩
theorem ok__law_lead {f : Addr} {fd : FuncData} (F : Fun K "_law_lead" "_law_lead" s__law_lead f fd) (hm : mg "_law_lead" = some (.ref f)) (hb : Binds K fd ["row"] []) (z_len : mg "len" = none) (z_range : mg "range" = none) : FnP P w K mg base "_law_lead" 1 F__law_lead :=
  fnP F sc__law_lead hm hb fun cdv A outer s H E hr cz => (b_cons (s_setLc [("k", 2)] 1 cz (j_rng1 z_range (PN.v (n_callB f_len PySem.boot_len z_len (av_cons (v_name 0) av_nil)))).v (blk_ok (N := N__law_lead) (sc := defScope s__law_lead) (by decide +kernel)) (ix_name (by decide)) (fun _ _ _ _ _ => (t_name 2 cz.nd)) (fun _ _ _ _ _ => (cs_one (c_cmp (m_ne hr.units) (v_ix (v_name 0) (v_name 2)) (PN.v n_int)))) (fun _ _ _ _ _ => (v_name 2).pur))
      (b_one (s_ret (v_ix (PN.v (n_bin b_add (v_name 1) (PN.v (n_lst (an_cons (n_neg (PN.v n_int)) an_nil))))) (PN.v n_int)).pur.up)))
abbrev s__law_is_int : Stmt := topS 22
abbrev N__law_is_int : List Str := ["x"]
theorem sc__law_is_int : FnScope ["x"] ["x"] (defScope s__law_is_int) := ⟨rfl, rfl, rfl, by decide +kernel, rfl, by decide +kernel, by decide +kernel⟩
theorem ok__law_is_int {f : Addr} {fd : FuncData} (F : Fun K "_law_is_int" "_law_is_int" s__law_is_int f fd) (hm : mg "_law_is_int" = some (.ref f)) (hb : Binds K fd ["x"] []) (z_bool : mg "bool" = none) (z_int : mg "int" = none) (z_isinstance : mg "isinstance" = none) : FnP P w K mg base "_law_is_int" 1 F__law_is_int :=
  fnP F sc__law_is_int hm hb fun cdv A outer s H E hr cz => (b_one (s_ret (v_and (PN.v (n_isi kit_int z_isinstance z_int boot_int (v_name 0))) (v_one (PN.v (n_not (PN.v (n_isi kit_bl z_isinstance z_bool boot_bool (v_name 0))))))).pur.up))
abbrev s__law_numbers : Stmt := topS 27
abbrev N__law_numbers : List Str := ["p", "datum", "many", "x"]
theorem sc__law_numbers : FnScope ["p", "datum", "many", "x"] ["p", "datum", "many"] (defScope s__law_numbers) := ⟨rfl, rfl, rfl, by decide +kernel, rfl, by decide +kernel, by decide +kernel⟩
theorem ok__law_numbers {f : Addr} {fd : FuncData} (F : Fun K "_law_numbers" "_law_numbers" s__law_numbers f fd) (hm : mg "_law_numbers" = some (.ref f)) (hb : Binds K fd ["p", "datum", "many"] []) (G__law_is_int : FnP P w K mg base "_law_is_int" 1 F__law_is_int) (z_all : mg "all" = none) (z_isinstance : mg "isinstance" = none) (z_len : mg "len" = none) (z_tuple : mg "tuple" = none) : FnP P w K mg base "_law_numbers" 2 F__law_numbers :=
  fnP F sc__law_numbers hm hb fun cdv A outer s H E hr cz => (b_cons (s_if (c_w (w_or (c_not (c_truth (PN.v (n_isi kit_tup z_isinstance z_tuple boot_tuple (v_name 1))))) (w_or1 (c_cmp (m_ne hr.units) (PN.v (n_callB f_len PySem.boot_len z_len (av_cons (v_name 1) av_nil))) (v_name 2))))).up (b_one (s_ret n_bl.up)) b_nil)
      (b_one (s_ret (n_callB (f_all rfl) (by decide +kernel) z_all (av_cons (PN.v (n_lc [("x", 3)] cz.calm cz.nd (i_sq (v_name 1)) (blk_ok (N := N__law_numbers) (sc := defScope s__law_numbers) (by decide +kernel)) (ix_name (by decide)) (fun _ _ _ _ _ => (t_name 3 cz.nd)) (fun _ _ _ _ _ => cs_nil) (fun _ _ _ _ _ => (v_and (PN.v (n_call G__law_is_int takes0 (hr.mono (by decide)) (av_cons (v_name 3) av_nil))) (v_and (PN.v (n_cmp m_le (PN.v n_int) (v_name 3))) (v_one (PN.v (n_cmp m_lt (v_name 3) (v_name 0)))))).pur))) av_nil)).up)))
abbrev s_leading : Stmt := topS 13
abbrev N_leading : List Str := ["row", "place", "number"]
theorem sc_leading : FnScope ["row", "place", "number"] ["row"] (defScope s_leading) := ⟨rfl, rfl, rfl, by decide +kernel, rfl, by decide +kernel, by decide +kernel⟩
theorem ok_leading {f : Addr} {fd : FuncData} (F : Fun K "leading" "leading" s_leading f fd) (hm : mg "leading" = some (.ref f)) (hb : Binds K fd ["row"] []) (z_enumerate : mg "enumerate" = none) : FnP P w K mg base "leading" 1 F_leading :=
  fnP F sc_leading hm hb fun cdv A outer s H E hr cz => (b_cons (s_forE 0 cz z_enumerate (t_tup cz.calm (ts_cons (t_name 1 cz.nd) (ts_cons (t_name 2 cz.nd) ts_nil))) (b_one (s_if (c_cmp (m_ne hr.units) (v_name 2) (PN.v n_int)).up (b_one (s_ret (m_name 1))) b_nil)))
      (b_one (s_ret (n_neg (PN.v n_int)).up)))
abbrev s_power : Stmt := topS 5
abbrev N_power : List Str := ["p", "a", "n", "found"]
theorem sc_power : FnScope ["p", "a", "n", "found"] ["p", "a", "n"] (defScope s_power) := ⟨rfl, rfl, rfl, by decide +kernel, rfl, by decide +kernel, by decide +kernel⟩
theorem ok_power {f : Addr} {fd : FuncData} (F : Fun K "power" "power" s_power f fd) (hm : mg "power" = some (.ref f)) (hb : Binds K fd ["p", "a", "n"] []) : FnP P w K mg base "power" 1 F_power :=
  fnP F sc_power hm hb fun cdv A outer s H E hr cz => (b_cons (s_set 3 cz n_int.up)
      (b_cons (s_while mu_power_0 cz (c_cmp m_gt (v_name 2) (PN.v n_int)).up (b_cons (s_if (c_cmp (m_eq hr.units) (PN.v (n_bin b_mod (v_name 2) (PN.v n_int))) (PN.v n_int)).up (b_one (s_set 3 cz (n_bin b_mod (PN.v (n_bin b_mul (v_name 3) (v_name 1))) (v_name 0)).up)) b_nil)
      (b_cons (s_set 1 cz (n_bin b_mod (PN.v (n_bin b_mul (v_name 1) (v_name 1))) (v_name 0)).up)
      (b_one (s_aug 2 cz i_div n_int.up)))))
      (b_one (s_ret (m_name 3)))))
abbrev s_inverse : Stmt := topS 6
abbrev N_inverse : List Str := ["p", "a"]
theorem sc_inverse : FnScope ["p", "a"] ["p", "a"] (defScope s_inverse) := ⟨rfl, rfl, rfl, by decide +kernel, rfl, by decide +kernel, by decide +kernel⟩
theorem ok_inverse {f : Addr} {fd : FuncData} (F : Fun K "inverse" "inverse" s_inverse f fd) (hm : mg "inverse" = some (.ref f)) (hb : Binds K fd ["p", "a"] []) (G_power : FnP P w K mg base "power" 1 F_power) : FnP P w K mg base "inverse" 2 F_inverse :=
  fnP F sc_inverse hm hb fun cdv A outer s H E hr cz => (b_one (s_ret (n_call G_power cz.tk (hr.mono (by decide)) (av_cons (v_name 0) (av_cons (v_name 1) (av_cons (PN.v (n_bin b_sub (v_name 0) (PN.v n_int))) av_nil)))).up))
abbrev s_cleared : Stmt := topS 11
abbrev N_cleared : List Str := ["p", "row", "other", "place", "number", "a", "b"]
theorem sc_cleared : FnScope ["p", "row", "other", "place", "number", "a", "b"] ["p", "row", "other", "place"] (defScope s_cleared) := ⟨rfl, rfl, rfl, by decide +kernel, rfl, by decide +kernel, by decide +kernel⟩
theorem ok_cleared {f : Addr} {fd : FuncData} (F : Fun K "cleared" "cleared" s_cleared f fd) (hm : mg "cleared" = some (.ref f)) (hb : Binds K fd ["p", "row", "other", "place"] []) (z_tuple : mg "tuple" = none) (z_zip : mg "zip" = none) : FnP P w K mg base "cleared" 1 F_cleared :=
  fnP F sc_cleared hm hb fun cdv A outer s H E hr cz => (b_cons (s_set 4 cz (v_ix (v_name 1) (v_name 3)).pur.up)
      (b_cons (s_if (c_cmp (m_eq hr.units) (v_name 4) (PN.v n_int)).up (b_one (s_ret (m_name 1))) b_nil)
      (b_one (s_ret (n_callT f_tuple boot_tuple z_tuple (av_cons (PN.v (n_lc [("a", 5), ("b", 6)] cz.calm cz.nd (i_zip z_zip (v_name 1) (v_name 2)) (blk_ok (N := N_cleared) (sc := defScope s_cleared) (by decide +kernel)) (ix_tup (ix_cons (ix_name (by decide)) (ix_cons (ix_name (by decide)) ix_nil))) (fun _ _ _ _ _ => (t_tup cz.calm (ts_cons (t_name 5 cz.nd) (ts_cons (t_name 6 cz.nd) ts_nil)))) (fun _ _ _ _ _ => cs_nil) (fun _ _ _ _ _ => (n_bin b_mod (PN.v (n_bin b_sub (v_name 5) (PN.v (n_bin b_mul (v_name 4) (v_name 6))))) (v_name 0))))) av_nil)).up))))
abbrev s_unit : Stmt := topS 15
abbrev N_unit : List Str := ["many", "k"]
theorem sc_unit : FnScope ["many", "k"] ["many", "k"] (defScope s_unit) := ⟨rfl, rfl, rfl, by decide +kernel, rfl, by decide +kernel, by decide +kernel⟩
theorem ok_unit {f : Addr} {fd : FuncData} (F : Fun K "unit" "unit" s_unit f fd) (hm : mg "unit" = some (.ref f)) (hb : Binds K fd ["many", "k"] []) : FnP P w K mg base "unit" 1 F_unit :=
  fnP F sc_unit hm hb fun cdv A outer s H E hr cz => (b_one (s_ret (n_bin b_add (PN.v (n_bin b_add (PN.v (n_bin b_mulT (PN.v (n_tup (av_cons (PN.v n_int) av_nil))) (v_name 1))) (PN.v (n_tup (av_cons (PN.v n_int) av_nil))))) (PN.v (n_bin b_mulT (PN.v (n_tup (av_cons (PN.v n_int) av_nil))) (PN.v (n_bin b_sub (PN.v (n_bin b_sub (v_name 0) (v_name 1))) (PN.v n_int)))))).up))
abbrev s_echelon : Stmt := topS 12
abbrev N_echelon : List Str := ["p", "rows", "waiting", "found", "width", "place", "starts", "row", "scale", "k", "a", "other"]
theorem sc_echelon : FnScope ["p", "rows", "waiting", "found", "width", "place", "starts", "row", "scale", "k", "a", "other"] ["p", "rows"] (defScope s_echelon) := ⟨rfl, rfl, rfl, by decide +kernel, rfl, by decide +kernel, by decide +kernel⟩
theorem ok_echelon {f : Addr} {fd : FuncData} (F : Fun K "echelon" "echelon" s_echelon f fd) (hm : mg "echelon" = some (.ref f)) (hb : Binds K fd ["p", "rows"] []) (G_cleared : FnP P w K mg base "cleared" 1 F_cleared) (G_inverse : FnP P w K mg base "inverse" 2 F_inverse) (z_enumerate : mg "enumerate" = none) (z_len : mg "len" = none) (z_list : mg "list" = none) (z_range : mg "range" = none) (z_tuple : mg "tuple" = none) : FnP P w K mg base "echelon" 3 F_echelon :=
  fnP F sc_echelon hm hb fun cdv A outer s H E hr cz => (b_cons (s_set 2 cz (n_callT f_list boot_list z_list (av_cons (v_name 1) av_nil)).up)
      (b_cons (s_set 3 cz (n_lst an_nil).up)
      (b_cons (s_set 4 cz (n_if (c_truth (v_name 1)) (n_callB f_len PySem.boot_len z_len (av_cons (v_ix (v_name 1) (PN.v n_int)) av_nil)) n_int).up)
      (b_cons (s_for cz (j_rng1 z_range (v_name 4)).up (t_name 5 cz.nd) (b_cons (s_setLc [("k", 9), ("row", 7)] 6 cz (i_enum z_enumerate (v_name 2)) (blk_ok (N := N_echelon) (sc := defScope s_echelon) (by decide +kernel)) (ix_tup (ix_cons (ix_name (by decide)) (ix_cons (ix_name (by decide)) ix_nil))) (fun _ _ _ _ _ => (t_tup cz.calm (ts_cons (t_name 9 cz.nd) (ts_cons (t_name 7 cz.nd) ts_nil)))) (fun _ _ _ _ _ => (cs_one (c_cmp (m_ne hr.units) (v_ix (v_name 7) (v_name 5)) (PN.v n_int)))) (fun _ _ _ _ _ => (v_name 9).pur))
      (b_one (s_if (c_truth (v_name 6)).up (b_cons (s_set 7 cz (m_popAt 2 (v_ix (v_name 6) (PN.v n_int))))
      (b_cons (s_set 8 cz (n_call G_inverse cz.tk (hr.mono (by decide)) (av_cons (v_name 0) (av_cons (v_ix (v_name 7) (v_name 5)) av_nil))).up)
      (b_cons (s_set 7 cz (n_callT f_tuple boot_tuple z_tuple (av_cons (PN.v (n_lc [("a", 10)] cz.calm cz.nd (i_sq (v_name 7)) (blk_ok (N := N_echelon) (sc := defScope s_echelon) (by decide +kernel)) (ix_name (by decide)) (fun _ _ _ _ _ => (t_name 10 cz.nd)) (fun _ _ _ _ _ => cs_nil) (fun _ _ _ _ _ => (n_bin b_mod (PN.v (n_bin b_mul (v_name 10) (v_name 8))) (v_name 0))))) av_nil)).up)
      (b_cons (s_set 3 cz (n_bin b_add (PN.v (n_lc [("other", 11)] cz.calm cz.nd (i_sq (v_name 3)) (blk_ok (N := N_echelon) (sc := defScope s_echelon) (by decide +kernel)) (ix_name (by decide)) (fun _ _ _ _ _ => (t_name 11 cz.nd)) (fun _ _ _ _ _ => cs_nil) (fun _ _ _ _ _ => (n_call G_cleared takes0 (hr.mono (by decide)) (av_cons (v_name 0) (av_cons (v_name 11) (av_cons (v_name 7) (av_cons (v_name 5) av_nil)))))))) (PN.v (n_lst (an_cons (v_name 7).pur an_nil)))).up)
      (b_one (s_setLc [("other", 11)] 2 cz (i_sq (v_name 2)) (blk_ok (N := N_echelon) (sc := defScope s_echelon) (by decide +kernel)) (ix_name (by decide)) (fun _ _ _ _ _ => (t_name 11 cz.nd)) (fun _ _ _ _ _ => cs_nil) (fun _ _ _ _ _ => (n_call G_cleared takes0 (hr.mono (by decide)) (av_cons (v_name 0) (av_cons (v_name 11) (av_cons (v_name 7) (av_cons (v_name 5) av_nil)))))))))))) b_nil))))
      (b_one (s_ret (n_callT f_tuple boot_tuple z_tuple (av_cons (v_name 3) av_nil)).up))))))
abbrev s_combination : Stmt := topS 14
abbrev N_combination : List Str := ["p", "rows", "v", "many", "marked", "width", "rest", "steps", "row", "place", "scale", "column", "k", "a"]
theorem sc_combination : FnScope ["p", "rows", "v", "many", "marked", "width", "rest", "steps", "row", "place", "scale", "column", "k", "a"] ["p", "rows", "v"] (defScope s_combination) := ⟨rfl, rfl, rfl, by decide +kernel, rfl, by decide +kernel, by decide +kernel⟩
theorem ok_combination {f : Addr} {fd : FuncData} (F : Fun K "combination" "combination" s_combination f fd) (hm : mg "combination" = some (.ref f)) (hb : Binds K fd ["p", "rows", "v"] []) (G_cleared : FnP P w K mg base "cleared" 1 F_cleared) (G_echelon : FnP P w K mg base "echelon" 3 F_echelon) (G_inverse : FnP P w K mg base "inverse" 2 F_inverse) (G_leading : FnP P w K mg base "leading" 1 F_leading) (G_unit : FnP P w K mg base "unit" 1 F_unit) (z_enumerate : mg "enumerate" = none) (z_len : mg "len" = none) (z_tuple : mg "tuple" = none) {tk_COLUMN : Tok} (c_COLUMN : mg "COLUMN" = some (.str (Str.ofString "column") tk_COLUMN)) {tk_WEIGHTS : Tok} (c_WEIGHTS : mg "WEIGHTS" = some (.str (Str.ofString "weights") tk_WEIGHTS)) : FnP P w K mg base "combination" 4 F_combination :=
  fnP F sc_combination hm hb fun cdv A outer s H E hr cz => (b_cons (s_set 3 cz (n_callB f_len PySem.boot_len z_len (av_cons (v_name 1) av_nil)).up)
      (b_cons (s_setLc [("k", 12), ("row", 8)] 4 cz (i_enum z_enumerate (v_name 1)) (blk_ok (N := N_combination) (sc := defScope s_combination) (by decide +kernel)) (ix_tup (ix_cons (ix_name (by decide)) (ix_cons (ix_name (by decide)) ix_nil))) (fun _ _ _ _ _ => (t_tup cz.calm (ts_cons (t_name 12 cz.nd) (ts_cons (t_name 8 cz.nd) ts_nil)))) (fun _ _ _ _ _ => cs_nil) (fun _ _ _ _ _ => (n_bin b_add (PN.v (n_callT f_tuple boot_tuple z_tuple (av_cons (v_name 8) av_nil))) (PN.v (n_call G_unit takes0 (hr.mono (by decide)) (av_cons (v_name 3) (av_cons (v_name 12) av_nil)))))))
      (b_cons (s_set 5 cz (n_callB f_len PySem.boot_len z_len (av_cons (v_name 2) av_nil)).up)
      (b_cons (s_set 6 cz (n_bin b_add (PN.v (n_callT f_tuple boot_tuple z_tuple (av_cons (v_name 2) av_nil))) (PN.v (n_bin b_mulT (PN.v (n_tup (av_cons (PN.v n_int) av_nil))) (v_name 3)))).up)
      (b_cons (s_setLc [("row", 8)] 7 cz (i_sq (PN.v (n_call G_echelon cz.tk (hr.mono (by decide)) (av_cons (v_name 0) (av_cons (v_name 4) av_nil))))) (blk_ok (N := N_combination) (sc := defScope s_combination) (by decide +kernel)) (ix_name (by decide)) (fun _ _ _ _ _ => (t_name 8 cz.nd)) (fun _ _ _ _ _ => (cs_one (c_cmp m_lt (PN.v (n_call G_leading takes0 (hr.mono (by decide)) (av_cons (v_name 8) av_nil))) (v_name 5)))) (fun _ _ _ _ _ => (v_name 8).pur))
      (b_cons (s_forN 7 cz (t_name 8 cz.nd) (b_one (s_set 6 cz (n_call G_cleared cz.tk (hr.mono (by decide)) (av_cons (v_name 0) (av_cons (v_name 6) (av_cons (v_name 8) (av_cons (PN.v (n_call G_leading cz.tk (hr.mono (by decide)) (av_cons (v_name 8) av_nil))) av_nil))))).up)))
      (b_cons (s_if (c_cmp m_lt (PN.v (n_call G_leading cz.tk (hr.mono (by decide)) (av_cons (PN.v (n_slice (v_name 6) o_none (o_some (v_name 5)))) av_nil))) (PN.v n_int)).up (b_one (s_ret (n_tup (av_cons (PN.v (n_glS c_WEIGHTS)) (av_cons (PN.v (n_callT f_tuple boot_tuple z_tuple (av_cons (PN.v (n_lc [("a", 13)] cz.calm cz.nd (i_sq (PN.v (n_slice (v_name 6) (o_some (v_name 5)) o_none))) (blk_ok (N := N_combination) (sc := defScope s_combination) (by decide +kernel)) (ix_name (by decide)) (fun _ _ _ _ _ => (t_name 13 cz.nd)) (fun _ _ _ _ _ => cs_nil) (fun _ _ _ _ _ => (n_bin b_mod (PN.v (n_neg (v_name 13))) (v_name 0))))) av_nil))) av_nil))).up)) b_nil)
      (b_cons (s_set 9 cz (n_call G_leading cz.tk (hr.mono (by decide)) (av_cons (PN.v (n_slice (v_name 6) o_none (o_some (v_name 5)))) av_nil)).up)
      (b_cons (s_set 10 cz (n_call G_inverse cz.tk (hr.mono (by decide)) (av_cons (v_name 0) (av_cons (v_ix (v_name 6) (v_name 9)) av_nil))).up)
      (b_cons (s_set 11 cz (n_bin b_mul (PN.v (n_lst (an_cons n_int an_nil))) (v_name 5)).up)
      (b_cons (s_store 11 (m_name 10) (v_name 9))
      (b_cons (s_forN 7 cz (t_name 8 cz.nd) (b_one (s_store 11 (n_bin b_mod (PN.v (n_bin b_mul (PN.v (n_neg (v_ix (v_name 8) (v_name 9)))) (v_name 10))) (v_name 0)).up (PN.v (n_call G_leading cz.tk (hr.mono (by decide)) (av_cons (v_name 8) av_nil))))))
      (b_one (s_ret (n_tup (av_cons (PN.v (n_glS c_COLUMN)) (av_cons (PN.v (n_callT f_tuple boot_tuple z_tuple (av_cons (v_name 11) av_nil))) av_nil))).up))))))))))))))
abbrev s__law_is_echelon : Stmt := topS 30
abbrev N__law_is_echelon : List Str := ["p", "rows", "found", "width", "leads", "j", "row", "k", "i", "lead"]
theorem sc__law_is_echelon : FnScope ["p", "rows", "found", "width", "leads", "j", "row", "k", "i", "lead"] ["p", "rows", "found", "width"] (defScope s__law_is_echelon) := ⟨rfl, rfl, rfl, by decide +kernel, rfl, by decide +kernel, by decide +kernel⟩
theorem ok__law_is_echelon {f : Addr} {fd : FuncData} (F : Fun K "_law_is_echelon" "_law_is_echelon" s__law_is_echelon f fd) (hm : mg "_law_is_echelon" = some (.ref f)) (hb : Binds K fd ["p", "rows", "found", "width"] []) (G__law_added : FnP P w K mg base "_law_added" 1 F__law_added) (G__law_lead : FnP P w K mg base "_law_lead" 1 F__law_lead) (G__law_numbers : FnP P w K mg base "_law_numbers" 2 F__law_numbers) (G_combination : FnP P w K mg base "combination" 4 F_combination) (z_all : mg "all" = none) (z_int : mg "int" = none) (z_isinstance : mg "isinstance" = none) (z_len : mg "len" = none) (z_range : mg "range" = none) (z_sorted : mg "sorted" = none) (z_tuple : mg "tuple" = none) : FnP P w K mg base "_law_is_echelon" 5 F__law_is_echelon :=
  fnP F sc__law_is_echelon hm hb fun cdv A outer s H E hr cz => (b_cons (s_if (c_w (w_or (c_not (c_truth (PN.v (n_isi kit_tup z_isinstance z_tuple boot_tuple (v_name 2))))) (w_or1 (c_not (c_truth (PN.v (n_callB (f_all rfl) (by decide +kernel) z_all (av_cons (PN.v (n_lc [("row", 6)] cz.calm cz.nd (i_sq (v_name 2)) (blk_ok (N := N__law_is_echelon) (sc := defScope s__law_is_echelon) (by decide +kernel)) (ix_name (by decide)) (fun _ _ _ _ _ => (t_name 6 cz.nd)) (fun _ _ _ _ _ => cs_nil) (fun _ _ _ _ _ => (n_call G__law_numbers takes0 (hr.mono (by decide)) (av_cons (v_name 0) (av_cons (v_name 6) (av_cons (v_name 3) av_nil))))))) av_nil)))))))).up (b_one (s_ret n_bl.up)) b_nil)
      (b_cons (s_set 4 cz (n_lc [("row", 6)] cz.calm cz.nd (i_sq (v_name 2)) (blk_ok (N := N__law_is_echelon) (sc := defScope s__law_is_echelon) (by decide +kernel)) (ix_name (by decide)) (fun _ _ _ _ _ => (t_name 6 cz.nd)) (fun _ _ _ _ _ => cs_nil) (fun _ _ _ _ _ => (n_call G__law_lead takes0 (hr.mono (by decide)) (av_cons (v_name 6) av_nil)))).up)
      (b_cons (s_if (c_w (w_or (c_cmp m_in (PN.v (n_neg (PN.v n_int))) (v_name 4)) (w_or (c_cmp (m_ne hr.units) (v_name 4) (PN.v (n_callB f_sorted (by decide +kernel) z_sorted (av_cons (v_name 4) av_nil)))) (w_or1 (c_cmp (m_ne hr.units) (PN.v (n_callB f_len PySem.boot_len z_len (av_cons (PN.v (n_lc [("k", 7)] cz.calm cz.nd (j_rng1 z_range (v_name 3)).v (blk_ok (N := N__law_is_echelon) (sc := defScope s__law_is_echelon) (by decide +kernel)) (ix_name (by decide)) (fun _ _ _ _ _ => (t_name 7 cz.nd)) (fun _ _ _ _ _ => (cs_one (c_cmp m_in (v_name 7) (v_name 4)))) (fun _ _ _ _ _ => (v_name 7).pur))) av_nil))) (PN.v (n_callB f_len PySem.boot_len z_len (av_cons (v_name 4) av_nil)))))))).up (b_one (s_ret n_bl.up)) b_nil)
      (b_cons (s_for cz (j_rng1 z_range (PN.v (n_callB f_len PySem.boot_len z_len (av_cons (v_name 2) av_nil)))).up (t_name 5 cz.nd) (b_one (s_if (c_cmp (m_ne hr.units) (PN.v (n_lc [("row", 6)] cz.calm cz.nd (i_sq (v_name 2)) (blk_ok (N := N__law_is_echelon) (sc := defScope s__law_is_echelon) (by decide +kernel)) (ix_name (by decide)) (fun _ _ _ _ _ => (t_name 6 cz.nd)) (fun _ _ _ _ _ => cs_nil) (fun _ _ _ _ _ => (v_ix (v_name 6) (v_ix (v_name 4) (v_name 5))).pur))) (PN.v (n_lc [("i", 8)] cz.calm cz.nd (j_rng1 z_range (PN.v (n_callB f_len PySem.boot_len z_len (av_cons (v_name 2) av_nil)))).v (blk_ok (N := N__law_is_echelon) (sc := defScope s__law_is_echelon) (by decide +kernel)) (ix_name (by decide)) (fun _ _ _ _ _ => (t_name 8 cz.nd)) (fun _ _ _ _ _ => cs_nil) (fun _ _ _ _ _ => (n_callT f_int boot_int z_int (av_cons (PN.v (n_cmp (m_eq hr.units) (v_name 8) (v_name 5))) av_nil)))))).up (b_one (s_ret n_bl.up)) b_nil)))
      (b_cons (s_forN 1 cz (t_name 6 cz.nd) (b_one (s_if (c_cmp (m_ne hr.units) (PN.v (n_call G__law_added cz.tk (hr.mono (by decide)) (av_cons (v_name 0) (av_cons (v_name 2) (av_cons (PN.v (n_lc [("lead", 9)] cz.calm cz.nd (i_sq (v_name 4)) (blk_ok (N := N__law_is_echelon) (sc := defScope s__law_is_echelon) (by decide +kernel)) (ix_name (by decide)) (fun _ _ _ _ _ => (t_name 9 cz.nd)) (fun _ _ _ _ _ => cs_nil) (fun _ _ _ _ _ => (v_ix (v_name 6) (v_name 9)).pur))) (av_cons (v_name 3) av_nil)))))) (v_name 6)).up (b_one (s_ret n_bl.up)) b_nil)))
      (b_one (s_ret (n_callB (f_all rfl) (by decide +kernel) z_all (av_cons (PN.v (n_lc [("row", 6)] cz.calm cz.nd (i_sq (v_name 2)) (blk_ok (N := N__law_is_echelon) (sc := defScope s__law_is_echelon) (by decide +kernel)) (ix_name (by decide)) (fun _ _ _ _ _ => (t_name 6 cz.nd)) (fun _ _ _ _ _ => cs_nil) (fun _ _ _ _ _ => (n_cmp (m_eq hr.units) (v_ix (PN.v (n_call G_combination takes0 (hr.mono (by decide)) (av_cons (v_name 0) (av_cons (v_name 1) (av_cons (v_name 6) av_nil))))) (PN.v n_int)) (PN.v n_str))))) av_nil)).up)))))))
abbrev s__law_dot : Stmt := topS 24
abbrev N__law_dot : List Str := ["p", "row", "other", "k"]
theorem sc__law_dot : FnScope ["p", "row", "other", "k"] ["p", "row", "other"] (defScope s__law_dot) := ⟨rfl, rfl, rfl, by decide +kernel, rfl, by decide +kernel, by decide +kernel⟩
theorem ok__law_dot {f : Addr} {fd : FuncData} (F : Fun K "_law_dot" "_law_dot" s__law_dot f fd) (hm : mg "_law_dot" = some (.ref f)) (hb : Binds K fd ["p", "row", "other"] []) (z_int : mg "int" = none) (z_len : mg "len" = none) (z_range : mg "range" = none) (z_sum : mg "sum" = none) : FnP P w K mg base "_law_dot" 1 F__law_dot :=
  fnP F sc__law_dot hm hb fun cdv A outer s H E hr cz => (b_one (s_ret (n_bin b_mod (PN.v (n_callT f_int boot_int z_int (av_cons (PN.v (n_callB (f_sum rfl) (by decide +kernel) z_sum (av_cons (PN.v (n_lc [("k", 3)] cz.calm cz.nd (j_rng1 z_range (PN.v (n_callB f_len PySem.boot_len z_len (av_cons (v_name 1) av_nil)))).v (blk_ok (N := N__law_dot) (sc := defScope s__law_dot) (by decide +kernel)) (ix_name (by decide)) (fun _ _ _ _ _ => (t_name 3 cz.nd)) (fun _ _ _ _ _ => cs_nil) (fun _ _ _ _ _ => (n_bin b_mul (v_ix (v_name 1) (v_name 3)) (v_ix (v_name 2) (v_name 3)))))) av_nil))) av_nil))) (v_name 0)).up))
abbrev s__law_is_right : Stmt := topS 28
abbrev N__law_is_right : List Str := ["p", "rows", "v", "datum", "row"]
theorem sc__law_is_right : FnScope ["p", "rows", "v", "datum", "row"] ["p", "rows", "v", "datum"] (defScope s__law_is_right) := ⟨rfl, rfl, rfl, by decide +kernel, rfl, by decide +kernel, by decide +kernel⟩
theorem ok__law_is_right {f : Addr} {fd : FuncData} (F : Fun K "_law_is_right" "_law_is_right" s__law_is_right f fd) (hm : mg "_law_is_right" = some (.ref f)) (hb : Binds K fd ["p", "rows", "v", "datum"] []) (G__law_added : FnP P w K mg base "_law_added" 1 F__law_added) (G__law_dot : FnP P w K mg base "_law_dot" 1 F__law_dot) (G__law_numbers : FnP P w K mg base "_law_numbers" 2 F__law_numbers) (z_all : mg "all" = none) (z_isinstance : mg "isinstance" = none) (z_len : mg "len" = none) (z_tuple : mg "tuple" = none) : FnP P w K mg base "_law_is_right" 3 F__law_is_right :=
  fnP F sc__law_is_right hm hb fun cdv A outer s H E hr cz => (b_cons (s_if (c_w (w_or (c_not (c_truth (PN.v (n_isi kit_tup z_isinstance z_tuple boot_tuple (v_name 3))))) (w_or1 (c_cmp (m_ne hr.units) (PN.v (n_callB f_len PySem.boot_len z_len (av_cons (v_name 3) av_nil))) (PN.v n_int))))).up (b_one (s_ret n_bl.up)) b_nil)
      (b_cons (s_if (c_w (w_and (c_cmp (m_eq hr.units) (v_ix (v_name 3) (PN.v n_int)) (PN.v n_str)) (w_and1 (c_truth (PN.v (n_call G__law_numbers cz.tk (hr.mono (by decide)) (av_cons (v_name 0) (av_cons (v_ix (v_name 3) (PN.v n_int)) (av_cons (PN.v (n_callB f_len PySem.boot_len z_len (av_cons (v_name 1) av_nil))) av_nil))))))))).up (b_one (s_ret (n_cmp (m_eq hr.units) (PN.v (n_call G__law_added cz.tk (hr.mono (by decide)) (av_cons (v_name 0) (av_cons (v_name 1) (av_cons (v_ix (v_name 3) (PN.v n_int)) (av_cons (PN.v (n_callB f_len PySem.boot_len z_len (av_cons (v_name 2) av_nil))) av_nil)))))) (v_name 2)).up)) b_nil)
      (b_cons (s_if (c_w (w_and (c_cmp (m_eq hr.units) (v_ix (v_name 3) (PN.v n_int)) (PN.v n_str)) (w_and1 (c_truth (PN.v (n_call G__law_numbers cz.tk (hr.mono (by decide)) (av_cons (v_name 0) (av_cons (v_ix (v_name 3) (PN.v n_int)) (av_cons (PN.v (n_callB f_len PySem.boot_len z_len (av_cons (v_name 2) av_nil))) av_nil))))))))).up (b_one (s_ret (v_and (PN.v (n_callB (f_all rfl) (by decide +kernel) z_all (av_cons (PN.v (n_lc [("row", 4)] cz.calm cz.nd (i_sq (v_name 1)) (blk_ok (N := N__law_is_right) (sc := defScope s__law_is_right) (by decide +kernel)) (ix_name (by decide)) (fun _ _ _ _ _ => (t_name 4 cz.nd)) (fun _ _ _ _ _ => cs_nil) (fun _ _ _ _ _ => (n_cmp (m_eq hr.units) (PN.v (n_call G__law_dot takes0 (hr.mono (by decide)) (av_cons (v_name 0) (av_cons (v_name 4) (av_cons (v_ix (v_name 3) (PN.v n_int)) av_nil))))) (PN.v n_int))))) av_nil))) (v_one (PN.v (n_cmp (m_eq hr.units) (PN.v (n_call G__law_dot cz.tk (hr.mono (by decide)) (av_cons (v_name 0) (av_cons (v_name 2) (av_cons (v_ix (v_name 3) (PN.v n_int)) av_nil))))) (PN.v n_int))))).pur.up)) b_nil)
      (b_one (s_ret n_bl.up)))))
abbrev s__law_says : Stmt := topS 31
abbrev N__law_says : List Str := ["found", "due"]
theorem sc__law_says : FnScope ["found", "due"] ["found", "due"] (defScope s__law_says) := ⟨rfl, rfl, rfl, by decide +kernel, rfl, by decide +kernel, by decide +kernel⟩
theorem ok__law_says {f : Addr} {fd : FuncData} (F : Fun K "_law_says" "_law_says" s__law_says f fd) (hm : mg "_law_says" = some (.ref f)) (hb : Binds K fd ["found", "due"] []) : FnP P w K mg base "_law_says" 1 F__law_says :=
  fnP F sc__law_says hm hb fun cdv A outer s H E hr cz => (b_cons (s_if (c_truth (v_name 1)).up (b_one (s_ret (n_cmp m_is (v_name 0) (PN.v n_bl)).up)) b_nil)
      (b_one (s_ret (n_cmp m_is (v_name 0) (PN.v n_bl)).up)))
abbrev s_is_tuple : Stmt := topS 2
abbrev N_is_tuple : List Str := ["x", "many"]
theorem sc_is_tuple : FnScope ["x", "many"] ["x", "many"] (defScope s_is_tuple) := ⟨rfl, rfl, rfl, by decide +kernel, rfl, by decide +kernel, by decide +kernel⟩
theorem ok_is_tuple {f : Addr} {fd : FuncData} (F : Fun K "is_tuple" "is_tuple" s_is_tuple f fd) (hm : mg "is_tuple" = some (.ref f)) (hb : Binds K fd ["x", "many"] []) (z_isinstance : mg "isinstance" = none) (z_len : mg "len" = none) (z_tuple : mg "tuple" = none) : FnP P w K mg base "is_tuple" 1 F_is_tuple :=
  fnP F sc_is_tuple hm hb fun cdv A outer s H E hr cz => (b_one (s_ret (v_and (PN.v (n_isi kit_tup z_isinstance z_tuple boot_tuple (v_name 0))) (v_one (PN.v (n_cmp (m_eq hr.units) (PN.v (n_callB f_len PySem.boot_len z_len (av_cons (v_name 0) av_nil))) (v_name 1))))).pur.up))
abbrev s_is_integer : Stmt := topS 1
abbrev N_is_integer : List Str := ["x"]
theorem sc_is_integer : FnScope ["x"] ["x"] (defScope s_is_integer) := ⟨rfl, rfl, rfl, by decide +kernel, rfl, by decide +kernel, by decide +kernel⟩
theorem ok_is_integer {f : Addr} {fd : FuncData} (F : Fun K "is_integer" "is_integer" s_is_integer f fd) (hm : mg "is_integer" = some (.ref f)) (hb : Binds K fd ["x"] []) (z_bool : mg "bool" = none) (z_int : mg "int" = none) (z_isinstance : mg "isinstance" = none) : FnP P w K mg base "is_integer" 1 F_is_integer :=
  fnP F sc_is_integer hm hb fun cdv A outer s H E hr cz => (b_one (s_ret (v_and (PN.v (n_isi kit_int z_isinstance z_int boot_int (v_name 0))) (v_one (PN.v (n_not (PN.v (n_isi kit_bl z_isinstance z_bool boot_bool (v_name 0))))))).pur.up))
abbrev s_is_number : Stmt := topS 3
abbrev N_is_number : List Str := ["p", "x"]
theorem sc_is_number : FnScope ["p", "x"] ["p", "x"] (defScope s_is_number) := ⟨rfl, rfl, rfl, by decide +kernel, rfl, by decide +kernel, by decide +kernel⟩
theorem ok_is_number {f : Addr} {fd : FuncData} (F : Fun K "is_number" "is_number" s_is_number f fd) (hm : mg "is_number" = some (.ref f)) (hb : Binds K fd ["p", "x"] []) (G_is_integer : FnP P w K mg base "is_integer" 1 F_is_integer) : FnP P w K mg base "is_number" 2 F_is_number :=
  fnP F sc_is_number hm hb fun cdv A outer s H E hr cz => (b_one (s_ret (v_and (PN.v (n_call G_is_integer cz.tk (hr.mono (by decide)) (av_cons (v_name 1) av_nil))) (v_one (v_chain m_le m_lt (PN.v n_int) (v_name 1) (v_name 0)))).pur.up))
abbrev s_are_numbers : Stmt := topS 4
abbrev N_are_numbers : List Str := ["p", "datum", "many", "x"]
theorem sc_are_numbers : FnScope ["p", "datum", "many", "x"] ["p", "datum", "many"] (defScope s_are_numbers) := ⟨rfl, rfl, rfl, by decide +kernel, rfl, by decide +kernel, by decide +kernel⟩
theorem ok_are_numbers {f : Addr} {fd : FuncData} (F : Fun K "are_numbers" "are_numbers" s_are_numbers f fd) (hm : mg "are_numbers" = some (.ref f)) (hb : Binds K fd ["p", "datum", "many"] []) (G_is_number : FnP P w K mg base "is_number" 2 F_is_number) (G_is_tuple : FnP P w K mg base "is_tuple" 1 F_is_tuple) (z_all : mg "all" = none) : FnP P w K mg base "are_numbers" 3 F_are_numbers :=
  fnP F sc_are_numbers hm hb fun cdv A outer s H E hr cz => (b_one (s_ret (v_and (PN.v (n_call G_is_tuple cz.tk (hr.mono (by decide)) (av_cons (v_name 1) (av_cons (v_name 2) av_nil)))) (v_one (PN.v (n_callB (f_all rfl) (by decide +kernel) z_all (av_cons (PN.v (n_lc [("x", 3)] cz.calm cz.nd (i_sq (v_name 1)) (blk_ok (N := N_are_numbers) (sc := defScope s_are_numbers) (by decide +kernel)) (ix_name (by decide)) (fun _ _ _ _ _ => (t_name 3 cz.nd)) (fun _ _ _ _ _ => cs_nil) (fun _ _ _ _ _ => (n_call G_is_number takes0 (hr.mono (by decide)) (av_cons (v_name 0) (av_cons (v_name 3) av_nil)))))) av_nil))))).pur.up))
abbrev s_summed : Stmt := topS 7
abbrev N_summed : List Str := ["p", "products", "a", "b"]
theorem sc_summed : FnScope ["p", "products", "a", "b"] ["p", "products"] (defScope s_summed) := ⟨rfl, rfl, rfl, by decide +kernel, rfl, by decide +kernel, by decide +kernel⟩
theorem ok_summed {f : Addr} {fd : FuncData} (F : Fun K "summed" "summed" s_summed f fd) (hm : mg "summed" = some (.ref f)) (hb : Binds K fd ["p", "products"] []) (z_sum : mg "sum" = none) : FnP P w K mg base "summed" 1 F_summed :=
  fnP F sc_summed hm hb fun cdv A outer s H E hr cz => (b_one (s_ret (n_bin b_mod (PN.v (n_callB (f_sum rfl) (by decide +kernel) z_sum (av_cons (PN.v (n_lc [("a", 2), ("b", 3)] cz.calm cz.nd (i_sq (v_name 1)) (blk_ok (N := N_summed) (sc := defScope s_summed) (by decide +kernel)) (ix_tup (ix_cons (ix_name (by decide)) (ix_cons (ix_name (by decide)) ix_nil))) (fun _ _ _ _ _ => (t_tup cz.calm (ts_cons (t_name 2 cz.nd) (ts_cons (t_name 3 cz.nd) ts_nil)))) (fun _ _ _ _ _ => cs_nil) (fun _ _ _ _ _ => (n_bin b_mul (v_name 2) (v_name 3))))) av_nil))) (v_name 0)).up))
abbrev s_weighted : Stmt := topS 16
abbrev N_weighted : List Str := ["p", "rows", "weights", "width", "place", "w", "row"]
theorem sc_weighted : FnScope ["p", "rows", "weights", "width", "place", "w", "row"] ["p", "rows", "weights", "width"] (defScope s_weighted) := ⟨rfl, rfl, rfl, by decide +kernel, rfl, by decide +kernel, by decide +kernel⟩
theorem ok_weighted {f : Addr} {fd : FuncData} (F : Fun K "weighted" "weighted" s_weighted f fd) (hm : mg "weighted" = some (.ref f)) (hb : Binds K fd ["p", "rows", "weights", "width"] []) (G_summed : FnP P w K mg base "summed" 1 F_summed) (z_range : mg "range" = none) (z_tuple : mg "tuple" = none) (z_zip : mg "zip" = none) : FnP P w K mg base "weighted" 2 F_weighted :=
  fnP F sc_weighted hm hb fun cdv A outer s H E hr cz => (b_one (s_ret (n_callT f_tuple boot_tuple z_tuple (av_cons (PN.v (n_lc [("place", 4)] cz.calm cz.nd (j_rng1 z_range (v_name 3)).v (blk_ok (N := N_weighted) (sc := defScope s_weighted) (by decide +kernel)) (ix_name (by decide)) (fun _ _ _ _ _ => (t_name 4 cz.nd)) (fun _ _ _ _ _ => cs_nil) (fun _ _ _ _ _ => (n_call G_summed takes0 (hr.mono (by decide)) (av_cons (v_name 0) (av_cons (PN.v (n_lc [("w", 5), ("row", 6)] cz.calm cz.nd (i_zip z_zip (v_name 2) (v_name 1)) (by rfl) (ix_tup (ix_cons (ix_name (by decide)) (ix_cons (ix_name (by decide)) ix_nil))) (fun _ _ _ _ _ => (t_tup cz.calm (ts_cons (t_name 5 cz.nd) (ts_cons (t_name 6 cz.nd) ts_nil)))) (fun _ _ _ _ _ => cs_nil) (fun _ _ _ _ _ => (n_tup (av_cons (v_name 5) (av_cons (v_ix (v_name 6) (v_name 4)) av_nil)))))) av_nil)))))) av_nil)).up))
abbrev s_shows_combination : Stmt := topS 17
abbrev N_shows_combination : List Str := ["p", "rows", "v", "datum", "noughts", "row"]
theorem sc_shows_combination : FnScope ["p", "rows", "v", "datum", "noughts", "row"] ["p", "rows", "v", "datum"] (defScope s_shows_combination) := ⟨rfl, rfl, rfl, by decide +kernel, rfl, by decide +kernel, by decide +kernel⟩
theorem ok_shows_combination {f : Addr} {fd : FuncData} (F : Fun K "shows_combination" "shows_combination" s_shows_combination f fd) (hm : mg "shows_combination" = some (.ref f)) (hb : Binds K fd ["p", "rows", "v", "datum"] []) (G_are_numbers : FnP P w K mg base "are_numbers" 3 F_are_numbers) (G_is_tuple : FnP P w K mg base "is_tuple" 1 F_is_tuple) (G_summed : FnP P w K mg base "summed" 1 F_summed) (G_weighted : FnP P w K mg base "weighted" 2 F_weighted) (z_all : mg "all" = none) (z_len : mg "len" = none) (z_list : mg "list" = none) (z_tuple : mg "tuple" = none) (z_zip : mg "zip" = none) {tk_COLUMN : Tok} (c_COLUMN : mg "COLUMN" = some (.str (Str.ofString "column") tk_COLUMN)) {tk_WEIGHTS : Tok} (c_WEIGHTS : mg "WEIGHTS" = some (.str (Str.ofString "weights") tk_WEIGHTS)) : FnP P w K mg base "shows_combination" 4 F_shows_combination :=
  fnP F sc_shows_combination hm hb fun cdv A outer s H E hr cz => (b_cons (s_if (c_not (c_truth (PN.v (n_call G_is_tuple cz.tk (hr.mono (by decide)) (av_cons (v_name 3) (av_cons (PN.v n_int) av_nil)))))).up (b_one (s_ret n_bl.up)) b_nil)
      (b_cons (s_if (c_w (w_and (c_cmp (m_eq hr.units) (v_ix (v_name 3) (PN.v n_int)) (PN.v (n_glS c_WEIGHTS))) (w_and1 (c_truth (PN.v (n_call G_are_numbers cz.tk (hr.mono (by decide)) (av_cons (v_name 0) (av_cons (v_ix (v_name 3) (PN.v n_int)) (av_cons (PN.v (n_callB f_len PySem.boot_len z_len (av_cons (v_name 1) av_nil))) av_nil))))))))).up (b_one (s_ret (n_cmp (m_eq hr.units) (PN.v (n_call G_weighted cz.tk (hr.mono (by decide)) (av_cons (v_name 0) (av_cons (v_name 1) (av_cons (v_ix (v_name 3) (PN.v n_int)) (av_cons (PN.v (n_callB f_len PySem.boot_len z_len (av_cons (v_name 2) av_nil))) av_nil)))))) (PN.v (n_callT f_tuple boot_tuple z_tuple (av_cons (v_name 2) av_nil)))).up)) b_nil)
      (b_cons (s_if (c_w (w_and (c_cmp (m_eq hr.units) (v_ix (v_name 3) (PN.v n_int)) (PN.v (n_glS c_COLUMN))) (w_and1 (c_truth (PN.v (n_call G_are_numbers cz.tk (hr.mono (by decide)) (av_cons (v_name 0) (av_cons (v_ix (v_name 3) (PN.v n_int)) (av_cons (PN.v (n_callB f_len PySem.boot_len z_len (av_cons (v_name 2) av_nil))) av_nil))))))))).up (b_cons (s_set 4 cz (n_callB (f_all rfl) (by decide +kernel) z_all (av_cons (PN.v (n_lc [("row", 5)] cz.calm cz.nd (i_sq (v_name 1)) (blk_ok (N := N_shows_combination) (sc := defScope s_shows_combination) (by decide +kernel)) (ix_name (by decide)) (fun _ _ _ _ _ => (t_name 5 cz.nd)) (fun _ _ _ _ _ => cs_nil) (fun _ _ _ _ _ => (n_cmp (m_eq hr.units) (PN.v (n_call G_summed takes0 (hr.mono (by decide)) (av_cons (v_name 0) (av_cons (PN.v (n_listZip cz.calm z_list z_zip (v_name 5) (v_ix (v_name 3) (PN.v n_int)))) av_nil)))) (PN.v n_int))))) av_nil)).up)
      (b_one (s_ret (v_and (v_name 4) (v_one (PN.v (n_cmp (m_eq hr.units) (PN.v (n_call G_summed cz.tk (hr.mono (by decide)) (av_cons (v_name 0) (av_cons (PN.v (n_listZip cz.calm z_list z_zip (v_name 2) (v_ix (v_name 3) (PN.v n_int)))) av_nil)))) (PN.v n_int))))).pur.up))) b_nil)
      (b_one (s_ret n_bl.up)))))
abbrev s_law : Stmt := topS 32
abbrev N_law : List Str := ["script", "state", "turn", "p", "width", "rows", "made", "v", "found", "odd", "at", "more", "datum", "row", "k"]
theorem sc_law : FnScope ["script", "state", "turn", "p", "width", "rows", "made", "v", "found", "odd", "at", "more", "datum", "row", "k"] ["script"] (defScope s_law) := ⟨rfl, rfl, rfl, by decide +kernel, rfl, by decide +kernel, by decide +kernel⟩
theorem ok_law {f : Addr} {fd : FuncData} (F : Fun K "law" "law" s_law f fd) (G__law_added : FnP P w K mg base "_law_added" 1 F__law_added) (G__law_draw : FnM P w K mg base "_law_draw" 1 F__law_draw) (G__law_is_echelon : FnP P w K mg base "_law_is_echelon" 5 F__law_is_echelon) (G__law_is_right : FnP P w K mg base "_law_is_right" 3 F__law_is_right) (G__law_one_of : FnM P w K mg base "_law_one_of" 2 F__law_one_of) (G__law_says : FnP P w K mg base "_law_says" 1 F__law_says) (G__law_some_rows : FnM P w K mg base "_law_some_rows" 2 F__law_some_rows) (G__law_start : FnP P w K mg base "_law_start" 1 F__law_start) (G_combination : FnP P w K mg base "combination" 4 F_combination) (G_echelon : FnP P w K mg base "echelon" 3 F_echelon) (G_shows_combination : FnP P w K mg base "shows_combination" 4 F_shows_combination) (z_int : mg "int" = none) (z_len : mg "len" = none) (z_range : mg "range" = none) (z_tuple : mg "tuple" = none) : FnOk P w K mg base (L2.CX P w) 6 f fd ["script"] (spP K mg F_law) :=
  fnPk F sc_law fun cdv A outer s H E hr cz => (b_cons (s_set 1 cz (n_call G__law_start cz.tk (hr.mono (by decide)) (av_cons (v_name 0) av_nil)).up)
      (b_cons (s_for cz (j_rng1 z_range (PN.v n_int)).up (t_name 2 cz.nd) (b_cons (s_set 3 cz (m_callM 1 G__law_one_of cz.tk (hr.mono (by decide)) (mh_o (n_lst (an_cons n_int (an_cons n_int (an_cons n_int (an_cons n_int (an_cons n_int an_nil)))))).up mh_nil)))
      (b_cons (s_set 4 cz (m_bin b_add n_int.up (m_callM 1 G__law_draw cz.tk (hr.mono (by decide)) (mh_o n_int.up mh_nil))))
      (b_cons (s_set 5 cz (m_callM 1 G__law_some_rows cz.tk (hr.mono (by decide)) (mh_n 3 (mh_n 4 mh_nil))))
      (b_cons (s_if (c_not (c_truth (PN.v (n_call G__law_is_echelon cz.tk (hr.mono (by decide)) (av_cons (v_name 3) (av_cons (v_name 5) (av_cons (PN.v (n_call G_echelon cz.tk (hr.mono (by decide)) (av_cons (v_name 3) (av_cons (v_name 5) av_nil)))) (av_cons (v_name 4) av_nil)))))))).up (b_one (s_ret n_bl.up)) b_nil)
      (b_cons (s_set 6 cz (m_callH G__law_added cz.tk (hr.mono (by decide)) (mh_n 3 (mh_n 5 (mh_o (m_lc [("row", 13)] cz (j_sq (v_name 5).pur).up (blk_ok (N := N_law) (sc := defScope s_law) (by decide +kernel)) (ix_name (by decide)) (fun _ _ _ _ _ => (t_name 13 cz.nd)) (fun _ _ _ _ _ => cs_nil) (fun _ _ _ _ _ => (m_callM 1 G__law_draw takes0 (hr.mono (by decide)) (mh_n 3 mh_nil)))) (mh_n 4 mh_nil))))))
      (b_cons (s_for cz (mi_sq (m_lst (ma_cons (v_name 6).pur.up (ma_cons (m_callT f_tuple boot_tuple z_tuple (ma_cons (m_lc [("k", 14)] cz (j_rng1 z_range (v_name 4)).up (blk_ok (N := N_law) (sc := defScope s_law) (by decide +kernel)) (ix_name (by decide)) (fun _ _ _ _ _ => (t_name 14 cz.nd)) (fun _ _ _ _ _ => cs_nil) (fun _ _ _ _ _ => (m_callM 1 G__law_draw takes0 (hr.mono (by decide)) (mh_n 3 mh_nil)))) ma_nil)) ma_nil)))) (t_name 7 cz.nd) (b_cons (s_set 8 cz (n_call G_combination cz.tk (hr.mono (by decide)) (av_cons (v_name 3) (av_cons (v_name 5) (av_cons (v_name 7) av_nil)))).up)
      (b_cons (s_if (c_not (c_truth (PN.v (n_call G__law_is_right cz.tk (hr.mono (by decide)) (av_cons (v_name 3) (av_cons (v_name 5) (av_cons (v_name 7) (av_cons (v_name 8) av_nil)))))))).up (b_one (s_ret n_bl.up)) b_nil)
      (b_cons (s_set 9 cz (n_lst (an_cons (v_name 8).pur (an_cons (n_tup (av_cons (PN.v n_str) (av_cons (v_ix (v_name 8) (PN.v n_int)) av_nil))) (an_cons (n_tup (av_cons (PN.v n_str) (av_cons (v_ix (v_name 8) (PN.v n_int)) av_nil))) (an_cons (n_tup (av_cons (v_ix (v_name 8) (PN.v n_int)) (av_cons (PN.v (n_bin b_add (v_ix (v_name 8) (PN.v n_int)) (PN.v (n_tup (av_cons (PN.v n_int) av_nil))))) av_nil))) (an_cons (n_slice (v_name 8) o_none (o_some (PN.v n_int))) (an_cons n_int (an_cons (n_tup av_nil) an_nil)))))))).up)
      (b_cons (s_if (c_cmp m_gt (PN.v (n_callB f_len PySem.boot_len z_len (av_cons (v_ix (v_name 8) (PN.v n_int)) av_nil))) (PN.v n_int)).up (b_cons (s_set 10 cz (m_callM 1 G__law_draw cz.tk (hr.mono (by decide)) (mh_o (n_callB f_len PySem.boot_len z_len (av_cons (v_ix (v_name 8) (PN.v n_int)) av_nil)).up mh_nil)))
      (b_cons (s_set 11 cz (m_bin b_mod (m_callT f_int boot_int z_int (ma_cons (m_bin b_add (n_bin b_add (v_ix (v_ix (v_name 8) (PN.v n_int)) (v_name 10)) (PN.v n_int)).up (m_callM 1 G__law_draw cz.tk (hr.mono (by decide)) (mh_o (n_bin b_sub (v_name 3) (PN.v n_int)).up mh_nil))) ma_nil)) (v_name 3).pur.up))
      (b_cons (s_expr (m_app 9 (n_tup (av_cons (v_ix (v_name 8) (PN.v n_int)) (av_cons (PN.v (n_bin b_add (PN.v (n_bin b_add (PN.v (n_slice (v_ix (v_name 8) (PN.v n_int)) o_none (o_some (v_name 10)))) (PN.v (n_tup (av_cons (v_name 11) av_nil))))) (PN.v (n_slice (v_ix (v_name 8) (PN.v n_int)) (o_some (PN.v (n_bin b_add (v_name 10) (PN.v n_int)))) o_none)))) av_nil))).up))
      (b_one (s_expr (m_app 9 (n_tup (av_cons (v_ix (v_name 8) (PN.v n_int)) (av_cons (PN.v (n_bin b_add (PN.v (n_bin b_add (PN.v (n_slice (v_ix (v_name 8) (PN.v n_int)) o_none (o_some (v_name 10)))) (PN.v (n_tup (av_cons (PN.v (n_bin b_add (v_ix (v_ix (v_name 8) (PN.v n_int)) (v_name 10)) (v_name 3))) av_nil))))) (PN.v (n_slice (v_ix (v_name 8) (PN.v n_int)) (o_some (PN.v (n_bin b_add (v_name 10) (PN.v n_int)))) o_none)))) av_nil))).up)))))) b_nil)
      (b_one (s_forN 9 cz (t_name 12 cz.nd) (b_one (s_if (c_not (c_truth (PN.v (n_call G__law_says cz.tk (hr.mono (by decide)) (av_cons (PN.v (n_call G_shows_combination cz.tk (hr.mono (by decide)) (av_cons (v_name 3) (av_cons (v_name 5) (av_cons (v_name 7) (av_cons (v_name 12) av_nil)))))) (av_cons (PN.v (n_call G__law_is_right cz.tk (hr.mono (by decide)) (av_cons (v_name 3) (av_cons (v_name 5) (av_cons (v_name 7) (av_cons (v_name 12) av_nil)))))) av_nil)))))).up (b_one (s_ret n_bl.up)) b_nil)))))))))
      (b_one (s_if (c_cmp (m_ne hr.units) (v_ix (PN.v (n_call G_combination cz.tk (hr.mono (by decide)) (av_cons (v_name 3) (av_cons (v_name 5) (av_cons (v_name 6) av_nil))))) (PN.v n_int)) (PN.v n_str)).up (b_one (s_ret n_bl.up)) b_nil)))))))))
      (b_one (s_ret n_bl.up))))
end
theorem all_mk {l : PySem.W.OpenLaw} {w : World} {K : PySem.W.Frag} {h : Heap} {mg : Str → Option Value} {fa : Addr} (X : K.In h) (G : h.Ns mainGlobals mg) (hfa : mg "law" = some (.ref fa))
    {f0 : Addr} {od0 an0 : Option Addr} {sl0 : Array (Option Value)} {oc0 kV0 dc0 pm0 cd0 ct0 : Value}
    (a0 : PySem.W.nsIn K mainGlobals "_law_start" = some (some (.ref f0))) (l0 : K.lookup f0 = some ⟨oc0, od0, .func (PySem.W.fnOf "_law_start" "_law_start" (defArgs s__law_start) (defBody s__law_start) (defScope s__law_start) .none kV0 dc0 pm0 an0 cd0 ct0), sl0⟩) (c0 : PySem.W.codeIn K cd0 "_law_start" = true) (k0 : PySem.W.keepIn K (.ref f0) = true)
    {f1 : Addr} {od1 an1 : Option Addr} {sl1 : Array (Option Value)} {oc1 kV1 dc1 pm1 cd1 ct1 : Value}
    (a1 : PySem.W.nsIn K mainGlobals "_law_draw" = some (some (.ref f1))) (l1 : K.lookup f1 = some ⟨oc1, od1, .func (PySem.W.fnOf "_law_draw" "_law_draw" (defArgs s__law_draw) (defBody s__law_draw) (defScope s__law_draw) .none kV1 dc1 pm1 an1 cd1 ct1), sl1⟩) (c1 : PySem.W.codeIn K cd1 "_law_draw" = true) (k1 : PySem.W.keepIn K (.ref f1) = true)
    {f2 : Addr} {od2 an2 : Option Addr} {sl2 : Array (Option Value)} {oc2 kV2 dc2 pm2 cd2 ct2 : Value}
    (a2 : PySem.W.nsIn K mainGlobals "_law_one_of" = some (some (.ref f2))) (l2 : K.lookup f2 = some ⟨oc2, od2, .func (PySem.W.fnOf "_law_one_of" "_law_one_of" (defArgs s__law_one_of) (defBody s__law_one_of) (defScope s__law_one_of) .none kV2 dc2 pm2 an2 cd2 ct2), sl2⟩) (c2 : PySem.W.codeIn K cd2 "_law_one_of" = true) (k2 : PySem.W.keepIn K (.ref f2) = true)
    {f3 : Addr} {od3 an3 : Option Addr} {sl3 : Array (Option Value)} {oc3 kV3 dc3 pm3 cd3 ct3 : Value}
    (a3 : PySem.W.nsIn K mainGlobals "_law_added" = some (some (.ref f3))) (l3 : K.lookup f3 = some ⟨oc3, od3, .func (PySem.W.fnOf "_law_added" "_law_added" (defArgs s__law_added) (defBody s__law_added) (defScope s__law_added) .none kV3 dc3 pm3 an3 cd3 ct3), sl3⟩) (c3 : PySem.W.codeIn K cd3 "_law_added" = true) (k3 : PySem.W.keepIn K (.ref f3) = true)
    {f4 : Addr} {od4 an4 : Option Addr} {sl4 : Array (Option Value)} {oc4 kV4 dc4 pm4 cd4 ct4 : Value}
    (a4 : PySem.W.nsIn K mainGlobals "_law_some_rows" = some (some (.ref f4))) (l4 : K.lookup f4 = some ⟨oc4, od4, .func (PySem.W.fnOf "_law_some_rows" "_law_some_rows" (defArgs s__law_some_rows) (defBody s__law_some_rows) (defScope s__law_some_rows) .none kV4 dc4 pm4 an4 cd4 ct4), sl4⟩) (c4 : PySem.W.codeIn K cd4 "_law_some_rows" = true) (k4 : PySem.W.keepIn K (.ref f4) = true)
    {f5 : Addr} {od5 an5 : Option Addr} {sl5 : Array (Option Value)} {oc5 kV5 dc5 pm5 cd5 ct5 : Value}
    (a5 : PySem.W.nsIn K mainGlobals "_law_lead" = some (some (.ref f5))) (l5 : K.lookup f5 = some ⟨oc5, od5, .func (PySem.W.fnOf "_law_lead" "_law_lead" (defArgs s__law_lead) (defBody s__law_lead) (defScope s__law_lead) .none kV5 dc5 pm5 an5 cd5 ct5), sl5⟩) (c5 : PySem.W.codeIn K cd5 "_law_lead" = true) (k5 : PySem.W.keepIn K (.ref f5) = true)
    {f6 : Addr} {od6 an6 : Option Addr} {sl6 : Array (Option Value)} {oc6 kV6 dc6 pm6 cd6 ct6 : Value}
    (a6 : PySem.W.nsIn K mainGlobals "_law_is_int" = some (some (.ref f6))) (l6 : K.lookup f6 = some ⟨oc6, od6, .func (PySem.W.fnOf "_law_is_int" "_law_is_int" (defArgs s__law_is_int) (defBody s__law_is_int) (defScope s__law_is_int) .none kV6 dc6 pm6 an6 cd6 ct6), sl6⟩) (c6 : PySem.W.codeIn K cd6 "_law_is_int" = true) (k6 : PySem.W.keepIn K (.ref f6) = true)
    {f7 : Addr} {od7 an7 : Option Addr} {sl7 : Array (Option Value)} {oc7 kV7 dc7 pm7 cd7 ct7 : Value}
    (a7 : PySem.W.nsIn K mainGlobals "_law_numbers" = some (some (.ref f7))) (l7 : K.lookup f7 = some ⟨oc7, od7, .func (PySem.W.fnOf "_law_numbers" "_law_numbers" (defArgs s__law_numbers) (defBody s__law_numbers) (defScope s__law_numbers) .none kV7 dc7 pm7 an7 cd7 ct7), sl7⟩) (c7 : PySem.W.codeIn K cd7 "_law_numbers" = true) (k7 : PySem.W.keepIn K (.ref f7) = true)
    {f8 : Addr} {od8 an8 : Option Addr} {sl8 : Array (Option Value)} {oc8 kV8 dc8 pm8 cd8 ct8 : Value}
    (a8 : PySem.W.nsIn K mainGlobals "leading" = some (some (.ref f8))) (l8 : K.lookup f8 = some ⟨oc8, od8, .func (PySem.W.fnOf "leading" "leading" (defArgs s_leading) (defBody s_leading) (defScope s_leading) .none kV8 dc8 pm8 an8 cd8 ct8), sl8⟩) (c8 : PySem.W.codeIn K cd8 "leading" = true) (k8 : PySem.W.keepIn K (.ref f8) = true)
    {f9 : Addr} {od9 an9 : Option Addr} {sl9 : Array (Option Value)} {oc9 kV9 dc9 pm9 cd9 ct9 : Value}
    (a9 : PySem.W.nsIn K mainGlobals "power" = some (some (.ref f9))) (l9 : K.lookup f9 = some ⟨oc9, od9, .func (PySem.W.fnOf "power" "power" (defArgs s_power) (defBody s_power) (defScope s_power) .none kV9 dc9 pm9 an9 cd9 ct9), sl9⟩) (c9 : PySem.W.codeIn K cd9 "power" = true) (k9 : PySem.W.keepIn K (.ref f9) = true)
    {f10 : Addr} {od10 an10 : Option Addr} {sl10 : Array (Option Value)} {oc10 kV10 dc10 pm10 cd10 ct10 : Value}
    (a10 : PySem.W.nsIn K mainGlobals "inverse" = some (some (.ref f10))) (l10 : K.lookup f10 = some ⟨oc10, od10, .func (PySem.W.fnOf "inverse" "inverse" (defArgs s_inverse) (defBody s_inverse) (defScope s_inverse) .none kV10 dc10 pm10 an10 cd10 ct10), sl10⟩) (c10 : PySem.W.codeIn K cd10 "inverse" = true) (k10 : PySem.W.keepIn K (.ref f10) = true)
    {f11 : Addr} {od11 an11 : Option Addr} {sl11 : Array (Option Value)} {oc11 kV11 dc11 pm11 cd11 ct11 : Value}
    (a11 : PySem.W.nsIn K mainGlobals "cleared" = some (some (.ref f11))) (l11 : K.lookup f11 = some ⟨oc11, od11, .func (PySem.W.fnOf "cleared" "cleared" (defArgs s_cleared) (defBody s_cleared) (defScope s_cleared) .none kV11 dc11 pm11 an11 cd11 ct11), sl11⟩) (c11 : PySem.W.codeIn K cd11 "cleared" = true) (k11 : PySem.W.keepIn K (.ref f11) = true)
    {f12 : Addr} {od12 an12 : Option Addr} {sl12 : Array (Option Value)} {oc12 kV12 dc12 pm12 cd12 ct12 : Value}
    (a12 : PySem.W.nsIn K mainGlobals "unit" = some (some (.ref f12))) (l12 : K.lookup f12 = some ⟨oc12, od12, .func (PySem.W.fnOf "unit" "unit" (defArgs s_unit) (defBody s_unit) (defScope s_unit) .none kV12 dc12 pm12 an12 cd12 ct12), sl12⟩) (c12 : PySem.W.codeIn K cd12 "unit" = true) (k12 : PySem.W.keepIn K (.ref f12) = true)
    {f13 : Addr} {od13 an13 : Option Addr} {sl13 : Array (Option Value)} {oc13 kV13 dc13 pm13 cd13 ct13 : Value}
    (a13 : PySem.W.nsIn K mainGlobals "echelon" = some (some (.ref f13))) (l13 : K.lookup f13 = some ⟨oc13, od13, .func (PySem.W.fnOf "echelon" "echelon" (defArgs s_echelon) (defBody s_echelon) (defScope s_echelon) .none kV13 dc13 pm13 an13 cd13 ct13), sl13⟩) (c13 : PySem.W.codeIn K cd13 "echelon" = true) (k13 : PySem.W.keepIn K (.ref f13) = true)
    {f14 : Addr} {od14 an14 : Option Addr} {sl14 : Array (Option Value)} {oc14 kV14 dc14 pm14 cd14 ct14 : Value}
    (a14 : PySem.W.nsIn K mainGlobals "combination" = some (some (.ref f14))) (l14 : K.lookup f14 = some ⟨oc14, od14, .func (PySem.W.fnOf "combination" "combination" (defArgs s_combination) (defBody s_combination) (defScope s_combination) .none kV14 dc14 pm14 an14 cd14 ct14), sl14⟩) (c14 : PySem.W.codeIn K cd14 "combination" = true) (k14 : PySem.W.keepIn K (.ref f14) = true)
    {f15 : Addr} {od15 an15 : Option Addr} {sl15 : Array (Option Value)} {oc15 kV15 dc15 pm15 cd15 ct15 : Value}
    (a15 : PySem.W.nsIn K mainGlobals "_law_is_echelon" = some (some (.ref f15))) (l15 : K.lookup f15 = some ⟨oc15, od15, .func (PySem.W.fnOf "_law_is_echelon" "_law_is_echelon" (defArgs s__law_is_echelon) (defBody s__law_is_echelon) (defScope s__law_is_echelon) .none kV15 dc15 pm15 an15 cd15 ct15), sl15⟩) (c15 : PySem.W.codeIn K cd15 "_law_is_echelon" = true) (k15 : PySem.W.keepIn K (.ref f15) = true)
    {f16 : Addr} {od16 an16 : Option Addr} {sl16 : Array (Option Value)} {oc16 kV16 dc16 pm16 cd16 ct16 : Value}
    (a16 : PySem.W.nsIn K mainGlobals "_law_dot" = some (some (.ref f16))) (l16 : K.lookup f16 = some ⟨oc16, od16, .func (PySem.W.fnOf "_law_dot" "_law_dot" (defArgs s__law_dot) (defBody s__law_dot) (defScope s__law_dot) .none kV16 dc16 pm16 an16 cd16 ct16), sl16⟩) (c16 : PySem.W.codeIn K cd16 "_law_dot" = true) (k16 : PySem.W.keepIn K (.ref f16) = true)
    {f17 : Addr} {od17 an17 : Option Addr} {sl17 : Array (Option Value)} {oc17 kV17 dc17 pm17 cd17 ct17 : Value}
    (a17 : PySem.W.nsIn K mainGlobals "_law_is_right" = some (some (.ref f17))) (l17 : K.lookup f17 = some ⟨oc17, od17, .func (PySem.W.fnOf "_law_is_right" "_law_is_right" (defArgs s__law_is_right) (defBody s__law_is_right) (defScope s__law_is_right) .none kV17 dc17 pm17 an17 cd17 ct17), sl17⟩) (c17 : PySem.W.codeIn K cd17 "_law_is_right" = true) (k17 : PySem.W.keepIn K (.ref f17) = true)
    {f18 : Addr} {od18 an18 : Option Addr} {sl18 : Array (Option Value)} {oc18 kV18 dc18 pm18 cd18 ct18 : Value}
    (a18 : PySem.W.nsIn K mainGlobals "_law_says" = some (some (.ref f18))) (l18 : K.lookup f18 = some ⟨oc18, od18, .func (PySem.W.fnOf "_law_says" "_law_says" (defArgs s__law_says) (defBody s__law_says) (defScope s__law_says) .none kV18 dc18 pm18 an18 cd18 ct18), sl18⟩) (c18 : PySem.W.codeIn K cd18 "_law_says" = true) (k18 : PySem.W.keepIn K (.ref f18) = true)
    {f19 : Addr} {od19 an19 : Option Addr} {sl19 : Array (Option Value)} {oc19 kV19 dc19 pm19 cd19 ct19 : Value}
    (a19 : PySem.W.nsIn K mainGlobals "is_tuple" = some (some (.ref f19))) (l19 : K.lookup f19 = some ⟨oc19, od19, .func (PySem.W.fnOf "is_tuple" "is_tuple" (defArgs s_is_tuple) (defBody s_is_tuple) (defScope s_is_tuple) .none kV19 dc19 pm19 an19 cd19 ct19), sl19⟩) (c19 : PySem.W.codeIn K cd19 "is_tuple" = true) (k19 : PySem.W.keepIn K (.ref f19) = true)
    {f20 : Addr} {od20 an20 : Option Addr} {sl20 : Array (Option Value)} {oc20 kV20 dc20 pm20 cd20 ct20 : Value}
    (a20 : PySem.W.nsIn K mainGlobals "is_integer" = some (some (.ref f20))) (l20 : K.lookup f20 = some ⟨oc20, od20, .func (PySem.W.fnOf "is_integer" "is_integer" (defArgs s_is_integer) (defBody s_is_integer) (defScope s_is_integer) .none kV20 dc20 pm20 an20 cd20 ct20), sl20⟩) (c20 : PySem.W.codeIn K cd20 "is_integer" = true) (k20 : PySem.W.keepIn K (.ref f20) = true)
    {f21 : Addr} {od21 an21 : Option Addr} {sl21 : Array (Option Value)} {oc21 kV21 dc21 pm21 cd21 ct21 : Value}
    (a21 : PySem.W.nsIn K mainGlobals "is_number" = some (some (.ref f21))) (l21 : K.lookup f21 = some ⟨oc21, od21, .func (PySem.W.fnOf "is_number" "is_number" (defArgs s_is_number) (defBody s_is_number) (defScope s_is_number) .none kV21 dc21 pm21 an21 cd21 ct21), sl21⟩) (c21 : PySem.W.codeIn K cd21 "is_number" = true) (k21 : PySem.W.keepIn K (.ref f21) = true)
    {f22 : Addr} {od22 an22 : Option Addr} {sl22 : Array (Option Value)} {oc22 kV22 dc22 pm22 cd22 ct22 : Value}
    (a22 : PySem.W.nsIn K mainGlobals "are_numbers" = some (some (.ref f22))) (l22 : K.lookup f22 = some ⟨oc22, od22, .func (PySem.W.fnOf "are_numbers" "are_numbers" (defArgs s_are_numbers) (defBody s_are_numbers) (defScope s_are_numbers) .none kV22 dc22 pm22 an22 cd22 ct22), sl22⟩) (c22 : PySem.W.codeIn K cd22 "are_numbers" = true) (k22 : PySem.W.keepIn K (.ref f22) = true)
    {f23 : Addr} {od23 an23 : Option Addr} {sl23 : Array (Option Value)} {oc23 kV23 dc23 pm23 cd23 ct23 : Value}
    (a23 : PySem.W.nsIn K mainGlobals "summed" = some (some (.ref f23))) (l23 : K.lookup f23 = some ⟨oc23, od23, .func (PySem.W.fnOf "summed" "summed" (defArgs s_summed) (defBody s_summed) (defScope s_summed) .none kV23 dc23 pm23 an23 cd23 ct23), sl23⟩) (c23 : PySem.W.codeIn K cd23 "summed" = true) (k23 : PySem.W.keepIn K (.ref f23) = true)
    {f24 : Addr} {od24 an24 : Option Addr} {sl24 : Array (Option Value)} {oc24 kV24 dc24 pm24 cd24 ct24 : Value}
    (a24 : PySem.W.nsIn K mainGlobals "weighted" = some (some (.ref f24))) (l24 : K.lookup f24 = some ⟨oc24, od24, .func (PySem.W.fnOf "weighted" "weighted" (defArgs s_weighted) (defBody s_weighted) (defScope s_weighted) .none kV24 dc24 pm24 an24 cd24 ct24), sl24⟩) (c24 : PySem.W.codeIn K cd24 "weighted" = true) (k24 : PySem.W.keepIn K (.ref f24) = true)
    {f25 : Addr} {od25 an25 : Option Addr} {sl25 : Array (Option Value)} {oc25 kV25 dc25 pm25 cd25 ct25 : Value}
    (a25 : PySem.W.nsIn K mainGlobals "shows_combination" = some (some (.ref f25))) (l25 : K.lookup f25 = some ⟨oc25, od25, .func (PySem.W.fnOf "shows_combination" "shows_combination" (defArgs s_shows_combination) (defBody s_shows_combination) (defScope s_shows_combination) .none kV25 dc25 pm25 an25 cd25 ct25), sl25⟩) (c25 : PySem.W.codeIn K cd25 "shows_combination" = true) (k25 : PySem.W.keepIn K (.ref f25) = true)
    {f26 : Addr} {od26 an26 : Option Addr} {sl26 : Array (Option Value)} {oc26 kV26 dc26 pm26 cd26 ct26 : Value}
    (a26 : PySem.W.nsIn K mainGlobals "law" = some (some (.ref f26))) (l26 : K.lookup f26 = some ⟨oc26, od26, .func (PySem.W.fnOf "law" "law" (defArgs s_law) (defBody s_law) (defScope s_law) .none kV26 dc26 pm26 an26 cd26 ct26), sl26⟩) (c26 : PySem.W.codeIn K cd26 "law" = true) (k26 : PySem.W.keepIn K (.ref f26) = true)
    (y_abs : PySem.W.nsIn K mainGlobals "abs" = some none)
    (y_all : PySem.W.nsIn K mainGlobals "all" = some none)
    (y_bool : PySem.W.nsIn K mainGlobals "bool" = some none)
    (y_enumerate : PySem.W.nsIn K mainGlobals "enumerate" = some none)
    (y_int : PySem.W.nsIn K mainGlobals "int" = some none)
    (y_isinstance : PySem.W.nsIn K mainGlobals "isinstance" = some none)
    (y_len : PySem.W.nsIn K mainGlobals "len" = some none)
    (y_list : PySem.W.nsIn K mainGlobals "list" = some none)
    (y_range : PySem.W.nsIn K mainGlobals "range" = some none)
    (y_sorted : PySem.W.nsIn K mainGlobals "sorted" = some none)
    (y_sum : PySem.W.nsIn K mainGlobals "sum" = some none)
    (y_tuple : PySem.W.nsIn K mainGlobals "tuple" = some none)
    (y_zip : PySem.W.nsIn K mainGlobals "zip" = some none)
    {tk_COLUMN : Tok} (x_COLUMN : PySem.W.nsIn K mainGlobals "COLUMN" = some (some (.str (Str.ofString "column") tk_COLUMN)))
    {tk_WEIGHTS : Tok} (x_WEIGHTS : PySem.W.nsIn K mainGlobals "WEIGHTS" = some (some (.str (Str.ofString "weights") tk_WEIGHTS)))
    : ∃ fd : FuncData, (∀ (s : Shared) (v : Value), BindsTo s fd ⟨[v], []⟩ [("script", v)]) ∧ ∀ base : Heap, K.In base → base.Ns mainGlobals mg → FnOk l.prog w K mg base (L2.CX l.prog w) 6 fa fd ["script"] (spL K F_law) := by
  have e := hfa.symm.trans (PySem.W.mg_of X G a26)
  cases e
  have F0 := fun_mk (st := s__law_start) l0 c0 k0
  have b0 := F0.binds (ps := ["script"]) fun _ _ _ _ _ _ us hl => match us, hl with | [_], _ => rfl
  have F1 := fun_mk (st := s__law_draw) l1 c1 k1
  have b1 := F1.binds (ps := ["state", "most"]) fun _ _ _ _ _ _ us hl => match us, hl with | [_, _], _ => rfl
  have F2 := fun_mk (st := s__law_one_of) l2 c2 k2
  have b2 := F2.binds (ps := ["state", "items"]) fun _ _ _ _ _ _ us hl => match us, hl with | [_, _], _ => rfl
  have F3 := fun_mk (st := s__law_added) l3 c3 k3
  have b3 := F3.binds (ps := ["p", "rows", "weights", "width"]) fun _ _ _ _ _ _ us hl => match us, hl with | [_, _, _, _], _ => rfl
  have F4 := fun_mk (st := s__law_some_rows) l4 c4 k4
  have b4 := F4.binds (ps := ["state", "p", "width"]) fun _ _ _ _ _ _ us hl => match us, hl with | [_, _, _], _ => rfl
  have F5 := fun_mk (st := s__law_lead) l5 c5 k5
  have b5 := F5.binds (ps := ["row"]) fun _ _ _ _ _ _ us hl => match us, hl with | [_], _ => rfl
  have F6 := fun_mk (st := s__law_is_int) l6 c6 k6
  have b6 := F6.binds (ps := ["x"]) fun _ _ _ _ _ _ us hl => match us, hl with | [_], _ => rfl
  have F7 := fun_mk (st := s__law_numbers) l7 c7 k7
  have b7 := F7.binds (ps := ["p", "datum", "many"]) fun _ _ _ _ _ _ us hl => match us, hl with | [_, _, _], _ => rfl
  have F8 := fun_mk (st := s_leading) l8 c8 k8
  have b8 := F8.binds (ps := ["row"]) fun _ _ _ _ _ _ us hl => match us, hl with | [_], _ => rfl
  have F9 := fun_mk (st := s_power) l9 c9 k9
  have b9 := F9.binds (ps := ["p", "a", "n"]) fun _ _ _ _ _ _ us hl => match us, hl with | [_, _, _], _ => rfl
  have F10 := fun_mk (st := s_inverse) l10 c10 k10
  have b10 := F10.binds (ps := ["p", "a"]) fun _ _ _ _ _ _ us hl => match us, hl with | [_, _], _ => rfl
  have F11 := fun_mk (st := s_cleared) l11 c11 k11
  have b11 := F11.binds (ps := ["p", "row", "other", "place"]) fun _ _ _ _ _ _ us hl => match us, hl with | [_, _, _, _], _ => rfl
  have F12 := fun_mk (st := s_unit) l12 c12 k12
  have b12 := F12.binds (ps := ["many", "k"]) fun _ _ _ _ _ _ us hl => match us, hl with | [_, _], _ => rfl
  have F13 := fun_mk (st := s_echelon) l13 c13 k13
  have b13 := F13.binds (ps := ["p", "rows"]) fun _ _ _ _ _ _ us hl => match us, hl with | [_, _], _ => rfl
  have F14 := fun_mk (st := s_combination) l14 c14 k14
  have b14 := F14.binds (ps := ["p", "rows", "v"]) fun _ _ _ _ _ _ us hl => match us, hl with | [_, _, _], _ => rfl
  have F15 := fun_mk (st := s__law_is_echelon) l15 c15 k15
  have b15 := F15.binds (ps := ["p", "rows", "found", "width"]) fun _ _ _ _ _ _ us hl => match us, hl with | [_, _, _, _], _ => rfl
  have F16 := fun_mk (st := s__law_dot) l16 c16 k16
  have b16 := F16.binds (ps := ["p", "row", "other"]) fun _ _ _ _ _ _ us hl => match us, hl with | [_, _, _], _ => rfl
  have F17 := fun_mk (st := s__law_is_right) l17 c17 k17
  have b17 := F17.binds (ps := ["p", "rows", "v", "datum"]) fun _ _ _ _ _ _ us hl => match us, hl with | [_, _, _, _], _ => rfl
  have F18 := fun_mk (st := s__law_says) l18 c18 k18
  have b18 := F18.binds (ps := ["found", "due"]) fun _ _ _ _ _ _ us hl => match us, hl with | [_, _], _ => rfl
  have F19 := fun_mk (st := s_is_tuple) l19 c19 k19
  have b19 := F19.binds (ps := ["x", "many"]) fun _ _ _ _ _ _ us hl => match us, hl with | [_, _], _ => rfl
  have F20 := fun_mk (st := s_is_integer) l20 c20 k20
  have b20 := F20.binds (ps := ["x"]) fun _ _ _ _ _ _ us hl => match us, hl with | [_], _ => rfl
  have F21 := fun_mk (st := s_is_number) l21 c21 k21
  have b21 := F21.binds (ps := ["p", "x"]) fun _ _ _ _ _ _ us hl => match us, hl with | [_, _], _ => rfl
  have F22 := fun_mk (st := s_are_numbers) l22 c22 k22
  have b22 := F22.binds (ps := ["p", "datum", "many"]) fun _ _ _ _ _ _ us hl => match us, hl with | [_, _, _], _ => rfl
  have F23 := fun_mk (st := s_summed) l23 c23 k23
  have b23 := F23.binds (ps := ["p", "products"]) fun _ _ _ _ _ _ us hl => match us, hl with | [_, _], _ => rfl
  have F24 := fun_mk (st := s_weighted) l24 c24 k24
  have b24 := F24.binds (ps := ["p", "rows", "weights", "width"]) fun _ _ _ _ _ _ us hl => match us, hl with | [_, _, _, _], _ => rfl
  have F25 := fun_mk (st := s_shows_combination) l25 c25 k25
  have b25 := F25.binds (ps := ["p", "rows", "v", "datum"]) fun _ _ _ _ _ _ us hl => match us, hl with | [_, _, _, _], _ => rfl
  have F26 := fun_mk (st := s_law) l26 c26 k26
  have b26 := F26.binds (ps := ["script"]) fun _ _ _ _ _ _ us hl => match us, hl with | [_], _ => rfl
  have z_abs := PySem.W.mg_none_of X G y_abs
  have z_all := PySem.W.mg_none_of X G y_all
  have z_bool := PySem.W.mg_none_of X G y_bool
  have z_enumerate := PySem.W.mg_none_of X G y_enumerate
  have z_int := PySem.W.mg_none_of X G y_int
  have z_isinstance := PySem.W.mg_none_of X G y_isinstance
  have z_len := PySem.W.mg_none_of X G y_len
  have z_list := PySem.W.mg_none_of X G y_list
  have z_range := PySem.W.mg_none_of X G y_range
  have z_sorted := PySem.W.mg_none_of X G y_sorted
  have z_sum := PySem.W.mg_none_of X G y_sum
  have z_tuple := PySem.W.mg_none_of X G y_tuple
  have z_zip := PySem.W.mg_none_of X G y_zip
  have c_COLUMN := PySem.W.mg_of X G x_COLUMN
  have c_WEIGHTS := PySem.W.mg_of X G x_WEIGHTS
  refine ⟨PySem.W.fnOf "law" "law" (defArgs s_law) (defBody s_law) (defScope s_law) .none kV26 dc26 pm26 an26 cd26 ct26, fun s v => .of_eq rfl, fun base hK hG => ?_⟩
  have G__law_start : FnP l.prog w K mg base "_law_start" 1 F__law_start := ok__law_start F0 (PySem.W.mg_of X G a0) b0 z_list
  have G__law_draw : FnM l.prog w K mg base "_law_draw" 1 F__law_draw := ok__law_draw F1 (PySem.W.mg_of X G a1) b1 z_abs z_int z_len
  have G__law_one_of : FnM l.prog w K mg base "_law_one_of" 2 F__law_one_of := ok__law_one_of F2 (PySem.W.mg_of X G a2) b2 G__law_draw z_len
  have G__law_added : FnP l.prog w K mg base "_law_added" 1 F__law_added := ok__law_added F3 (PySem.W.mg_of X G a3) b3 z_int z_len z_range z_sum z_tuple
  have G__law_some_rows : FnM l.prog w K mg base "_law_some_rows" 2 F__law_some_rows := ok__law_some_rows F4 (PySem.W.mg_of X G a4) b4 G__law_added G__law_draw z_len z_range z_tuple
  have G__law_lead : FnP l.prog w K mg base "_law_lead" 1 F__law_lead := ok__law_lead F5 (PySem.W.mg_of X G a5) b5 z_len z_range
  have G__law_is_int : FnP l.prog w K mg base "_law_is_int" 1 F__law_is_int := ok__law_is_int F6 (PySem.W.mg_of X G a6) b6 z_bool z_int z_isinstance
  have G__law_numbers : FnP l.prog w K mg base "_law_numbers" 2 F__law_numbers := ok__law_numbers F7 (PySem.W.mg_of X G a7) b7 G__law_is_int z_all z_isinstance z_len z_tuple
  have G_leading : FnP l.prog w K mg base "leading" 1 F_leading := ok_leading F8 (PySem.W.mg_of X G a8) b8 z_enumerate
  have G_power : FnP l.prog w K mg base "power" 1 F_power := ok_power F9 (PySem.W.mg_of X G a9) b9
  have G_inverse : FnP l.prog w K mg base "inverse" 2 F_inverse := ok_inverse F10 (PySem.W.mg_of X G a10) b10 G_power
  have G_cleared : FnP l.prog w K mg base "cleared" 1 F_cleared := ok_cleared F11 (PySem.W.mg_of X G a11) b11 z_tuple z_zip
  have G_unit : FnP l.prog w K mg base "unit" 1 F_unit := ok_unit F12 (PySem.W.mg_of X G a12) b12
  have G_echelon : FnP l.prog w K mg base "echelon" 3 F_echelon := ok_echelon F13 (PySem.W.mg_of X G a13) b13 G_cleared G_inverse z_enumerate z_len z_list z_range z_tuple
  have G_combination : FnP l.prog w K mg base "combination" 4 F_combination := ok_combination F14 (PySem.W.mg_of X G a14) b14 G_cleared G_echelon G_inverse G_leading G_unit z_enumerate z_len z_tuple c_COLUMN c_WEIGHTS
  have G__law_is_echelon : FnP l.prog w K mg base "_law_is_echelon" 5 F__law_is_echelon := ok__law_is_echelon F15 (PySem.W.mg_of X G a15) b15 G__law_added G__law_lead G__law_numbers G_combination z_all z_int z_isinstance z_len z_range z_sorted z_tuple
  have G__law_dot : FnP l.prog w K mg base "_law_dot" 1 F__law_dot := ok__law_dot F16 (PySem.W.mg_of X G a16) b16 z_int z_len z_range z_sum
  have G__law_is_right : FnP l.prog w K mg base "_law_is_right" 3 F__law_is_right := ok__law_is_right F17 (PySem.W.mg_of X G a17) b17 G__law_added G__law_dot G__law_numbers z_all z_isinstance z_len z_tuple
  have G__law_says : FnP l.prog w K mg base "_law_says" 1 F__law_says := ok__law_says F18 (PySem.W.mg_of X G a18) b18
  have G_is_tuple : FnP l.prog w K mg base "is_tuple" 1 F_is_tuple := ok_is_tuple F19 (PySem.W.mg_of X G a19) b19 z_isinstance z_len z_tuple
  have G_is_integer : FnP l.prog w K mg base "is_integer" 1 F_is_integer := ok_is_integer F20 (PySem.W.mg_of X G a20) b20 z_bool z_int z_isinstance
  have G_is_number : FnP l.prog w K mg base "is_number" 2 F_is_number := ok_is_number F21 (PySem.W.mg_of X G a21) b21 G_is_integer
  have G_are_numbers : FnP l.prog w K mg base "are_numbers" 3 F_are_numbers := ok_are_numbers F22 (PySem.W.mg_of X G a22) b22 G_is_number G_is_tuple z_all
  have G_summed : FnP l.prog w K mg base "summed" 1 F_summed := ok_summed F23 (PySem.W.mg_of X G a23) b23 z_sum
  have G_weighted : FnP l.prog w K mg base "weighted" 2 F_weighted := ok_weighted F24 (PySem.W.mg_of X G a24) b24 G_summed z_range z_tuple z_zip
  have G_shows_combination : FnP l.prog w K mg base "shows_combination" 4 F_shows_combination := ok_shows_combination F25 (PySem.W.mg_of X G a25) b25 G_are_numbers G_is_tuple G_summed G_weighted z_all z_len z_list z_tuple z_zip c_COLUMN c_WEIGHTS
  exact law_ok (ok_law F26 G__law_added G__law_draw G__law_is_echelon G__law_is_right G__law_one_of G__law_says G__law_some_rows G__law_start G_combination G_echelon G_shows_combination z_int z_len z_range z_tuple)
end K02
namespace K02
open PySem PySem.Spec L2 Z
open PyProof.Rows hiding St
def P5 : List Int := [3, 5, 7, 11, 251]
def iv (p m : Int) : Int := match F_inverse [I p, I m] with
  | .ok (.d (.int z)) => z
  | _ => 0
theorem inv_all : (P5.all fun p => decide (3 ≤ p ∧ p ≤ 251) && (List.range p.toNat).all fun m => decide (m = 0) || (okIs (F_inverse [I p, I m]) (.int (iv p m)) && decide (0 < iv p m ∧ iv p m < p ∧ (m : Int) * iv p m % p = 1))) = true := by decide +kernel
structure Pr (p : Int) : Prop where
  mem : p ∈ P5
theorem Pr.rg {p : Int} (h : Pr p) : 3 ≤ p ∧ p ≤ 251 := by
  have := List.all_eq_true.mp inv_all p h.mem
  rw [Bool.and_eq_true] at this
  exact of_decide_eq_true this.1
theorem Pr.pos {p : Int} (h : Pr p) : 0 < p := by have := h.rg; omega
theorem inv_ok {p a : Int} (h : Pr p) (ha : Rg p a) (hn : a ≠ 0) : F_inverse [I p, I a] = .ok (I (iv p a)) ∧ Rg p (iv p a) ∧ q p a * q p (iv p a) = 1 := by
  have h1 := List.all_eq_true.mp inv_all p h.mem
  rw [Bool.and_eq_true] at h1
  have h2 := List.all_eq_true.mp h1.2 a.toNat (List.mem_range.mpr (by have := ha.1; have := ha.2; omega))
  have ea : ((a.toNat : Nat) : Int) = a := Int.toNat_of_nonneg ha.1
  rw [ea, Bool.or_eq_true, decide_eq_true_iff, Bool.and_eq_true, decide_eq_true_iff] at h2
  rcases h2 with h2 | ⟨h2, h3, h4, h5⟩
  · omega
  · refine ⟨okIs_eq h2, ⟨by omega, h4⟩, ?_⟩
    rw [← q_mul, ← q_one, q_iff, h5, Int.emod_eq_of_lt (by omega) (by have := h.rg; omega)]
/-! rows -/
theorem mulOk_rg {p a b : Int} (hp : p ≤ 251) (ha : Rg p a) : MulOk a b := small_ok (by have := ha.1; omega) (by have := ha.2; omega)
def clr (p : Int) (w : Nat) (r o : List Int) (j : Nat) : List Int := tab w fun k => (r.getD k 0 - r.getD j 0 * o.getD k 0) % p
theorem clr_Rw {p : Int} {w : Nat} {r o : List Int} {j : Nat} (hp : 0 < p) : Rw p w (clr p w r o j) := tab_Rw fun _ _ => Rg.mod hp _
theorem clr_cq {p : Int} {w : Nat} {r o : List Int} {j k : Nat} (hk : k < w) : cq p (clr p w r o j) k = cq p r k - cq p r j * cq p o k := by
  unfold cq clr
  rw [tab_gd hk, q_mod, q_sub, q_mul]
theorem clr_self {p : Int} {w : Nat} {r o : List Int} {j : Nat} (h : Rw p w r) (hz : r.getD j 0 = 0) : clr p w r o j = r := by
  have := tab_self r
  rw [h.len] at this
  rw [← this]
  refine tab_congr fun k hk => ?_
  rw [this, hz, Int.zero_mul, Int.sub_zero]
  exact Int.emod_eq_of_lt (h.at hk).1 (h.at hk).2
theorem cleared_ok {p : Int} (h : Pr p) {w j : Nat} {r o : List Int} (hr : Rw p w r) (ho : Rw p w o) (hj : j < w) (hw : w < 1000) : F_cleared [I p, tp r, tp o, I j] = .ok (tp (clr p w r o j)) := by
  refine runP_ret rfl ?_
  show ∃ e, d_cleared [.v (I p), .v (tp r), .v (tp o), .v (I j), .n, .n, .n] = _
  unfold d_cleared
  have e1 := fIx_tp (zs := r) (z := j) j rfl (by rw [hr.len]; exact hj)
  refine ret_seq (en1 := [.v (I p), .v (tp r), .v (tp o), .v (I j), .v (I (r.getD j 0)), .n, .n]) ?_ ?_
  · rw [fSet_ev, lft_n (x := I (r.getD j 0)) (by simp only [gPur_ev, gAndV_ev, gOrV_ev, gNotV_ev, gIsi_ev, gAnd_ev, gOr_ev, gNot_ev, gTru_ev, gT_ev, g2_ev, g1_ev, gIf_ev, gCall_ev, gFn_ev, gTup_ev, gLst_ev, gSl_ev, gCh_ev, gYes_ev, oN_ev, oS_ev, asI_ev, aCons_ev, aNil_ev, vN_ev, kI_ev, kB_ev, kS_ev, kD'_ev, at_succ, at_zero, get_v, get_w, get_b, get_n, Z.R.of_some, Z.R.bind_ok, Z.R.pur_d, fAdd_i, fSub_i, fNeg_i, fLt_i, fLe_i, fGt_i, fGe_i, fEq_i, fNe_i, fInt_i, fInt_b, fAbs_i, fMin2_i, fMax2_i, fLen_l, fLen_t, fLen_r, tst_b, tru_b, tru_i, tru_t, tru_l, tru_r, tru_n, List.length_map, wipeE_cons, wipeE_nil, List.set_cons_succ, List.set_cons_zero, setE_cons, setE_nil, mkS_d, mkS_l, mkTup_nil, mkTup_ev, mkLst_ev, allD_cons, allD_nil, allD_map, Option.map_some, Option.bind_some, if_true, Bool.false_eq_true, if_false, ite_true, ite_false, Bool.not_true, Bool.not_false, decide_true, decide_false, isInt_i, isInt_b, isInt_t, isBl_i, isBl_b, isBl_t, fTuple_ev, fList_ev, dataOf_t, dataOf_l, dataOf_r, lft_ev, Z.RM.of_ok, Z.RM.bind_ok, mCons_ev, mNil_ev, m2_ev, mOf_ev, mT_ev, mTru_ev, mNot_ev, List.cons_append, List.nil_append, e1])]; rfl
  by_cases hz : r.getD j 0 = 0
  · refine ⟨[.v (I p), .v (tp r), .v (tp o), .v (I j), .v (I (r.getD j 0)), .n, .n], ?_⟩
    rw [fSeq_ev, fIf_t (by simp only [gPur_ev, gAndV_ev, gOrV_ev, gNotV_ev, gIsi_ev, gAnd_ev, gOr_ev, gNot_ev, gTru_ev, gT_ev, g2_ev, g1_ev, gIf_ev, gCall_ev, gFn_ev, gTup_ev, gLst_ev, gSl_ev, gCh_ev, gYes_ev, oN_ev, oS_ev, asI_ev, aCons_ev, aNil_ev, vN_ev, kI_ev, kB_ev, kS_ev, kD'_ev, at_succ, at_zero, get_v, get_w, get_b, get_n, Z.R.of_some, Z.R.bind_ok, Z.R.pur_d, fAdd_i, fSub_i, fNeg_i, fLt_i, fLe_i, fGt_i, fGe_i, fEq_i, fNe_i, fInt_i, fInt_b, fAbs_i, fMin2_i, fMax2_i, fLen_l, fLen_t, fLen_r, tst_b, tru_b, tru_i, tru_t, tru_l, tru_r, tru_n, List.length_map, wipeE_cons, wipeE_nil, List.set_cons_succ, List.set_cons_zero, setE_cons, setE_nil, mkS_d, mkS_l, mkTup_nil, mkTup_ev, mkLst_ev, allD_cons, allD_nil, allD_map, Option.map_some, Option.bind_some, if_true, Bool.false_eq_true, if_false, ite_true, ite_false, Bool.not_true, Bool.not_false, decide_true, decide_false, isInt_i, isInt_b, isInt_t, isBl_i, isBl_b, isBl_t, fTuple_ev, fList_ev, dataOf_t, dataOf_l, dataOf_r, lft_ev, Z.RM.of_ok, Z.RM.bind_ok, mCons_ev, mNil_ev, m2_ev, mOf_ev, mT_ev, mTru_ev, mNot_ev, List.cons_append, List.nil_append, hz]), clr_self hr hz, fRet_ev, mName_n (d := rowD r) rfl]; rfl
  · refine ret_if_f (by simp only [gPur_ev, gAndV_ev, gOrV_ev, gNotV_ev, gIsi_ev, gAnd_ev, gOr_ev, gNot_ev, gTru_ev, gT_ev, g2_ev, g1_ev, gIf_ev, gCall_ev, gFn_ev, gTup_ev, gLst_ev, gSl_ev, gCh_ev, gYes_ev, oN_ev, oS_ev, asI_ev, aCons_ev, aNil_ev, vN_ev, kI_ev, kB_ev, kS_ev, kD'_ev, at_succ, at_zero, get_v, get_w, get_b, get_n, Z.R.of_some, Z.R.bind_ok, Z.R.pur_d, fAdd_i, fSub_i, fNeg_i, fLt_i, fLe_i, fGt_i, fGe_i, fEq_i, fNe_i, fInt_i, fInt_b, fAbs_i, fMin2_i, fMax2_i, fLen_l, fLen_t, fLen_r, tst_b, tru_b, tru_i, tru_t, tru_l, tru_r, tru_n, List.length_map, wipeE_cons, wipeE_nil, List.set_cons_succ, List.set_cons_zero, setE_cons, setE_nil, mkS_d, mkS_l, mkTup_nil, mkTup_ev, mkLst_ev, allD_cons, allD_nil, allD_map, Option.map_some, Option.bind_some, if_true, Bool.false_eq_true, if_false, ite_true, ite_false, Bool.not_true, Bool.not_false, decide_true, decide_false, isInt_i, isInt_b, isInt_t, isBl_i, isBl_b, isBl_t, fTuple_ev, fList_ev, dataOf_t, dataOf_l, dataOf_r, lft_ev, Z.RM.of_ok, Z.RM.bind_ok, mCons_ev, mNil_ev, m2_ev, mOf_ev, mT_ev, mTru_ev, mNot_ev, List.cons_append, List.nil_append, hz]) ?_
    refine ret_lft ?_
    have el := gLc_all (vs := [5, 6]) (gs := gZip (vN 1) (vN 2)) (k := kTup 2 (kCons (kName 5) (kCons (kName 6) kNil))) (te := g2 fMod (g2 fSub (vN 5) (g2 fMul (vN 4) (vN 6))) (vN 0)) (en := [.v (I p), .v (tp r), .v (tp o), .v (I j), .v (I (r.getD j 0)), .n, .n]) (r.zip o) _ (fun x => D.int ((x.1 - r.getD j 0 * x.2) % p)) (gZip_of (x := tp r) (y := tp o) (xs := r) (ys := o) (e := D.int) (f := D.int) rfl rfl rfl rfl) (by rw [List.length_zip, hr.len, ho.len]; omega) (fun x m => ⟨_, rfl, by
      have m1 : MulOk (r.getD j 0) x.2 := mulOk_rg h.rg.2 (hr.at hj)
      simp only [gPur_ev, gAndV_ev, gOrV_ev, gNotV_ev, gIsi_ev, gAnd_ev, gOr_ev, gNot_ev, gTru_ev, gT_ev, g2_ev, g1_ev, gIf_ev, gCall_ev, gFn_ev, gTup_ev, gLst_ev, gSl_ev, gCh_ev, gYes_ev, oN_ev, oS_ev, asI_ev, aCons_ev, aNil_ev, vN_ev, kI_ev, kB_ev, kS_ev, kD'_ev, at_succ, at_zero, get_v, get_w, get_b, get_n, Z.R.of_some, Z.R.bind_ok, Z.R.pur_d, fAdd_i, fSub_i, fNeg_i, fLt_i, fLe_i, fGt_i, fGe_i, fEq_i, fNe_i, fInt_i, fInt_b, fAbs_i, fMin2_i, fMax2_i, fLen_l, fLen_t, fLen_r, tst_b, tru_b, tru_i, tru_t, tru_l, tru_r, tru_n, List.length_map, wipeE_cons, wipeE_nil, List.set_cons_succ, List.set_cons_zero, setE_cons, setE_nil, mkS_d, mkS_l, mkTup_nil, mkTup_ev, mkLst_ev, allD_cons, allD_nil, allD_map, Option.map_some, Option.bind_some, if_true, Bool.false_eq_true, if_false, ite_true, ite_false, Bool.not_true, Bool.not_false, decide_true, decide_false, isInt_i, isInt_b, isInt_t, isBl_i, isBl_b, isBl_t, fTuple_ev, fList_ev, dataOf_t, dataOf_l, dataOf_r, lft_ev, Z.RM.of_ok, Z.RM.bind_ok, mCons_ev, mNil_ev, m2_ev, mOf_ev, mT_ev, mTru_ev, mNot_ev, List.cons_append, List.nil_append, fMul_i, if_pos m1, fMod_i, if_pos h.pos]⟩)
    rw [gCall_ev, aCons_ev, el]
    simp only [gPur_ev, gAndV_ev, gOrV_ev, gNotV_ev, gIsi_ev, gAnd_ev, gOr_ev, gNot_ev, gTru_ev, gT_ev, g2_ev, g1_ev, gIf_ev, gCall_ev, gFn_ev, gTup_ev, gLst_ev, gSl_ev, gCh_ev, gYes_ev, oN_ev, oS_ev, asI_ev, aCons_ev, aNil_ev, vN_ev, kI_ev, kB_ev, kS_ev, kD'_ev, at_succ, at_zero, get_v, get_w, get_b, get_n, Z.R.of_some, Z.R.bind_ok, Z.R.pur_d, fAdd_i, fSub_i, fNeg_i, fLt_i, fLe_i, fGt_i, fGe_i, fEq_i, fNe_i, fInt_i, fInt_b, fAbs_i, fMin2_i, fMax2_i, fLen_l, fLen_t, fLen_r, tst_b, tru_b, tru_i, tru_t, tru_l, tru_r, tru_n, List.length_map, wipeE_cons, wipeE_nil, List.set_cons_succ, List.set_cons_zero, setE_cons, setE_nil, mkS_d, mkS_l, mkTup_nil, mkTup_ev, mkLst_ev, allD_cons, allD_nil, allD_map, Option.map_some, Option.bind_some, if_true, Bool.false_eq_true, if_false, ite_true, ite_false, Bool.not_true, Bool.not_false, decide_true, decide_false, isInt_i, isInt_b, isInt_t, isBl_i, isBl_b, isBl_t, fTuple_ev, fList_ev, dataOf_t, dataOf_l, dataOf_r, lft_ev, Z.RM.of_ok, Z.RM.bind_ok, mCons_ev, mNil_ev, m2_ev, mOf_ev, mT_ev, mTru_ev, mNot_ev, List.cons_append, List.nil_append]
    rw [zip_tab (fun x : Int × Int => D.int ((x.1 - r.getD j 0 * x.2) % p)) r o 0 0 (by rw [hr.len, ho.len])]
    unfold clr tab tp
    rw [List.map_map, hr.len]; rfl
/-! the first place that is not 0 -/
def ldF : List Int → Nat → Int
  | [], _ => -1
  | a :: r, k => if a = 0 then ldF r (k + 1) else (k : Int)
def ld (r : List Int) : Int := ldF r 0
theorem ldF_some : ∀ (r : List Int) (k l : Nat), l < r.length → (∀ i, i < l → r.getD i 0 = 0) → r.getD l 0 ≠ 0 → ldF r k = ((k + l : Nat) : Int)
  | [], _, _, h, _, _ => by simp at h
  | a :: r, k, 0, _, _, h => by
    unfold ldF; rw [if_neg (by simpa using h)]; rfl
  | a :: r, k, l + 1, h, hz, hn => by
    unfold ldF
    rw [if_pos (by simpa using hz 0 (Nat.succ_pos l)), ldF_some r (k + 1) l (by simpa using h) (fun i hi => by simpa using hz (i + 1) (by omega)) (by simpa using hn)]
    rw [show k + 1 + l = k + (l + 1) by omega]
theorem ldF_none : ∀ (r : List Int) (k : Nat), (∀ i, i < r.length → r.getD i 0 = 0) → ldF r k = -1
  | [], _, _ => rfl
  | a :: r, k, h => by
    unfold ldF
    rw [if_pos (by simpa using h 0 (Nat.succ_pos _)), ldF_none r (k + 1) fun i hi => by simpa using h (i + 1) (by simpa using hi)]
theorem ld_some {r : List Int} {l : Nat} (h : l < r.length) (hz : ∀ i, i < l → r.getD i 0 = 0) (hn : r.getD l 0 ≠ 0) : ld r = (l : Int) := by
  unfold ld; rw [ldF_some r 0 l h hz hn, Nat.zero_add]
theorem ld_none {r : List Int} (h : ∀ i, i < r.length → r.getD i 0 = 0) : ld r = -1 := ldF_none r 0 h
/-- either all are 0 or there is a first one that is not -/
theorem ld_cases : ∀ (n : Nat) (r : List Int), n ≤ r.length → (∀ i, i < n → r.getD i 0 = 0) ∨ ∃ l, l < n ∧ (∀ i, i < l → r.getD i 0 = 0) ∧ r.getD l 0 ≠ 0
  | 0, _, _ => .inl fun i h => absurd h (Nat.not_lt_zero _)
  | n + 1, r, h => by
    rcases ld_cases n r (by omega) with a | ⟨l, h1, h2, h3⟩
    · by_cases e : r.getD n 0 = 0
      · exact .inl fun i hi => by
          by_cases e2 : i = n
          · rw [e2]; exact e
          · exact a i (by omega)
      · exact .inr ⟨n, Nat.lt_succ_self n, a, e⟩
    · exact .inr ⟨l, by omega, h2, h3⟩
theorem leading_loop {y : T} : ∀ (r : List Int) (k : Nat) (o1 o2 : Sl), NB o1 → NB o2 → (∃ o1' o2', ldF r k = -1 ∧ forE (kTup 2 (kCons (kName 1) (kCons (kName 2) kNil))) (fIf (lft (gT (g2 fNe (vN 2) (kI 0)))) (fRet (mName 1)) fNil) ((r.zipIdx k).map fun q => T.d (.tup [.int (q.2 : Nat), .int q.1])) [.v y, o1, o2] = .nx [.v y, o1', o2']) ∨ ∃ e, forE (kTup 2 (kCons (kName 1) (kCons (kName 2) kNil))) (fIf (lft (gT (g2 fNe (vN 2) (kI 0)))) (fRet (mName 1)) fNil) ((r.zipIdx k).map fun q => T.d (.tup [.int (q.2 : Nat), .int q.1])) [.v y, o1, o2] = .ret (I (ldF r k)) e
  | [], k, o1, o2, _, _ => .inl ⟨o1, o2, rfl, rfl⟩
  | a :: r, k, o1, o2, h1, h2 => by
    have st : stows [.v y, o1, o2] [(1, .d (.int (k : Nat))), (2, .d (.int a))] = some [.v y, .v (I k), .v (I a)] := stows2 (en1 := [.v y, .v (I k), o2]) (by simp [h1.s]) (by simp [h2.s])
    rw [List.zipIdx_cons, List.map_cons]
    have un : ∀ {xs : List T}, forE (kTup 2 (kCons (kName 1) (kCons (kName 2) kNil))) (fIf (lft (gT (g2 fNe (vN 2) (kI 0)))) (fRet (mName 1)) fNil) (T.d (.tup [.int (k : Nat), .int a]) :: xs) [.v y, o1, o2] = match (fIf (lft (gT (g2 fNe (vN 2) (kI 0)))) (fRet (mName 1)) fNil) [.v y, .v (I k), .v (I a)] with
      | .nx en2 => forE (kTup 2 (kCons (kName 1) (kCons (kName 2) kNil))) (fIf (lft (gT (g2 fNe (vN 2) (kI 0)))) (fRet (mName 1)) fNil) xs en2
      | .ct en2 => forE (kTup 2 (kCons (kName 1) (kCons (kName 2) kNil))) (fIf (lft (gT (g2 fNe (vN 2) (kI 0)))) (fRet (mName 1)) fNil) xs en2
      | .brk en2 => .nx en2
      | r => r := fun {xs} => by
      show (match (kTup 2 (kCons (kName 1) (kCons (kName 2) kNil)) (T.d (.tup [.int (k : Nat), .int a]))).bind fun as => stows [.v y, o1, o2] as with
        | none => SR.no
        | some en1 => match (fIf (lft (gT (g2 fNe (vN 2) (kI 0)))) (fRet (mName 1)) fNil) en1 with
          | .nx en2 => forE (kTup 2 (kCons (kName 1) (kCons (kName 2) kNil))) (fIf (lft (gT (g2 fNe (vN 2) (kI 0)))) (fRet (mName 1)) fNil) xs en2
          | .ct en2 => forE (kTup 2 (kCons (kName 1) (kCons (kName 2) kNil))) (fIf (lft (gT (g2 fNe (vN 2) (kI 0)))) (fRet (mName 1)) fNil) xs en2
          | .brk en2 => .nx en2
          | r => r) = _
      rw [show (kTup 2 (kCons (kName 1) (kCons (kName 2) kNil)) (T.d (.tup [.int (k : Nat), .int a]))) = some [(1, .d (.int (k : Nat))), (2, .d (.int a))] from rfl, Option.bind_some, st]
    rw [un]
    unfold ldF
    by_cases e : a = 0
    · rw [if_pos e, fIf_f (by simp only [gPur_ev, gAndV_ev, gOrV_ev, gNotV_ev, gIsi_ev, gAnd_ev, gOr_ev, gNot_ev, gTru_ev, gT_ev, g2_ev, g1_ev, gIf_ev, gCall_ev, gFn_ev, gTup_ev, gLst_ev, gSl_ev, gCh_ev, gYes_ev, oN_ev, oS_ev, asI_ev, aCons_ev, aNil_ev, vN_ev, kI_ev, kB_ev, kS_ev, kD'_ev, at_succ, at_zero, get_v, get_w, get_b, get_n, Z.R.of_some, Z.R.bind_ok, Z.R.pur_d, fAdd_i, fSub_i, fNeg_i, fLt_i, fLe_i, fGt_i, fGe_i, fEq_i, fNe_i, fInt_i, fInt_b, fAbs_i, fMin2_i, fMax2_i, fLen_l, fLen_t, fLen_r, tst_b, tru_b, tru_i, tru_t, tru_l, tru_r, tru_n, List.length_map, wipeE_cons, wipeE_nil, List.set_cons_succ, List.set_cons_zero, setE_cons, setE_nil, mkS_d, mkS_l, mkTup_nil, mkTup_ev, mkLst_ev, allD_cons, allD_nil, allD_map, Option.map_some, Option.bind_some, if_true, Bool.false_eq_true, if_false, ite_true, ite_false, Bool.not_true, Bool.not_false, decide_true, decide_false, isInt_i, isInt_b, isInt_t, isBl_i, isBl_b, isBl_t, fTuple_ev, fList_ev, dataOf_t, dataOf_l, dataOf_r, lft_ev, Z.RM.of_ok, Z.RM.bind_ok, mCons_ev, mNil_ev, m2_ev, mOf_ev, mT_ev, mTru_ev, mNot_ev, List.cons_append, List.nil_append, e]), fNil_ev]
      exact leading_loop r (k + 1) _ _ .v .v
    · rw [if_neg e, fIf_t (by simp only [gPur_ev, gAndV_ev, gOrV_ev, gNotV_ev, gIsi_ev, gAnd_ev, gOr_ev, gNot_ev, gTru_ev, gT_ev, g2_ev, g1_ev, gIf_ev, gCall_ev, gFn_ev, gTup_ev, gLst_ev, gSl_ev, gCh_ev, gYes_ev, oN_ev, oS_ev, asI_ev, aCons_ev, aNil_ev, vN_ev, kI_ev, kB_ev, kS_ev, kD'_ev, at_succ, at_zero, get_v, get_w, get_b, get_n, Z.R.of_some, Z.R.bind_ok, Z.R.pur_d, fAdd_i, fSub_i, fNeg_i, fLt_i, fLe_i, fGt_i, fGe_i, fEq_i, fNe_i, fInt_i, fInt_b, fAbs_i, fMin2_i, fMax2_i, fLen_l, fLen_t, fLen_r, tst_b, tru_b, tru_i, tru_t, tru_l, tru_r, tru_n, List.length_map, wipeE_cons, wipeE_nil, List.set_cons_succ, List.set_cons_zero, setE_cons, setE_nil, mkS_d, mkS_l, mkTup_nil, mkTup_ev, mkLst_ev, allD_cons, allD_nil, allD_map, Option.map_some, Option.bind_some, if_true, Bool.false_eq_true, if_false, ite_true, ite_false, Bool.not_true, Bool.not_false, decide_true, decide_false, isInt_i, isInt_b, isInt_t, isBl_i, isBl_b, isBl_t, fTuple_ev, fList_ev, dataOf_t, dataOf_l, dataOf_r, lft_ev, Z.RM.of_ok, Z.RM.bind_ok, mCons_ev, mNil_ev, m2_ev, mOf_ev, mT_ev, mTru_ev, mNot_ev, List.cons_append, List.nil_append, e]), fRet_ev, mName_n (d := .int k) rfl]
      exact .inr ⟨_, rfl⟩
theorem leading_ok (r : List Int) : F_leading [tp r] = .ok (I (ld r)) := by
  refine runP_ret rfl ?_
  show ∃ e, d_leading [.v (tp r), .n, .n] = _
  unfold d_leading
  have e0 : fForE (kTup 2 (kCons (kName 1) (kCons (kName 2) kNil))) 0 (fIf (lft (gT (g2 fNe (vN 2) (kI 0)))) (fRet (mName 1)) fNil) [.v (tp r), .n, .n] = forE (kTup 2 (kCons (kName 1) (kCons (kName 2) kNil))) (fIf (lft (gT (g2 fNe (vN 2) (kI 0)))) (fRet (mName 1)) fNil) ((r.zipIdx 0).map fun q => T.d (.tup [.int (q.2 : Nat), .int q.1])) [.v (tp r), .n, .n] := by
    rw [← enumP_map]; rfl
  rw [fSeq_ev, e0]
  rcases leading_loop (y := tp r) r 0 .n .n .n .n with ⟨o1, o2, h1, h2⟩ | ⟨e, h⟩
  · rw [h2, sq_nx]
    unfold ld
    rw [h1]
    exact ret_lft rfl
  · rw [h, sq_ret]
    exact ⟨_, rfl⟩
theorem filter_range_head (n : Nat) (r : List Int) (h : n ≤ r.length) : ((((List.range n).filter fun k => !decide (r.getD k 0 = 0)).map fun (k : Nat) => (k : Int)) ++ [-1]).head? = some (match n with | _ => if (∀ i, i < n → r.getD i 0 = 0) then -1 else ld r) := by
  rcases ld_cases n r h with a | ⟨l, h1, h2, h3⟩
  · rw [if_pos a, List.filter_eq_nil_iff.mpr fun k m => by rw [a k (List.mem_range.mp m)]; decide]; rfl
  · rw [if_neg (fun a => h3 (a l h1)), ld_some (by omega) h2 h3]
    have : (List.range n).filter (fun k => !decide (r.getD k 0 = 0)) = ((List.range l).filter fun k => !decide (r.getD k 0 = 0)) ++ (l :: ((List.range (n - l - 1)).map fun k => l + 1 + k).filter fun k => !decide (r.getD k 0 = 0)) := by
      have e : List.range n = List.range l ++ (l :: (List.range (n - l - 1)).map fun k => l + 1 + k) := by
        rw [show n = l + ((n - l - 1) + 1) by omega, List.range_add, List.range_succ_eq_map, List.map_cons, List.map_map]
        simp [Function.comp_def, Nat.add_comm, Nat.add_left_comm]
      rw [e, List.filter_append, List.filter_cons_of_pos (by simp only [h3, decide_false, Bool.not_false])]
    rw [this, List.filter_eq_nil_iff.mpr (fun k m => by rw [h2 k (List.mem_range.mp m)]; decide)]
    rfl
theorem law_lead_ok (r : List Int) (hl : r.length < 1000) : F__law_lead [tp r] = .ok (I (ld r)) := by
  refine runP_ret rfl ?_
  show ∃ e, d__law_lead [.v (tp r), .n, .n] = _
  unfold d__law_lead
  have er := gR1_of (g := gCall fLen (aCons (vN 0) aNil)) (en := [.v (tp r), .n, .n]) (n := r.length) (by simp only [gPur_ev, gAndV_ev, gOrV_ev, gNotV_ev, gIsi_ev, gAnd_ev, gOr_ev, gNot_ev, gTru_ev, gT_ev, g2_ev, g1_ev, gIf_ev, gCall_ev, gFn_ev, gTup_ev, gLst_ev, gSl_ev, gCh_ev, gYes_ev, oN_ev, oS_ev, asI_ev, aCons_ev, aNil_ev, vN_ev, kI_ev, kB_ev, kS_ev, kD'_ev, at_succ, at_zero, get_v, get_w, get_b, get_n, Z.R.of_some, Z.R.bind_ok, Z.R.pur_d, fAdd_i, fSub_i, fNeg_i, fLt_i, fLe_i, fGt_i, fGe_i, fEq_i, fNe_i, fInt_i, fInt_b, fAbs_i, fMin2_i, fMax2_i, fLen_l, fLen_t, fLen_r, tst_b, tru_b, tru_i, tru_t, tru_l, tru_r, tru_n, List.length_map, wipeE_cons, wipeE_nil, List.set_cons_succ, List.set_cons_zero, setE_cons, setE_nil, mkS_d, mkS_l, mkTup_nil, mkTup_ev, mkLst_ev, allD_cons, allD_nil, allD_map, Option.map_some, Option.bind_some, if_true, Bool.false_eq_true, if_false, ite_true, ite_false, Bool.not_true, Bool.not_false, decide_true, decide_false, isInt_i, isInt_b, isInt_t, isBl_i, isBl_b, isBl_t, fTuple_ev, fList_ev, dataOf_t, dataOf_l, dataOf_r, lft_ev, Z.RM.of_ok, Z.RM.bind_ok, mCons_ev, mNil_ev, m2_ev, mOf_ev, mT_ev, mTru_ev, mNot_ev, List.cons_append, List.nil_append]) (by omega)
  have el := gLc_if (vs := [2]) (gs := gR1 (gCall fLen (aCons (vN 0) aNil))) (k := kName 2) (tt := gT (g2 fNe (g2 fIx (vN 0) (vN 2)) (kI 0))) (te := gPur (vN 2)) (List.range r.length) _ (fun (k : Nat) => D.int (k : Int)) (fun k => !decide (r.getD k 0 = 0)) er (by rw [List.length_range]; omega) (fun k hk => by
    have e1 := fIx_tp (zs := r) (z := k) k rfl (List.mem_range.mp hk)
    refine ⟨_, rfl, ?_, fun _ => ?_⟩
    · simp only [gPur_ev, gAndV_ev, gOrV_ev, gNotV_ev, gIsi_ev, gAnd_ev, gOr_ev, gNot_ev, gTru_ev, gT_ev, g2_ev, g1_ev, gIf_ev, gCall_ev, gFn_ev, gTup_ev, gLst_ev, gSl_ev, gCh_ev, gYes_ev, oN_ev, oS_ev, asI_ev, aCons_ev, aNil_ev, vN_ev, kI_ev, kB_ev, kS_ev, kD'_ev, at_succ, at_zero, get_v, get_w, get_b, get_n, Z.R.of_some, Z.R.bind_ok, Z.R.pur_d, fAdd_i, fSub_i, fNeg_i, fLt_i, fLe_i, fGt_i, fGe_i, fEq_i, fNe_i, fInt_i, fInt_b, fAbs_i, fMin2_i, fMax2_i, fLen_l, fLen_t, fLen_r, tst_b, tru_b, tru_i, tru_t, tru_l, tru_r, tru_n, List.length_map, wipeE_cons, wipeE_nil, List.set_cons_succ, List.set_cons_zero, setE_cons, setE_nil, mkS_d, mkS_l, mkTup_nil, mkTup_ev, mkLst_ev, allD_cons, allD_nil, allD_map, Option.map_some, Option.bind_some, if_true, Bool.false_eq_true, if_false, ite_true, ite_false, Bool.not_true, Bool.not_false, decide_true, decide_false, isInt_i, isInt_b, isInt_t, isBl_i, isBl_b, isBl_t, fTuple_ev, fList_ev, dataOf_t, dataOf_l, dataOf_r, lft_ev, Z.RM.of_ok, Z.RM.bind_ok, mCons_ev, mNil_ev, m2_ev, mOf_ev, mT_ev, mTru_ev, mNot_ev, List.cons_append, List.nil_append, e1]
    · simp only [gPur_ev, gAndV_ev, gOrV_ev, gNotV_ev, gIsi_ev, gAnd_ev, gOr_ev, gNot_ev, gTru_ev, gT_ev, g2_ev, g1_ev, gIf_ev, gCall_ev, gFn_ev, gTup_ev, gLst_ev, gSl_ev, gCh_ev, gYes_ev, oN_ev, oS_ev, asI_ev, aCons_ev, aNil_ev, vN_ev, kI_ev, kB_ev, kS_ev, kD'_ev, at_succ, at_zero, get_v, get_w, get_b, get_n, Z.R.of_some, Z.R.bind_ok, Z.R.pur_d, fAdd_i, fSub_i, fNeg_i, fLt_i, fLe_i, fGt_i, fGe_i, fEq_i, fNe_i, fInt_i, fInt_b, fAbs_i, fMin2_i, fMax2_i, fLen_l, fLen_t, fLen_r, tst_b, tru_b, tru_i, tru_t, tru_l, tru_r, tru_n, List.length_map, wipeE_cons, wipeE_nil, List.set_cons_succ, List.set_cons_zero, setE_cons, setE_nil, mkS_d, mkS_l, mkTup_nil, mkTup_ev, mkLst_ev, allD_cons, allD_nil, allD_map, Option.map_some, Option.bind_some, if_true, Bool.false_eq_true, if_false, ite_true, ite_false, Bool.not_true, Bool.not_false, decide_true, decide_false, isInt_i, isInt_b, isInt_t, isBl_i, isBl_b, isBl_t, fTuple_ev, fList_ev, dataOf_t, dataOf_l, dataOf_r, lft_ev, Z.RM.of_ok, Z.RM.bind_ok, mCons_ev, mNil_ev, m2_ev, mOf_ev, mT_ev, mTru_ev, mNot_ev, List.cons_append, List.nil_append])
  refine ret_seq (en1 := [.v (tp r), .v (ls (((List.range r.length).filter fun k => !decide (r.getD k 0 = 0)).map fun (k : Nat) => (k : Int))), .n]) ?_ ?_
  · rw [fSet_ev, lft_n el, RM.s_ok]
    unfold ls
    simp only [List.map_map]; rfl
  refine ret_lft ?_
  have hh := filter_range_head r.length r (Nat.le_refl _)
  generalize hL : (((List.range r.length).filter fun k => !decide (r.getD k 0 = 0)).map fun (k : Nat) => (k : Int)) = L at hh
  have hLl : L.length ≤ r.length := by
    rw [← hL, List.length_map]
    exact Nat.le_trans (List.length_filter_le _ _) (by simp)
  have e2 := fAdd_l (as := L.map D.int) (bs := [.int (-1)]) (by rw [List.length_map]; show _ + 1 ≤ 16777216; omega)
  rw [show (L.map D.int ++ [D.int (-1)]) = (L ++ [-1]).map D.int from by rw [List.map_append]; rfl] at e2
  have e3 : fIx (ls (L ++ [-1])) (.d (.int 0)) = some (I ((L ++ [-1]).getD 0 0)) := fIx_ls 0 rfl (by simp)
  have e4 : (L ++ [-1]).getD 0 0 = ld r := by
    have e6 : (L ++ [-1]).getD 0 0 = ((L ++ [-1]).head?).getD 0 := by cases L <;> rfl
    rw [e6, hh]
    by_cases a : ∀ i, i < r.length → r.getD i 0 = 0
    · simp only [if_pos a]; exact (ld_none a).symm
    · simp only [if_neg a]; rfl
  have e5 : ([T.d (D.int (-1))] : List T).length ≤ most := by decide
  simp only [gPur_ev, gAndV_ev, gOrV_ev, gNotV_ev, gIsi_ev, gAnd_ev, gOr_ev, gNot_ev, gTru_ev, gT_ev, g2_ev, g1_ev, gIf_ev, gCall_ev, gFn_ev, gTup_ev, gLst_ev, gSl_ev, gCh_ev, gYes_ev, oN_ev, oS_ev, asI_ev, aCons_ev, aNil_ev, vN_ev, kI_ev, kB_ev, kS_ev, kD'_ev, at_succ, at_zero, get_v, get_w, get_b, get_n, Z.R.of_some, Z.R.bind_ok, Z.R.pur_d, fAdd_i, fSub_i, fNeg_i, fLt_i, fLe_i, fGt_i, fGe_i, fEq_i, fNe_i, fInt_i, fInt_b, fAbs_i, fMin2_i, fMax2_i, fLen_l, fLen_t, fLen_r, tst_b, tru_b, tru_i, tru_t, tru_l, tru_r, tru_n, List.length_map, wipeE_cons, wipeE_nil, List.set_cons_succ, List.set_cons_zero, setE_cons, setE_nil, mkS_d, mkS_l, mkTup_nil, mkTup_ev, mkLst_ev, allD_cons, allD_nil, allD_map, Option.map_some, Option.bind_some, if_true, Bool.false_eq_true, if_false, ite_true, ite_false, Bool.not_true, Bool.not_false, decide_true, decide_false, isInt_i, isInt_b, isInt_t, isBl_i, isBl_b, isBl_t, fTuple_ev, fList_ev, dataOf_t, dataOf_l, dataOf_r, lft_ev, Z.RM.of_ok, Z.RM.bind_ok, mCons_ev, mNil_ev, m2_ev, mOf_ev, mT_ev, mTru_ev, mNot_ev, List.cons_append, List.nil_append, e5]
  rw [show ([T.d (D.int (-1))] : List T) = ([D.int (-1)] : List D).map T.d from rfl, e2, R.of_some, R.bind_ok, e3, e4]
  rfl
end K02
namespace K02
open PySem PySem.Spec L2 Z
open PyProof.Rows hiding St
/-- a row on a functional -/
def dt (p : Int) (w : Nat) (r : List Int) (c : Nat → M p) : M p := sm w fun k => cq p r k * c k
theorem dt_congr {p : Int} {w : Nat} {r : List Int} {c d : Nat → M p} (h : ∀ k, k < w → c k = d k) : dt p w r c = dt p w r d := sm_congr fun k hk => by rw [h k hk]
theorem dt_clr {p : Int} {w j : Nat} {r o : List Int} (c : Nat → M p) : dt p w (clr p w r o j) c = dt p w r c - cq p r j * dt p w o c := by
  unfold dt
  rw [← sm_mul, ← sm_sub]
  refine sm_congr fun k hk => ?_
  rw [clr_cq hk]; grind
def scl (p : Int) (w : Nat) (r : List Int) (s : Int) : List Int := tab w fun k => (r.getD k 0 * s) % p
theorem scl_Rw {p : Int} {w : Nat} {r : List Int} {s : Int} (hp : 0 < p) : Rw p w (scl p w r s) := tab_Rw fun _ _ => Rg.mod hp _
theorem scl_cq {p : Int} {w k : Nat} {r : List Int} {s : Int} (hk : k < w) : cq p (scl p w r s) k = cq p r k * q p s := by
  unfold cq scl
  rw [tab_gd hk, q_mod, q_mul]
theorem dt_scl {p : Int} {w : Nat} {r : List Int} {s : Int} (c : Nat → M p) : dt p w (scl p w r s) c = q p s * dt p w r c := by
  unfold dt
  rw [← sm_mul]
  refine sm_congr fun k hk => ?_
  rw [scl_cq hk]; grind
theorem val_of {p : Int} {w k : Nat} {r : List Int} {v : Int} (h : Rw p w r) (hk : k < w) (hv : Rg p v) (e : cq p r k = q p v) : r.getD k 0 = v := q_inj (h.at hk) hv e
theorem cq_of {p : Int} {r : List Int} {k : Nat} {v : Int} (e : r.getD k 0 = v) : cq p r k = q p v := by unfold cq; rw [e]
structure EI (p : Int) (w : Nat) (rows W : List (List Int)) (FL : List (List Int × Nat)) (j : Nat) : Prop where
  fw : ∀ x ∈ FL, Rw p w x.1 ∧ x.2 < j
  up : FL.Pairwise fun x y => x.2 < y.2
  lo : ∀ x ∈ FL, ∀ k, k < x.2 → x.1.getD k 0 = 0
  un : ∀ x ∈ FL, ∀ y ∈ FL, x.1.getD y.2 0 = if x.2 = y.2 then 1 else 0
  ww : ∀ r ∈ W, Rw p w r
  wz : ∀ r ∈ W, ∀ k, k < j → r.getD k 0 = 0
  ann : ∀ c, (∀ r ∈ rows, dt p w r c = 0) ↔ (∀ x ∈ FL, dt p w x.1 c = 0) ∧ ∀ r ∈ W, dt p w r c = 0
theorem all_erase {α : Type} {W : List α} {k : Nat} (h : k < W.length) (P : α → Prop) : (∀ r ∈ W, P r) ↔ P W[k] ∧ ∀ r ∈ W.eraseIdx k, P r := by
  constructor
  · exact fun a => ⟨a _ (List.getElem_mem h), fun r m => a r (List.mem_of_mem_eraseIdx m)⟩
  · rintro ⟨a, b⟩ r m
    obtain ⟨i, hi, rfl⟩ := List.getElem_of_mem m
    by_cases e : i = k
    · subst e; exact a
    · exact b _ (List.mem_eraseIdx_iff_getElem.mpr ⟨i, hi, e, rfl⟩)
theorem EI.skip {p : Int} {w j : Nat} {rows W : List (List Int)} {FL : List (List Int × Nat)} (E : EI p w rows W FL j) (h : ∀ r ∈ W, r.getD j 0 = 0) : EI p w rows W FL (j + 1) :=
  ⟨fun x m => ⟨(E.fw x m).1, Nat.lt_succ_of_lt (E.fw x m).2⟩, E.up, E.lo, E.un, E.ww, fun r m k hk => by
    by_cases e : k = j
    · rw [e]; exact h r m
    · exact E.wz r m k (by omega), E.ann⟩
theorem rg01 {p : Int} (h : Pr p) : Rg p 0 ∧ Rg p 1 := by have := h.rg; exact ⟨⟨by omega, by omega⟩, ⟨by omega, by omega⟩⟩
theorem EI.step {p : Int} (hp : Pr p) {w j k : Nat} {rows W : List (List Int)} {FL : List (List Int × Nat)} (E : EI p w rows W FL j) (hj : j < w) (hk : k < W.length) {s : Int} (hs : cq p W[k] j * q p s = 1) :
    EI p w rows ((W.eraseIdx k).map fun r => clr p w r (scl p w W[k] s) j) (FL.map (fun x => (clr p w x.1 (scl p w W[k] s) j, x.2)) ++ [(scl p w W[k] s, j)]) (j + 1) := by
  have p0 := hp.pos
  have rW := E.ww _ (List.getElem_mem hk)
  have zW := E.wz _ (List.getElem_mem hk)
  have hann := all_erase hk
  generalize hr : W[k] = r0 at *
  have R0 : Rw p w (scl p w r0 s) := scl_Rw p0
  have c0 : ∀ k, k < j → cq p (scl p w r0 s) k = 0 := fun k hk => by
    rw [scl_cq (by omega), cq_of (zW k hk), q_zero]; grind
  have c1 : cq p (scl p w r0 s) j = 1 := by rw [scl_cq hj, hs]
  have z0 : ∀ k, k < j → (scl p w r0 s).getD k 0 = 0 := fun k hk => val_of R0 (by omega) (rg01 hp).1 (by rw [c0 k hk, q_zero])
  have z1 : (scl p w r0 s).getD j 0 = 1 := val_of R0 hj (rg01 hp).2 (by rw [c1, q_one])
  have keep : ∀ {r : List Int} {k : Nat}, Rw p w r → k < j → (clr p w r (scl p w r0 s) j).getD k 0 = r.getD k 0 := fun {r k} h hk => val_of (clr_Rw p0) (by omega) (h.at (by omega)) (by
    rw [clr_cq (by omega), c0 k hk]; unfold cq; grind)
  have gone : ∀ {r : List Int}, Rw p w r → (clr p w r (scl p w r0 s) j).getD j 0 = 0 := fun {r} h => val_of (clr_Rw p0) hj (rg01 hp).1 (by
    rw [clr_cq hj, c1, q_zero]; grind)
  refine ⟨fun x m => ?_, ?_, fun x m i hi => ?_, fun x m y my => ?_, fun r m => ?_, fun r m i hi => ?_, fun c => ?_⟩
  · rcases List.mem_append.mp m with m | m
    · obtain ⟨y, my, rfl⟩ := List.mem_map.mp m
      exact ⟨clr_Rw p0, Nat.lt_succ_of_lt (E.fw y my).2⟩
    · rw [List.mem_singleton.mp m]; exact ⟨R0, Nat.lt_succ_self j⟩
  · rw [List.pairwise_append]
    refine ⟨List.pairwise_map.mpr E.up, List.pairwise_singleton .., fun x m y my => ?_⟩
    obtain ⟨z, mz, rfl⟩ := List.mem_map.mp m
    rw [List.mem_singleton.mp my]; exact (E.fw z mz).2
  · rcases List.mem_append.mp m with m | m
    · obtain ⟨y, my, rfl⟩ := List.mem_map.mp m
      rw [keep (E.fw y my).1 (by have := (E.fw y my).2; show i < j; have : i < y.2 := hi; omega)]
      exact E.lo y my i hi
    · rw [List.mem_singleton.mp m] at hi ⊢; exact z0 i hi
  · rcases List.mem_append.mp m with m | m
    · obtain ⟨x, mx, rfl⟩ := List.mem_map.mp m
      rcases List.mem_append.mp my with my | my
      · obtain ⟨y, my2, rfl⟩ := List.mem_map.mp my
        rw [keep (E.fw x mx).1 (E.fw y my2).2]
        exact E.un x mx y my2
      · rw [List.mem_singleton.mp my]
        rw [gone (E.fw x mx).1, if_neg (Nat.ne_of_lt (E.fw x mx).2)]
    · rw [List.mem_singleton.mp m]
      rcases List.mem_append.mp my with my | my
      · obtain ⟨y, my2, rfl⟩ := List.mem_map.mp my
        rw [z0 _ (E.fw y my2).2, if_neg (fun e => Nat.ne_of_lt (E.fw y my2).2 (Eq.symm e))]
      · rw [List.mem_singleton.mp my, z1, if_pos rfl]
  · obtain ⟨y, my, rfl⟩ := List.mem_map.mp m
    exact clr_Rw p0
  · obtain ⟨y, my, rfl⟩ := List.mem_map.mp m
    have my' := List.mem_of_mem_eraseIdx my
    by_cases e : i = j
    · rw [e]; exact gone (E.ww y my')
    · rw [keep (E.ww y my') (by omega)]; exact E.wz y my' i (by omega)
  · rw [E.ann c, hann (fun r => dt p w r c = 0)]
    have e0 : dt p w (scl p w r0 s) c = q p s * dt p w r0 c := dt_scl c
    constructor
    · rintro ⟨a, b, d⟩
      have z : dt p w (scl p w r0 s) c = 0 := by rw [e0, b]; grind
      refine ⟨fun x m => ?_, fun r m => ?_⟩
      · rcases List.mem_append.mp m with m | m
        · obtain ⟨y, my, rfl⟩ := List.mem_map.mp m
          show dt p w (clr p w y.1 (scl p w r0 s) j) c = 0
          rw [dt_clr, a y my, z]; grind
        · rw [List.mem_singleton.mp m]; exact z
      · obtain ⟨y, my, rfl⟩ := List.mem_map.mp m
        rw [dt_clr, d y my, z]; grind
    · rintro ⟨a, b⟩
      have z : dt p w (scl p w r0 s) c = 0 := a (scl p w r0 s, j) (List.mem_append_right _ (List.mem_singleton.mpr rfl))
      refine ⟨fun x m => ?_, ?_, fun r m => ?_⟩
      · have := a (clr p w x.1 (scl p w r0 s) j, x.2) (List.mem_append_left _ (List.mem_map.mpr ⟨x, m, rfl⟩))
        have this : dt p w (clr p w x.1 (scl p w r0 s) j) c = 0 := this
        rw [dt_clr, z] at this; grind
      · rw [e0] at z
        have : dt p w r0 c = (cq p r0 j * q p s) * dt p w r0 c := by rw [hs]; grind
        rw [this]; grind
      · have := b _ (List.mem_map.mpr ⟨r, m, rfl⟩)
        rw [dt_clr, z] at this; grind
theorem EI.start {p : Int} {w : Nat} {rows : List (List Int)} (h : ∀ r ∈ rows, Rw p w r) : EI p w rows rows [] 0 :=
  ⟨fun x m => absurd m List.not_mem_nil, .nil, fun x m => absurd m List.not_mem_nil, fun x m => absurd m List.not_mem_nil, h, fun r m k hk => absurd hk (Nat.not_lt_zero k), fun c => ⟨fun a => ⟨fun x m => absurd m List.not_mem_nil, a⟩, fun a => a.2⟩⟩
/-- what echelon returns -/
structure Ech (p : Int) (w : Nat) (rows : List (List Int)) (FL : List (List Int × Nat)) : Prop where
  fw : ∀ x ∈ FL, Rw p w x.1 ∧ x.2 < w
  up : FL.Pairwise fun x y => x.2 < y.2
  lo : ∀ x ∈ FL, ∀ k, k < x.2 → x.1.getD k 0 = 0
  un : ∀ x ∈ FL, ∀ y ∈ FL, x.1.getD y.2 0 = if x.2 = y.2 then 1 else 0
  ann : ∀ c, (∀ r ∈ rows, dt p w r c = 0) ↔ ∀ x ∈ FL, dt p w x.1 c = 0
theorem EI.last {p : Int} {w : Nat} {rows W : List (List Int)} {FL : List (List Int × Nat)} (E : EI p w rows W FL w) : Ech p w rows FL :=
  ⟨E.fw, E.up, E.lo, E.un, fun c => ⟨fun a => ((E.ann c).mp a).1, fun a => (E.ann c).mpr ⟨a, fun r m => sm_zero fun k hk => by
    rw [cq_of (E.wz r m k hk), q_zero]; grind⟩⟩⟩
/-! the walk -/
def stz (W : List (List Int)) (j : Nat) : List Int := (W.zipIdx.filter fun x => !decide (x.1.getD j 0 = 0)).map fun x => (x.2 : Int)
theorem stz_nil {W : List (List Int)} {j : Nat} (h : stz W j = []) : ∀ r ∈ W, r.getD j 0 = 0 := fun r m => by
  obtain ⟨i, hi, rfl⟩ := List.getElem_of_mem m
  have := List.filter_eq_nil_iff.mp (List.map_eq_nil_iff.mp h) (W[i], i) (List.mk_mem_zipIdx_iff_getElem?.mpr (List.getElem?_eq_getElem hi))
  simpa using this
theorem stz_cons {W : List (List Int)} {j : Nat} {a : Int} {t : List Int} (h : stz W j = a :: t) : ∃ k, a = (k : Nat) ∧ ∃ hk : k < W.length, W[k].getD j 0 ≠ 0 := by
  have m : a ∈ stz W j := by rw [h]; exact List.mem_cons_self ..
  obtain ⟨x, mx, rfl⟩ := List.mem_map.mp m
  obtain ⟨m1, m2⟩ := List.mem_filter.mp mx
  have := List.mem_zipIdx_iff_getElem?.mp m1
  obtain ⟨hk, e⟩ := List.getElem?_eq_some_iff.mp this
  exact ⟨x.2, rfl, hk, by rw [e]; simpa using m2⟩
theorem erase_map {α β : Type} (f : α → β) : ∀ (l : List α) (k : Nat), (l.map f).eraseIdx k = (l.eraseIdx k).map f
  | [], _ => rfl
  | a :: r, 0 => rfl
  | a :: r, k + 1 => by rw [List.map_cons, List.eraseIdx_cons_succ, List.eraseIdx_cons_succ, List.map_cons, erase_map f r k]
theorem popAt_ok {en : En} {i k : Nat} {g : En → R T} {W : List (List Int)} (ho : ownAt en i = some (lss W)) (hg : g en = .ok (I k)) (hk : k < W.length) (hl : W.length < 1000000) : mPopAt i g en = .ok (tp W[k]) (setO en i (lss (W.eraseIdx k))) := by
  unfold mPopAt
  rw [ho, hg]
  simp only [allD_map]
  have e1 : ixN (W.map rowD).length (k : Int) = some k := by
    unfold L2.ixN
    rw [List.length_map, if_pos (by omega), if_pos (by omega), Int.toNat_natCast]
  have e2 : (W.map rowD)[k]? = some (rowD W[k]) := by rw [List.getElem?_map, List.getElem?_eq_getElem hk]; rfl
  have e3 : (-9223372036854775808 : Int) ≤ (k : Int) ∧ (k : Int) < 9223372036854775808 := ⟨by omega, by omega⟩
  simp only [if_pos e3, e1, e2, erase_map]
def ebody : En → SR := (fSeq (fSet 6 (lft (gLc [9, 7] (gEnum (vN 2)) (kTup 2 (kCons (kName 9) (kCons (kName 7) kNil))) (gT (g2 fNe (g2 fIx (vN 7) (vN 5)) (kI 0))) (gPur (vN 9)))))
  (fIf (lft (gTru (vN 6))) (fSeq (fSet 7 (mPopAt 2 (g2 fIx (vN 6) (kI 0))))
  (fSeq (fSet 8 (lft (gFn F_inverse (aCons (vN 0) (aCons (g2 fIx (vN 7) (vN 5)) aNil)))))
  (fSeq (fSet 7 (lft (gCall fTuple (aCons (gLc [10] (gIt (vN 7)) (kName 10) gYes (g2 fMod (g2 fMul (vN 10) (vN 8)) (vN 0))) aNil))))
  (fSeq (fSet 3 (lft (g2 fAdd (gLc [11] (gIt (vN 3)) (kName 11) gYes (gFn F_cleared (aCons (vN 0) (aCons (vN 11) (aCons (vN 7) (aCons (vN 5) aNil)))))) (gLst (aCons (gPur (vN 7)) aNil)))))
  (fSet 2 (lft (gLc [11] (gIt (vN 2)) (kName 11) gYes (gFn F_cleared (aCons (vN 0) (aCons (vN 11) (aCons (vN 7) (aCons (vN 5) aNil)))))))))))) fNil))
theorem clrs_ok {p : Int} (hp : Pr p) {w j i : Nat} {en : En} {L : List (List Int)} {o : List Int} (hi : at_ en i = some (lss L)) (h0 : at_ (wipeE en [11]) 0 = some (I p)) (h7 : at_ (wipeE en [11]) 7 = some (tp o)) (h5 : at_ (wipeE en [11]) 5 = some (I j)) (hn : en.length = 12) (hL : ∀ r ∈ L, Rw p w r) (ho : Rw p w o) (hj : j < w) (hw : w < 1000) (hl : L.length < 1000000) : (gLc [11] (gIt (vN i)) (kName 11) gYes (gFn F_cleared (aCons (vN 0) (aCons (vN 11) (aCons (vN 7) (aCons (vN 5) aNil)))))) en = .ok (lss (L.map fun r => clr p w r o j)) := by
  have el := gLc_all (vs := [11]) (gs := gIt (vN i)) (k := kName 11) (te := gFn F_cleared (aCons (vN 0) (aCons (vN 11) (aCons (vN 7) (aCons (vN 5) aNil))))) (en := en) L _ (fun r => rowD (clr p w r o j)) (gIt_of (x := lss L) (e := rowD) (by simp only [gPur_ev, gAndV_ev, gOrV_ev, gNotV_ev, gIsi_ev, gAnd_ev, gOr_ev, gNot_ev, gTru_ev, gT_ev, g2_ev, g1_ev, gIf_ev, gCall_ev, gFn_ev, gTup_ev, gLst_ev, gSl_ev, gCh_ev, gYes_ev, oN_ev, oS_ev, asI_ev, aCons_ev, aNil_ev, vN_ev, kI_ev, kB_ev, kS_ev, kD'_ev, at_succ, at_zero, get_v, get_w, get_b, get_n, Z.R.of_some, Z.R.bind_ok, Z.R.pur_d, fAdd_i, fSub_i, fNeg_i, fLt_i, fLe_i, fGt_i, fGe_i, fEq_i, fNe_i, fInt_i, fInt_b, fAbs_i, fMin2_i, fMax2_i, fLen_l, fLen_t, fLen_r, tst_b, tru_b, tru_i, tru_t, tru_l, tru_r, tru_n, List.length_map, wipeE_cons, wipeE_nil, List.set_cons_succ, List.set_cons_zero, setE_cons, setE_nil, mkS_d, mkS_l, mkTup_nil, mkTup_ev, mkLst_ev, allD_cons, allD_nil, allD_map, Option.map_some, Option.bind_some, if_true, Bool.false_eq_true, if_false, ite_true, ite_false, Bool.not_true, Bool.not_false, decide_true, decide_false, isInt_i, isInt_b, isInt_t, isBl_i, isBl_b, isBl_t, fTuple_ev, fList_ev, dataOf_t, dataOf_l, dataOf_r, lft_ev, Z.RM.of_ok, Z.RM.bind_ok, mCons_ev, mNil_ev, m2_ev, mOf_ev, mT_ev, mTru_ev, mNot_ev, List.cons_append, List.nil_append, hi]) rfl) (by omega) (fun r m => ⟨_, rfl, by
    have set0 : ∀ {k : Nat} {s : Sl}, k ≠ 11 → at_ ((wipeE en [11]).set 11 s) k = at_ (wipeE en [11]) k := fun {k s} hk => by
      unfold at_; rw [List.getElem?_set_ne (Ne.symm hk)]
    have set1 : ∀ {x : D}, at_ ((wipeE en [11]).set 11 (.v (.d x))) 11 = some (.d x) := fun {x} => by
      unfold at_; rw [List.getElem?_set_self (by rw [wipeE_cons, wipeE_nil, List.length_set, hn]; decide)]; rfl
    have e := cleared_ok hp (hL r m) ho hj hw
    rw [setE_cons, setE_nil, mkS_d, gFn_ev, aCons_ev, aCons_ev, aCons_ev, aCons_ev, aNil_ev, vN_ev, vN_ev, vN_ev, vN_ev, set0 (k := 0) (by decide), set1, set0 (k := 7) (by decide), set0 (k := 5) (by decide), h0, h7, h5]
    simp only [R.of_some, R.bind_ok, e]⟩)
  rw [el]; unfold lss; rw [List.map_map, List.map_map, List.map_map]; rfl
theorem ebody_ok {p : Int} (hp : Pr p) {w j : Nat} {rows W : List (List Int)} {FL : List (List Int × Nat)} (E : EI p w rows W FL j) (hj : j < w) (hw : w < 1000) (hn : W.length + FL.length < 1000000) {x : Sl} {o6 o7 o8 : Sl} (h6 : NB o6) (h7 : NB o7) (h8 : NB o8) :
    ∃ W' FL' o6' o7' o8', NB o6' ∧ NB o7' ∧ NB o8' ∧ W'.length + FL'.length < 1000000 ∧ EI p w rows W' FL' (j + 1) ∧ ebody [.v (I p), x, .v (lss W), .v (lss (FL.map Prod.fst)), .v (I w), .v (I j), o6, o7, o8, .n, .n, .n] = .nx [.v (I p), x, .v (lss W'), .v (lss (FL'.map Prod.fst)), .v (I w), .v (I j), o6', o7', o8', .n, .n, .n] := by
  unfold ebody
  have s1 : ∀ o7, NB o7 → fSet 6 (lft (gLc [9, 7] (gEnum (vN 2)) (kTup 2 (kCons (kName 9) (kCons (kName 7) kNil))) (gT (g2 fNe (g2 fIx (vN 7) (vN 5)) (kI 0))) (gPur (vN 9)))) [.v (I p), x, .v (lss W), .v (lss (FL.map Prod.fst)), .v (I w), .v (I j), o6, o7, o8, .n, .n, .n] = .nx [.v (I p), x, .v (lss W), .v (lss (FL.map Prod.fst)), .v (I w), .v (I j), .v (ls (stz W j)), o7, o8, .n, .n, .n] := fun o7 h7 => by
    have el := gLc_if (vs := [9, 7]) (gs := gEnum (vN 2)) (k := kTup 2 (kCons (kName 9) (kCons (kName 7) kNil))) (tt := gT (g2 fNe (g2 fIx (vN 7) (vN 5)) (kI 0))) (te := gPur (vN 9)) (en := [.v (I p), x, .v (lss W), .v (lss (FL.map Prod.fst)), .v (I w), .v (I j), o6, o7, o8, .n, .n, .n]) W.zipIdx _ (fun q => D.int (q.2 : Int)) (fun q => !decide (q.1.getD j 0 = 0)) (gEnum_of (x := lss W) (xs := W) (e := rowD) rfl (by rw [dataOf_l, allD_map])) (by rw [List.length_zipIdx]; omega) (fun q m => by
      have hr : Rw p w q.1 := E.ww _ (by
        have := List.mem_zipIdx_iff_getElem?.mp m
        exact List.mem_of_getElem? this)
      have e1 := fIx_tp (zs := q.1) (z := j) j rfl (by rw [hr.len]; exact hj)
      refine ⟨[(9, I q.2), (7, tp q.1)], rfl, ?_, fun _ => ?_⟩
      · simp only [gPur_ev, gAndV_ev, gOrV_ev, gNotV_ev, gIsi_ev, gAnd_ev, gOr_ev, gNot_ev, gTru_ev, gT_ev, g2_ev, g1_ev, gIf_ev, gCall_ev, gFn_ev, gTup_ev, gLst_ev, gSl_ev, gCh_ev, gYes_ev, oN_ev, oS_ev, asI_ev, aCons_ev, aNil_ev, vN_ev, kI_ev, kB_ev, kS_ev, kD'_ev, at_succ, at_zero, get_v, get_w, get_b, get_n, Z.R.of_some, Z.R.bind_ok, Z.R.pur_d, fAdd_i, fSub_i, fNeg_i, fLt_i, fLe_i, fGt_i, fGe_i, fEq_i, fNe_i, fInt_i, fInt_b, fAbs_i, fMin2_i, fMax2_i, fLen_l, fLen_t, fLen_r, tst_b, tru_b, tru_i, tru_t, tru_l, tru_r, tru_n, List.length_map, wipeE_cons, wipeE_nil, List.set_cons_succ, List.set_cons_zero, setE_cons, setE_nil, mkS_d, mkS_l, mkTup_nil, mkTup_ev, mkLst_ev, allD_cons, allD_nil, allD_map, Option.map_some, Option.bind_some, if_true, Bool.false_eq_true, if_false, ite_true, ite_false, Bool.not_true, Bool.not_false, decide_true, decide_false, isInt_i, isInt_b, isInt_t, isBl_i, isBl_b, isBl_t, fTuple_ev, fList_ev, dataOf_t, dataOf_l, dataOf_r, lft_ev, Z.RM.of_ok, Z.RM.bind_ok, mCons_ev, mNil_ev, m2_ev, mOf_ev, mT_ev, mTru_ev, mNot_ev, List.cons_append, List.nil_append, e1]
      · simp only [gPur_ev, gAndV_ev, gOrV_ev, gNotV_ev, gIsi_ev, gAnd_ev, gOr_ev, gNot_ev, gTru_ev, gT_ev, g2_ev, g1_ev, gIf_ev, gCall_ev, gFn_ev, gTup_ev, gLst_ev, gSl_ev, gCh_ev, gYes_ev, oN_ev, oS_ev, asI_ev, aCons_ev, aNil_ev, vN_ev, kI_ev, kB_ev, kS_ev, kD'_ev, at_succ, at_zero, get_v, get_w, get_b, get_n, Z.R.of_some, Z.R.bind_ok, Z.R.pur_d, fAdd_i, fSub_i, fNeg_i, fLt_i, fLe_i, fGt_i, fGe_i, fEq_i, fNe_i, fInt_i, fInt_b, fAbs_i, fMin2_i, fMax2_i, fLen_l, fLen_t, fLen_r, tst_b, tru_b, tru_i, tru_t, tru_l, tru_r, tru_n, List.length_map, wipeE_cons, wipeE_nil, List.set_cons_succ, List.set_cons_zero, setE_cons, setE_nil, mkS_d, mkS_l, mkTup_nil, mkTup_ev, mkLst_ev, allD_cons, allD_nil, allD_map, Option.map_some, Option.bind_some, if_true, Bool.false_eq_true, if_false, ite_true, ite_false, Bool.not_true, Bool.not_false, decide_true, decide_false, isInt_i, isInt_b, isInt_t, isBl_i, isBl_b, isBl_t, fTuple_ev, fList_ev, dataOf_t, dataOf_l, dataOf_r, lft_ev, Z.RM.of_ok, Z.RM.bind_ok, mCons_ev, mNil_ev, m2_ev, mOf_ev, mT_ev, mTru_ev, mNot_ev, List.cons_append, List.nil_append])
    rw [fSet_ev, lft_n el, RM.s_ok]
    have : (((W.zipIdx.filter fun q => !decide (q.1.getD j 0 = 0)).map fun q => D.int (q.2 : Int)).map T.d) = (((stz W j).map D.int).map T.d) := by
      unfold stz; simp only [List.map_map]; rfl
    rw [this]
    simp [h6.s]
  rw [fSeq_ev, s1 o7 h7, sq_nx]
  cases hst : stz W j with
  | nil =>
    exact ⟨W, FL, .v (ls []), o7, o8, .v, h7, h8, hn, E.skip (stz_nil hst), by rw [fIf_f (by simp only [gPur_ev, gAndV_ev, gOrV_ev, gNotV_ev, gIsi_ev, gAnd_ev, gOr_ev, gNot_ev, gTru_ev, gT_ev, g2_ev, g1_ev, gIf_ev, gCall_ev, gFn_ev, gTup_ev, gLst_ev, gSl_ev, gCh_ev, gYes_ev, oN_ev, oS_ev, asI_ev, aCons_ev, aNil_ev, vN_ev, kI_ev, kB_ev, kS_ev, kD'_ev, at_succ, at_zero, get_v, get_w, get_b, get_n, Z.R.of_some, Z.R.bind_ok, Z.R.pur_d, fAdd_i, fSub_i, fNeg_i, fLt_i, fLe_i, fGt_i, fGe_i, fEq_i, fNe_i, fInt_i, fInt_b, fAbs_i, fMin2_i, fMax2_i, fLen_l, fLen_t, fLen_r, tst_b, tru_b, tru_i, tru_t, tru_l, tru_r, tru_n, List.length_map, wipeE_cons, wipeE_nil, List.set_cons_succ, List.set_cons_zero, setE_cons, setE_nil, mkS_d, mkS_l, mkTup_nil, mkTup_ev, mkLst_ev, allD_cons, allD_nil, allD_map, Option.map_some, Option.bind_some, if_true, Bool.false_eq_true, if_false, ite_true, ite_false, Bool.not_true, Bool.not_false, decide_true, decide_false, isInt_i, isInt_b, isInt_t, isBl_i, isBl_b, isBl_t, fTuple_ev, fList_ev, dataOf_t, dataOf_l, dataOf_r, lft_ev, Z.RM.of_ok, Z.RM.bind_ok, mCons_ev, mNil_ev, m2_ev, mOf_ev, mT_ev, mTru_ev, mNot_ev, List.cons_append, List.nil_append]; rfl)]; rfl⟩
  | cons a t =>
    obtain ⟨k, rfl, hk, hne⟩ := stz_cons hst
    have rW := E.ww _ (List.getElem_mem hk)
    obtain ⟨i1, i2, i3⟩ := inv_ok hp (rW.at hj) hne
    have e0 : fIx (ls ((k : Int) :: t)) (.d (.int 0)) = some (I k) := fIx_ls 0 rfl (by simp)
    have e1 := fIx_tp (zs := W[k]) (z := j) j rfl (by rw [rW.len]; exact hj)
    rw [fIf_t (by simp only [gPur_ev, gAndV_ev, gOrV_ev, gNotV_ev, gIsi_ev, gAnd_ev, gOr_ev, gNot_ev, gTru_ev, gT_ev, g2_ev, g1_ev, gIf_ev, gCall_ev, gFn_ev, gTup_ev, gLst_ev, gSl_ev, gCh_ev, gYes_ev, oN_ev, oS_ev, asI_ev, aCons_ev, aNil_ev, vN_ev, kI_ev, kB_ev, kS_ev, kD'_ev, at_succ, at_zero, get_v, get_w, get_b, get_n, Z.R.of_some, Z.R.bind_ok, Z.R.pur_d, fAdd_i, fSub_i, fNeg_i, fLt_i, fLe_i, fGt_i, fGe_i, fEq_i, fNe_i, fInt_i, fInt_b, fAbs_i, fMin2_i, fMax2_i, fLen_l, fLen_t, fLen_r, tst_b, tru_b, tru_i, tru_t, tru_l, tru_r, tru_n, List.length_map, wipeE_cons, wipeE_nil, List.set_cons_succ, List.set_cons_zero, setE_cons, setE_nil, mkS_d, mkS_l, mkTup_nil, mkTup_ev, mkLst_ev, allD_cons, allD_nil, allD_map, Option.map_some, Option.bind_some, if_true, Bool.false_eq_true, if_false, ite_true, ite_false, Bool.not_true, Bool.not_false, decide_true, decide_false, isInt_i, isInt_b, isInt_t, isBl_i, isBl_b, isBl_t, fTuple_ev, fList_ev, dataOf_t, dataOf_l, dataOf_r, lft_ev, Z.RM.of_ok, Z.RM.bind_ok, mCons_ev, mNil_ev, m2_ev, mOf_ev, mT_ev, mTru_ev, mNot_ev, List.cons_append, List.nil_append]; rfl)]
    have s2 : fSet 7 (mPopAt 2 (g2 fIx (vN 6) (kI 0))) [.v (I p), x, .v (lss W), .v (lss (FL.map Prod.fst)), .v (I w), .v (I j), .v (ls ((k : Int) :: t)), o7, o8, .n, .n, .n] = .nx [.v (I p), x, .v (lss (W.eraseIdx k)), .v (lss (FL.map Prod.fst)), .v (I w), .v (I j), .v (ls ((k : Int) :: t)), .v (tp W[k]), o8, .n, .n, .n] := by
      rw [fSet_ev, popAt_ok (W := W) rfl (by simp only [gPur_ev, gAndV_ev, gOrV_ev, gNotV_ev, gIsi_ev, gAnd_ev, gOr_ev, gNot_ev, gTru_ev, gT_ev, g2_ev, g1_ev, gIf_ev, gCall_ev, gFn_ev, gTup_ev, gLst_ev, gSl_ev, gCh_ev, gYes_ev, oN_ev, oS_ev, asI_ev, aCons_ev, aNil_ev, vN_ev, kI_ev, kB_ev, kS_ev, kD'_ev, at_succ, at_zero, get_v, get_w, get_b, get_n, Z.R.of_some, Z.R.bind_ok, Z.R.pur_d, fAdd_i, fSub_i, fNeg_i, fLt_i, fLe_i, fGt_i, fGe_i, fEq_i, fNe_i, fInt_i, fInt_b, fAbs_i, fMin2_i, fMax2_i, fLen_l, fLen_t, fLen_r, tst_b, tru_b, tru_i, tru_t, tru_l, tru_r, tru_n, List.length_map, wipeE_cons, wipeE_nil, List.set_cons_succ, List.set_cons_zero, setE_cons, setE_nil, mkS_d, mkS_l, mkTup_nil, mkTup_ev, mkLst_ev, allD_cons, allD_nil, allD_map, Option.map_some, Option.bind_some, if_true, Bool.false_eq_true, if_false, ite_true, ite_false, Bool.not_true, Bool.not_false, decide_true, decide_false, isInt_i, isInt_b, isInt_t, isBl_i, isBl_b, isBl_t, fTuple_ev, fList_ev, dataOf_t, dataOf_l, dataOf_r, lft_ev, Z.RM.of_ok, Z.RM.bind_ok, mCons_ev, mNil_ev, m2_ev, mOf_ev, mT_ev, mTru_ev, mNot_ev, List.cons_append, List.nil_append, e0]) hk (by omega), RM.s_ok]
      simp [h7.s]
    have s3 : fSet 8 (lft (gFn F_inverse (aCons (vN 0) (aCons (g2 fIx (vN 7) (vN 5)) aNil)))) [.v (I p), x, .v (lss (W.eraseIdx k)), .v (lss (FL.map Prod.fst)), .v (I w), .v (I j), .v (ls ((k : Int) :: t)), .v (tp W[k]), o8, .n, .n, .n] = .nx [.v (I p), x, .v (lss (W.eraseIdx k)), .v (lss (FL.map Prod.fst)), .v (I w), .v (I j), .v (ls ((k : Int) :: t)), .v (tp W[k]), .v (I (iv p (W[k].getD j 0))), .n, .n, .n] := by
      rw [fSet_ev, lft_n (x := I (iv p (W[k].getD j 0))) (by simp only [gPur_ev, gAndV_ev, gOrV_ev, gNotV_ev, gIsi_ev, gAnd_ev, gOr_ev, gNot_ev, gTru_ev, gT_ev, g2_ev, g1_ev, gIf_ev, gCall_ev, gFn_ev, gTup_ev, gLst_ev, gSl_ev, gCh_ev, gYes_ev, oN_ev, oS_ev, asI_ev, aCons_ev, aNil_ev, vN_ev, kI_ev, kB_ev, kS_ev, kD'_ev, at_succ, at_zero, get_v, get_w, get_b, get_n, Z.R.of_some, Z.R.bind_ok, Z.R.pur_d, fAdd_i, fSub_i, fNeg_i, fLt_i, fLe_i, fGt_i, fGe_i, fEq_i, fNe_i, fInt_i, fInt_b, fAbs_i, fMin2_i, fMax2_i, fLen_l, fLen_t, fLen_r, tst_b, tru_b, tru_i, tru_t, tru_l, tru_r, tru_n, List.length_map, wipeE_cons, wipeE_nil, List.set_cons_succ, List.set_cons_zero, setE_cons, setE_nil, mkS_d, mkS_l, mkTup_nil, mkTup_ev, mkLst_ev, allD_cons, allD_nil, allD_map, Option.map_some, Option.bind_some, if_true, Bool.false_eq_true, if_false, ite_true, ite_false, Bool.not_true, Bool.not_false, decide_true, decide_false, isInt_i, isInt_b, isInt_t, isBl_i, isBl_b, isBl_t, fTuple_ev, fList_ev, dataOf_t, dataOf_l, dataOf_r, lft_ev, Z.RM.of_ok, Z.RM.bind_ok, mCons_ev, mNil_ev, m2_ev, mOf_ev, mT_ev, mTru_ev, mNot_ev, List.cons_append, List.nil_append, e1, i1]), RM.s_ok]
      simp [h8.s]
    generalize hs : iv p (W[k].getD j 0) = s at *
    have R0 : Rw p w (scl p w W[k] s) := scl_Rw hp.pos
    have s4 : fSet 7 (lft (gCall fTuple (aCons (gLc [10] (gIt (vN 7)) (kName 10) gYes (g2 fMod (g2 fMul (vN 10) (vN 8)) (vN 0))) aNil))) [.v (I p), x, .v (lss (W.eraseIdx k)), .v (lss (FL.map Prod.fst)), .v (I w), .v (I j), .v (ls ((k : Int) :: t)), .v (tp W[k]), .v (I s), .n, .n, .n] = .nx [.v (I p), x, .v (lss (W.eraseIdx k)), .v (lss (FL.map Prod.fst)), .v (I w), .v (I j), .v (ls ((k : Int) :: t)), .v (tp (scl p w W[k] s)), .v (I s), .n, .n, .n] := by
      have el := gLc_all (vs := [10]) (gs := gIt (vN 7)) (k := kName 10) (te := g2 fMod (g2 fMul (vN 10) (vN 8)) (vN 0)) (en := [.v (I p), x, .v (lss (W.eraseIdx k)), .v (lss (FL.map Prod.fst)), .v (I w), .v (I j), .v (ls ((k : Int) :: t)), .v (tp W[k]), .v (I s), .n, .n, .n]) W[k] _ (fun z => D.int ((z * s) % p)) (gIt_of (x := tp W[k]) (e := D.int) rfl rfl) (by rw [rW.len]; omega) (fun z m => ⟨_, rfl, by
        have m1 : MulOk z s := mulOk_rg hp.rg.2 (rW.rg z m)
        simp only [gPur_ev, gAndV_ev, gOrV_ev, gNotV_ev, gIsi_ev, gAnd_ev, gOr_ev, gNot_ev, gTru_ev, gT_ev, g2_ev, g1_ev, gIf_ev, gCall_ev, gFn_ev, gTup_ev, gLst_ev, gSl_ev, gCh_ev, gYes_ev, oN_ev, oS_ev, asI_ev, aCons_ev, aNil_ev, vN_ev, kI_ev, kB_ev, kS_ev, kD'_ev, at_succ, at_zero, get_v, get_w, get_b, get_n, Z.R.of_some, Z.R.bind_ok, Z.R.pur_d, fAdd_i, fSub_i, fNeg_i, fLt_i, fLe_i, fGt_i, fGe_i, fEq_i, fNe_i, fInt_i, fInt_b, fAbs_i, fMin2_i, fMax2_i, fLen_l, fLen_t, fLen_r, tst_b, tru_b, tru_i, tru_t, tru_l, tru_r, tru_n, List.length_map, wipeE_cons, wipeE_nil, List.set_cons_succ, List.set_cons_zero, setE_cons, setE_nil, mkS_d, mkS_l, mkTup_nil, mkTup_ev, mkLst_ev, allD_cons, allD_nil, allD_map, Option.map_some, Option.bind_some, if_true, Bool.false_eq_true, if_false, ite_true, ite_false, Bool.not_true, Bool.not_false, decide_true, decide_false, isInt_i, isInt_b, isInt_t, isBl_i, isBl_b, isBl_t, fTuple_ev, fList_ev, dataOf_t, dataOf_l, dataOf_r, lft_ev, Z.RM.of_ok, Z.RM.bind_ok, mCons_ev, mNil_ev, m2_ev, mOf_ev, mT_ev, mTru_ev, mNot_ev, List.cons_append, List.nil_append, fMul_i, if_pos m1, fMod_i, if_pos hp.pos]⟩)
      rw [fSet_ev, lft_n (x := tp (scl p w W[k] s)) (by
        rw [gCall_ev, aCons_ev, el]
        simp only [gPur_ev, gAndV_ev, gOrV_ev, gNotV_ev, gIsi_ev, gAnd_ev, gOr_ev, gNot_ev, gTru_ev, gT_ev, g2_ev, g1_ev, gIf_ev, gCall_ev, gFn_ev, gTup_ev, gLst_ev, gSl_ev, gCh_ev, gYes_ev, oN_ev, oS_ev, asI_ev, aCons_ev, aNil_ev, vN_ev, kI_ev, kB_ev, kS_ev, kD'_ev, at_succ, at_zero, get_v, get_w, get_b, get_n, Z.R.of_some, Z.R.bind_ok, Z.R.pur_d, fAdd_i, fSub_i, fNeg_i, fLt_i, fLe_i, fGt_i, fGe_i, fEq_i, fNe_i, fInt_i, fInt_b, fAbs_i, fMin2_i, fMax2_i, fLen_l, fLen_t, fLen_r, tst_b, tru_b, tru_i, tru_t, tru_l, tru_r, tru_n, List.length_map, wipeE_cons, wipeE_nil, List.set_cons_succ, List.set_cons_zero, setE_cons, setE_nil, mkS_d, mkS_l, mkTup_nil, mkTup_ev, mkLst_ev, allD_cons, allD_nil, allD_map, Option.map_some, Option.bind_some, if_true, Bool.false_eq_true, if_false, ite_true, ite_false, Bool.not_true, Bool.not_false, decide_true, decide_false, isInt_i, isInt_b, isInt_t, isBl_i, isBl_b, isBl_t, fTuple_ev, fList_ev, dataOf_t, dataOf_l, dataOf_r, lft_ev, Z.RM.of_ok, Z.RM.bind_ok, mCons_ev, mNil_ev, m2_ev, mOf_ev, mT_ev, mTru_ev, mNot_ev, List.cons_append, List.nil_append]
        rw [map_tab _ W[k] 0, rW.len]
        unfold scl tab tp
        rw [List.map_map]; rfl), RM.s_ok]
      rfl
    have hF : ∀ r ∈ FL.map Prod.fst, Rw p w r := fun r m => by
      obtain ⟨y, my, rfl⟩ := List.mem_map.mp m
      exact (E.fw y my).1
    have s5 : fSet 3 (lft (g2 fAdd (gLc [11] (gIt (vN 3)) (kName 11) gYes (gFn F_cleared (aCons (vN 0) (aCons (vN 11) (aCons (vN 7) (aCons (vN 5) aNil)))))) (gLst (aCons (gPur (vN 7)) aNil)))) [.v (I p), x, .v (lss (W.eraseIdx k)), .v (lss (FL.map Prod.fst)), .v (I w), .v (I j), .v (ls ((k : Int) :: t)), .v (tp (scl p w W[k] s)), .v (I s), .n, .n, .n] = .nx [.v (I p), x, .v (lss (W.eraseIdx k)), .v (lss ((FL.map Prod.fst).map (fun r => clr p w r (scl p w W[k] s) j) ++ [scl p w W[k] s])), .v (I w), .v (I j), .v (ls ((k : Int) :: t)), .v (tp (scl p w W[k] s)), .v (I s), .n, .n, .n] := by
      have e := clrs_ok hp (i := 3) (en := [.v (I p), x, .v (lss (W.eraseIdx k)), .v (lss (FL.map Prod.fst)), .v (I w), .v (I j), .v (ls ((k : Int) :: t)), .v (tp (scl p w W[k] s)), .v (I s), .n, .n, .n]) (L := FL.map Prod.fst) rfl rfl rfl rfl rfl hF R0 hj hw (by rw [List.length_map]; omega)
      have e2 := fAdd_l (as := ((FL.map Prod.fst).map fun r => clr p w r (scl p w W[k] s) j).map rowD) (bs := [rowD (scl p w W[k] s)]) (by rw [List.length_map, List.length_map, List.length_map]; show _ + 1 ≤ 16777216; omega)
      rw [fSet_ev, lft_n (x := lss ((FL.map Prod.fst).map (fun r => clr p w r (scl p w W[k] s) j) ++ [scl p w W[k] s])) (by
        rw [g2_ev, e, R.bind_ok]
        have e3 : gLst (aCons (gPur (vN 7)) aNil) [.v (I p), x, .v (lss (W.eraseIdx k)), .v (lss (FL.map Prod.fst)), .v (I w), .v (I j), .v (ls ((k : Int) :: t)), .v (tp (scl p w W[k] s)), .v (I s), .n, .n, .n] = .ok (.l ([rowD (scl p w W[k] s)].map T.d)) := rfl
        rw [e3, R.bind_ok, e2, R.of_some]
        unfold lss
        simp only [List.map_append]; rfl), RM.s_ok]
      rfl
    have s6 : fSet 2 (lft (gLc [11] (gIt (vN 2)) (kName 11) gYes (gFn F_cleared (aCons (vN 0) (aCons (vN 11) (aCons (vN 7) (aCons (vN 5) aNil))))))) [.v (I p), x, .v (lss (W.eraseIdx k)), .v (lss ((FL.map Prod.fst).map (fun r => clr p w r (scl p w W[k] s) j) ++ [scl p w W[k] s])), .v (I w), .v (I j), .v (ls ((k : Int) :: t)), .v (tp (scl p w W[k] s)), .v (I s), .n, .n, .n] = .nx [.v (I p), x, .v (lss ((W.eraseIdx k).map fun r => clr p w r (scl p w W[k] s) j)), .v (lss ((FL.map Prod.fst).map (fun r => clr p w r (scl p w W[k] s) j) ++ [scl p w W[k] s])), .v (I w), .v (I j), .v (ls ((k : Int) :: t)), .v (tp (scl p w W[k] s)), .v (I s), .n, .n, .n] := by
      have e := clrs_ok hp (i := 2) (en := [.v (I p), x, .v (lss (W.eraseIdx k)), .v (lss ((FL.map Prod.fst).map (fun r => clr p w r (scl p w W[k] s) j) ++ [scl p w W[k] s])), .v (I w), .v (I j), .v (ls ((k : Int) :: t)), .v (tp (scl p w W[k] s)), .v (I s), .n, .n, .n]) (L := W.eraseIdx k) rfl rfl rfl rfl rfl (fun r m => E.ww r (List.mem_of_mem_eraseIdx m)) R0 hj hw (by rw [List.length_eraseIdx_of_lt hk]; omega)
      rw [fSet_ev, lft_n e, RM.s_ok]
      rfl
    refine ⟨(W.eraseIdx k).map fun r => clr p w r (scl p w W[k] s) j, FL.map (fun x => (clr p w x.1 (scl p w W[k] s) j, x.2)) ++ [(scl p w W[k] s, j)], .v (ls ((k : Int) :: t)), .v (tp (scl p w W[k] s)), .v (I s), .v, .v, .v, ?_, E.step hp hj hk i3, ?_⟩
    · rw [List.length_map, List.length_eraseIdx_of_lt hk, List.length_append, List.length_map]; show _ + (_ + 1) < _; omega
    · rw [fSeq_ev, s2, sq_nx, fSeq_ev, s3, sq_nx, fSeq_ev, s4, sq_nx, fSeq_ev, s5, sq_nx, s6]
      rw [List.map_append, List.map_map, List.map_map]; rfl
theorem echelon_ok {p : Int} (hp : Pr p) {w : Nat} {rows : List (List Int)} (hr : ∀ r ∈ rows, Rw p w r) (hw : w < 1000) (hn : rows.length < 1000) : ∀ y, y = tps rows ∨ y = lss rows → ∃ FL, F_echelon [I p, y] = .ok (tps (FL.map Prod.fst)) ∧ Ech p w rows FL ∧ FL.length < 1000000 := by
  intro y hy
  by_cases hz : rows = []
  · subst hz
    exact ⟨[], by rcases hy with rfl | rfl <;> rfl, ⟨fun x m => absurd m List.not_mem_nil, .nil, fun x m => absurd m List.not_mem_nil, fun x m => absurd m List.not_mem_nil, fun c => ⟨fun _ x m => absurd m List.not_mem_nil, fun _ x m => absurd m List.not_mem_nil⟩⟩, by decide⟩
  have h0 : 0 < rows.length := List.length_pos_iff.mpr hz
  have hw0 : (rows.getD 0 []).length = w := by rw [gd h0]; exact (hr _ (List.getElem_mem h0)).len
  have ix : fIx y (.d (.int 0)) = some (tp (rows.getD 0 [])) := by
    rcases hy with rfl | rfl
    · exact fIx_tps 0 rfl h0
    · exact fIx_lss 0 rfl h0
  have ed : dataOf y = some (rows.map rowD) := by
    rcases hy with rfl | rfl
    · rfl
    · rw [dataOf_l, allD_map]
  have ht : tru y = some true := by
    cases rows with
    | nil => exact absurd rfl hz
    | cons _ _ => rcases hy with rfl | rfl <;> rfl
  obtain ⟨en', h1, FL, W, o5, o6, o7, o8, h5, h6, h7, h8, hl, E, rfl⟩ := for_pre (k := kName 5) (mi := lft (gR1 (vN 4))) (f := ebody) (h := fun (i : Nat) => T.d (.int (i : Int))) (fun pre en => ∃ FL W o5 o6 o7 o8, NB o5 ∧ NB o6 ∧ NB o7 ∧ NB o8 ∧ W.length + FL.length < 1000000 ∧ EI p w rows W FL pre.length ∧ en = [.v (I p), mkS y, .v (lss W), .v (lss (FL.map Prod.fst)), .v (I w), o5, o6, o7, o8, .n, .n, .n]) (List.range w) [.v (I p), mkS y, .v (lss rows), .v (lss []), .v (I w), .n, .n, .n, .n, .n, .n, .n] (lft_n (gR1_of rfl (by omega))) ⟨[], rows, .n, .n, .n, .n, .n, .n, .n, .n, by simp; omega, .start hr, rfl⟩ (fun pre j s en e q => by
    obtain ⟨FL, W, o5, o6, o7, o8, h5, h6, h7, h8, hl, E, rfl⟩ := q
    have hj : j = pre.length ∧ pre.length < w := by
      have e1 : (List.range w)[pre.length]? = some j := by rw [e]; simp
      obtain ⟨a, b⟩ := List.getElem?_eq_some_iff.mp e1
      rw [List.getElem_range] at b
      rw [List.length_range] at a
      exact ⟨b.symm, a⟩
    rw [← hj.1] at E
    obtain ⟨W', FL', o6', o7', o8', n6, n7, n8, hl', E', e9⟩ := ebody_ok hp E (by omega) hw hl (x := mkS y) h6 h7 h8
    refine ⟨_, [.v (I p), mkS y, .v (lss W), .v (lss (FL.map Prod.fst)), .v (I w), .v (I j), o6, o7, o8, .n, .n, .n], _, rfl, by simp [h5.s], .inl e9, FL', W', .v (I j), o6', o7', o8', .v, n6, n7, n8, hl', ?_, rfl⟩
    rw [List.length_append, ← hj.1]; exact E')
  rw [List.length_range] at E
  refine ⟨FL, ?_, E.last, by omega⟩
  refine runP_ret rfl ?_
  show ∃ e, d_echelon [.v (I p), mkS y, .n, .n, .n, .n, .n, .n, .n, .n, .n, .n] = _
  unfold d_echelon
  refine ret_seq (en1 := [.v (I p), mkS y, .v (lss rows), .n, .n, .n, .n, .n, .n, .n, .n, .n]) (by rw [fSet_ev, lft_n (x := lss rows) (by simp only [gPur_ev, gAndV_ev, gOrV_ev, gNotV_ev, gIsi_ev, gAnd_ev, gOr_ev, gNot_ev, gTru_ev, gT_ev, g2_ev, g1_ev, gIf_ev, gCall_ev, gFn_ev, gTup_ev, gLst_ev, gSl_ev, gCh_ev, gYes_ev, oN_ev, oS_ev, asI_ev, aCons_ev, aNil_ev, vN_ev, kI_ev, kB_ev, kS_ev, kD'_ev, at_succ, at_zero, get_v, get_w, get_b, get_n, Z.R.of_some, Z.R.bind_ok, Z.R.pur_d, fAdd_i, fSub_i, fNeg_i, fLt_i, fLe_i, fGt_i, fGe_i, fEq_i, fNe_i, fInt_i, fInt_b, fAbs_i, fMin2_i, fMax2_i, fLen_l, fLen_t, fLen_r, tst_b, tru_b, tru_i, tru_t, tru_l, tru_r, tru_n, List.length_map, wipeE_cons, wipeE_nil, List.set_cons_succ, List.set_cons_zero, setE_cons, setE_nil, mkS_d, mkS_l, mkTup_nil, mkTup_ev, mkLst_ev, allD_cons, allD_nil, allD_map, Option.map_some, Option.bind_some, if_true, Bool.false_eq_true, if_false, ite_true, ite_false, Bool.not_true, Bool.not_false, decide_true, decide_false, isInt_i, isInt_b, isInt_t, isBl_i, isBl_b, isBl_t, fTuple_ev, fList_ev, dataOf_t, dataOf_l, dataOf_r, lft_ev, Z.RM.of_ok, Z.RM.bind_ok, mCons_ev, mNil_ev, m2_ev, mOf_ev, mT_ev, mTru_ev, mNot_ev, List.cons_append, List.nil_append, mkS_get, ed]), RM.s_ok]; rfl) ?_
  refine ret_seq (en1 := [.v (I p), mkS y, .v (lss rows), .v (lss []), .n, .n, .n, .n, .n, .n, .n, .n]) rfl ?_
  refine ret_seq (en1 := [.v (I p), mkS y, .v (lss rows), .v (lss []), .v (I w), .n, .n, .n, .n, .n, .n, .n]) ?_ ?_
  · rw [fSet_ev, lft_n (x := I w) (by simp only [gPur_ev, gAndV_ev, gOrV_ev, gNotV_ev, gIsi_ev, gAnd_ev, gOr_ev, gNot_ev, gTru_ev, gT_ev, g2_ev, g1_ev, gIf_ev, gCall_ev, gFn_ev, gTup_ev, gLst_ev, gSl_ev, gCh_ev, gYes_ev, oN_ev, oS_ev, asI_ev, aCons_ev, aNil_ev, vN_ev, kI_ev, kB_ev, kS_ev, kD'_ev, at_succ, at_zero, get_v, get_w, get_b, get_n, Z.R.of_some, Z.R.bind_ok, Z.R.pur_d, fAdd_i, fSub_i, fNeg_i, fLt_i, fLe_i, fGt_i, fGe_i, fEq_i, fNe_i, fInt_i, fInt_b, fAbs_i, fMin2_i, fMax2_i, fLen_l, fLen_t, fLen_r, tst_b, tru_b, tru_i, tru_t, tru_l, tru_r, tru_n, List.length_map, wipeE_cons, wipeE_nil, List.set_cons_succ, List.set_cons_zero, setE_cons, setE_nil, mkS_d, mkS_l, mkTup_nil, mkTup_ev, mkLst_ev, allD_cons, allD_nil, allD_map, Option.map_some, Option.bind_some, if_true, Bool.false_eq_true, if_false, ite_true, ite_false, Bool.not_true, Bool.not_false, decide_true, decide_false, isInt_i, isInt_b, isInt_t, isBl_i, isBl_b, isBl_t, fTuple_ev, fList_ev, dataOf_t, dataOf_l, dataOf_r, lft_ev, Z.RM.of_ok, Z.RM.bind_ok, mCons_ev, mNil_ev, m2_ev, mOf_ev, mT_ev, mTru_ev, mNot_ev, List.cons_append, List.nil_append, mkS_get, ht, ix, hw0]), RM.s_ok]; rfl
  refine ret_seq h1 ?_
  refine ret_lft ?_
  simp only [gPur_ev, gAndV_ev, gOrV_ev, gNotV_ev, gIsi_ev, gAnd_ev, gOr_ev, gNot_ev, gTru_ev, gT_ev, g2_ev, g1_ev, gIf_ev, gCall_ev, gFn_ev, gTup_ev, gLst_ev, gSl_ev, gCh_ev, gYes_ev, oN_ev, oS_ev, asI_ev, aCons_ev, aNil_ev, vN_ev, kI_ev, kB_ev, kS_ev, kD'_ev, at_succ, at_zero, get_v, get_w, get_b, get_n, Z.R.of_some, Z.R.bind_ok, Z.R.pur_d, fAdd_i, fSub_i, fNeg_i, fLt_i, fLe_i, fGt_i, fGe_i, fEq_i, fNe_i, fInt_i, fInt_b, fAbs_i, fMin2_i, fMax2_i, fLen_l, fLen_t, fLen_r, tst_b, tru_b, tru_i, tru_t, tru_l, tru_r, tru_n, List.length_map, wipeE_cons, wipeE_nil, List.set_cons_succ, List.set_cons_zero, setE_cons, setE_nil, mkS_d, mkS_l, mkTup_nil, mkTup_ev, mkLst_ev, allD_cons, allD_nil, allD_map, Option.map_some, Option.bind_some, if_true, Bool.false_eq_true, if_false, ite_true, ite_false, Bool.not_true, Bool.not_false, decide_true, decide_false, isInt_i, isInt_b, isInt_t, isBl_i, isBl_b, isBl_t, fTuple_ev, fList_ev, dataOf_t, dataOf_l, dataOf_r, lft_ev, Z.RM.of_ok, Z.RM.bind_ok, mCons_ev, mNil_ev, m2_ev, mOf_ev, mT_ev, mTru_ev, mNot_ev, List.cons_append, List.nil_append]
end K02
namespace K02
open PySem PySem.Spec L2 Z
open PyProof.Rows hiding St
/-! units, marked rows -/
def uni (n k : Nat) : List Int := zer k ++ [1] ++ zer (n - k - 1)
theorem uni_Rw {p : Int} (hp : Pr p) {n k : Nat} (hk : k < n) : Rw p n (uni n k) := by
  have := ((zer_Rw hp.pos k).app (n := 1) (b := [1]) ⟨rfl, fun a m => by rw [List.mem_singleton.mp m]; exact (rg01 hp).2⟩).app (zer_Rw hp.pos (n - k - 1))
  rwa [show k + 1 + (n - k - 1) = n by omega] at this
theorem uni_gd {n k i : Nat} : (uni n k).getD i 0 = if i = k then 1 else 0 := by
  unfold uni
  by_cases h : i < k
  · rw [List.append_assoc, gd_app_l (by rw [zer_len]; exact h), zer_gd, if_neg (by omega)]
  · by_cases e : i = k
    · subst e
      have := gd_app_r (a := zer i) (b := [1] ++ zer (n - i - 1)) (k := 0)
      rw [zer_len, Nat.add_zero] at this
      rw [List.append_assoc, this, if_pos rfl]; rfl
    · rw [if_neg e]
      have := gd_app_r (a := zer k ++ [1]) (b := zer (n - k - 1)) (k := i - k - 1)
      rw [List.length_append, zer_len, zer_gd] at this
      rwa [show k + ([1] : List Int).length + (i - k - 1) = i from by show k + 1 + (i - k - 1) = i; omega] at this
theorem unit_ok {n k : Nat} (hk : k < n) (hn : n ≤ 1000) : F_unit [I n, I k] = .ok (tp (uni n k)) := by
  refine runP_ret rfl ?_
  show ∃ e, d_unit [.v (I n), .v (I k)] = _
  unfold d_unit
  refine ret_lft ?_
  have z1 := zerosT_ok (k := k) (z := k) rfl (by omega)
  have z2 := zerosT_ok (k := n - k - 1) (z := (n : Int) - k - 1) (by omega) (by omega)
  have l1 : ([D.int 0] : List D).length ≤ most := by decide
  have a1 := fAdd_tp (a := zer k) (b := [1]) (by rw [zer_len]; show _ + 1 ≤ _; omega)
  have a2 := fAdd_tp (a := zer k ++ [1]) (b := zer (n - k - 1)) (by rw [List.length_append, zer_len, zer_len]; show _ + 1 + _ ≤ _; omega)
  have l2 : ([D.int 1] : List D).length ≤ most := by decide
  rw [show tp [1] = .d (.tup [.int 1]) from rfl] at a1
  simp only [gPur_ev, gAndV_ev, gOrV_ev, gNotV_ev, gIsi_ev, gAnd_ev, gOr_ev, gNot_ev, gTru_ev, gT_ev, g2_ev, g1_ev, gIf_ev, gCall_ev, gFn_ev, gTup_ev, gLst_ev, gSl_ev, gCh_ev, gYes_ev, oN_ev, oS_ev, asI_ev, aCons_ev, aNil_ev, vN_ev, kI_ev, kB_ev, kS_ev, kD'_ev, at_succ, at_zero, get_v, get_w, get_b, get_n, Z.R.of_some, Z.R.bind_ok, Z.R.pur_d, fAdd_i, fSub_i, fNeg_i, fLt_i, fLe_i, fGt_i, fGe_i, fEq_i, fNe_i, fInt_i, fInt_b, fAbs_i, fMin2_i, fMax2_i, fLen_l, fLen_t, fLen_r, tst_b, tru_b, tru_i, tru_t, tru_l, tru_r, tru_n, List.length_map, wipeE_cons, wipeE_nil, List.set_cons_succ, List.set_cons_zero, setE_cons, setE_nil, mkS_d, mkS_l, mkTup_nil, mkTup_ev, mkLst_ev, allD_cons, allD_nil, allD_map, Option.map_some, Option.bind_some, if_true, Bool.false_eq_true, if_false, ite_true, ite_false, Bool.not_true, Bool.not_false, decide_true, decide_false, isInt_i, isInt_b, isInt_t, isBl_i, isBl_b, isBl_t, fTuple_ev, fList_ev, dataOf_t, dataOf_l, dataOf_r, lft_ev, Z.RM.of_ok, Z.RM.bind_ok, mCons_ev, mNil_ev, m2_ev, mOf_ev, mT_ev, mTru_ev, mNot_ev, List.cons_append, List.nil_append, if_pos l1, if_pos l2, z1, z2, a1, a2]
  rfl
def mk (n : Nat) (x : List Int × Nat) : List Int := x.1 ++ uni n x.2
def mks (rows : List (List Int)) : List (List Int) := rows.zipIdx.map (mk rows.length)
theorem mks_Rw {p : Int} (hp : Pr p) {w : Nat} {rows : List (List Int)} (hr : ∀ r ∈ rows, Rw p w r) : ∀ r ∈ mks rows, Rw p (w + rows.length) r := fun r m => by
  obtain ⟨x, mx, rfl⟩ := List.mem_map.mp m
  have := List.mem_zipIdx_iff_getElem?.mp mx
  exact (hr _ (List.mem_of_getElem? this)).app (uni_Rw hp (List.getElem?_eq_some_iff.mp this).1)
theorem mks_len (rows : List (List Int)) : (mks rows).length = rows.length := by unfold mks; rw [List.length_map, List.length_zipIdx]
theorem mks_all {rows : List (List Int)} {P : List Int → Prop} : (∀ r ∈ mks rows, P r) ↔ ∀ i, i < rows.length → P (rows.getD i [] ++ uni rows.length i) := by
  constructor
  · intro a i hi
    refine a _ (List.mem_map.mpr ⟨(rows.getD i [], i), List.mk_mem_zipIdx_iff_getElem?.mpr ?_, rfl⟩)
    rw [gd hi]; exact List.getElem?_eq_getElem hi
  · intro a r m
    obtain ⟨x, mx, rfl⟩ := List.mem_map.mp m
    have := List.mem_zipIdx_iff_getElem?.mp mx
    obtain ⟨hi, e⟩ := List.getElem?_eq_some_iff.mp this
    have := a x.2 hi
    rw [gd hi, e] at this
    exact this
theorem dt_app {p : Int} {w n : Nat} {a b : List Int} (ha : a.length = w) (c : Nat → M p) : dt p (w + n) (a ++ b) c = dt p w a c + dt p n b fun k => c (w + k) := by
  unfold dt
  rw [sm_app]
  congr 1
  · exact sm_congr fun k hk => by unfold cq; rw [gd_app_l (by omega)]
  · exact sm_congr fun k hk => by unfold cq; rw [← ha, gd_app_r]
theorem dt_zer {p : Int} {n k : Nat} {c : Nat → M p} : dt p n (zer k) c = 0 := sm_zero fun i _ => by unfold cq; rw [zer_gd, q_zero]; grind
theorem dt_uni {p : Int} {n k : Nat} (hk : k < n) {c : Nat → M p} : dt p n (uni n k) c = c k := by
  unfold dt
  rw [sm_one hk fun i _ hne => by unfold cq; rw [uni_gd, if_neg hne, q_zero]; grind]
  unfold cq; rw [uni_gd, if_pos rfl, q_one]; grind
/-! the steps -/
theorem ld_FL {p : Int} {w : Nat} {rows : List (List Int)} {FL : List (List Int × Nat)} (E : Ech p w rows FL) {x : List Int × Nat} (m : x ∈ FL) : ld x.1 = (x.2 : Int) := by
  refine ld_some (by rw [(E.fw x m).1.len]; exact (E.fw x m).2) (E.lo x m) ?_
  rw [E.un x m x m, if_pos rfl]; decide
def stp (w : Nat) (FL : List (List Int × Nat)) : List (List Int × Nat) := FL.filter fun x => decide (x.2 < w)
theorem stp_mem {w : Nat} {FL : List (List Int × Nat)} {x : List Int × Nat} : x ∈ stp w FL ↔ x ∈ FL ∧ x.2 < w := by
  unfold stp; rw [List.mem_filter, decide_eq_true_iff]
/-- a combination's weights; its column -/
structure Wt (p : Int) (w : Nat) (rows : List (List Int)) (v wts : List Int) : Prop where
  rw : Rw p rows.length wts
  eq : ∀ k, k < w → cq p v k = sm rows.length fun i => cq p wts i * cq p (rows.getD i []) k
structure Cl (p : Int) (w : Nat) (rows : List (List Int)) (v col : List Int) : Prop where
  rw : Rw p w col
  zr : ∀ i, i < rows.length → dt p w (rows.getD i []) (cq p col) = 0
  on : dt p w v (cq p col) = 1
abbrev WS : D := .str (Str.ofString "weights")
abbrev CS : D := .str (Str.ofString "column")
/-- what is left of v -/
structure Rst (p : Int) (w n : Nat) (v : List Int) (FL : List (List Int × Nat)) (rest : List Int) : Prop where
  rw : Rw p (w + n) rest
  fn : ∀ c, (∀ x ∈ FL, dt p (w + n) x.1 c = 0) → dt p (w + n) rest c = dt p w v c
theorem Rst.wts {p : Int} (hp : Pr p) {w : Nat} {rows : List (List Int)} {v rest : List Int} {FL : List (List Int × Nat)} (hr : ∀ r ∈ rows, Rw p w r) (E : Ech p (w + rows.length) (mks rows) FL) (R : Rst p w rows.length v FL rest) (hz : ∀ i, i < w → rest.getD i 0 = 0) : Wt p w rows v (tab rows.length fun i => (-(rest.getD (w + i) 0)) % p) := by
  refine ⟨tab_Rw fun _ _ => Rg.mod hp.pos _, fun k hk => ?_⟩
  have h1 : ∀ i, i < rows.length → (rows.getD i []).length = w := fun i hi => by rw [gd hi]; exact (hr _ (List.getElem_mem hi)).len
  have hc := R.fn (fun j => if j < w then (if j = k then 1 else 0) else - cq p (rows.getD (j - w) []) k) ((E.ann _).mp (mks_all.mpr fun i hi => by
    rw [dt_app (h1 i hi), dt_uni hi, if_neg (by omega), Nat.add_sub_cancel_left]
    have : dt p w (rows.getD i []) (fun j => if j < w then (if j = k then (1 : M p) else 0) else - cq p (rows.getD (j - w) []) k) = cq p (rows.getD i []) k := by
      unfold dt
      rw [sm_one hk fun j hj hne => by dsimp only; rw [if_pos hj, if_neg hne]; grind]
      dsimp only; rw [if_pos hk, if_pos rfl]; grind
    rw [this]; grind))
  have e1 : dt p (w + rows.length) rest (fun j => if j < w then (if j = k then (1 : M p) else 0) else - cq p (rows.getD (j - w) []) k) = sm rows.length fun i => cq p (tab rows.length fun i => (-(rest.getD (w + i) 0)) % p) i * cq p (rows.getD i []) k := by
    unfold dt
    rw [sm_app, sm_zero (n := w) fun j hj => by rw [cq_of (hz j hj), q_zero]; grind]
    have : (sm rows.length fun i => cq p (tab rows.length fun i => (-(rest.getD (w + i) 0)) % p) i * cq p (rows.getD i []) k) = sm rows.length fun j => cq p rest (w + j) * (if w + j < w then (if w + j = k then (1 : M p) else 0) else - cq p (rows.getD (w + j - w) []) k) := sm_congr fun i hi => by
      rw [if_neg (by omega), Nat.add_sub_cancel_left]
      unfold cq
      rw [tab_gd hi, q_mod, q_neg]; grind
    rw [this]; grind
  have e2 : dt p w v (fun j => if j < w then (if j = k then (1 : M p) else 0) else - cq p (rows.getD (j - w) []) k) = cq p v k := by
    unfold dt
    rw [sm_one hk fun j hj hne => by dsimp only; rw [if_pos hj, if_neg hne]; grind]
    dsimp only; rw [if_pos hk, if_pos rfl]; grind
  rw [e1, e2] at hc
  exact hc.symm
/-- a column that grows -/
structure Cg (p : Int) (w : Nat) (FL : List (List Int × Nat)) (rest : List Int) (l : Nat) (s : Int) (pre : List (List Int × Nat)) (col : Nat → Int) : Prop where
  rg : ∀ k, Rg p (col k)
  on : dt p w rest (fun k => q p (col k)) = 1
  dn : ∀ x ∈ pre, dt p w x.1 (fun k => q p (col k)) = 0
  td : ∀ suf, stp w FL = pre ++ suf → ∀ x ∈ suf, dt p w x.1 (fun k => q p (col k)) = cq p x.1 l * q p s
  zr : ∀ suf, stp w FL = pre ++ suf → ∀ x ∈ suf, col x.2 = 0
theorem dt_upd {p : Int} {w m : Nat} (hm : m < w) {r : List Int} {z : Int} {col : Nat → Int} : dt p w r (fun k => q p (if k = m then z else col k)) = dt p w r (fun k => q p (col k)) + cq p r m * (q p z - q p (col m)) := by
  unfold dt
  have : ∀ k, cq p r k * q p (if k = m then z else col k) = cq p r k * q p (col k) + (if k = m then cq p r m * (q p z - q p (col m)) else 0) := fun k => by
    by_cases e : k = m
    · subst e; rw [if_pos rfl, if_pos rfl]; grind
    · rw [if_neg e, if_neg e]; grind
  rw [sm_congr fun k _ => this k, sm_add]
  congr 1
  rw [sm_one hm fun k _ hne => by rw [if_neg hne], if_pos rfl]
theorem Cg.start {p : Int} (hp : Pr p) {w l : Nat} (hl : l < w) {s : Int} (hs : Rg p s) {FL : List (List Int × Nat)} {rest : List Int} (h1 : cq p rest l * q p s = 1) (hz : ∀ x ∈ stp w FL, rest.getD x.2 0 = 0) (hn : rest.getD l 0 ≠ 0) : Cg p w FL rest l s [] (fun k => if k = l then s else 0) := by
  have e : ∀ r, dt p w r (fun k => q p (if k = l then s else 0)) = cq p r l * q p s := fun r => by
    unfold dt
    rw [sm_one hl fun k _ hne => by dsimp only; rw [if_neg hne, q_zero]; grind]
    dsimp only; rw [if_pos rfl]
  refine ⟨fun k => ?_, by rw [e]; exact h1, fun x m => absurd m List.not_mem_nil, fun suf _ x _ => e x.1, fun suf h x m => ?_⟩
  · show Rg p (if k = l then s else 0)
    by_cases h : k = l
    · rw [if_pos h]; exact hs
    · rw [if_neg h]; exact (rg01 hp).1
  · show (if x.2 = l then s else 0) = 0
    rw [if_neg]
    intro e
    rw [List.nil_append] at h
    exact hn (by rw [← e]; exact hz x (by rw [h]; exact m))
theorem Cg.step {p : Int} (hp : Pr p) {w W2 l : Nat} {s : Int} {rows : List (List Int)} {FL : List (List Int × Nat)} {rest : List Int} (E : Ech p W2 rows FL) (hz : ∀ x ∈ stp w FL, rest.getD x.2 0 = 0) {pre suf : List (List Int × Nat)} {x : List Int × Nat} {col : Nat → Int} (C : Cg p w FL rest l s pre col) (hL : stp w FL = pre ++ x :: suf) : Cg p w FL rest l s (pre ++ [x]) (fun k => if k = x.2 then (-(x.1.getD l 0) * s) % p else col k) := by
  have mS : ∀ y, y ∈ pre ++ x :: suf → y ∈ FL ∧ y.2 < w := fun y m => stp_mem.mp (by rw [hL]; exact m)
  obtain ⟨mx, xw⟩ := mS x (List.mem_append_right _ (List.mem_cons_self ..))
  have up : (pre ++ x :: suf).Pairwise fun x y => x.2 < y.2 := by rw [← hL]; exact E.up.filter _
  rw [List.pairwise_append, List.pairwise_cons] at up
  have c0 : col x.2 = 0 := C.zr _ hL x (List.mem_cons_self ..)
  have oth : ∀ y, y ∈ pre ++ x :: suf → y.2 ≠ x.2 → cq p y.1 x.2 = 0 := fun y m h => by
    rw [cq_of (E.un y (mS y m).1 x mx), if_neg h, q_zero]
  have hq : q p ((-(x.1.getD l 0) * s) % p) = -(cq p x.1 l * q p s) := by rw [q_mod, q_mul, q_neg]; unfold cq; grind
  refine ⟨fun k => ?_, ?_, fun y m => ?_, fun suf2 h y m => ?_, fun suf2 h y m => ?_⟩
  · show Rg p (if k = x.2 then (-(x.1.getD l 0) * s) % p else col k)
    by_cases h : k = x.2
    · rw [if_pos h]; exact Rg.mod hp.pos _
    · rw [if_neg h]; exact C.rg k
  · rw [dt_upd xw, C.on, cq_of (hz x (stp_mem.mpr ⟨mx, xw⟩)), q_zero]; grind
  · rw [dt_upd xw, c0, q_zero, hq]
    rcases List.mem_append.mp m with m | m
    · rw [C.dn y m, oth y (List.mem_append_left _ m) (Nat.ne_of_lt (up.2.2 y m x (List.mem_cons_self ..)))]; grind
    · rw [List.mem_singleton.mp m, C.td _ hL x (List.mem_cons_self ..), cq_of (E.un x mx x mx), if_pos rfl, q_one]; grind
  · have e : suf2 = suf := by
      rw [hL, List.append_assoc] at h
      have := List.append_cancel_left h
      rw [List.singleton_append] at this
      injection this with _ this
      exact this.symm
    subst e
    have hy : y ∈ pre ++ x :: suf2 := List.mem_append_right _ (List.mem_cons_of_mem _ m)
    rw [dt_upd xw, C.td _ hL y (List.mem_cons_of_mem _ m), oth y hy (Nat.ne_of_gt (up.2.1.1 y m))]; grind
  · have e : suf2 = suf := by
      rw [hL, List.append_assoc] at h
      have := List.append_cancel_left h
      rw [List.singleton_append] at this
      injection this with _ this
      exact this.symm
    subst e
    show (if y.2 = x.2 then _ else col y.2) = 0
    rw [if_neg (Nat.ne_of_gt (up.2.1.1 y m))]
    exact C.zr _ hL y (List.mem_cons_of_mem _ m)
theorem Cg.last {p : Int} {w l : Nat} {s : Int} {rows : List (List Int)} {v rest : List Int} {FL : List (List Int × Nat)} (hr : ∀ r ∈ rows, Rw p w r) (E : Ech p (w + rows.length) (mks rows) FL) (R : Rst p w rows.length v FL rest) {col : Nat → Int} (C : Cg p w FL rest l s (stp w FL) col) : Cl p w rows v (tab w col) := by
  have ec : ∀ k, k < w → cq p (tab w col) k = q p (col k) := fun k hk => by unfold cq; rw [tab_gd hk]
  have h1 : ∀ i, i < rows.length → (rows.getD i []).length = w := fun i hi => by rw [gd hi]; exact (hr _ (List.getElem_mem hi)).len
  have ex : ∀ r, dt p (w + rows.length) r (fun k => if k < w then q p (col k) else 0) = dt p w r fun k => q p (col k) := fun r => by
    unfold dt
    rw [sm_app, sm_zero (n := rows.length) fun k _ => by dsimp only; rw [if_neg (by omega)]; grind]
    have : (sm w fun k => cq p r k * if k < w then q p (col k) else 0) = sm w fun k => cq p r k * q p (col k) := sm_congr fun k hk => by rw [if_pos hk]
    rw [this]; grind
  have hF : ∀ x ∈ FL, dt p (w + rows.length) x.1 (fun k => if k < w then q p (col k) else 0) = 0 := fun x m => by
    rw [ex]
    by_cases h : x.2 < w
    · exact C.dn x (stp_mem.mpr ⟨m, h⟩)
    · exact sm_zero fun k hk => by rw [cq_of (E.lo x m k (by omega)), q_zero]; grind
  refine ⟨tab_Rw fun k _ => C.rg k, fun i hi => ?_, ?_⟩
  · have := mks_all.mp ((E.ann _).mpr hF) i hi
    rw [dt_app (h1 i hi), dt_uni hi, if_neg (by omega)] at this
    rw [dt_congr (d := fun k => if k < w then q p (col k) else 0) fun k hk => by rw [ec k hk, if_pos hk]]
    grind
  · have := R.fn _ hF
    rw [ex, C.on] at this
    rw [dt_congr (d := fun k => if k < w then q p (col k) else 0) fun k hk => by rw [ec k hk, if_pos hk]]
    exact this.symm
end K02
namespace K02
open PySem PySem.Spec L2 Z
open PyProof.Rows hiding St
/-! combination, walked -/
theorem chain_le {x : Int} (h : x < 0) : decide (x < 0) = true := decide_eq_true h
def rbody : En → SR := (fSet 6 (lft (gFn F_cleared (aCons (vN 0) (aCons (vN 6) (aCons (vN 8) (aCons (gFn F_leading (aCons (vN 8) aNil)) aNil)))))))
def cbody : En → SR := (fStore 11 (gFn F_leading (aCons (vN 8) aNil)) (lft (g2 fMod (g2 fMul (g1 fNeg (g2 fIx (vN 8) (vN 9))) (vN 10)) (vN 0))))
abbrev fsts (L : List (List Int × Nat)) : List (List Int) := L.map Prod.fst
theorem items_fsts (L : List (List Int × Nat)) : items (lss (fsts L)) = some (L.map fun x => T.d (rowD x.1)) := by rw [items_lss, List.map_map]; rfl
/-- the first of its numbers that is not 0, of v -/
theorem combination_ok {p : Int} (hp : Pr p) {w : Nat} {rows : List (List Int)} {v : List Int} (hr : ∀ r ∈ rows, Rw p w r) (hv : Rw p w v) (hw : w < 100) (hn : rows.length < 100) : ∃ res, F_combination [I p, tps rows, tp v] = .ok (.d res) ∧ ((∃ wts, res = .tup [WS, rowD wts] ∧ Wt p w rows v wts) ∨ (∃ col, res = .tup [CS, rowD col] ∧ Cl p w rows v col)) := by
  obtain ⟨FL, hE, E, hFl⟩ := echelon_ok hp (rows := mks rows) (mks_Rw hp hr) (by omega : w + rows.length < 1000) (by rw [mks_len]; omega) (lss (mks rows)) (.inr rfl)
  have hFw : ∀ x ∈ FL, Rw p (w + rows.length) x.1 := fun x m => (E.fw x m).1
  generalize hnn : rows.length = n at *
  have s1 : fSet 3 (lft (gCall fLen (aCons (vN 1) aNil))) [.v (I p), .v (tps rows), .v (tp v), .n, .n, .n, .n, .n, .n, .n, .n, .n, .n, .n] = .nx [.v (I p), .v (tps rows), .v (tp v), .v (I n), .n, .n, .n, .n, .n, .n, .n, .n, .n, .n] := by
    rw [fSet_ev, lft_n (x := I n) (by simp only [gPur_ev, gAndV_ev, gOrV_ev, gNotV_ev, gIsi_ev, gAnd_ev, gOr_ev, gNot_ev, gTru_ev, gT_ev, g2_ev, g1_ev, gIf_ev, gCall_ev, gFn_ev, gTup_ev, gLst_ev, gSl_ev, gCh_ev, gYes_ev, oN_ev, oS_ev, asI_ev, aCons_ev, aNil_ev, vN_ev, kI_ev, kB_ev, kS_ev, kD'_ev, at_succ, at_zero, get_v, get_w, get_b, get_n, Z.R.of_some, Z.R.bind_ok, Z.R.pur_d, fAdd_i, fSub_i, fNeg_i, fLt_i, fLe_i, fGt_i, fGe_i, fEq_i, fNe_i, fInt_i, fInt_b, fAbs_i, fMin2_i, fMax2_i, fLen_l, fLen_t, fLen_r, tst_b, tru_b, tru_i, tru_t, tru_l, tru_r, tru_n, List.length_map, wipeE_cons, wipeE_nil, List.set_cons_succ, List.set_cons_zero, setE_cons, setE_nil, mkS_d, mkS_l, mkTup_nil, mkTup_ev, mkLst_ev, allD_cons, allD_nil, allD_map, Option.map_some, Option.bind_some, if_true, Bool.false_eq_true, if_false, ite_true, ite_false, Bool.not_true, Bool.not_false, decide_true, decide_false, isInt_i, isInt_b, isInt_t, isBl_i, isBl_b, isBl_t, fTuple_ev, fList_ev, dataOf_t, dataOf_l, dataOf_r, lft_ev, Z.RM.of_ok, Z.RM.bind_ok, mCons_ev, mNil_ev, m2_ev, mOf_ev, mT_ev, mTru_ev, mNot_ev, List.cons_append, List.nil_append, hnn]), RM.s_ok]; rfl
  have s2 : fSet 4 (lft (gLc [12, 8] (gEnum (vN 1)) (kTup 2 (kCons (kName 12) (kCons (kName 8) kNil))) gYes (g2 fAdd (gCall fTuple (aCons (vN 8) aNil)) (gFn F_unit (aCons (vN 3) (aCons (vN 12) aNil)))))) [.v (I p), .v (tps rows), .v (tp v), .v (I n), .n, .n, .n, .n, .n, .n, .n, .n, .n, .n] = .nx [.v (I p), .v (tps rows), .v (tp v), .v (I n), .v (lss (mks rows)), .n, .n, .n, .n, .n, .n, .n, .n, .n] := by
    have el := gLc_all (vs := [12, 8]) (gs := gEnum (vN 1)) (k := kTup 2 (kCons (kName 12) (kCons (kName 8) kNil))) (te := g2 fAdd (gCall fTuple (aCons (vN 8) aNil)) (gFn F_unit (aCons (vN 3) (aCons (vN 12) aNil)))) (en := [.v (I p), .v (tps rows), .v (tp v), .v (I n), .n, .n, .n, .n, .n, .n, .n, .n, .n, .n]) rows.zipIdx _ (fun x => rowD (mk n x)) (gEnum_of (x := tps rows) (xs := rows) (e := rowD) rfl rfl) (by rw [List.length_zipIdx]; omega) (fun x m => by
      have hi := (List.getElem?_eq_some_iff.mp (List.mem_zipIdx_iff_getElem?.mp m)).1
      rw [hnn] at hi
      have hx : Rw p w x.1 := hr _ (List.mem_of_getElem? (List.mem_zipIdx_iff_getElem?.mp m))
      have u := unit_ok hi (by omega)
      have a := fAdd_tp (a := x.1) (b := uni n x.2) (by rw [hx.len, (uni_Rw hp hi).len]; omega)
      refine ⟨[(12, I x.2), (8, tp x.1)], rfl, ?_⟩
      simp only [gPur_ev, gAndV_ev, gOrV_ev, gNotV_ev, gIsi_ev, gAnd_ev, gOr_ev, gNot_ev, gTru_ev, gT_ev, g2_ev, g1_ev, gIf_ev, gCall_ev, gFn_ev, gTup_ev, gLst_ev, gSl_ev, gCh_ev, gYes_ev, oN_ev, oS_ev, asI_ev, aCons_ev, aNil_ev, vN_ev, kI_ev, kB_ev, kS_ev, kD'_ev, at_succ, at_zero, get_v, get_w, get_b, get_n, Z.R.of_some, Z.R.bind_ok, Z.R.pur_d, fAdd_i, fSub_i, fNeg_i, fLt_i, fLe_i, fGt_i, fGe_i, fEq_i, fNe_i, fInt_i, fInt_b, fAbs_i, fMin2_i, fMax2_i, fLen_l, fLen_t, fLen_r, tst_b, tru_b, tru_i, tru_t, tru_l, tru_r, tru_n, List.length_map, wipeE_cons, wipeE_nil, List.set_cons_succ, List.set_cons_zero, setE_cons, setE_nil, mkS_d, mkS_l, mkTup_nil, mkTup_ev, mkLst_ev, allD_cons, allD_nil, allD_map, Option.map_some, Option.bind_some, if_true, Bool.false_eq_true, if_false, ite_true, ite_false, Bool.not_true, Bool.not_false, decide_true, decide_false, isInt_i, isInt_b, isInt_t, isBl_i, isBl_b, isBl_t, fTuple_ev, fList_ev, dataOf_t, dataOf_l, dataOf_r, lft_ev, Z.RM.of_ok, Z.RM.bind_ok, mCons_ev, mNil_ev, m2_ev, mOf_ev, mT_ev, mTru_ev, mNot_ev, List.cons_append, List.nil_append, u, a]
      rfl)
    rw [fSet_ev, lft_n el, RM.s_ok]
    have : (rows.zipIdx.map fun x => rowD (mk n x)) = (mks rows).map rowD := by
      unfold mks; rw [List.map_map, hnn]; rfl
    rw [this]; rfl
  have s3 : fSet 5 (lft (gCall fLen (aCons (vN 2) aNil))) [.v (I p), .v (tps rows), .v (tp v), .v (I n), .v (lss (mks rows)), .n, .n, .n, .n, .n, .n, .n, .n, .n] = .nx [.v (I p), .v (tps rows), .v (tp v), .v (I n), .v (lss (mks rows)), .v (I w), .n, .n, .n, .n, .n, .n, .n, .n] := by
    rw [fSet_ev, lft_n (x := I w) (by simp only [gPur_ev, gAndV_ev, gOrV_ev, gNotV_ev, gIsi_ev, gAnd_ev, gOr_ev, gNot_ev, gTru_ev, gT_ev, g2_ev, g1_ev, gIf_ev, gCall_ev, gFn_ev, gTup_ev, gLst_ev, gSl_ev, gCh_ev, gYes_ev, oN_ev, oS_ev, asI_ev, aCons_ev, aNil_ev, vN_ev, kI_ev, kB_ev, kS_ev, kD'_ev, at_succ, at_zero, get_v, get_w, get_b, get_n, Z.R.of_some, Z.R.bind_ok, Z.R.pur_d, fAdd_i, fSub_i, fNeg_i, fLt_i, fLe_i, fGt_i, fGe_i, fEq_i, fNe_i, fInt_i, fInt_b, fAbs_i, fMin2_i, fMax2_i, fLen_l, fLen_t, fLen_r, tst_b, tru_b, tru_i, tru_t, tru_l, tru_r, tru_n, List.length_map, wipeE_cons, wipeE_nil, List.set_cons_succ, List.set_cons_zero, setE_cons, setE_nil, mkS_d, mkS_l, mkTup_nil, mkTup_ev, mkLst_ev, allD_cons, allD_nil, allD_map, Option.map_some, Option.bind_some, if_true, Bool.false_eq_true, if_false, ite_true, ite_false, Bool.not_true, Bool.not_false, decide_true, decide_false, isInt_i, isInt_b, isInt_t, isBl_i, isBl_b, isBl_t, fTuple_ev, fList_ev, dataOf_t, dataOf_l, dataOf_r, lft_ev, Z.RM.of_ok, Z.RM.bind_ok, mCons_ev, mNil_ev, m2_ev, mOf_ev, mT_ev, mTru_ev, mNot_ev, List.cons_append, List.nil_append, hv.len]), RM.s_ok]; rfl
  have s4 : fSet 6 (lft (g2 fAdd (gCall fTuple (aCons (vN 2) aNil)) (g2 fMulT (gTup (aCons (kI 0) aNil)) (vN 3)))) [.v (I p), .v (tps rows), .v (tp v), .v (I n), .v (lss (mks rows)), .v (I w), .n, .n, .n, .n, .n, .n, .n, .n] = .nx [.v (I p), .v (tps rows), .v (tp v), .v (I n), .v (lss (mks rows)), .v (I w), .v (tp (v ++ zer n)), .n, .n, .n, .n, .n, .n, .n] := by
    have z1 := zerosT_ok (k := n) (z := n) rfl (by omega)
    have l1 : ([D.int 0] : List D).length ≤ most := by decide
    have a1 := fAdd_tp (a := v) (b := zer n) (by rw [zer_len, hv.len]; omega)
    rw [fSet_ev, lft_n (x := tp (v ++ zer n)) (by simp only [gPur_ev, gAndV_ev, gOrV_ev, gNotV_ev, gIsi_ev, gAnd_ev, gOr_ev, gNot_ev, gTru_ev, gT_ev, g2_ev, g1_ev, gIf_ev, gCall_ev, gFn_ev, gTup_ev, gLst_ev, gSl_ev, gCh_ev, gYes_ev, oN_ev, oS_ev, asI_ev, aCons_ev, aNil_ev, vN_ev, kI_ev, kB_ev, kS_ev, kD'_ev, at_succ, at_zero, get_v, get_w, get_b, get_n, Z.R.of_some, Z.R.bind_ok, Z.R.pur_d, fAdd_i, fSub_i, fNeg_i, fLt_i, fLe_i, fGt_i, fGe_i, fEq_i, fNe_i, fInt_i, fInt_b, fAbs_i, fMin2_i, fMax2_i, fLen_l, fLen_t, fLen_r, tst_b, tru_b, tru_i, tru_t, tru_l, tru_r, tru_n, List.length_map, wipeE_cons, wipeE_nil, List.set_cons_succ, List.set_cons_zero, setE_cons, setE_nil, mkS_d, mkS_l, mkTup_nil, mkTup_ev, mkLst_ev, allD_cons, allD_nil, allD_map, Option.map_some, Option.bind_some, if_true, Bool.false_eq_true, if_false, ite_true, ite_false, Bool.not_true, Bool.not_false, decide_true, decide_false, isInt_i, isInt_b, isInt_t, isBl_i, isBl_b, isBl_t, fTuple_ev, fList_ev, dataOf_t, dataOf_l, dataOf_r, lft_ev, Z.RM.of_ok, Z.RM.bind_ok, mCons_ev, mNil_ev, m2_ev, mOf_ev, mT_ev, mTru_ev, mNot_ev, List.cons_append, List.nil_append, if_pos l1, z1, a1]), RM.s_ok]; rfl
  have s5 : fSet 7 (lft (gLc [8] (gIt (gFn F_echelon (aCons (vN 0) (aCons (vN 4) aNil)))) (kName 8) (gT (g2 fLt (gFn F_leading (aCons (vN 8) aNil)) (vN 5))) (gPur (vN 8)))) [.v (I p), .v (tps rows), .v (tp v), .v (I n), .v (lss (mks rows)), .v (I w), .v (tp (v ++ zer n)), .n, .n, .n, .n, .n, .n, .n] = .nx [.v (I p), .v (tps rows), .v (tp v), .v (I n), .v (lss (mks rows)), .v (I w), .v (tp (v ++ zer n)), .v (lss (fsts (stp w FL))), .n, .n, .n, .n, .n, .n] := by
    have eE : gIt (gFn F_echelon (aCons (vN 0) (aCons (vN 4) aNil))) [.v (I p), .v (tps rows), .v (tp v), .v (I n), .v (lss (mks rows)), .v (I w), .v (tp (v ++ zer n)), .n, .n, .n, .n, .n, .n, .n] = .ok (FL.map fun x => T.d (rowD x.1)) := by
      rw [gIt_ev, gFn_ev, aCons_ev, aCons_ev, aNil_ev]
      simp only [gPur_ev, gAndV_ev, gOrV_ev, gNotV_ev, gIsi_ev, gAnd_ev, gOr_ev, gNot_ev, gTru_ev, gT_ev, g2_ev, g1_ev, gIf_ev, gCall_ev, gFn_ev, gTup_ev, gLst_ev, gSl_ev, gCh_ev, gYes_ev, oN_ev, oS_ev, asI_ev, aCons_ev, aNil_ev, vN_ev, kI_ev, kB_ev, kS_ev, kD'_ev, at_succ, at_zero, get_v, get_w, get_b, get_n, Z.R.of_some, Z.R.bind_ok, Z.R.pur_d, fAdd_i, fSub_i, fNeg_i, fLt_i, fLe_i, fGt_i, fGe_i, fEq_i, fNe_i, fInt_i, fInt_b, fAbs_i, fMin2_i, fMax2_i, fLen_l, fLen_t, fLen_r, tst_b, tru_b, tru_i, tru_t, tru_l, tru_r, tru_n, List.length_map, wipeE_cons, wipeE_nil, List.set_cons_succ, List.set_cons_zero, setE_cons, setE_nil, mkS_d, mkS_l, mkTup_nil, mkTup_ev, mkLst_ev, allD_cons, allD_nil, allD_map, Option.map_some, Option.bind_some, if_true, Bool.false_eq_true, if_false, ite_true, ite_false, Bool.not_true, Bool.not_false, decide_true, decide_false, isInt_i, isInt_b, isInt_t, isBl_i, isBl_b, isBl_t, fTuple_ev, fList_ev, dataOf_t, dataOf_l, dataOf_r, lft_ev, Z.RM.of_ok, Z.RM.bind_ok, mCons_ev, mNil_ev, m2_ev, mOf_ev, mT_ev, mTru_ev, mNot_ev, List.cons_append, List.nil_append, hE, items_tps]
      rw [List.map_map]; rfl
    have el := gLc_if (vs := [8]) (k := kName 8) (tt := gT (g2 fLt (gFn F_leading (aCons (vN 8) aNil)) (vN 5))) (te := gPur (vN 8)) FL _ (fun x => rowD x.1) (fun x => decide (x.2 < w)) eE (by omega) (fun x m => by
      have e1 := leading_ok x.1
      rw [ld_FL E m] at e1
      refine ⟨_, rfl, ?_, fun _ => ?_⟩
      · simp only [gPur_ev, gAndV_ev, gOrV_ev, gNotV_ev, gIsi_ev, gAnd_ev, gOr_ev, gNot_ev, gTru_ev, gT_ev, g2_ev, g1_ev, gIf_ev, gCall_ev, gFn_ev, gTup_ev, gLst_ev, gSl_ev, gCh_ev, gYes_ev, oN_ev, oS_ev, asI_ev, aCons_ev, aNil_ev, vN_ev, kI_ev, kB_ev, kS_ev, kD'_ev, at_succ, at_zero, get_v, get_w, get_b, get_n, Z.R.of_some, Z.R.bind_ok, Z.R.pur_d, fAdd_i, fSub_i, fNeg_i, fLt_i, fLe_i, fGt_i, fGe_i, fEq_i, fNe_i, fInt_i, fInt_b, fAbs_i, fMin2_i, fMax2_i, fLen_l, fLen_t, fLen_r, tst_b, tru_b, tru_i, tru_t, tru_l, tru_r, tru_n, List.length_map, wipeE_cons, wipeE_nil, List.set_cons_succ, List.set_cons_zero, setE_cons, setE_nil, mkS_d, mkS_l, mkTup_nil, mkTup_ev, mkLst_ev, allD_cons, allD_nil, allD_map, Option.map_some, Option.bind_some, if_true, Bool.false_eq_true, if_false, ite_true, ite_false, Bool.not_true, Bool.not_false, decide_true, decide_false, isInt_i, isInt_b, isInt_t, isBl_i, isBl_b, isBl_t, fTuple_ev, fList_ev, dataOf_t, dataOf_l, dataOf_r, lft_ev, Z.RM.of_ok, Z.RM.bind_ok, mCons_ev, mNil_ev, m2_ev, mOf_ev, mT_ev, mTru_ev, mNot_ev, List.cons_append, List.nil_append, e1, Int.ofNat_lt]
      · simp only [gPur_ev, gAndV_ev, gOrV_ev, gNotV_ev, gIsi_ev, gAnd_ev, gOr_ev, gNot_ev, gTru_ev, gT_ev, g2_ev, g1_ev, gIf_ev, gCall_ev, gFn_ev, gTup_ev, gLst_ev, gSl_ev, gCh_ev, gYes_ev, oN_ev, oS_ev, asI_ev, aCons_ev, aNil_ev, vN_ev, kI_ev, kB_ev, kS_ev, kD'_ev, at_succ, at_zero, get_v, get_w, get_b, get_n, Z.R.of_some, Z.R.bind_ok, Z.R.pur_d, fAdd_i, fSub_i, fNeg_i, fLt_i, fLe_i, fGt_i, fGe_i, fEq_i, fNe_i, fInt_i, fInt_b, fAbs_i, fMin2_i, fMax2_i, fLen_l, fLen_t, fLen_r, tst_b, tru_b, tru_i, tru_t, tru_l, tru_r, tru_n, List.length_map, wipeE_cons, wipeE_nil, List.set_cons_succ, List.set_cons_zero, setE_cons, setE_nil, mkS_d, mkS_l, mkTup_nil, mkTup_ev, mkLst_ev, allD_cons, allD_nil, allD_map, Option.map_some, Option.bind_some, if_true, Bool.false_eq_true, if_false, ite_true, ite_false, Bool.not_true, Bool.not_false, decide_true, decide_false, isInt_i, isInt_b, isInt_t, isBl_i, isBl_b, isBl_t, fTuple_ev, fList_ev, dataOf_t, dataOf_l, dataOf_r, lft_ev, Z.RM.of_ok, Z.RM.bind_ok, mCons_ev, mNil_ev, m2_ev, mOf_ev, mT_ev, mTru_ev, mNot_ev, List.cons_append, List.nil_append])
    rw [fSet_ev, lft_n el, RM.s_ok]
    unfold fsts stp lss
    rw [List.map_map (l := List.filter _ _) (f := Prod.fst)]; rfl
  obtain ⟨en6, s6, rest, o8, h8, RR, hz, rfl⟩ := forN_pre (k := kName 8) (i := 7) (f := rbody) (h := fun x => T.d (rowD x.1)) (fun pre en => ∃ rest o8, NB o8 ∧ Rst p w n v FL rest ∧ (∀ x ∈ pre, rest.getD x.2 0 = 0) ∧ en = [.v (I p), .v (tps rows), .v (tp v), .v (I n), .v (lss (mks rows)), .v (I w), .v (tp rest), .w (lss (fsts (stp w FL))), o8, .n, .n, .n, .n, .n]) (stp w FL) [.v (I p), .v (tps rows), .v (tp v), .v (I n), .v (lss (mks rows)), .v (I w), .v (tp (v ++ zer n)), .v (lss (fsts (stp w FL))), .n, .n, .n, .n, .n, .n] (by simp) (by simp [items_fsts]) ⟨v ++ zer n, .n, .n, ⟨hv.app (zer_Rw hp.pos n), fun c _ => by rw [dt_app hv.len, dt_zer]; grind⟩, fun x m => absurd m List.not_mem_nil, by simp⟩ (fun pre x suf en e q => by
    obtain ⟨rest, o8, h8, RR, hz, rfl⟩ := q
    have mS : ∀ y, y ∈ pre ++ x :: suf → y ∈ FL ∧ y.2 < w := fun y m => stp_mem.mp (by rw [e]; exact m)
    obtain ⟨mx, xw⟩ := mS x (List.mem_append_right _ (List.mem_cons_self ..))
    have up : (pre ++ x :: suf).Pairwise fun x y => x.2 < y.2 := by rw [← e]; exact E.up.filter _
    rw [List.pairwise_append] at up
    have e1 := leading_ok x.1
    rw [ld_FL E mx] at e1
    have e2 := cleared_ok hp (j := x.2) RR.rw (hFw x mx) (by omega) (by omega)
    refine ⟨_, [.v (I p), .v (tps rows), .v (tp v), .v (I n), .v (lss (mks rows)), .v (I w), .v (tp rest), .w (lss (fsts (stp w FL))), .v (tp x.1), .n, .n, .n, .n, .n], [.v (I p), .v (tps rows), .v (tp v), .v (I n), .v (lss (mks rows)), .v (I w), .v (tp (clr p (w + n) rest x.1 x.2)), .w (lss (fsts (stp w FL))), .v (tp x.1), .n, .n, .n, .n, .n], rfl, by simp [h8.s], .inl ?_, clr p (w + n) rest x.1 x.2, _, .v, ⟨clr_Rw hp.pos, fun c hc => ?_⟩, fun y m => ?_, rfl⟩
    · unfold rbody
      rw [fSet_ev, lft_n (x := tp (clr p (w + n) rest x.1 x.2)) (by simp only [gPur_ev, gAndV_ev, gOrV_ev, gNotV_ev, gIsi_ev, gAnd_ev, gOr_ev, gNot_ev, gTru_ev, gT_ev, g2_ev, g1_ev, gIf_ev, gCall_ev, gFn_ev, gTup_ev, gLst_ev, gSl_ev, gCh_ev, gYes_ev, oN_ev, oS_ev, asI_ev, aCons_ev, aNil_ev, vN_ev, kI_ev, kB_ev, kS_ev, kD'_ev, at_succ, at_zero, get_v, get_w, get_b, get_n, Z.R.of_some, Z.R.bind_ok, Z.R.pur_d, fAdd_i, fSub_i, fNeg_i, fLt_i, fLe_i, fGt_i, fGe_i, fEq_i, fNe_i, fInt_i, fInt_b, fAbs_i, fMin2_i, fMax2_i, fLen_l, fLen_t, fLen_r, tst_b, tru_b, tru_i, tru_t, tru_l, tru_r, tru_n, List.length_map, wipeE_cons, wipeE_nil, List.set_cons_succ, List.set_cons_zero, setE_cons, setE_nil, mkS_d, mkS_l, mkTup_nil, mkTup_ev, mkLst_ev, allD_cons, allD_nil, allD_map, Option.map_some, Option.bind_some, if_true, Bool.false_eq_true, if_false, ite_true, ite_false, Bool.not_true, Bool.not_false, decide_true, decide_false, isInt_i, isInt_b, isInt_t, isBl_i, isBl_b, isBl_t, fTuple_ev, fList_ev, dataOf_t, dataOf_l, dataOf_r, lft_ev, Z.RM.of_ok, Z.RM.bind_ok, mCons_ev, mNil_ev, m2_ev, mOf_ev, mT_ev, mTru_ev, mNot_ev, List.cons_append, List.nil_append, e1, e2]), RM.s_ok]; rfl
    · rw [dt_clr, RR.fn c hc, hc x mx]; grind
    · refine val_of (clr_Rw hp.pos) (by
        rcases List.mem_append.mp m with m | m
        · have := (mS y (List.mem_append_left _ m)).2; omega
        · rw [List.mem_singleton.mp m]; omega) (rg01 hp).1 ?_
      rcases List.mem_append.mp m with m | m
      · have my := mS y (List.mem_append_left _ m)
        have lt := up.2.2 y m x (List.mem_cons_self ..)
        rw [clr_cq (by omega), cq_of (hz y m), cq_of (E.lo x mx y.2 lt), q_zero]; grind
      · rw [List.mem_singleton.mp m, clr_cq (by omega), cq_of (E.un x mx x mx), if_pos rfl, q_one, q_zero]; grind)
  have hlen : w ≤ rest.length := by rw [RR.rw.len]; omega
  have sl1 := fSl_take (zs := rest) (m := w) (z := w) rfl hlen
  have sl2 := fSl_drop (zs := rest) (m := w) (z := w) rfl hlen
  have ltk : (rest.take w).length = w := by rw [List.length_take]; omega
  have el := leading_ok (rest.take w)
  have body : ∀ {res}, (∃ e, (fSeq (fIf (lft (gT (g2 fLt (gFn F_leading (aCons (gSl (vN 6) oN (oS (vN 5))) aNil)) (kI 0)))) (fRet (lft (gTup (aCons (kS (Str.ofString "weights")) (aCons (gCall fTuple (aCons (gLc [13] (gIt (gSl (vN 6) (oS (vN 5)) oN)) (kName 13) gYes (g2 fMod (g1 fNeg (vN 13)) (vN 0))) aNil)) aNil))))) fNil)
  (fSeq (fSet 9 (lft (gFn F_leading (aCons (gSl (vN 6) oN (oS (vN 5))) aNil))))
  (fSeq (fSet 10 (lft (gFn F_inverse (aCons (vN 0) (aCons (g2 fIx (vN 6) (vN 9)) aNil)))))
  (fSeq (fSet 11 (lft (g2 fMul (gLst (aCons (kI 0) aNil)) (vN 5))))
  (fSeq (fStore 11 (vN 9) (mName 10))
  (fSeq (fForN (kName 8) 7 cbody)
  (fRet (lft (gTup (aCons (kS (Str.ofString "column")) (aCons (gCall fTuple (aCons (vN 11) aNil)) aNil))))))))))) [.v (I p), .v (tps rows), .v (tp v), .v (I n), .v (lss (mks rows)), .v (I w), .v (tp rest), .w (lss (fsts (stp w FL))), o8, .n, .n, .n, .n, .n] = .ret (.d res) e) → F_combination [I p, tps rows, tp v] = .ok (.d res) := fun {res} h => by
    refine runP_ret rfl ?_
    show ∃ e, d_combination [.v (I p), .v (tps rows), .v (tp v), .n, .n, .n, .n, .n, .n, .n, .n, .n, .n, .n] = _
    unfold d_combination
    exact ret_seq s1 (ret_seq s2 (ret_seq s3 (ret_seq s4 (ret_seq s5 (ret_seq s6 h)))))
  rcases ld_cases w (rest.take w) (by omega) with a | ⟨l, l1, l2, l3⟩
  · have a' : ∀ i, i < w → rest.getD i 0 = 0 := fun i hi => by rw [← gd_take hi]; exact a i hi
    rw [ld_none (r := rest.take w) (fun i hi => a i (by omega))] at el
    refine ⟨.tup [WS, rowD (tab n fun i => (-(rest.getD (w + i) 0)) % p)], body ?_, .inl ⟨_, rfl, by subst hnn; exact RR.wts hp hr E a'⟩⟩
    have hl2 : (rest.drop w).length = n := by rw [List.length_drop, RR.rw.len]; omega
    have e9 : (gLc [13] (gIt (gSl (vN 6) (oS (vN 5)) oN)) (kName 13) gYes (g2 fMod (g1 fNeg (vN 13)) (vN 0))) [.v (I p), .v (tps rows), .v (tp v), .v (I n), .v (lss (mks rows)), .v (I w), .v (tp rest), .w (lss (fsts (stp w FL))), o8, .n, .n, .n, .n, .n] = .ok (ls (tab n fun i => (-(rest.getD (w + i) 0)) % p)) := by
      have el := gLc_all (vs := [13]) (gs := gIt (gSl (vN 6) (oS (vN 5)) oN)) (k := kName 13) (te := g2 fMod (g1 fNeg (vN 13)) (vN 0)) (en := [.v (I p), .v (tps rows), .v (tp v), .v (I n), .v (lss (mks rows)), .v (I w), .v (tp rest), .w (lss (fsts (stp w FL))), o8, .n, .n, .n, .n, .n]) (rest.drop w) _ (fun z => D.int ((-z) % p)) (gIt_of (x := tp (rest.drop w)) (e := D.int) (by simp only [gPur_ev, gAndV_ev, gOrV_ev, gNotV_ev, gIsi_ev, gAnd_ev, gOr_ev, gNot_ev, gTru_ev, gT_ev, g2_ev, g1_ev, gIf_ev, gCall_ev, gFn_ev, gTup_ev, gLst_ev, gSl_ev, gCh_ev, gYes_ev, oN_ev, oS_ev, asI_ev, aCons_ev, aNil_ev, vN_ev, kI_ev, kB_ev, kS_ev, kD'_ev, at_succ, at_zero, get_v, get_w, get_b, get_n, Z.R.of_some, Z.R.bind_ok, Z.R.pur_d, fAdd_i, fSub_i, fNeg_i, fLt_i, fLe_i, fGt_i, fGe_i, fEq_i, fNe_i, fInt_i, fInt_b, fAbs_i, fMin2_i, fMax2_i, fLen_l, fLen_t, fLen_r, tst_b, tru_b, tru_i, tru_t, tru_l, tru_r, tru_n, List.length_map, wipeE_cons, wipeE_nil, List.set_cons_succ, List.set_cons_zero, setE_cons, setE_nil, mkS_d, mkS_l, mkTup_nil, mkTup_ev, mkLst_ev, allD_cons, allD_nil, allD_map, Option.map_some, Option.bind_some, if_true, Bool.false_eq_true, if_false, ite_true, ite_false, Bool.not_true, Bool.not_false, decide_true, decide_false, isInt_i, isInt_b, isInt_t, isBl_i, isBl_b, isBl_t, fTuple_ev, fList_ev, dataOf_t, dataOf_l, dataOf_r, lft_ev, Z.RM.of_ok, Z.RM.bind_ok, mCons_ev, mNil_ev, m2_ev, mOf_ev, mT_ev, mTru_ev, mNot_ev, List.cons_append, List.nil_append, sl2]) rfl) (by omega) (fun z m => ⟨_, rfl, by simp only [gPur_ev, gAndV_ev, gOrV_ev, gNotV_ev, gIsi_ev, gAnd_ev, gOr_ev, gNot_ev, gTru_ev, gT_ev, g2_ev, g1_ev, gIf_ev, gCall_ev, gFn_ev, gTup_ev, gLst_ev, gSl_ev, gCh_ev, gYes_ev, oN_ev, oS_ev, asI_ev, aCons_ev, aNil_ev, vN_ev, kI_ev, kB_ev, kS_ev, kD'_ev, at_succ, at_zero, get_v, get_w, get_b, get_n, Z.R.of_some, Z.R.bind_ok, Z.R.pur_d, fAdd_i, fSub_i, fNeg_i, fLt_i, fLe_i, fGt_i, fGe_i, fEq_i, fNe_i, fInt_i, fInt_b, fAbs_i, fMin2_i, fMax2_i, fLen_l, fLen_t, fLen_r, tst_b, tru_b, tru_i, tru_t, tru_l, tru_r, tru_n, List.length_map, wipeE_cons, wipeE_nil, List.set_cons_succ, List.set_cons_zero, setE_cons, setE_nil, mkS_d, mkS_l, mkTup_nil, mkTup_ev, mkLst_ev, allD_cons, allD_nil, allD_map, Option.map_some, Option.bind_some, if_true, Bool.false_eq_true, if_false, ite_true, ite_false, Bool.not_true, Bool.not_false, decide_true, decide_false, isInt_i, isInt_b, isInt_t, isBl_i, isBl_b, isBl_t, fTuple_ev, fList_ev, dataOf_t, dataOf_l, dataOf_r, lft_ev, Z.RM.of_ok, Z.RM.bind_ok, mCons_ev, mNil_ev, m2_ev, mOf_ev, mT_ev, mTru_ev, mNot_ev, List.cons_append, List.nil_append, fMod_i, if_pos hp.pos]⟩)
      rw [el, map_tab _ (rest.drop w) 0, hl2]
      simp only [gd_drop]
      unfold ls tab
      rw [List.map_map (g := D.int)]; rfl
    have l1 : ∀ x : D, ([WS, x] : List D).length ≤ most := fun x => (by decide : 2 ≤ 16777216)
    refine ⟨[.v (I p), .v (tps rows), .v (tp v), .v (I n), .v (lss (mks rows)), .v (I w), .v (tp rest), .w (lss (fsts (stp w FL))), o8, .n, .n, .n, .n, .n], ?_⟩
    rw [fSeq_ev, fIf_t (by simp only [gPur_ev, gAndV_ev, gOrV_ev, gNotV_ev, gIsi_ev, gAnd_ev, gOr_ev, gNot_ev, gTru_ev, gT_ev, g2_ev, g1_ev, gIf_ev, gCall_ev, gFn_ev, gTup_ev, gLst_ev, gSl_ev, gCh_ev, gYes_ev, oN_ev, oS_ev, asI_ev, aCons_ev, aNil_ev, vN_ev, kI_ev, kB_ev, kS_ev, kD'_ev, at_succ, at_zero, get_v, get_w, get_b, get_n, Z.R.of_some, Z.R.bind_ok, Z.R.pur_d, fAdd_i, fSub_i, fNeg_i, fLt_i, fLe_i, fGt_i, fGe_i, fEq_i, fNe_i, fInt_i, fInt_b, fAbs_i, fMin2_i, fMax2_i, fLen_l, fLen_t, fLen_r, tst_b, tru_b, tru_i, tru_t, tru_l, tru_r, tru_n, List.length_map, wipeE_cons, wipeE_nil, List.set_cons_succ, List.set_cons_zero, setE_cons, setE_nil, mkS_d, mkS_l, mkTup_nil, mkTup_ev, mkLst_ev, allD_cons, allD_nil, allD_map, Option.map_some, Option.bind_some, if_true, Bool.false_eq_true, if_false, ite_true, ite_false, Bool.not_true, Bool.not_false, decide_true, decide_false, isInt_i, isInt_b, isInt_t, isBl_i, isBl_b, isBl_t, fTuple_ev, fList_ev, dataOf_t, dataOf_l, dataOf_r, lft_ev, Z.RM.of_ok, Z.RM.bind_ok, mCons_ev, mNil_ev, m2_ev, mOf_ev, mT_ev, mTru_ev, mNot_ev, List.cons_append, List.nil_append, sl1, el]; rfl), fRet_ev, lft_n (x := .d (.tup [WS, rowD (tab n fun i => (-(rest.getD (w + i) 0)) % p)])) (by
      rw [gTup_ev, aCons_ev, aCons_ev, gCall_ev, aCons_ev, e9]
      simp only [gPur_ev, gAndV_ev, gOrV_ev, gNotV_ev, gIsi_ev, gAnd_ev, gOr_ev, gNot_ev, gTru_ev, gT_ev, g2_ev, g1_ev, gIf_ev, gCall_ev, gFn_ev, gTup_ev, gLst_ev, gSl_ev, gCh_ev, gYes_ev, oN_ev, oS_ev, asI_ev, aCons_ev, aNil_ev, vN_ev, kI_ev, kB_ev, kS_ev, kD'_ev, at_succ, at_zero, get_v, get_w, get_b, get_n, Z.R.of_some, Z.R.bind_ok, Z.R.pur_d, fAdd_i, fSub_i, fNeg_i, fLt_i, fLe_i, fGt_i, fGe_i, fEq_i, fNe_i, fInt_i, fInt_b, fAbs_i, fMin2_i, fMax2_i, fLen_l, fLen_t, fLen_r, tst_b, tru_b, tru_i, tru_t, tru_l, tru_r, tru_n, List.length_map, wipeE_cons, wipeE_nil, List.set_cons_succ, List.set_cons_zero, setE_cons, setE_nil, mkS_d, mkS_l, mkTup_nil, mkTup_ev, mkLst_ev, allD_cons, allD_nil, allD_map, Option.map_some, Option.bind_some, if_true, Bool.false_eq_true, if_false, ite_true, ite_false, Bool.not_true, Bool.not_false, decide_true, decide_false, isInt_i, isInt_b, isInt_t, isBl_i, isBl_b, isBl_t, fTuple_ev, fList_ev, dataOf_t, dataOf_l, dataOf_r, lft_ev, Z.RM.of_ok, Z.RM.bind_ok, mCons_ev, mNil_ev, m2_ev, mOf_ev, mT_ev, mTru_ev, mNot_ev, List.cons_append, List.nil_append, if_pos (l1 _)])]
    rfl
  · have lr : rest.getD l 0 ≠ 0 := by rw [← gd_take l1]; exact l3
    rw [ld_some (r := rest.take w) (by omega) l2 l3] at el
    obtain ⟨i1, i2, i3⟩ := inv_ok hp (RR.rw.at (by omega)) lr
    have e6 := fIx_tp (zs := rest) (z := l) l rfl (by omega)
    generalize hs : iv p (rest.getD l 0) = s at *
    have l6 : ([T.d (D.int 0)] : List T).length ≤ most := by decide
    have z6 := zeros_ok (k := w) (by omega)
    have c1 : fSet 9 (lft (gFn F_leading (aCons (gSl (vN 6) oN (oS (vN 5))) aNil))) [.v (I p), .v (tps rows), .v (tp v), .v (I n), .v (lss (mks rows)), .v (I w), .v (tp rest), .w (lss (fsts (stp w FL))), o8, .n, .n, .n, .n, .n] = .nx [.v (I p), .v (tps rows), .v (tp v), .v (I n), .v (lss (mks rows)), .v (I w), .v (tp rest), .w (lss (fsts (stp w FL))), o8, .v (I l), .n, .n, .n, .n] := by
      rw [fSet_ev, lft_n (x := I l) (by simp only [gPur_ev, gAndV_ev, gOrV_ev, gNotV_ev, gIsi_ev, gAnd_ev, gOr_ev, gNot_ev, gTru_ev, gT_ev, g2_ev, g1_ev, gIf_ev, gCall_ev, gFn_ev, gTup_ev, gLst_ev, gSl_ev, gCh_ev, gYes_ev, oN_ev, oS_ev, asI_ev, aCons_ev, aNil_ev, vN_ev, kI_ev, kB_ev, kS_ev, kD'_ev, at_succ, at_zero, get_v, get_w, get_b, get_n, Z.R.of_some, Z.R.bind_ok, Z.R.pur_d, fAdd_i, fSub_i, fNeg_i, fLt_i, fLe_i, fGt_i, fGe_i, fEq_i, fNe_i, fInt_i, fInt_b, fAbs_i, fMin2_i, fMax2_i, fLen_l, fLen_t, fLen_r, tst_b, tru_b, tru_i, tru_t, tru_l, tru_r, tru_n, List.length_map, wipeE_cons, wipeE_nil, List.set_cons_succ, List.set_cons_zero, setE_cons, setE_nil, mkS_d, mkS_l, mkTup_nil, mkTup_ev, mkLst_ev, allD_cons, allD_nil, allD_map, Option.map_some, Option.bind_some, if_true, Bool.false_eq_true, if_false, ite_true, ite_false, Bool.not_true, Bool.not_false, decide_true, decide_false, isInt_i, isInt_b, isInt_t, isBl_i, isBl_b, isBl_t, fTuple_ev, fList_ev, dataOf_t, dataOf_l, dataOf_r, lft_ev, Z.RM.of_ok, Z.RM.bind_ok, mCons_ev, mNil_ev, m2_ev, mOf_ev, mT_ev, mTru_ev, mNot_ev, List.cons_append, List.nil_append, sl1, el]), RM.s_ok]; rfl
    have c2 : fSet 10 (lft (gFn F_inverse (aCons (vN 0) (aCons (g2 fIx (vN 6) (vN 9)) aNil)))) [.v (I p), .v (tps rows), .v (tp v), .v (I n), .v (lss (mks rows)), .v (I w), .v (tp rest), .w (lss (fsts (stp w FL))), o8, .v (I l), .n, .n, .n, .n] = .nx [.v (I p), .v (tps rows), .v (tp v), .v (I n), .v (lss (mks rows)), .v (I w), .v (tp rest), .w (lss (fsts (stp w FL))), o8, .v (I l), .v (I s), .n, .n, .n] := by
      rw [fSet_ev, lft_n (x := I s) (by simp only [gPur_ev, gAndV_ev, gOrV_ev, gNotV_ev, gIsi_ev, gAnd_ev, gOr_ev, gNot_ev, gTru_ev, gT_ev, g2_ev, g1_ev, gIf_ev, gCall_ev, gFn_ev, gTup_ev, gLst_ev, gSl_ev, gCh_ev, gYes_ev, oN_ev, oS_ev, asI_ev, aCons_ev, aNil_ev, vN_ev, kI_ev, kB_ev, kS_ev, kD'_ev, at_succ, at_zero, get_v, get_w, get_b, get_n, Z.R.of_some, Z.R.bind_ok, Z.R.pur_d, fAdd_i, fSub_i, fNeg_i, fLt_i, fLe_i, fGt_i, fGe_i, fEq_i, fNe_i, fInt_i, fInt_b, fAbs_i, fMin2_i, fMax2_i, fLen_l, fLen_t, fLen_r, tst_b, tru_b, tru_i, tru_t, tru_l, tru_r, tru_n, List.length_map, wipeE_cons, wipeE_nil, List.set_cons_succ, List.set_cons_zero, setE_cons, setE_nil, mkS_d, mkS_l, mkTup_nil, mkTup_ev, mkLst_ev, allD_cons, allD_nil, allD_map, Option.map_some, Option.bind_some, if_true, Bool.false_eq_true, if_false, ite_true, ite_false, Bool.not_true, Bool.not_false, decide_true, decide_false, isInt_i, isInt_b, isInt_t, isBl_i, isBl_b, isBl_t, fTuple_ev, fList_ev, dataOf_t, dataOf_l, dataOf_r, lft_ev, Z.RM.of_ok, Z.RM.bind_ok, mCons_ev, mNil_ev, m2_ev, mOf_ev, mT_ev, mTru_ev, mNot_ev, List.cons_append, List.nil_append, e6, i1]), RM.s_ok]; rfl
    have c3 : fSet 11 (lft (g2 fMul (gLst (aCons (kI 0) aNil)) (vN 5))) [.v (I p), .v (tps rows), .v (tp v), .v (I n), .v (lss (mks rows)), .v (I w), .v (tp rest), .w (lss (fsts (stp w FL))), o8, .v (I l), .v (I s), .n, .n, .n] = .nx [.v (I p), .v (tps rows), .v (tp v), .v (I n), .v (lss (mks rows)), .v (I w), .v (tp rest), .w (lss (fsts (stp w FL))), o8, .v (I l), .v (I s), .v (ls (tab w fun _ => 0)), .n, .n] := by
      rw [fSet_ev, lft_n (x := ls (tab w fun _ => 0)) (by simp only [gPur_ev, gAndV_ev, gOrV_ev, gNotV_ev, gIsi_ev, gAnd_ev, gOr_ev, gNot_ev, gTru_ev, gT_ev, g2_ev, g1_ev, gIf_ev, gCall_ev, gFn_ev, gTup_ev, gLst_ev, gSl_ev, gCh_ev, gYes_ev, oN_ev, oS_ev, asI_ev, aCons_ev, aNil_ev, vN_ev, kI_ev, kB_ev, kS_ev, kD'_ev, at_succ, at_zero, get_v, get_w, get_b, get_n, Z.R.of_some, Z.R.bind_ok, Z.R.pur_d, fAdd_i, fSub_i, fNeg_i, fLt_i, fLe_i, fGt_i, fGe_i, fEq_i, fNe_i, fInt_i, fInt_b, fAbs_i, fMin2_i, fMax2_i, fLen_l, fLen_t, fLen_r, tst_b, tru_b, tru_i, tru_t, tru_l, tru_r, tru_n, List.length_map, wipeE_cons, wipeE_nil, List.set_cons_succ, List.set_cons_zero, setE_cons, setE_nil, mkS_d, mkS_l, mkTup_nil, mkTup_ev, mkLst_ev, allD_cons, allD_nil, allD_map, Option.map_some, Option.bind_some, if_true, Bool.false_eq_true, if_false, ite_true, ite_false, Bool.not_true, Bool.not_false, decide_true, decide_false, isInt_i, isInt_b, isInt_t, isBl_i, isBl_b, isBl_t, fTuple_ev, fList_ev, dataOf_t, dataOf_l, dataOf_r, lft_ev, Z.RM.of_ok, Z.RM.bind_ok, mCons_ev, mNil_ev, m2_ev, mOf_ev, mT_ev, mTru_ev, mNot_ev, List.cons_append, List.nil_append, if_pos l6]; exact congrArg R.of z6), RM.s_ok]; rfl
    have c4 : fStore 11 (vN 9) (mName 10) [.v (I p), .v (tps rows), .v (tp v), .v (I n), .v (lss (mks rows)), .v (I w), .v (tp rest), .w (lss (fsts (stp w FL))), o8, .v (I l), .v (I s), .v (ls (tab w fun _ => 0)), .n, .n] = .nx [.v (I p), .v (tps rows), .v (tp v), .v (I n), .v (lss (mks rows)), .v (I w), .v (tp rest), .w (lss (fsts (stp w FL))), o8, .v (I l), .v (I s), .v (ls (tab w fun k => if k = l then s else 0)), .n, .n] := by
      rw [store_tab (j := l) (n := w) (v := fun _ => 0) (z := s) (k := l) (mName_n (d := .int s) rfl) rfl rfl rfl l1]; rfl
    obtain ⟨en7, c5, col, o8', h8', C, rfl⟩ := forN_pre (k := kName 8) (i := 7) (f := cbody) (h := fun x => T.d (rowD x.1)) (fun pre en => ∃ col o8, NB o8 ∧ Cg p w FL rest l s pre col ∧ en = [.v (I p), .v (tps rows), .v (tp v), .v (I n), .v (lss (mks rows)), .v (I w), .v (tp rest), .w (lss (fsts (stp w FL))), o8, .v (I l), .v (I s), .v (ls (tab w col)), .n, .n]) (stp w FL) [.v (I p), .v (tps rows), .v (tp v), .v (I n), .v (lss (mks rows)), .v (I w), .v (tp rest), .w (lss (fsts (stp w FL))), o8, .v (I l), .v (I s), .v (ls (tab w fun k => if k = l then s else 0)), .n, .n] (by simp) (by simp [items_fsts]) ⟨_, o8, h8, Cg.start hp l1 i2 i3 hz lr, by simp⟩ (fun pre x suf en e q => by
      obtain ⟨col, o8, h8, C, rfl⟩ := q
      obtain ⟨mx, xw⟩ := stp_mem.mp (show x ∈ stp w FL by rw [e]; exact List.mem_append_right _ (List.mem_cons_self ..))
      have e1 := leading_ok x.1
      rw [ld_FL E mx] at e1
      have hx := hFw x mx
      have e2 := fIx_tp (zs := x.1) (z := l) l rfl (by rw [hx.len]; omega)
      have rx := hx.at (k := l) (by omega)
      have m1 : MulOk (-(x.1.getD l 0)) s := small_ok (by have := rx.2; have := hp.rg; omega) (by have := rx.1; omega)
      refine ⟨_, [.v (I p), .v (tps rows), .v (tp v), .v (I n), .v (lss (mks rows)), .v (I w), .v (tp rest), .w (lss (fsts (stp w FL))), .v (tp x.1), .v (I l), .v (I s), .v (ls (tab w col)), .n, .n], [.v (I p), .v (tps rows), .v (tp v), .v (I n), .v (lss (mks rows)), .v (I w), .v (tp rest), .w (lss (fsts (stp w FL))), .v (tp x.1), .v (I l), .v (I s), .v (ls (tab w fun k => if k = x.2 then (-(x.1.getD l 0) * s) % p else col k)), .n, .n], rfl, by simp [h8.s], .inl ?_, _, .v (tp x.1), .v, C.step hp E hz e, rfl⟩
      unfold cbody
      rw [store_tab (j := x.2) (n := w) (v := col) (z := (-(x.1.getD l 0) * s) % p) (k := x.2) (lft_n (by simp only [gPur_ev, gAndV_ev, gOrV_ev, gNotV_ev, gIsi_ev, gAnd_ev, gOr_ev, gNot_ev, gTru_ev, gT_ev, g2_ev, g1_ev, gIf_ev, gCall_ev, gFn_ev, gTup_ev, gLst_ev, gSl_ev, gCh_ev, gYes_ev, oN_ev, oS_ev, asI_ev, aCons_ev, aNil_ev, vN_ev, kI_ev, kB_ev, kS_ev, kD'_ev, at_succ, at_zero, get_v, get_w, get_b, get_n, Z.R.of_some, Z.R.bind_ok, Z.R.pur_d, fAdd_i, fSub_i, fNeg_i, fLt_i, fLe_i, fGt_i, fGe_i, fEq_i, fNe_i, fInt_i, fInt_b, fAbs_i, fMin2_i, fMax2_i, fLen_l, fLen_t, fLen_r, tst_b, tru_b, tru_i, tru_t, tru_l, tru_r, tru_n, List.length_map, wipeE_cons, wipeE_nil, List.set_cons_succ, List.set_cons_zero, setE_cons, setE_nil, mkS_d, mkS_l, mkTup_nil, mkTup_ev, mkLst_ev, allD_cons, allD_nil, allD_map, Option.map_some, Option.bind_some, if_true, Bool.false_eq_true, if_false, ite_true, ite_false, Bool.not_true, Bool.not_false, decide_true, decide_false, isInt_i, isInt_b, isInt_t, isBl_i, isBl_b, isBl_t, fTuple_ev, fList_ev, dataOf_t, dataOf_l, dataOf_r, lft_ev, Z.RM.of_ok, Z.RM.bind_ok, mCons_ev, mNil_ev, m2_ev, mOf_ev, mT_ev, mTru_ev, mNot_ev, List.cons_append, List.nil_append, e2, fMul_i, if_pos m1, fMod_i, if_pos hp.pos])) (by simp only [gPur_ev, gAndV_ev, gOrV_ev, gNotV_ev, gIsi_ev, gAnd_ev, gOr_ev, gNot_ev, gTru_ev, gT_ev, g2_ev, g1_ev, gIf_ev, gCall_ev, gFn_ev, gTup_ev, gLst_ev, gSl_ev, gCh_ev, gYes_ev, oN_ev, oS_ev, asI_ev, aCons_ev, aNil_ev, vN_ev, kI_ev, kB_ev, kS_ev, kD'_ev, at_succ, at_zero, get_v, get_w, get_b, get_n, Z.R.of_some, Z.R.bind_ok, Z.R.pur_d, fAdd_i, fSub_i, fNeg_i, fLt_i, fLe_i, fGt_i, fGe_i, fEq_i, fNe_i, fInt_i, fInt_b, fAbs_i, fMin2_i, fMax2_i, fLen_l, fLen_t, fLen_r, tst_b, tru_b, tru_i, tru_t, tru_l, tru_r, tru_n, List.length_map, wipeE_cons, wipeE_nil, List.set_cons_succ, List.set_cons_zero, setE_cons, setE_nil, mkS_d, mkS_l, mkTup_nil, mkTup_ev, mkLst_ev, allD_cons, allD_nil, allD_map, Option.map_some, Option.bind_some, if_true, Bool.false_eq_true, if_false, ite_true, ite_false, Bool.not_true, Bool.not_false, decide_true, decide_false, isInt_i, isInt_b, isInt_t, isBl_i, isBl_b, isBl_t, fTuple_ev, fList_ev, dataOf_t, dataOf_l, dataOf_r, lft_ev, Z.RM.of_ok, Z.RM.bind_ok, mCons_ev, mNil_ev, m2_ev, mOf_ev, mT_ev, mTru_ev, mNot_ev, List.cons_append, List.nil_append, e1]) rfl rfl xw]; rfl)
    refine ⟨.tup [CS, rowD (tab w col)], body ?_, .inr ⟨_, rfl, by subst hnn; exact C.last hr E RR⟩⟩
    have l1 : ∀ x : D, ([CS, x] : List D).length ≤ most := fun x => (by decide : 2 ≤ 16777216)
    refine ret_if_f (by simp only [gPur_ev, gAndV_ev, gOrV_ev, gNotV_ev, gIsi_ev, gAnd_ev, gOr_ev, gNot_ev, gTru_ev, gT_ev, g2_ev, g1_ev, gIf_ev, gCall_ev, gFn_ev, gTup_ev, gLst_ev, gSl_ev, gCh_ev, gYes_ev, oN_ev, oS_ev, asI_ev, aCons_ev, aNil_ev, vN_ev, kI_ev, kB_ev, kS_ev, kD'_ev, at_succ, at_zero, get_v, get_w, get_b, get_n, Z.R.of_some, Z.R.bind_ok, Z.R.pur_d, fAdd_i, fSub_i, fNeg_i, fLt_i, fLe_i, fGt_i, fGe_i, fEq_i, fNe_i, fInt_i, fInt_b, fAbs_i, fMin2_i, fMax2_i, fLen_l, fLen_t, fLen_r, tst_b, tru_b, tru_i, tru_t, tru_l, tru_r, tru_n, List.length_map, wipeE_cons, wipeE_nil, List.set_cons_succ, List.set_cons_zero, setE_cons, setE_nil, mkS_d, mkS_l, mkTup_nil, mkTup_ev, mkLst_ev, allD_cons, allD_nil, allD_map, Option.map_some, Option.bind_some, if_true, Bool.false_eq_true, if_false, ite_true, ite_false, Bool.not_true, Bool.not_false, decide_true, decide_false, isInt_i, isInt_b, isInt_t, isBl_i, isBl_b, isBl_t, fTuple_ev, fList_ev, dataOf_t, dataOf_l, dataOf_r, lft_ev, Z.RM.of_ok, Z.RM.bind_ok, mCons_ev, mNil_ev, m2_ev, mOf_ev, mT_ev, mTru_ev, mNot_ev, List.cons_append, List.nil_append, sl1, el]; exact congrArg R.ok (decide_eq_false (by omega))) ?_
    refine ret_seq c1 (ret_seq c2 (ret_seq c3 (ret_seq c4 (ret_seq c5 ?_))))
    refine ret_lft ?_
    simp only [gPur_ev, gAndV_ev, gOrV_ev, gNotV_ev, gIsi_ev, gAnd_ev, gOr_ev, gNot_ev, gTru_ev, gT_ev, g2_ev, g1_ev, gIf_ev, gCall_ev, gFn_ev, gTup_ev, gLst_ev, gSl_ev, gCh_ev, gYes_ev, oN_ev, oS_ev, asI_ev, aCons_ev, aNil_ev, vN_ev, kI_ev, kB_ev, kS_ev, kD'_ev, at_succ, at_zero, get_v, get_w, get_b, get_n, Z.R.of_some, Z.R.bind_ok, Z.R.pur_d, fAdd_i, fSub_i, fNeg_i, fLt_i, fLe_i, fGt_i, fGe_i, fEq_i, fNe_i, fInt_i, fInt_b, fAbs_i, fMin2_i, fMax2_i, fLen_l, fLen_t, fLen_r, tst_b, tru_b, tru_i, tru_t, tru_l, tru_r, tru_n, List.length_map, wipeE_cons, wipeE_nil, List.set_cons_succ, List.set_cons_zero, setE_cons, setE_nil, mkS_d, mkS_l, mkTup_nil, mkTup_ev, mkLst_ev, allD_cons, allD_nil, allD_map, Option.map_some, Option.bind_some, if_true, Bool.false_eq_true, if_false, ite_true, ite_false, Bool.not_true, Bool.not_false, decide_true, decide_false, isInt_i, isInt_b, isInt_t, isBl_i, isBl_b, isBl_t, fTuple_ev, fList_ev, dataOf_t, dataOf_l, dataOf_r, lft_ev, Z.RM.of_ok, Z.RM.bind_ok, mCons_ev, mNil_ev, m2_ev, mOf_ev, mT_ev, mTru_ev, mNot_ev, List.cons_append, List.nil_append, if_pos (l1 _)]
end K02
namespace K02
open PySem PySem.Spec L2 Z
open PyProof.Rows hiding St
theorem okW : PyData.strOk (Str.ofString "weights") = true := by decide +kernel
theorem okC : PyData.strOk (Str.ofString "column") = true := by decide +kernel
theorem WC : ¬ (Str.ofString "weights" = Str.ofString "column") := by decide +kernel
theorem CW : ¬ (Str.ofString "column" = Str.ofString "weights") := by decide +kernel
theorem fEq_str {a b : Str} (ha : PyData.strOk a = true) (hb : PyData.strOk b = true) : fEq (.d (.str a)) (.d (.str b)) = some (.d (.bl (decide (a = b)))) := by
  rw [fEq_pln (n := 0) (m := 0) (pln_str ha) (pln_str hb) (by decide) (by decide), deq_dec (n := 0) (m := 0) (pln_str ha) (pln_str hb) ⟨fun e => by injection e, fun e => by rw [e]⟩]
theorem eWW : fEq (.d (.str (Str.ofString "weights"))) (.d (.str (Str.ofString "weights"))) = some (.d (.bl true)) := by rw [fEq_str okW okW, decide_eq_true rfl]
theorem eCC : fEq (.d (.str (Str.ofString "column"))) (.d (.str (Str.ofString "column"))) = some (.d (.bl true)) := by rw [fEq_str okC okC, decide_eq_true rfl]
theorem eWC : fEq (.d (.str (Str.ofString "weights"))) (.d (.str (Str.ofString "column"))) = some (.d (.bl false)) := by rw [fEq_str okW okC, decide_eq_false WC]
theorem eCW : fEq (.d (.str (Str.ofString "column"))) (.d (.str (Str.ofString "weights"))) = some (.d (.bl false)) := by rw [fEq_str okC okW, decide_eq_false CW]
/-! numbers in range -/
def num (p z : Int) : Bool := decide (0 ≤ z) && decide (z < p)
def nums (p : Int) (n : Nat) (zs : List Int) : Bool := decide (zs.length = n) && zs.all (num p)
theorem nums_iff {p : Int} {n : Nat} {zs : List Int} : nums p n zs = true ↔ Rw p n zs := by
  unfold nums num
  rw [Bool.and_eq_true, decide_eq_true_iff, List.all_eq_true]
  constructor
  · rintro ⟨h1, h2⟩
    refine ⟨h1, fun a m => ?_⟩
    have := h2 a m
    rw [Bool.and_eq_true, decide_eq_true_iff, decide_eq_true_iff] at this
    exact this
  · rintro ⟨h1, h2⟩
    refine ⟨h1, fun a m => ?_⟩
    rw [Bool.and_eq_true, decide_eq_true_iff, decide_eq_true_iff]
    exact h2 a m
theorem is_tuple_ok (ds : List D) (n : Nat) : F_is_tuple [.d (.tup ds), I n] = .ok (.d (.bl (decide (ds.length = n)))) := by
  refine runP_ret rfl ?_
  show ∃ e, d_is_tuple [.v (.d (.tup ds)), .v (I n)] = _
  refine ret_lft ?_
  simp only [gPur_ev, gAndV_ev, gOrV_ev, gNotV_ev, gIsi_ev, gAnd_ev, gOr_ev, gNot_ev, gTru_ev, gT_ev, g2_ev, g1_ev, gIf_ev, gCall_ev, gFn_ev, gTup_ev, gLst_ev, gSl_ev, gCh_ev, gYes_ev, oN_ev, oS_ev, asI_ev, aCons_ev, aNil_ev, vN_ev, kI_ev, kB_ev, kS_ev, kD'_ev, at_succ, at_zero, get_v, get_w, get_b, get_n, Z.R.of_some, Z.R.bind_ok, Z.R.pur_d, fAdd_i, fSub_i, fNeg_i, fLt_i, fLe_i, fGt_i, fGe_i, fEq_i, fNe_i, fInt_i, fInt_b, fAbs_i, fMin2_i, fMax2_i, fLen_l, fLen_t, fLen_r, tst_b, tru_b, tru_i, tru_t, tru_l, tru_r, tru_n, List.length_map, wipeE_cons, wipeE_nil, List.set_cons_succ, List.set_cons_zero, setE_cons, setE_nil, mkS_d, mkS_l, mkTup_nil, mkTup_ev, mkLst_ev, allD_cons, allD_nil, allD_map, Option.map_some, Option.bind_some, if_true, Bool.false_eq_true, if_false, ite_true, ite_false, Bool.not_true, Bool.not_false, decide_true, decide_false, isInt_i, isInt_b, isInt_t, isBl_i, isBl_b, isBl_t, fTuple_ev, fList_ev, dataOf_t, dataOf_l, dataOf_r, lft_ev, Z.RM.of_ok, Z.RM.bind_ok, mCons_ev, mNil_ev, m2_ev, mOf_ev, mT_ev, mTru_ev, mNot_ev, List.cons_append, List.nil_append, isTup, Int.ofNat_inj]
theorem is_number_ok (p z : Int) : F_is_number [I p, I z] = .ok (.d (.bl (num p z))) := by
  refine runP_ret rfl ?_
  show ∃ e, d_is_number [.v (I p), .v (I z)] = _
  refine ret_lft ?_
  have e : F_is_integer [I z] = .ok (.d (.bl true)) := rfl
  unfold num
  by_cases h : 0 ≤ z
  · simp only [gPur_ev, gAndV_ev, gOrV_ev, gNotV_ev, gIsi_ev, gAnd_ev, gOr_ev, gNot_ev, gTru_ev, gT_ev, g2_ev, g1_ev, gIf_ev, gCall_ev, gFn_ev, gTup_ev, gLst_ev, gSl_ev, gCh_ev, gYes_ev, oN_ev, oS_ev, asI_ev, aCons_ev, aNil_ev, vN_ev, kI_ev, kB_ev, kS_ev, kD'_ev, at_succ, at_zero, get_v, get_w, get_b, get_n, Z.R.of_some, Z.R.bind_ok, Z.R.pur_d, fAdd_i, fSub_i, fNeg_i, fLt_i, fLe_i, fGt_i, fGe_i, fEq_i, fNe_i, fInt_i, fInt_b, fAbs_i, fMin2_i, fMax2_i, fLen_l, fLen_t, fLen_r, tst_b, tru_b, tru_i, tru_t, tru_l, tru_r, tru_n, List.length_map, wipeE_cons, wipeE_nil, List.set_cons_succ, List.set_cons_zero, setE_cons, setE_nil, mkS_d, mkS_l, mkTup_nil, mkTup_ev, mkLst_ev, allD_cons, allD_nil, allD_map, Option.map_some, Option.bind_some, if_true, Bool.false_eq_true, if_false, ite_true, ite_false, Bool.not_true, Bool.not_false, decide_true, decide_false, isInt_i, isInt_b, isInt_t, isBl_i, isBl_b, isBl_t, fTuple_ev, fList_ev, dataOf_t, dataOf_l, dataOf_r, lft_ev, Z.RM.of_ok, Z.RM.bind_ok, mCons_ev, mNil_ev, m2_ev, mOf_ev, mT_ev, mTru_ev, mNot_ev, List.cons_append, List.nil_append, e, decide_eq_true h, Bool.true_and]
  · simp only [gPur_ev, gAndV_ev, gOrV_ev, gNotV_ev, gIsi_ev, gAnd_ev, gOr_ev, gNot_ev, gTru_ev, gT_ev, g2_ev, g1_ev, gIf_ev, gCall_ev, gFn_ev, gTup_ev, gLst_ev, gSl_ev, gCh_ev, gYes_ev, oN_ev, oS_ev, asI_ev, aCons_ev, aNil_ev, vN_ev, kI_ev, kB_ev, kS_ev, kD'_ev, at_succ, at_zero, get_v, get_w, get_b, get_n, Z.R.of_some, Z.R.bind_ok, Z.R.pur_d, fAdd_i, fSub_i, fNeg_i, fLt_i, fLe_i, fGt_i, fGe_i, fEq_i, fNe_i, fInt_i, fInt_b, fAbs_i, fMin2_i, fMax2_i, fLen_l, fLen_t, fLen_r, tst_b, tru_b, tru_i, tru_t, tru_l, tru_r, tru_n, List.length_map, wipeE_cons, wipeE_nil, List.set_cons_succ, List.set_cons_zero, setE_cons, setE_nil, mkS_d, mkS_l, mkTup_nil, mkTup_ev, mkLst_ev, allD_cons, allD_nil, allD_map, Option.map_some, Option.bind_some, if_true, Bool.false_eq_true, if_false, ite_true, ite_false, Bool.not_true, Bool.not_false, decide_true, decide_false, isInt_i, isInt_b, isInt_t, isBl_i, isBl_b, isBl_t, fTuple_ev, fList_ev, dataOf_t, dataOf_l, dataOf_r, lft_ev, Z.RM.of_ok, Z.RM.bind_ok, mCons_ev, mNil_ev, m2_ev, mOf_ev, mT_ev, mTru_ev, mNot_ev, List.cons_append, List.nil_append, e, decide_eq_false h, Bool.false_and]
theorem are_numbers_ok {p : Int} {n : Nat} {zs : List Int} (hl : zs.length < 1000) : F_are_numbers [I p, tp zs, I n] = .ok (.d (.bl (nums p n zs))) := by
  refine runP_ret rfl ?_
  show ∃ e, d_are_numbers [.v (I p), .v (tp zs), .v (I n), .n] = _
  refine ret_lft ?_
  have e1 := is_tuple_ok (zs.map D.int) n
  have el := gLc_all (vs := [3]) (gs := gIt (vN 1)) (k := kName 3) (te := gFn F_is_number (aCons (vN 0) (aCons (vN 3) aNil))) (en := [.v (I p), .v (tp zs), .v (I n), .n]) zs _ (fun z => D.bl (num p z)) (gIt_of (x := tp zs) (e := D.int) rfl rfl) (by omega) (fun z m => ⟨_, rfl, by simp only [gPur_ev, gAndV_ev, gOrV_ev, gNotV_ev, gIsi_ev, gAnd_ev, gOr_ev, gNot_ev, gTru_ev, gT_ev, g2_ev, g1_ev, gIf_ev, gCall_ev, gFn_ev, gTup_ev, gLst_ev, gSl_ev, gCh_ev, gYes_ev, oN_ev, oS_ev, asI_ev, aCons_ev, aNil_ev, vN_ev, kI_ev, kB_ev, kS_ev, kD'_ev, at_succ, at_zero, get_v, get_w, get_b, get_n, Z.R.of_some, Z.R.bind_ok, Z.R.pur_d, fAdd_i, fSub_i, fNeg_i, fLt_i, fLe_i, fGt_i, fGe_i, fEq_i, fNe_i, fInt_i, fInt_b, fAbs_i, fMin2_i, fMax2_i, fLen_l, fLen_t, fLen_r, tst_b, tru_b, tru_i, tru_t, tru_l, tru_r, tru_n, List.length_map, wipeE_cons, wipeE_nil, List.set_cons_succ, List.set_cons_zero, setE_cons, setE_nil, mkS_d, mkS_l, mkTup_nil, mkTup_ev, mkLst_ev, allD_cons, allD_nil, allD_map, Option.map_some, Option.bind_some, if_true, Bool.false_eq_true, if_false, ite_true, ite_false, Bool.not_true, Bool.not_false, decide_true, decide_false, isInt_i, isInt_b, isInt_t, isBl_i, isBl_b, isBl_t, fTuple_ev, fList_ev, dataOf_t, dataOf_l, dataOf_r, lft_ev, Z.RM.of_ok, Z.RM.bind_ok, mCons_ev, mNil_ev, m2_ev, mOf_ev, mT_ev, mTru_ev, mNot_ev, List.cons_append, List.nil_append, is_number_ok]⟩)
  rw [List.length_map] at e1
  unfold nums
  by_cases h : zs.length = n
  · simp only [gPur_ev, gAndV_ev, gOrV_ev, gNotV_ev, gIsi_ev, gAnd_ev, gOr_ev, gNot_ev, gTru_ev, gT_ev, g2_ev, g1_ev, gIf_ev, gCall_ev, gFn_ev, gTup_ev, gLst_ev, gSl_ev, gCh_ev, gYes_ev, oN_ev, oS_ev, asI_ev, aCons_ev, aNil_ev, vN_ev, kI_ev, kB_ev, kS_ev, kD'_ev, at_succ, at_zero, get_v, get_w, get_b, get_n, Z.R.of_some, Z.R.bind_ok, Z.R.pur_d, fAdd_i, fSub_i, fNeg_i, fLt_i, fLe_i, fGt_i, fGe_i, fEq_i, fNe_i, fInt_i, fInt_b, fAbs_i, fMin2_i, fMax2_i, fLen_l, fLen_t, fLen_r, tst_b, tru_b, tru_i, tru_t, tru_l, tru_r, tru_n, List.length_map, wipeE_cons, wipeE_nil, List.set_cons_succ, List.set_cons_zero, setE_cons, setE_nil, mkS_d, mkS_l, mkTup_nil, mkTup_ev, mkLst_ev, allD_cons, allD_nil, allD_map, Option.map_some, Option.bind_some, if_true, Bool.false_eq_true, if_false, ite_true, ite_false, Bool.not_true, Bool.not_false, decide_true, decide_false, isInt_i, isInt_b, isInt_t, isBl_i, isBl_b, isBl_t, fTuple_ev, fList_ev, dataOf_t, dataOf_l, dataOf_r, lft_ev, Z.RM.of_ok, Z.RM.bind_ok, mCons_ev, mNil_ev, m2_ev, mOf_ev, mT_ev, mTru_ev, mNot_ev, List.cons_append, List.nil_append, e1, decide_eq_true h, Bool.true_and]
    rw [el]
    simp only [gPur_ev, gAndV_ev, gOrV_ev, gNotV_ev, gIsi_ev, gAnd_ev, gOr_ev, gNot_ev, gTru_ev, gT_ev, g2_ev, g1_ev, gIf_ev, gCall_ev, gFn_ev, gTup_ev, gLst_ev, gSl_ev, gCh_ev, gYes_ev, oN_ev, oS_ev, asI_ev, aCons_ev, aNil_ev, vN_ev, kI_ev, kB_ev, kS_ev, kD'_ev, at_succ, at_zero, get_v, get_w, get_b, get_n, Z.R.of_some, Z.R.bind_ok, Z.R.pur_d, fAdd_i, fSub_i, fNeg_i, fLt_i, fLe_i, fGt_i, fGe_i, fEq_i, fNe_i, fInt_i, fInt_b, fAbs_i, fMin2_i, fMax2_i, fLen_l, fLen_t, fLen_r, tst_b, tru_b, tru_i, tru_t, tru_l, tru_r, tru_n, List.length_map, wipeE_cons, wipeE_nil, List.set_cons_succ, List.set_cons_zero, setE_cons, setE_nil, mkS_d, mkS_l, mkTup_nil, mkTup_ev, mkLst_ev, allD_cons, allD_nil, allD_map, Option.map_some, Option.bind_some, if_true, Bool.false_eq_true, if_false, ite_true, ite_false, Bool.not_true, Bool.not_false, decide_true, decide_false, isInt_i, isInt_b, isInt_t, isBl_i, isBl_b, isBl_t, fTuple_ev, fList_ev, dataOf_t, dataOf_l, dataOf_r, lft_ev, Z.RM.of_ok, Z.RM.bind_ok, mCons_ev, mNil_ev, m2_ev, mOf_ev, mT_ev, mTru_ev, mNot_ev, List.cons_append, List.nil_append, fAll_of]
  · simp only [gPur_ev, gAndV_ev, gOrV_ev, gNotV_ev, gIsi_ev, gAnd_ev, gOr_ev, gNot_ev, gTru_ev, gT_ev, g2_ev, g1_ev, gIf_ev, gCall_ev, gFn_ev, gTup_ev, gLst_ev, gSl_ev, gCh_ev, gYes_ev, oN_ev, oS_ev, asI_ev, aCons_ev, aNil_ev, vN_ev, kI_ev, kB_ev, kS_ev, kD'_ev, at_succ, at_zero, get_v, get_w, get_b, get_n, Z.R.of_some, Z.R.bind_ok, Z.R.pur_d, fAdd_i, fSub_i, fNeg_i, fLt_i, fLe_i, fGt_i, fGe_i, fEq_i, fNe_i, fInt_i, fInt_b, fAbs_i, fMin2_i, fMax2_i, fLen_l, fLen_t, fLen_r, tst_b, tru_b, tru_i, tru_t, tru_l, tru_r, tru_n, List.length_map, wipeE_cons, wipeE_nil, List.set_cons_succ, List.set_cons_zero, setE_cons, setE_nil, mkS_d, mkS_l, mkTup_nil, mkTup_ev, mkLst_ev, allD_cons, allD_nil, allD_map, Option.map_some, Option.bind_some, if_true, Bool.false_eq_true, if_false, ite_true, ite_false, Bool.not_true, Bool.not_false, decide_true, decide_false, isInt_i, isInt_b, isInt_t, isBl_i, isBl_b, isBl_t, fTuple_ev, fList_ev, dataOf_t, dataOf_l, dataOf_r, lft_ev, Z.RM.of_ok, Z.RM.bind_ok, mCons_ev, mNil_ev, m2_ev, mOf_ev, mT_ev, mTru_ev, mNot_ev, List.cons_append, List.nil_append, e1, decide_eq_false h, Bool.false_and]
theorem law_numbers_ok {p : Int} {n : Nat} {zs : List Int} (hl : zs.length < 1000) : F__law_numbers [I p, tp zs, I n] = .ok (.d (.bl (nums p n zs))) := by
  refine runP_ret rfl ?_
  show ∃ e, d__law_numbers [.v (I p), .v (tp zs), .v (I n), .n] = _
  unfold d__law_numbers nums
  have el := gLc_all (vs := [3]) (gs := gIt (vN 1)) (k := kName 3) (te := gPur (gAndV (gFn F__law_is_int (aCons (vN 3) aNil)) (gAndV (g2 fLe (kI 0) (vN 3)) (g2 fLt (vN 3) (vN 0))))) (en := [.v (I p), .v (tp zs), .v (I n), .n]) zs _ (fun z => D.bl (num p z)) (gIt_of (x := tp zs) (e := D.int) rfl rfl) (by omega) (fun z m => ⟨_, rfl, by
    have e : F__law_is_int [I z] = .ok (.d (.bl true)) := rfl
    unfold num
    by_cases h : 0 ≤ z
    · simp only [gPur_ev, gAndV_ev, gOrV_ev, gNotV_ev, gIsi_ev, gAnd_ev, gOr_ev, gNot_ev, gTru_ev, gT_ev, g2_ev, g1_ev, gIf_ev, gCall_ev, gFn_ev, gTup_ev, gLst_ev, gSl_ev, gCh_ev, gYes_ev, oN_ev, oS_ev, asI_ev, aCons_ev, aNil_ev, vN_ev, kI_ev, kB_ev, kS_ev, kD'_ev, at_succ, at_zero, get_v, get_w, get_b, get_n, Z.R.of_some, Z.R.bind_ok, Z.R.pur_d, fAdd_i, fSub_i, fNeg_i, fLt_i, fLe_i, fGt_i, fGe_i, fEq_i, fNe_i, fInt_i, fInt_b, fAbs_i, fMin2_i, fMax2_i, fLen_l, fLen_t, fLen_r, tst_b, tru_b, tru_i, tru_t, tru_l, tru_r, tru_n, List.length_map, wipeE_cons, wipeE_nil, List.set_cons_succ, List.set_cons_zero, setE_cons, setE_nil, mkS_d, mkS_l, mkTup_nil, mkTup_ev, mkLst_ev, allD_cons, allD_nil, allD_map, Option.map_some, Option.bind_some, if_true, Bool.false_eq_true, if_false, ite_true, ite_false, Bool.not_true, Bool.not_false, decide_true, decide_false, isInt_i, isInt_b, isInt_t, isBl_i, isBl_b, isBl_t, fTuple_ev, fList_ev, dataOf_t, dataOf_l, dataOf_r, lft_ev, Z.RM.of_ok, Z.RM.bind_ok, mCons_ev, mNil_ev, m2_ev, mOf_ev, mT_ev, mTru_ev, mNot_ev, List.cons_append, List.nil_append, e, decide_eq_true h, Bool.true_and]
    · simp only [gPur_ev, gAndV_ev, gOrV_ev, gNotV_ev, gIsi_ev, gAnd_ev, gOr_ev, gNot_ev, gTru_ev, gT_ev, g2_ev, g1_ev, gIf_ev, gCall_ev, gFn_ev, gTup_ev, gLst_ev, gSl_ev, gCh_ev, gYes_ev, oN_ev, oS_ev, asI_ev, aCons_ev, aNil_ev, vN_ev, kI_ev, kB_ev, kS_ev, kD'_ev, at_succ, at_zero, get_v, get_w, get_b, get_n, Z.R.of_some, Z.R.bind_ok, Z.R.pur_d, fAdd_i, fSub_i, fNeg_i, fLt_i, fLe_i, fGt_i, fGe_i, fEq_i, fNe_i, fInt_i, fInt_b, fAbs_i, fMin2_i, fMax2_i, fLen_l, fLen_t, fLen_r, tst_b, tru_b, tru_i, tru_t, tru_l, tru_r, tru_n, List.length_map, wipeE_cons, wipeE_nil, List.set_cons_succ, List.set_cons_zero, setE_cons, setE_nil, mkS_d, mkS_l, mkTup_nil, mkTup_ev, mkLst_ev, allD_cons, allD_nil, allD_map, Option.map_some, Option.bind_some, if_true, Bool.false_eq_true, if_false, ite_true, ite_false, Bool.not_true, Bool.not_false, decide_true, decide_false, isInt_i, isInt_b, isInt_t, isBl_i, isBl_b, isBl_t, fTuple_ev, fList_ev, dataOf_t, dataOf_l, dataOf_r, lft_ev, Z.RM.of_ok, Z.RM.bind_ok, mCons_ev, mNil_ev, m2_ev, mOf_ev, mT_ev, mTru_ev, mNot_ev, List.cons_append, List.nil_append, e, decide_eq_false h, Bool.false_and]⟩)
  by_cases h : zs.length = n
  · refine ret_if_f (by simp only [gPur_ev, gAndV_ev, gOrV_ev, gNotV_ev, gIsi_ev, gAnd_ev, gOr_ev, gNot_ev, gTru_ev, gT_ev, g2_ev, g1_ev, gIf_ev, gCall_ev, gFn_ev, gTup_ev, gLst_ev, gSl_ev, gCh_ev, gYes_ev, oN_ev, oS_ev, asI_ev, aCons_ev, aNil_ev, vN_ev, kI_ev, kB_ev, kS_ev, kD'_ev, at_succ, at_zero, get_v, get_w, get_b, get_n, Z.R.of_some, Z.R.bind_ok, Z.R.pur_d, fAdd_i, fSub_i, fNeg_i, fLt_i, fLe_i, fGt_i, fGe_i, fEq_i, fNe_i, fInt_i, fInt_b, fAbs_i, fMin2_i, fMax2_i, fLen_l, fLen_t, fLen_r, tst_b, tru_b, tru_i, tru_t, tru_l, tru_r, tru_n, List.length_map, wipeE_cons, wipeE_nil, List.set_cons_succ, List.set_cons_zero, setE_cons, setE_nil, mkS_d, mkS_l, mkTup_nil, mkTup_ev, mkLst_ev, allD_cons, allD_nil, allD_map, Option.map_some, Option.bind_some, if_true, Bool.false_eq_true, if_false, ite_true, ite_false, Bool.not_true, Bool.not_false, decide_true, decide_false, isInt_i, isInt_b, isInt_t, isBl_i, isBl_b, isBl_t, fTuple_ev, fList_ev, dataOf_t, dataOf_l, dataOf_r, lft_ev, Z.RM.of_ok, Z.RM.bind_ok, mCons_ev, mNil_ev, m2_ev, mOf_ev, mT_ev, mTru_ev, mNot_ev, List.cons_append, List.nil_append, isTup, h]) ?_
    refine ret_lft ?_
    rw [gCall_ev, aCons_ev, el, decide_eq_true h, Bool.true_and]
    simp only [gPur_ev, gAndV_ev, gOrV_ev, gNotV_ev, gIsi_ev, gAnd_ev, gOr_ev, gNot_ev, gTru_ev, gT_ev, g2_ev, g1_ev, gIf_ev, gCall_ev, gFn_ev, gTup_ev, gLst_ev, gSl_ev, gCh_ev, gYes_ev, oN_ev, oS_ev, asI_ev, aCons_ev, aNil_ev, vN_ev, kI_ev, kB_ev, kS_ev, kD'_ev, at_succ, at_zero, get_v, get_w, get_b, get_n, Z.R.of_some, Z.R.bind_ok, Z.R.pur_d, fAdd_i, fSub_i, fNeg_i, fLt_i, fLe_i, fGt_i, fGe_i, fEq_i, fNe_i, fInt_i, fInt_b, fAbs_i, fMin2_i, fMax2_i, fLen_l, fLen_t, fLen_r, tst_b, tru_b, tru_i, tru_t, tru_l, tru_r, tru_n, List.length_map, wipeE_cons, wipeE_nil, List.set_cons_succ, List.set_cons_zero, setE_cons, setE_nil, mkS_d, mkS_l, mkTup_nil, mkTup_ev, mkLst_ev, allD_cons, allD_nil, allD_map, Option.map_some, Option.bind_some, if_true, Bool.false_eq_true, if_false, ite_true, ite_false, Bool.not_true, Bool.not_false, decide_true, decide_false, isInt_i, isInt_b, isInt_t, isBl_i, isBl_b, isBl_t, fTuple_ev, fList_ev, dataOf_t, dataOf_l, dataOf_r, lft_ev, Z.RM.of_ok, Z.RM.bind_ok, mCons_ev, mNil_ev, m2_ev, mOf_ev, mT_ev, mTru_ev, mNot_ev, List.cons_append, List.nil_append, fAll_of]
  · refine ⟨[.v (I p), .v (tp zs), .v (I n), .n], ?_⟩
    rw [fSeq_ev, fIf_t (by simp only [gPur_ev, gAndV_ev, gOrV_ev, gNotV_ev, gIsi_ev, gAnd_ev, gOr_ev, gNot_ev, gTru_ev, gT_ev, g2_ev, g1_ev, gIf_ev, gCall_ev, gFn_ev, gTup_ev, gLst_ev, gSl_ev, gCh_ev, gYes_ev, oN_ev, oS_ev, asI_ev, aCons_ev, aNil_ev, vN_ev, kI_ev, kB_ev, kS_ev, kD'_ev, at_succ, at_zero, get_v, get_w, get_b, get_n, Z.R.of_some, Z.R.bind_ok, Z.R.pur_d, fAdd_i, fSub_i, fNeg_i, fLt_i, fLe_i, fGt_i, fGe_i, fEq_i, fNe_i, fInt_i, fInt_b, fAbs_i, fMin2_i, fMax2_i, fLen_l, fLen_t, fLen_r, tst_b, tru_b, tru_i, tru_t, tru_l, tru_r, tru_n, List.length_map, wipeE_cons, wipeE_nil, List.set_cons_succ, List.set_cons_zero, setE_cons, setE_nil, mkS_d, mkS_l, mkTup_nil, mkTup_ev, mkLst_ev, allD_cons, allD_nil, allD_map, Option.map_some, Option.bind_some, if_true, Bool.false_eq_true, if_false, ite_true, ite_false, Bool.not_true, Bool.not_false, decide_true, decide_false, isInt_i, isInt_b, isInt_t, isBl_i, isBl_b, isBl_t, fTuple_ev, fList_ev, dataOf_t, dataOf_l, dataOf_r, lft_ev, Z.RM.of_ok, Z.RM.bind_ok, mCons_ev, mNil_ev, m2_ev, mOf_ev, mT_ev, mTru_ev, mNot_ev, List.cons_append, List.nil_append, isTup, Int.ofNat_inj, h]), decide_eq_false h, Bool.false_and]
    rfl
/-! sums of rows -/
def add (p : Int) (rows : List (List Int)) (wts : List Int) (w : Nat) : List Int := tab w fun k => ((List.range rows.length).map fun j => wts.getD j 0 * (rows.getD j []).getD k 0).sum % p
theorem add_Rw {p : Int} (hp : 0 < p) {rows : List (List Int)} {wts : List Int} {w : Nat} : Rw p w (add p rows wts w) := tab_Rw fun _ _ => Rg.mod hp _
theorem add_cq {p : Int} {rows : List (List Int)} {wts : List Int} {w k : Nat} (hk : k < w) : cq p (add p rows wts w) k = sm rows.length fun i => cq p wts i * cq p (rows.getD i []) k := by
  unfold cq add
  rw [tab_gd hk, q_mod, q_sum]
  exact sm_congr fun i _ => by rw [q_mul]
def RowsV (x : T) (rows : List (List Int)) : Prop := x = tps rows ∨ x = lss rows
def RowV (x : T) (r : List Int) : Prop := x = tp r ∨ x = ls r
theorem RowsV.len {x : T} {rows : List (List Int)} (h : RowsV x rows) : fLen [x] = some (I rows.length) := by
  rcases h with rfl | rfl
  · exact fLen_tps _
  · exact fLen_lss _
theorem RowsV.ix {x : T} {rows : List (List Int)} (h : RowsV x rows) {i : Nat} (hi : i < rows.length) : fIx x (.d (.int (i : Int))) = some (tp (rows.getD i [])) := by
  rcases h with rfl | rfl
  · exact fIx_tps i rfl hi
  · exact fIx_lss i rfl hi
theorem RowsV.data {x : T} {rows : List (List Int)} (h : RowsV x rows) : dataOf x = some (rows.map rowD) := by
  rcases h with rfl | rfl
  · rfl
  · rw [dataOf_l, allD_map]
theorem RowV.ix {x : T} {r : List Int} (h : RowV x r) {i : Nat} (hi : i < r.length) : fIx x (.d (.int (i : Int))) = some (I (r.getD i 0)) := by
  rcases h with rfl | rfl
  · exact fIx_tp i rfl hi
  · exact fIx_ls i rfl hi
theorem law_added_ok {p : Int} (hp : Pr p) {x y : T} {rows : List (List Int)} {wts : List Int} {w : Nat} (hx : RowsV x rows) (hy : RowV y wts) (hr : ∀ r ∈ rows, Rw p w r) (hl : wts.length = rows.length) (hw : w < 1000) (hn : rows.length < 1000) : F__law_added [I p, x, y, I w] = .ok (tp (add p rows wts w)) := by
  refine runP_ret rfl ?_
  show ∃ e, d__law_added [.v (I p), mkS x, mkS y, .v (I w), .n, .n] = _
  refine ret_lft ?_
  have eg := gR1_of (g := vN 3) (en := [.v (I p), mkS x, mkS y, .v (I w), .n, .n]) (n := w) rfl (by omega)
  have el := gLc_all (vs := [4]) (k := kName 4) (te := g2 fMod (gCall fInt (aCons (gCall fSum (aCons (gLc [5] (gR1 (gCall fLen (aCons (vN 1) aNil))) (kName 5) gYes (g2 fMul (g2 fIx (vN 2) (vN 5)) (g2 fIx (g2 fIx (vN 1) (vN 5)) (vN 4)))) aNil)) aNil)) (vN 0)) (List.range w) _ (fun k => D.int (((List.range rows.length).map fun j => wts.getD j 0 * (rows.getD j []).getD k 0).sum % p)) eg (by rw [List.length_range]; omega) (fun k hk => by
    have hk := List.mem_range.mp hk
    refine ⟨[(4, I k)], rfl, ?_⟩
    have e1 : setE (wipeE [.v (I p), mkS x, mkS y, .v (I w), .n, .n] [4]) [(4, I k)] = [.v (I p), mkS x, mkS y, .v (I w), .v (I k), .n] := rfl
    rw [e1]
    have eg2 := gR1_of (g := gCall fLen (aCons (vN 1) aNil)) (en := [.v (I p), mkS x, mkS y, .v (I w), .v (I k), .n]) (n := rows.length) (by simp only [gPur_ev, gAndV_ev, gOrV_ev, gNotV_ev, gIsi_ev, gAnd_ev, gOr_ev, gNot_ev, gTru_ev, gT_ev, g2_ev, g1_ev, gIf_ev, gCall_ev, gFn_ev, gTup_ev, gLst_ev, gSl_ev, gCh_ev, gYes_ev, oN_ev, oS_ev, asI_ev, aCons_ev, aNil_ev, vN_ev, kI_ev, kB_ev, kS_ev, kD'_ev, at_succ, at_zero, get_v, get_w, get_b, get_n, Z.R.of_some, Z.R.bind_ok, Z.R.pur_d, fAdd_i, fSub_i, fNeg_i, fLt_i, fLe_i, fGt_i, fGe_i, fEq_i, fNe_i, fInt_i, fInt_b, fAbs_i, fMin2_i, fMax2_i, fLen_l, fLen_t, fLen_r, tst_b, tru_b, tru_i, tru_t, tru_l, tru_r, tru_n, List.length_map, wipeE_cons, wipeE_nil, List.set_cons_succ, List.set_cons_zero, setE_cons, setE_nil, mkS_d, mkS_l, mkTup_nil, mkTup_ev, mkLst_ev, allD_cons, allD_nil, allD_map, Option.map_some, Option.bind_some, if_true, Bool.false_eq_true, if_false, ite_true, ite_false, Bool.not_true, Bool.not_false, decide_true, decide_false, isInt_i, isInt_b, isInt_t, isBl_i, isBl_b, isBl_t, fTuple_ev, fList_ev, dataOf_t, dataOf_l, dataOf_r, lft_ev, Z.RM.of_ok, Z.RM.bind_ok, mCons_ev, mNil_ev, m2_ev, mOf_ev, mT_ev, mTru_ev, mNot_ev, List.cons_append, List.nil_append, mkS_get, hx.len]) (by omega)
    have el2 := gLc_all (vs := [5]) (k := kName 5) (te := g2 fMul (g2 fIx (vN 2) (vN 5)) (g2 fIx (g2 fIx (vN 1) (vN 5)) (vN 4))) (List.range rows.length) _ (fun j => D.int (wts.getD j 0 * (rows.getD j []).getD k 0)) eg2 (by rw [List.length_range]; omega) (fun j hj => by
      have hj := List.mem_range.mp hj
      have hrj : Rw p w (rows.getD j []) := by rw [gd hj]; exact hr _ (List.getElem_mem hj)
      have m1 : MulOk (wts.getD j 0) ((rows.getD j []).getD k 0) := by
        have := hrj.at hk
        have := hp.rg
        exact .r (by have := this.1; unfold Rg at *; omega)
      refine ⟨[(5, I j)], rfl, ?_⟩
      have i1 := hx.ix hj
      have i2 := hy.ix (i := j) (by omega)
      have i3 := fIx_tp (zs := rows.getD j []) (z := k) k rfl (by rw [hrj.len]; exact hk)
      simp only [gPur_ev, gAndV_ev, gOrV_ev, gNotV_ev, gIsi_ev, gAnd_ev, gOr_ev, gNot_ev, gTru_ev, gT_ev, g2_ev, g1_ev, gIf_ev, gCall_ev, gFn_ev, gTup_ev, gLst_ev, gSl_ev, gCh_ev, gYes_ev, oN_ev, oS_ev, asI_ev, aCons_ev, aNil_ev, vN_ev, kI_ev, kB_ev, kS_ev, kD'_ev, at_succ, at_zero, get_v, get_w, get_b, get_n, Z.R.of_some, Z.R.bind_ok, Z.R.pur_d, fAdd_i, fSub_i, fNeg_i, fLt_i, fLe_i, fGt_i, fGe_i, fEq_i, fNe_i, fInt_i, fInt_b, fAbs_i, fMin2_i, fMax2_i, fLen_l, fLen_t, fLen_r, tst_b, tru_b, tru_i, tru_t, tru_l, tru_r, tru_n, List.length_map, wipeE_cons, wipeE_nil, List.set_cons_succ, List.set_cons_zero, setE_cons, setE_nil, mkS_d, mkS_l, mkTup_nil, mkTup_ev, mkLst_ev, allD_cons, allD_nil, allD_map, Option.map_some, Option.bind_some, if_true, Bool.false_eq_true, if_false, ite_true, ite_false, Bool.not_true, Bool.not_false, decide_true, decide_false, isInt_i, isInt_b, isInt_t, isBl_i, isBl_b, isBl_t, fTuple_ev, fList_ev, dataOf_t, dataOf_l, dataOf_r, lft_ev, Z.RM.of_ok, Z.RM.bind_ok, mCons_ev, mNil_ev, m2_ev, mOf_ev, mT_ev, mTru_ev, mNot_ev, List.cons_append, List.nil_append, mkS_get, i1, i2, i3, fMul_i, if_pos m1])
    rw [g2_ev, gCall_ev, aCons_ev, gCall_ev, aCons_ev, el2]
    simp only [gPur_ev, gAndV_ev, gOrV_ev, gNotV_ev, gIsi_ev, gAnd_ev, gOr_ev, gNot_ev, gTru_ev, gT_ev, g2_ev, g1_ev, gIf_ev, gCall_ev, gFn_ev, gTup_ev, gLst_ev, gSl_ev, gCh_ev, gYes_ev, oN_ev, oS_ev, asI_ev, aCons_ev, aNil_ev, vN_ev, kI_ev, kB_ev, kS_ev, kD'_ev, at_succ, at_zero, get_v, get_w, get_b, get_n, Z.R.of_some, Z.R.bind_ok, Z.R.pur_d, fAdd_i, fSub_i, fNeg_i, fLt_i, fLe_i, fGt_i, fGe_i, fEq_i, fNe_i, fInt_i, fInt_b, fAbs_i, fMin2_i, fMax2_i, fLen_l, fLen_t, fLen_r, tst_b, tru_b, tru_i, tru_t, tru_l, tru_r, tru_n, List.length_map, wipeE_cons, wipeE_nil, List.set_cons_succ, List.set_cons_zero, setE_cons, setE_nil, mkS_d, mkS_l, mkTup_nil, mkTup_ev, mkLst_ev, allD_cons, allD_nil, allD_map, Option.map_some, Option.bind_some, if_true, Bool.false_eq_true, if_false, ite_true, ite_false, Bool.not_true, Bool.not_false, decide_true, decide_false, isInt_i, isInt_b, isInt_t, isBl_i, isBl_b, isBl_t, fTuple_ev, fList_ev, dataOf_t, dataOf_l, dataOf_r, lft_ev, Z.RM.of_ok, Z.RM.bind_ok, mCons_ev, mNil_ev, m2_ev, mOf_ev, mT_ev, mTru_ev, mNot_ev, List.cons_append, List.nil_append, fSum_of, fMod_i, if_pos hp.pos])
  rw [gCall_ev, aCons_ev, el]
  simp only [gPur_ev, gAndV_ev, gOrV_ev, gNotV_ev, gIsi_ev, gAnd_ev, gOr_ev, gNot_ev, gTru_ev, gT_ev, g2_ev, g1_ev, gIf_ev, gCall_ev, gFn_ev, gTup_ev, gLst_ev, gSl_ev, gCh_ev, gYes_ev, oN_ev, oS_ev, asI_ev, aCons_ev, aNil_ev, vN_ev, kI_ev, kB_ev, kS_ev, kD'_ev, at_succ, at_zero, get_v, get_w, get_b, get_n, Z.R.of_some, Z.R.bind_ok, Z.R.pur_d, fAdd_i, fSub_i, fNeg_i, fLt_i, fLe_i, fGt_i, fGe_i, fEq_i, fNe_i, fInt_i, fInt_b, fAbs_i, fMin2_i, fMax2_i, fLen_l, fLen_t, fLen_r, tst_b, tru_b, tru_i, tru_t, tru_l, tru_r, tru_n, List.length_map, wipeE_cons, wipeE_nil, List.set_cons_succ, List.set_cons_zero, setE_cons, setE_nil, mkS_d, mkS_l, mkTup_nil, mkTup_ev, mkLst_ev, allD_cons, allD_nil, allD_map, Option.map_some, Option.bind_some, if_true, Bool.false_eq_true, if_false, ite_true, ite_false, Bool.not_true, Bool.not_false, decide_true, decide_false, isInt_i, isInt_b, isInt_t, isBl_i, isBl_b, isBl_t, fTuple_ev, fList_ev, dataOf_t, dataOf_l, dataOf_r, lft_ev, Z.RM.of_ok, Z.RM.bind_ok, mCons_ev, mNil_ev, m2_ev, mOf_ev, mT_ev, mTru_ev, mNot_ev, List.cons_append, List.nil_append]
  unfold add tab tp
  rw [List.map_map]; rfl
/-- two rows of one length -/
theorem zip_sum {a b : List Int} (h : a.length = b.length) : ((a.zip b).map fun x => x.1 * x.2).sum = ((List.range a.length).map fun k => a.getD k 0 * b.getD k 0).sum := by
  rw [zip_tab (fun x : Int × Int => x.1 * x.2) a b 0 0 h]
def dotZ (p : Int) (a b : List Int) : Int := ((List.range a.length).map fun k => a.getD k 0 * b.getD k 0).sum % p
theorem law_dot_ok {p : Int} (hp : Pr p) {w : Nat} {a b : List Int} (ha : Rw p w a) (hb : Rw p w b) (hw : w < 1000) : F__law_dot [I p, tp a, tp b] = .ok (I (dotZ p a b)) := by
  refine runP_ret rfl ?_
  show ∃ e, d__law_dot [.v (I p), .v (tp a), .v (tp b), .n] = _
  refine ret_lft ?_
  have eg := gR1_of (g := gCall fLen (aCons (vN 1) aNil)) (en := [.v (I p), .v (tp a), .v (tp b), .n]) (n := a.length) (by simp only [gPur_ev, gAndV_ev, gOrV_ev, gNotV_ev, gIsi_ev, gAnd_ev, gOr_ev, gNot_ev, gTru_ev, gT_ev, g2_ev, g1_ev, gIf_ev, gCall_ev, gFn_ev, gTup_ev, gLst_ev, gSl_ev, gCh_ev, gYes_ev, oN_ev, oS_ev, asI_ev, aCons_ev, aNil_ev, vN_ev, kI_ev, kB_ev, kS_ev, kD'_ev, at_succ, at_zero, get_v, get_w, get_b, get_n, Z.R.of_some, Z.R.bind_ok, Z.R.pur_d, fAdd_i, fSub_i, fNeg_i, fLt_i, fLe_i, fGt_i, fGe_i, fEq_i, fNe_i, fInt_i, fInt_b, fAbs_i, fMin2_i, fMax2_i, fLen_l, fLen_t, fLen_r, tst_b, tru_b, tru_i, tru_t, tru_l, tru_r, tru_n, List.length_map, wipeE_cons, wipeE_nil, List.set_cons_succ, List.set_cons_zero, setE_cons, setE_nil, mkS_d, mkS_l, mkTup_nil, mkTup_ev, mkLst_ev, allD_cons, allD_nil, allD_map, Option.map_some, Option.bind_some, if_true, Bool.false_eq_true, if_false, ite_true, ite_false, Bool.not_true, Bool.not_false, decide_true, decide_false, isInt_i, isInt_b, isInt_t, isBl_i, isBl_b, isBl_t, fTuple_ev, fList_ev, dataOf_t, dataOf_l, dataOf_r, lft_ev, Z.RM.of_ok, Z.RM.bind_ok, mCons_ev, mNil_ev, m2_ev, mOf_ev, mT_ev, mTru_ev, mNot_ev, List.cons_append, List.nil_append]) (by rw [ha.len]; omega)
  have el := gLc_all (vs := [3]) (k := kName 3) (te := g2 fMul (g2 fIx (vN 1) (vN 3)) (g2 fIx (vN 2) (vN 3))) (List.range a.length) _ (fun k => D.int (a.getD k 0 * b.getD k 0)) eg (by rw [List.length_range, ha.len]; omega) (fun k hk => by
    have hk := List.mem_range.mp hk
    have i1 := fIx_tp (zs := a) (z := k) k rfl hk
    have i2 := fIx_tp (zs := b) (z := k) k rfl (by rw [hb.len]; rw [ha.len] at hk; exact hk)
    have m1 : MulOk (a.getD k 0) (b.getD k 0) := mulOk_rg hp.rg.2 (ha.at (by rw [ha.len] at hk; exact hk))
    refine ⟨[(3, I k)], rfl, ?_⟩
    simp only [gPur_ev, gAndV_ev, gOrV_ev, gNotV_ev, gIsi_ev, gAnd_ev, gOr_ev, gNot_ev, gTru_ev, gT_ev, g2_ev, g1_ev, gIf_ev, gCall_ev, gFn_ev, gTup_ev, gLst_ev, gSl_ev, gCh_ev, gYes_ev, oN_ev, oS_ev, asI_ev, aCons_ev, aNil_ev, vN_ev, kI_ev, kB_ev, kS_ev, kD'_ev, at_succ, at_zero, get_v, get_w, get_b, get_n, Z.R.of_some, Z.R.bind_ok, Z.R.pur_d, fAdd_i, fSub_i, fNeg_i, fLt_i, fLe_i, fGt_i, fGe_i, fEq_i, fNe_i, fInt_i, fInt_b, fAbs_i, fMin2_i, fMax2_i, fLen_l, fLen_t, fLen_r, tst_b, tru_b, tru_i, tru_t, tru_l, tru_r, tru_n, List.length_map, wipeE_cons, wipeE_nil, List.set_cons_succ, List.set_cons_zero, setE_cons, setE_nil, mkS_d, mkS_l, mkTup_nil, mkTup_ev, mkLst_ev, allD_cons, allD_nil, allD_map, Option.map_some, Option.bind_some, if_true, Bool.false_eq_true, if_false, ite_true, ite_false, Bool.not_true, Bool.not_false, decide_true, decide_false, isInt_i, isInt_b, isInt_t, isBl_i, isBl_b, isBl_t, fTuple_ev, fList_ev, dataOf_t, dataOf_l, dataOf_r, lft_ev, Z.RM.of_ok, Z.RM.bind_ok, mCons_ev, mNil_ev, m2_ev, mOf_ev, mT_ev, mTru_ev, mNot_ev, List.cons_append, List.nil_append, i1, i2, fMul_i, if_pos m1])
  rw [g2_ev, gCall_ev, aCons_ev, gCall_ev, aCons_ev, el]
  simp only [gPur_ev, gAndV_ev, gOrV_ev, gNotV_ev, gIsi_ev, gAnd_ev, gOr_ev, gNot_ev, gTru_ev, gT_ev, g2_ev, g1_ev, gIf_ev, gCall_ev, gFn_ev, gTup_ev, gLst_ev, gSl_ev, gCh_ev, gYes_ev, oN_ev, oS_ev, asI_ev, aCons_ev, aNil_ev, vN_ev, kI_ev, kB_ev, kS_ev, kD'_ev, at_succ, at_zero, get_v, get_w, get_b, get_n, Z.R.of_some, Z.R.bind_ok, Z.R.pur_d, fAdd_i, fSub_i, fNeg_i, fLt_i, fLe_i, fGt_i, fGe_i, fEq_i, fNe_i, fInt_i, fInt_b, fAbs_i, fMin2_i, fMax2_i, fLen_l, fLen_t, fLen_r, tst_b, tru_b, tru_i, tru_t, tru_l, tru_r, tru_n, List.length_map, wipeE_cons, wipeE_nil, List.set_cons_succ, List.set_cons_zero, setE_cons, setE_nil, mkS_d, mkS_l, mkTup_nil, mkTup_ev, mkLst_ev, allD_cons, allD_nil, allD_map, Option.map_some, Option.bind_some, if_true, Bool.false_eq_true, if_false, ite_true, ite_false, Bool.not_true, Bool.not_false, decide_true, decide_false, isInt_i, isInt_b, isInt_t, isBl_i, isBl_b, isBl_t, fTuple_ev, fList_ev, dataOf_t, dataOf_l, dataOf_r, lft_ev, Z.RM.of_ok, Z.RM.bind_ok, mCons_ev, mNil_ev, m2_ev, mOf_ev, mT_ev, mTru_ev, mNot_ev, List.cons_append, List.nil_append, fSum_of, fMod_i, if_pos hp.pos]
  rfl
/-- pairs of numbers, summed -/
theorem summed_ok {p : Int} (hp : Pr p) (L : List (Int × Int)) (hL : ∀ x ∈ L, MulOk x.1 x.2) (hl : L.length < 1000) : F_summed [I p, .l (L.map fun x => T.d (.tup [.int x.1, .int x.2]))] = .ok (I ((L.map fun x => x.1 * x.2).sum % p)) := by
  refine runP_ret rfl ?_
  show ∃ e, d_summed [.v (I p), .w (.l (L.map fun x => T.d (.tup [.int x.1, .int x.2]))), .n, .n] = _
  refine ret_lft ?_
  have el := gLc_all (vs := [2, 3]) (gs := gIt (vN 1)) (k := kTup 2 (kCons (kName 2) (kCons (kName 3) kNil))) (te := g2 fMul (vN 2) (vN 3)) (en := [.v (I p), .w (.l (L.map fun x => T.d (.tup [.int x.1, .int x.2]))), .n, .n]) L (fun x => T.d (.tup [.int x.1, .int x.2])) (fun x => D.int (x.1 * x.2)) rfl (by omega) (fun x m => ⟨[(2, I x.1), (3, I x.2)], rfl, by simp only [gPur_ev, gAndV_ev, gOrV_ev, gNotV_ev, gIsi_ev, gAnd_ev, gOr_ev, gNot_ev, gTru_ev, gT_ev, g2_ev, g1_ev, gIf_ev, gCall_ev, gFn_ev, gTup_ev, gLst_ev, gSl_ev, gCh_ev, gYes_ev, oN_ev, oS_ev, asI_ev, aCons_ev, aNil_ev, vN_ev, kI_ev, kB_ev, kS_ev, kD'_ev, at_succ, at_zero, get_v, get_w, get_b, get_n, Z.R.of_some, Z.R.bind_ok, Z.R.pur_d, fAdd_i, fSub_i, fNeg_i, fLt_i, fLe_i, fGt_i, fGe_i, fEq_i, fNe_i, fInt_i, fInt_b, fAbs_i, fMin2_i, fMax2_i, fLen_l, fLen_t, fLen_r, tst_b, tru_b, tru_i, tru_t, tru_l, tru_r, tru_n, List.length_map, wipeE_cons, wipeE_nil, List.set_cons_succ, List.set_cons_zero, setE_cons, setE_nil, mkS_d, mkS_l, mkTup_nil, mkTup_ev, mkLst_ev, allD_cons, allD_nil, allD_map, Option.map_some, Option.bind_some, if_true, Bool.false_eq_true, if_false, ite_true, ite_false, Bool.not_true, Bool.not_false, decide_true, decide_false, isInt_i, isInt_b, isInt_t, isBl_i, isBl_b, isBl_t, fTuple_ev, fList_ev, dataOf_t, dataOf_l, dataOf_r, lft_ev, Z.RM.of_ok, Z.RM.bind_ok, mCons_ev, mNil_ev, m2_ev, mOf_ev, mT_ev, mTru_ev, mNot_ev, List.cons_append, List.nil_append, fMul_i, if_pos (hL x m)]⟩)
  rw [g2_ev, gCall_ev, aCons_ev, el]
  simp only [gPur_ev, gAndV_ev, gOrV_ev, gNotV_ev, gIsi_ev, gAnd_ev, gOr_ev, gNot_ev, gTru_ev, gT_ev, g2_ev, g1_ev, gIf_ev, gCall_ev, gFn_ev, gTup_ev, gLst_ev, gSl_ev, gCh_ev, gYes_ev, oN_ev, oS_ev, asI_ev, aCons_ev, aNil_ev, vN_ev, kI_ev, kB_ev, kS_ev, kD'_ev, at_succ, at_zero, get_v, get_w, get_b, get_n, Z.R.of_some, Z.R.bind_ok, Z.R.pur_d, fAdd_i, fSub_i, fNeg_i, fLt_i, fLe_i, fGt_i, fGe_i, fEq_i, fNe_i, fInt_i, fInt_b, fAbs_i, fMin2_i, fMax2_i, fLen_l, fLen_t, fLen_r, tst_b, tru_b, tru_i, tru_t, tru_l, tru_r, tru_n, List.length_map, wipeE_cons, wipeE_nil, List.set_cons_succ, List.set_cons_zero, setE_cons, setE_nil, mkS_d, mkS_l, mkTup_nil, mkTup_ev, mkLst_ev, allD_cons, allD_nil, allD_map, Option.map_some, Option.bind_some, if_true, Bool.false_eq_true, if_false, ite_true, ite_false, Bool.not_true, Bool.not_false, decide_true, decide_false, isInt_i, isInt_b, isInt_t, isBl_i, isBl_b, isBl_t, fTuple_ev, fList_ev, dataOf_t, dataOf_l, dataOf_r, lft_ev, Z.RM.of_ok, Z.RM.bind_ok, mCons_ev, mNil_ev, m2_ev, mOf_ev, mT_ev, mTru_ev, mNot_ev, List.cons_append, List.nil_append, fSum_of, fMod_i, if_pos hp.pos]
theorem weighted_ok {p : Int} (hp : Pr p) {rows : List (List Int)} {wts : List Int} {w : Nat} (hr : ∀ r ∈ rows, Rw p w r) (hq : Rw p rows.length wts) (hw : w < 1000) (hn : rows.length < 1000) : F_weighted [I p, tps rows, tp wts, I w] = .ok (tp (add p rows wts w)) := by
  refine runP_ret rfl ?_
  show ∃ e, d_weighted [.v (I p), .v (tps rows), .v (tp wts), .v (I w), .n, .n, .n] = _
  refine ret_lft ?_
  have eg := gR1_of (g := vN 3) (en := [.v (I p), .v (tps rows), .v (tp wts), .v (I w), .n, .n, .n]) (n := w) rfl (by omega)
  have el := gLc_all (vs := [4]) (k := kName 4) (te := gFn F_summed (aCons (vN 0) (aCons (gLc [5, 6] (gZip (vN 2) (vN 1)) (kTup 2 (kCons (kName 5) (kCons (kName 6) kNil))) gYes (gTup (aCons (vN 5) (aCons (g2 fIx (vN 6) (vN 4)) aNil)))) aNil))) (List.range w) _ (fun k => D.int (((List.range rows.length).map fun j => wts.getD j 0 * (rows.getD j []).getD k 0).sum % p)) eg (by rw [List.length_range]; omega) (fun k hk => by
    have hk := List.mem_range.mp hk
    refine ⟨[(4, I k)], rfl, ?_⟩
    have e1 : setE (wipeE [.v (I p), .v (tps rows), .v (tp wts), .v (I w), .n, .n, .n] [4]) [(4, I k)] = [.v (I p), .v (tps rows), .v (tp wts), .v (I w), .v (I k), .n, .n] := rfl
    rw [e1]
    have l1 : ∀ x y : D, ([x, y] : List D).length ≤ most := fun x y => (by decide : 2 ≤ 16777216)
    have el2 := gLc_all (vs := [5, 6]) (gs := gZip (vN 2) (vN 1)) (k := kTup 2 (kCons (kName 5) (kCons (kName 6) kNil))) (te := gTup (aCons (vN 5) (aCons (g2 fIx (vN 6) (vN 4)) aNil))) (en := [.v (I p), .v (tps rows), .v (tp wts), .v (I w), .v (I k), .n, .n]) (wts.zip rows) _ (fun x => D.tup [.int x.1, .int (x.2.getD k 0)]) (gZip_of (x := tp wts) (y := tps rows) (xs := wts) (ys := rows) (e := D.int) (f := rowD) rfl rfl rfl rfl) (by rw [List.length_zip]; omega) (fun x m => by
      have hx : Rw p w x.2 := hr _ (List.of_mem_zip m).2
      have i1 := fIx_tp (zs := x.2) (z := k) k rfl (by rw [hx.len]; exact hk)
      refine ⟨[(5, I x.1), (6, tp x.2)], rfl, ?_⟩
      simp only [gPur_ev, gAndV_ev, gOrV_ev, gNotV_ev, gIsi_ev, gAnd_ev, gOr_ev, gNot_ev, gTru_ev, gT_ev, g2_ev, g1_ev, gIf_ev, gCall_ev, gFn_ev, gTup_ev, gLst_ev, gSl_ev, gCh_ev, gYes_ev, oN_ev, oS_ev, asI_ev, aCons_ev, aNil_ev, vN_ev, kI_ev, kB_ev, kS_ev, kD'_ev, at_succ, at_zero, get_v, get_w, get_b, get_n, Z.R.of_some, Z.R.bind_ok, Z.R.pur_d, fAdd_i, fSub_i, fNeg_i, fLt_i, fLe_i, fGt_i, fGe_i, fEq_i, fNe_i, fInt_i, fInt_b, fAbs_i, fMin2_i, fMax2_i, fLen_l, fLen_t, fLen_r, tst_b, tru_b, tru_i, tru_t, tru_l, tru_r, tru_n, List.length_map, wipeE_cons, wipeE_nil, List.set_cons_succ, List.set_cons_zero, setE_cons, setE_nil, mkS_d, mkS_l, mkTup_nil, mkTup_ev, mkLst_ev, allD_cons, allD_nil, allD_map, Option.map_some, Option.bind_some, if_true, Bool.false_eq_true, if_false, ite_true, ite_false, Bool.not_true, Bool.not_false, decide_true, decide_false, isInt_i, isInt_b, isInt_t, isBl_i, isBl_b, isBl_t, fTuple_ev, fList_ev, dataOf_t, dataOf_l, dataOf_r, lft_ev, Z.RM.of_ok, Z.RM.bind_ok, mCons_ev, mNil_ev, m2_ev, mOf_ev, mT_ev, mTru_ev, mNot_ev, List.cons_append, List.nil_append, i1, if_pos (l1 _ _)])
    have e3 := summed_ok hp ((wts.zip rows).map fun x => (x.1, x.2.getD k 0)) (fun y m => by
      obtain ⟨x, m2, rfl⟩ := List.mem_map.mp m
      exact mulOk_rg hp.rg.2 (hq.rg _ (List.of_mem_zip m2).1)) (by rw [List.length_map, List.length_zip]; omega)
    rw [gFn_ev, aCons_ev, aCons_ev, el2]
    have e4 : (((wts.zip rows).map fun x => D.tup [.int x.1, .int (x.2.getD k 0)]).map T.d) = (((wts.zip rows).map fun x => (x.1, x.2.getD k 0)).map fun x => T.d (.tup [.int x.1, .int x.2])) := by
      rw [List.map_map, List.map_map]; rfl
    rw [e4]
    simp only [gPur_ev, gAndV_ev, gOrV_ev, gNotV_ev, gIsi_ev, gAnd_ev, gOr_ev, gNot_ev, gTru_ev, gT_ev, g2_ev, g1_ev, gIf_ev, gCall_ev, gFn_ev, gTup_ev, gLst_ev, gSl_ev, gCh_ev, gYes_ev, oN_ev, oS_ev, asI_ev, aCons_ev, aNil_ev, vN_ev, kI_ev, kB_ev, kS_ev, kD'_ev, at_succ, at_zero, get_v, get_w, get_b, get_n, Z.R.of_some, Z.R.bind_ok, Z.R.pur_d, fAdd_i, fSub_i, fNeg_i, fLt_i, fLe_i, fGt_i, fGe_i, fEq_i, fNe_i, fInt_i, fInt_b, fAbs_i, fMin2_i, fMax2_i, fLen_l, fLen_t, fLen_r, tst_b, tru_b, tru_i, tru_t, tru_l, tru_r, tru_n, List.length_map, wipeE_cons, wipeE_nil, List.set_cons_succ, List.set_cons_zero, setE_cons, setE_nil, mkS_d, mkS_l, mkTup_nil, mkTup_ev, mkLst_ev, allD_cons, allD_nil, allD_map, Option.map_some, Option.bind_some, if_true, Bool.false_eq_true, if_false, ite_true, ite_false, Bool.not_true, Bool.not_false, decide_true, decide_false, isInt_i, isInt_b, isInt_t, isBl_i, isBl_b, isBl_t, fTuple_ev, fList_ev, dataOf_t, dataOf_l, dataOf_r, lft_ev, Z.RM.of_ok, Z.RM.bind_ok, mCons_ev, mNil_ev, m2_ev, mOf_ev, mT_ev, mTru_ev, mNot_ev, List.cons_append, List.nil_append, e3]
    rw [List.map_map, show ((fun x : Int × Int => x.1 * x.2) ∘ fun x : Int × List Int => (x.1, x.2.getD k 0)) = (fun x : Int × List Int => x.1 * x.2.getD k 0) from rfl, zip_tab (fun x : Int × List Int => x.1 * x.2.getD k 0) wts rows 0 [] hq.len, hq.len])
  rw [gCall_ev, aCons_ev, el]
  simp only [gPur_ev, gAndV_ev, gOrV_ev, gNotV_ev, gIsi_ev, gAnd_ev, gOr_ev, gNot_ev, gTru_ev, gT_ev, g2_ev, g1_ev, gIf_ev, gCall_ev, gFn_ev, gTup_ev, gLst_ev, gSl_ev, gCh_ev, gYes_ev, oN_ev, oS_ev, asI_ev, aCons_ev, aNil_ev, vN_ev, kI_ev, kB_ev, kS_ev, kD'_ev, at_succ, at_zero, get_v, get_w, get_b, get_n, Z.R.of_some, Z.R.bind_ok, Z.R.pur_d, fAdd_i, fSub_i, fNeg_i, fLt_i, fLe_i, fGt_i, fGe_i, fEq_i, fNe_i, fInt_i, fInt_b, fAbs_i, fMin2_i, fMax2_i, fLen_l, fLen_t, fLen_r, tst_b, tru_b, tru_i, tru_t, tru_l, tru_r, tru_n, List.length_map, wipeE_cons, wipeE_nil, List.set_cons_succ, List.set_cons_zero, setE_cons, setE_nil, mkS_d, mkS_l, mkTup_nil, mkTup_ev, mkLst_ev, allD_cons, allD_nil, allD_map, Option.map_some, Option.bind_some, if_true, Bool.false_eq_true, if_false, ite_true, ite_false, Bool.not_true, Bool.not_false, decide_true, decide_false, isInt_i, isInt_b, isInt_t, isBl_i, isBl_b, isBl_t, fTuple_ev, fList_ev, dataOf_t, dataOf_l, dataOf_r, lft_ev, Z.RM.of_ok, Z.RM.bind_ok, mCons_ev, mNil_ev, m2_ev, mOf_ev, mT_ev, mTru_ev, mNot_ev, List.cons_append, List.nil_append]
  unfold add tab tp
  rw [List.map_map]; rfl
end K02
namespace K02
open PySem PySem.Spec L2 Z
open PyProof.Rows hiding St
/-! is it right -/
def rightW (p : Int) (w : Nat) (rows : List (List Int)) (v zs : List Int) : Bool := nums p rows.length zs && decide (add p rows zs w = v)
def rightC (p : Int) (w : Nat) (rows : List (List Int)) (v zs : List Int) : Bool := nums p w zs && (rows.all (fun r => decide (dotZ p r zs = 0)) && decide (dotZ p v zs = 1))
theorem pair_ix0 (a b : D) : fIx (.d (.tup [a, b])) (.d (.int 0)) = some (.d a) := rfl
theorem pair_ix1 (a b : D) : fIx (.d (.tup [a, b])) (.d (.int 1)) = some (.d b) := rfl
section
variable {p : Int} (hp : Pr p) {w : Nat} {rows : List (List Int)} {v zs : List Int} (hr : ∀ r ∈ rows, Rw p w r) (hv : Rw p w v) (hw : w < 100) (hn : rows.length < 100) (hz : zs.length < 1000)
include hp hr hv hw hn hz
theorem law_rightW : F__law_is_right [I p, tps rows, tp v, .d (.tup [WS, rowD zs])] = .ok (.d (.bl (rightW p w rows v zs))) := by
  refine runP_ret rfl ?_
  show ∃ e, d__law_is_right [.v (I p), .v (tps rows), .v (tp v), .v (.d (.tup [WS, rowD zs])), .n] = _
  unfold d__law_is_right
  refine ret_if_f (by simp only [gPur_ev, gAndV_ev, gOrV_ev, gNotV_ev, gIsi_ev, gAnd_ev, gOr_ev, gNot_ev, gTru_ev, gT_ev, g2_ev, g1_ev, gIf_ev, gCall_ev, gFn_ev, gTup_ev, gLst_ev, gSl_ev, gCh_ev, gYes_ev, oN_ev, oS_ev, asI_ev, aCons_ev, aNil_ev, vN_ev, kI_ev, kB_ev, kS_ev, kD'_ev, at_succ, at_zero, get_v, get_w, get_b, get_n, Z.R.of_some, Z.R.bind_ok, Z.R.pur_d, fAdd_i, fSub_i, fNeg_i, fLt_i, fLe_i, fGt_i, fGe_i, fEq_i, fNe_i, fInt_i, fInt_b, fAbs_i, fMin2_i, fMax2_i, fLen_l, fLen_t, fLen_r, tst_b, tru_b, tru_i, tru_t, tru_l, tru_r, tru_n, List.length_map, wipeE_cons, wipeE_nil, List.set_cons_succ, List.set_cons_zero, setE_cons, setE_nil, mkS_d, mkS_l, mkTup_nil, mkTup_ev, mkLst_ev, allD_cons, allD_nil, allD_map, Option.map_some, Option.bind_some, if_true, Bool.false_eq_true, if_false, ite_true, ite_false, Bool.not_true, Bool.not_false, decide_true, decide_false, isInt_i, isInt_b, isInt_t, isBl_i, isBl_b, isBl_t, fTuple_ev, fList_ev, dataOf_t, dataOf_l, dataOf_r, lft_ev, Z.RM.of_ok, Z.RM.bind_ok, mCons_ev, mNil_ev, m2_ev, mOf_ev, mT_ev, mTru_ev, mNot_ev, List.cons_append, List.nil_append, isTup, List.length_cons, List.length_nil]; rfl) ?_
  have e1 := law_numbers_ok (p := p) (n := rows.length) hz
  unfold rightW
  cases h : nums p rows.length zs with
  | true =>
    rw [h] at e1
    have R := nums_iff.mp h
    have e2 := law_added_ok hp (.inl rfl) (.inl rfl) hr R.len (by omega : w < 1000) (by omega)
    refine ⟨[.v (I p), .v (tps rows), .v (tp v), .v (.d (.tup [WS, rowD zs])), .n], ?_⟩
    rw [fSeq_ev, fIf_t (by simp only [gPur_ev, gAndV_ev, gOrV_ev, gNotV_ev, gIsi_ev, gAnd_ev, gOr_ev, gNot_ev, gTru_ev, gT_ev, g2_ev, g1_ev, gIf_ev, gCall_ev, gFn_ev, gTup_ev, gLst_ev, gSl_ev, gCh_ev, gYes_ev, oN_ev, oS_ev, asI_ev, aCons_ev, aNil_ev, vN_ev, kI_ev, kB_ev, kS_ev, kD'_ev, at_succ, at_zero, get_v, get_w, get_b, get_n, Z.R.of_some, Z.R.bind_ok, Z.R.pur_d, fAdd_i, fSub_i, fNeg_i, fLt_i, fLe_i, fGt_i, fGe_i, fEq_i, fNe_i, fInt_i, fInt_b, fAbs_i, fMin2_i, fMax2_i, fLen_l, fLen_t, fLen_r, tst_b, tru_b, tru_i, tru_t, tru_l, tru_r, tru_n, List.length_map, wipeE_cons, wipeE_nil, List.set_cons_succ, List.set_cons_zero, setE_cons, setE_nil, mkS_d, mkS_l, mkTup_nil, mkTup_ev, mkLst_ev, allD_cons, allD_nil, allD_map, Option.map_some, Option.bind_some, if_true, Bool.false_eq_true, if_false, ite_true, ite_false, Bool.not_true, Bool.not_false, decide_true, decide_false, isInt_i, isInt_b, isInt_t, isBl_i, isBl_b, isBl_t, fTuple_ev, fList_ev, dataOf_t, dataOf_l, dataOf_r, lft_ev, Z.RM.of_ok, Z.RM.bind_ok, mCons_ev, mNil_ev, m2_ev, mOf_ev, mT_ev, mTru_ev, mNot_ev, List.cons_append, List.nil_append, pair_ix0, pair_ix1, eWW, e1]), fRet_ev, lft_n (x := .d (.bl (true && decide (add p rows zs w = v)))) (by
      simp only [gPur_ev, gAndV_ev, gOrV_ev, gNotV_ev, gIsi_ev, gAnd_ev, gOr_ev, gNot_ev, gTru_ev, gT_ev, g2_ev, g1_ev, gIf_ev, gCall_ev, gFn_ev, gTup_ev, gLst_ev, gSl_ev, gCh_ev, gYes_ev, oN_ev, oS_ev, asI_ev, aCons_ev, aNil_ev, vN_ev, kI_ev, kB_ev, kS_ev, kD'_ev, at_succ, at_zero, get_v, get_w, get_b, get_n, Z.R.of_some, Z.R.bind_ok, Z.R.pur_d, fAdd_i, fSub_i, fNeg_i, fLt_i, fLe_i, fGt_i, fGe_i, fEq_i, fNe_i, fInt_i, fInt_b, fAbs_i, fMin2_i, fMax2_i, fLen_l, fLen_t, fLen_r, tst_b, tru_b, tru_i, tru_t, tru_l, tru_r, tru_n, List.length_map, wipeE_cons, wipeE_nil, List.set_cons_succ, List.set_cons_zero, setE_cons, setE_nil, mkS_d, mkS_l, mkTup_nil, mkTup_ev, mkLst_ev, allD_cons, allD_nil, allD_map, Option.map_some, Option.bind_some, if_true, Bool.false_eq_true, if_false, ite_true, ite_false, Bool.not_true, Bool.not_false, decide_true, decide_false, isInt_i, isInt_b, isInt_t, isBl_i, isBl_b, isBl_t, fTuple_ev, fList_ev, dataOf_t, dataOf_l, dataOf_r, lft_ev, Z.RM.of_ok, Z.RM.bind_ok, mCons_ev, mNil_ev, m2_ev, mOf_ev, mT_ev, mTru_ev, mNot_ev, List.cons_append, List.nil_append, pair_ix1, hv.len, e2, fEq_tp, Bool.true_and])]
    rfl
  | false =>
    rw [h] at e1
    refine ret_if_f (by simp only [gPur_ev, gAndV_ev, gOrV_ev, gNotV_ev, gIsi_ev, gAnd_ev, gOr_ev, gNot_ev, gTru_ev, gT_ev, g2_ev, g1_ev, gIf_ev, gCall_ev, gFn_ev, gTup_ev, gLst_ev, gSl_ev, gCh_ev, gYes_ev, oN_ev, oS_ev, asI_ev, aCons_ev, aNil_ev, vN_ev, kI_ev, kB_ev, kS_ev, kD'_ev, at_succ, at_zero, get_v, get_w, get_b, get_n, Z.R.of_some, Z.R.bind_ok, Z.R.pur_d, fAdd_i, fSub_i, fNeg_i, fLt_i, fLe_i, fGt_i, fGe_i, fEq_i, fNe_i, fInt_i, fInt_b, fAbs_i, fMin2_i, fMax2_i, fLen_l, fLen_t, fLen_r, tst_b, tru_b, tru_i, tru_t, tru_l, tru_r, tru_n, List.length_map, wipeE_cons, wipeE_nil, List.set_cons_succ, List.set_cons_zero, setE_cons, setE_nil, mkS_d, mkS_l, mkTup_nil, mkTup_ev, mkLst_ev, allD_cons, allD_nil, allD_map, Option.map_some, Option.bind_some, if_true, Bool.false_eq_true, if_false, ite_true, ite_false, Bool.not_true, Bool.not_false, decide_true, decide_false, isInt_i, isInt_b, isInt_t, isBl_i, isBl_b, isBl_t, fTuple_ev, fList_ev, dataOf_t, dataOf_l, dataOf_r, lft_ev, Z.RM.of_ok, Z.RM.bind_ok, mCons_ev, mNil_ev, m2_ev, mOf_ev, mT_ev, mTru_ev, mNot_ev, List.cons_append, List.nil_append, pair_ix0, pair_ix1, eWW, e1]) ?_
    refine ret_if_f (by simp only [gPur_ev, gAndV_ev, gOrV_ev, gNotV_ev, gIsi_ev, gAnd_ev, gOr_ev, gNot_ev, gTru_ev, gT_ev, g2_ev, g1_ev, gIf_ev, gCall_ev, gFn_ev, gTup_ev, gLst_ev, gSl_ev, gCh_ev, gYes_ev, oN_ev, oS_ev, asI_ev, aCons_ev, aNil_ev, vN_ev, kI_ev, kB_ev, kS_ev, kD'_ev, at_succ, at_zero, get_v, get_w, get_b, get_n, Z.R.of_some, Z.R.bind_ok, Z.R.pur_d, fAdd_i, fSub_i, fNeg_i, fLt_i, fLe_i, fGt_i, fGe_i, fEq_i, fNe_i, fInt_i, fInt_b, fAbs_i, fMin2_i, fMax2_i, fLen_l, fLen_t, fLen_r, tst_b, tru_b, tru_i, tru_t, tru_l, tru_r, tru_n, List.length_map, wipeE_cons, wipeE_nil, List.set_cons_succ, List.set_cons_zero, setE_cons, setE_nil, mkS_d, mkS_l, mkTup_nil, mkTup_ev, mkLst_ev, allD_cons, allD_nil, allD_map, Option.map_some, Option.bind_some, if_true, Bool.false_eq_true, if_false, ite_true, ite_false, Bool.not_true, Bool.not_false, decide_true, decide_false, isInt_i, isInt_b, isInt_t, isBl_i, isBl_b, isBl_t, fTuple_ev, fList_ev, dataOf_t, dataOf_l, dataOf_r, lft_ev, Z.RM.of_ok, Z.RM.bind_ok, mCons_ev, mNil_ev, m2_ev, mOf_ev, mT_ev, mTru_ev, mNot_ev, List.cons_append, List.nil_append, pair_ix0, pair_ix1, eWC]) ?_
    exact ret_lft rfl
theorem shows_rightW : F_shows_combination [I p, tps rows, tp v, .d (.tup [WS, rowD zs])] = .ok (.d (.bl (rightW p w rows v zs))) := by
  refine runP_ret rfl ?_
  show ∃ e, d_shows_combination [.v (I p), .v (tps rows), .v (tp v), .v (.d (.tup [WS, rowD zs])), .n, .n] = _
  unfold d_shows_combination
  have e0 := is_tuple_ok [WS, rowD zs] 2
  refine ret_if_f (by simp only [gPur_ev, gAndV_ev, gOrV_ev, gNotV_ev, gIsi_ev, gAnd_ev, gOr_ev, gNot_ev, gTru_ev, gT_ev, g2_ev, g1_ev, gIf_ev, gCall_ev, gFn_ev, gTup_ev, gLst_ev, gSl_ev, gCh_ev, gYes_ev, oN_ev, oS_ev, asI_ev, aCons_ev, aNil_ev, vN_ev, kI_ev, kB_ev, kS_ev, kD'_ev, at_succ, at_zero, get_v, get_w, get_b, get_n, Z.R.of_some, Z.R.bind_ok, Z.R.pur_d, fAdd_i, fSub_i, fNeg_i, fLt_i, fLe_i, fGt_i, fGe_i, fEq_i, fNe_i, fInt_i, fInt_b, fAbs_i, fMin2_i, fMax2_i, fLen_l, fLen_t, fLen_r, tst_b, tru_b, tru_i, tru_t, tru_l, tru_r, tru_n, List.length_map, wipeE_cons, wipeE_nil, List.set_cons_succ, List.set_cons_zero, setE_cons, setE_nil, mkS_d, mkS_l, mkTup_nil, mkTup_ev, mkLst_ev, allD_cons, allD_nil, allD_map, Option.map_some, Option.bind_some, if_true, Bool.false_eq_true, if_false, ite_true, ite_false, Bool.not_true, Bool.not_false, decide_true, decide_false, isInt_i, isInt_b, isInt_t, isBl_i, isBl_b, isBl_t, fTuple_ev, fList_ev, dataOf_t, dataOf_l, dataOf_r, lft_ev, Z.RM.of_ok, Z.RM.bind_ok, mCons_ev, mNil_ev, m2_ev, mOf_ev, mT_ev, mTru_ev, mNot_ev, List.cons_append, List.nil_append]; rw [show (2 : Int) = ((2 : Nat) : Int) from rfl, e0]; rfl) ?_
  have e1 := are_numbers_ok (p := p) (n := rows.length) hz
  unfold rightW
  cases h : nums p rows.length zs with
  | true =>
    rw [h] at e1
    have R := nums_iff.mp h
    have e2 := weighted_ok hp hr R (by omega : w < 1000) (by omega)
    refine ⟨[.v (I p), .v (tps rows), .v (tp v), .v (.d (.tup [WS, rowD zs])), .n, .n], ?_⟩
    rw [fSeq_ev, fIf_t (by simp only [gPur_ev, gAndV_ev, gOrV_ev, gNotV_ev, gIsi_ev, gAnd_ev, gOr_ev, gNot_ev, gTru_ev, gT_ev, g2_ev, g1_ev, gIf_ev, gCall_ev, gFn_ev, gTup_ev, gLst_ev, gSl_ev, gCh_ev, gYes_ev, oN_ev, oS_ev, asI_ev, aCons_ev, aNil_ev, vN_ev, kI_ev, kB_ev, kS_ev, kD'_ev, at_succ, at_zero, get_v, get_w, get_b, get_n, Z.R.of_some, Z.R.bind_ok, Z.R.pur_d, fAdd_i, fSub_i, fNeg_i, fLt_i, fLe_i, fGt_i, fGe_i, fEq_i, fNe_i, fInt_i, fInt_b, fAbs_i, fMin2_i, fMax2_i, fLen_l, fLen_t, fLen_r, tst_b, tru_b, tru_i, tru_t, tru_l, tru_r, tru_n, List.length_map, wipeE_cons, wipeE_nil, List.set_cons_succ, List.set_cons_zero, setE_cons, setE_nil, mkS_d, mkS_l, mkTup_nil, mkTup_ev, mkLst_ev, allD_cons, allD_nil, allD_map, Option.map_some, Option.bind_some, if_true, Bool.false_eq_true, if_false, ite_true, ite_false, Bool.not_true, Bool.not_false, decide_true, decide_false, isInt_i, isInt_b, isInt_t, isBl_i, isBl_b, isBl_t, fTuple_ev, fList_ev, dataOf_t, dataOf_l, dataOf_r, lft_ev, Z.RM.of_ok, Z.RM.bind_ok, mCons_ev, mNil_ev, m2_ev, mOf_ev, mT_ev, mTru_ev, mNot_ev, List.cons_append, List.nil_append, pair_ix0, pair_ix1, eWW, e1]), fRet_ev, lft_n (x := .d (.bl (true && decide (add p rows zs w = v)))) (by
      simp only [gPur_ev, gAndV_ev, gOrV_ev, gNotV_ev, gIsi_ev, gAnd_ev, gOr_ev, gNot_ev, gTru_ev, gT_ev, g2_ev, g1_ev, gIf_ev, gCall_ev, gFn_ev, gTup_ev, gLst_ev, gSl_ev, gCh_ev, gYes_ev, oN_ev, oS_ev, asI_ev, aCons_ev, aNil_ev, vN_ev, kI_ev, kB_ev, kS_ev, kD'_ev, at_succ, at_zero, get_v, get_w, get_b, get_n, Z.R.of_some, Z.R.bind_ok, Z.R.pur_d, fAdd_i, fSub_i, fNeg_i, fLt_i, fLe_i, fGt_i, fGe_i, fEq_i, fNe_i, fInt_i, fInt_b, fAbs_i, fMin2_i, fMax2_i, fLen_l, fLen_t, fLen_r, tst_b, tru_b, tru_i, tru_t, tru_l, tru_r, tru_n, List.length_map, wipeE_cons, wipeE_nil, List.set_cons_succ, List.set_cons_zero, setE_cons, setE_nil, mkS_d, mkS_l, mkTup_nil, mkTup_ev, mkLst_ev, allD_cons, allD_nil, allD_map, Option.map_some, Option.bind_some, if_true, Bool.false_eq_true, if_false, ite_true, ite_false, Bool.not_true, Bool.not_false, decide_true, decide_false, isInt_i, isInt_b, isInt_t, isBl_i, isBl_b, isBl_t, fTuple_ev, fList_ev, dataOf_t, dataOf_l, dataOf_r, lft_ev, Z.RM.of_ok, Z.RM.bind_ok, mCons_ev, mNil_ev, m2_ev, mOf_ev, mT_ev, mTru_ev, mNot_ev, List.cons_append, List.nil_append, pair_ix1, hv.len, e2, fEq_tp, Bool.true_and])]
    rfl
  | false =>
    rw [h] at e1
    refine ret_if_f (by simp only [gPur_ev, gAndV_ev, gOrV_ev, gNotV_ev, gIsi_ev, gAnd_ev, gOr_ev, gNot_ev, gTru_ev, gT_ev, g2_ev, g1_ev, gIf_ev, gCall_ev, gFn_ev, gTup_ev, gLst_ev, gSl_ev, gCh_ev, gYes_ev, oN_ev, oS_ev, asI_ev, aCons_ev, aNil_ev, vN_ev, kI_ev, kB_ev, kS_ev, kD'_ev, at_succ, at_zero, get_v, get_w, get_b, get_n, Z.R.of_some, Z.R.bind_ok, Z.R.pur_d, fAdd_i, fSub_i, fNeg_i, fLt_i, fLe_i, fGt_i, fGe_i, fEq_i, fNe_i, fInt_i, fInt_b, fAbs_i, fMin2_i, fMax2_i, fLen_l, fLen_t, fLen_r, tst_b, tru_b, tru_i, tru_t, tru_l, tru_r, tru_n, List.length_map, wipeE_cons, wipeE_nil, List.set_cons_succ, List.set_cons_zero, setE_cons, setE_nil, mkS_d, mkS_l, mkTup_nil, mkTup_ev, mkLst_ev, allD_cons, allD_nil, allD_map, Option.map_some, Option.bind_some, if_true, Bool.false_eq_true, if_false, ite_true, ite_false, Bool.not_true, Bool.not_false, decide_true, decide_false, isInt_i, isInt_b, isInt_t, isBl_i, isBl_b, isBl_t, fTuple_ev, fList_ev, dataOf_t, dataOf_l, dataOf_r, lft_ev, Z.RM.of_ok, Z.RM.bind_ok, mCons_ev, mNil_ev, m2_ev, mOf_ev, mT_ev, mTru_ev, mNot_ev, List.cons_append, List.nil_append, pair_ix0, pair_ix1, eWW, e1]) ?_
    refine ret_if_f (by simp only [gPur_ev, gAndV_ev, gOrV_ev, gNotV_ev, gIsi_ev, gAnd_ev, gOr_ev, gNot_ev, gTru_ev, gT_ev, g2_ev, g1_ev, gIf_ev, gCall_ev, gFn_ev, gTup_ev, gLst_ev, gSl_ev, gCh_ev, gYes_ev, oN_ev, oS_ev, asI_ev, aCons_ev, aNil_ev, vN_ev, kI_ev, kB_ev, kS_ev, kD'_ev, at_succ, at_zero, get_v, get_w, get_b, get_n, Z.R.of_some, Z.R.bind_ok, Z.R.pur_d, fAdd_i, fSub_i, fNeg_i, fLt_i, fLe_i, fGt_i, fGe_i, fEq_i, fNe_i, fInt_i, fInt_b, fAbs_i, fMin2_i, fMax2_i, fLen_l, fLen_t, fLen_r, tst_b, tru_b, tru_i, tru_t, tru_l, tru_r, tru_n, List.length_map, wipeE_cons, wipeE_nil, List.set_cons_succ, List.set_cons_zero, setE_cons, setE_nil, mkS_d, mkS_l, mkTup_nil, mkTup_ev, mkLst_ev, allD_cons, allD_nil, allD_map, Option.map_some, Option.bind_some, if_true, Bool.false_eq_true, if_false, ite_true, ite_false, Bool.not_true, Bool.not_false, decide_true, decide_false, isInt_i, isInt_b, isInt_t, isBl_i, isBl_b, isBl_t, fTuple_ev, fList_ev, dataOf_t, dataOf_l, dataOf_r, lft_ev, Z.RM.of_ok, Z.RM.bind_ok, mCons_ev, mNil_ev, m2_ev, mOf_ev, mT_ev, mTru_ev, mNot_ev, List.cons_append, List.nil_append, pair_ix0, pair_ix1, eWC]) ?_
    exact ret_lft rfl
theorem law_rightC : F__law_is_right [I p, tps rows, tp v, .d (.tup [CS, rowD zs])] = .ok (.d (.bl (rightC p w rows v zs))) := by
  refine runP_ret rfl ?_
  show ∃ e, d__law_is_right [.v (I p), .v (tps rows), .v (tp v), .v (.d (.tup [CS, rowD zs])), .n] = _
  unfold d__law_is_right
  refine ret_if_f (by simp only [gPur_ev, gAndV_ev, gOrV_ev, gNotV_ev, gIsi_ev, gAnd_ev, gOr_ev, gNot_ev, gTru_ev, gT_ev, g2_ev, g1_ev, gIf_ev, gCall_ev, gFn_ev, gTup_ev, gLst_ev, gSl_ev, gCh_ev, gYes_ev, oN_ev, oS_ev, asI_ev, aCons_ev, aNil_ev, vN_ev, kI_ev, kB_ev, kS_ev, kD'_ev, at_succ, at_zero, get_v, get_w, get_b, get_n, Z.R.of_some, Z.R.bind_ok, Z.R.pur_d, fAdd_i, fSub_i, fNeg_i, fLt_i, fLe_i, fGt_i, fGe_i, fEq_i, fNe_i, fInt_i, fInt_b, fAbs_i, fMin2_i, fMax2_i, fLen_l, fLen_t, fLen_r, tst_b, tru_b, tru_i, tru_t, tru_l, tru_r, tru_n, List.length_map, wipeE_cons, wipeE_nil, List.set_cons_succ, List.set_cons_zero, setE_cons, setE_nil, mkS_d, mkS_l, mkTup_nil, mkTup_ev, mkLst_ev, allD_cons, allD_nil, allD_map, Option.map_some, Option.bind_some, if_true, Bool.false_eq_true, if_false, ite_true, ite_false, Bool.not_true, Bool.not_false, decide_true, decide_false, isInt_i, isInt_b, isInt_t, isBl_i, isBl_b, isBl_t, fTuple_ev, fList_ev, dataOf_t, dataOf_l, dataOf_r, lft_ev, Z.RM.of_ok, Z.RM.bind_ok, mCons_ev, mNil_ev, m2_ev, mOf_ev, mT_ev, mTru_ev, mNot_ev, List.cons_append, List.nil_append, isTup, List.length_cons, List.length_nil]; rfl) ?_
  refine ret_if_f (by simp only [gPur_ev, gAndV_ev, gOrV_ev, gNotV_ev, gIsi_ev, gAnd_ev, gOr_ev, gNot_ev, gTru_ev, gT_ev, g2_ev, g1_ev, gIf_ev, gCall_ev, gFn_ev, gTup_ev, gLst_ev, gSl_ev, gCh_ev, gYes_ev, oN_ev, oS_ev, asI_ev, aCons_ev, aNil_ev, vN_ev, kI_ev, kB_ev, kS_ev, kD'_ev, at_succ, at_zero, get_v, get_w, get_b, get_n, Z.R.of_some, Z.R.bind_ok, Z.R.pur_d, fAdd_i, fSub_i, fNeg_i, fLt_i, fLe_i, fGt_i, fGe_i, fEq_i, fNe_i, fInt_i, fInt_b, fAbs_i, fMin2_i, fMax2_i, fLen_l, fLen_t, fLen_r, tst_b, tru_b, tru_i, tru_t, tru_l, tru_r, tru_n, List.length_map, wipeE_cons, wipeE_nil, List.set_cons_succ, List.set_cons_zero, setE_cons, setE_nil, mkS_d, mkS_l, mkTup_nil, mkTup_ev, mkLst_ev, allD_cons, allD_nil, allD_map, Option.map_some, Option.bind_some, if_true, Bool.false_eq_true, if_false, ite_true, ite_false, Bool.not_true, Bool.not_false, decide_true, decide_false, isInt_i, isInt_b, isInt_t, isBl_i, isBl_b, isBl_t, fTuple_ev, fList_ev, dataOf_t, dataOf_l, dataOf_r, lft_ev, Z.RM.of_ok, Z.RM.bind_ok, mCons_ev, mNil_ev, m2_ev, mOf_ev, mT_ev, mTru_ev, mNot_ev, List.cons_append, List.nil_append, pair_ix0, pair_ix1, eCW]) ?_
  have e1 := law_numbers_ok (p := p) (n := w) hz
  unfold rightC
  cases h : nums p w zs with
  | true =>
    rw [h] at e1
    have R := nums_iff.mp h
    have el := gLc_all (vs := [4]) (gs := gIt (vN 1)) (k := kName 4) (te := g2 fEq (gFn F__law_dot (aCons (vN 0) (aCons (vN 4) (aCons (g2 fIx (vN 3) (kI 1)) aNil)))) (kI 0)) (en := [.v (I p), .v (tps rows), .v (tp v), .v (.d (.tup [CS, rowD zs])), .n]) rows _ (fun r => D.bl (decide (dotZ p r zs = 0))) (gIt_of (x := tps rows) (e := rowD) rfl rfl) (by omega) (fun r m => ⟨_, rfl, by
      have e2 := law_dot_ok hp (hr r m) R (by omega : w < 1000)
      simp only [gPur_ev, gAndV_ev, gOrV_ev, gNotV_ev, gIsi_ev, gAnd_ev, gOr_ev, gNot_ev, gTru_ev, gT_ev, g2_ev, g1_ev, gIf_ev, gCall_ev, gFn_ev, gTup_ev, gLst_ev, gSl_ev, gCh_ev, gYes_ev, oN_ev, oS_ev, asI_ev, aCons_ev, aNil_ev, vN_ev, kI_ev, kB_ev, kS_ev, kD'_ev, at_succ, at_zero, get_v, get_w, get_b, get_n, Z.R.of_some, Z.R.bind_ok, Z.R.pur_d, fAdd_i, fSub_i, fNeg_i, fLt_i, fLe_i, fGt_i, fGe_i, fEq_i, fNe_i, fInt_i, fInt_b, fAbs_i, fMin2_i, fMax2_i, fLen_l, fLen_t, fLen_r, tst_b, tru_b, tru_i, tru_t, tru_l, tru_r, tru_n, List.length_map, wipeE_cons, wipeE_nil, List.set_cons_succ, List.set_cons_zero, setE_cons, setE_nil, mkS_d, mkS_l, mkTup_nil, mkTup_ev, mkLst_ev, allD_cons, allD_nil, allD_map, Option.map_some, Option.bind_some, if_true, Bool.false_eq_true, if_false, ite_true, ite_false, Bool.not_true, Bool.not_false, decide_true, decide_false, isInt_i, isInt_b, isInt_t, isBl_i, isBl_b, isBl_t, fTuple_ev, fList_ev, dataOf_t, dataOf_l, dataOf_r, lft_ev, Z.RM.of_ok, Z.RM.bind_ok, mCons_ev, mNil_ev, m2_ev, mOf_ev, mT_ev, mTru_ev, mNot_ev, List.cons_append, List.nil_append, pair_ix1, e2]⟩)
    have e3 := law_dot_ok hp hv R (by omega : w < 1000)
    have ea : gCall fAll (aCons (gLc [4] (gIt (vN 1)) (kName 4) gYes (g2 fEq (gFn F__law_dot (aCons (vN 0) (aCons (vN 4) (aCons (g2 fIx (vN 3) (kI 1)) aNil)))) (kI 0))) aNil) [.v (I p), .v (tps rows), .v (tp v), .v (.d (.tup [CS, rowD zs])), .n] = .ok (.d (.bl (rows.all fun r => decide (dotZ p r zs = 0)))) := by
      rw [gCall_ev, aCons_ev, el]; simp only [gPur_ev, gAndV_ev, gOrV_ev, gNotV_ev, gIsi_ev, gAnd_ev, gOr_ev, gNot_ev, gTru_ev, gT_ev, g2_ev, g1_ev, gIf_ev, gCall_ev, gFn_ev, gTup_ev, gLst_ev, gSl_ev, gCh_ev, gYes_ev, oN_ev, oS_ev, asI_ev, aCons_ev, aNil_ev, vN_ev, kI_ev, kB_ev, kS_ev, kD'_ev, at_succ, at_zero, get_v, get_w, get_b, get_n, Z.R.of_some, Z.R.bind_ok, Z.R.pur_d, fAdd_i, fSub_i, fNeg_i, fLt_i, fLe_i, fGt_i, fGe_i, fEq_i, fNe_i, fInt_i, fInt_b, fAbs_i, fMin2_i, fMax2_i, fLen_l, fLen_t, fLen_r, tst_b, tru_b, tru_i, tru_t, tru_l, tru_r, tru_n, List.length_map, wipeE_cons, wipeE_nil, List.set_cons_succ, List.set_cons_zero, setE_cons, setE_nil, mkS_d, mkS_l, mkTup_nil, mkTup_ev, mkLst_ev, allD_cons, allD_nil, allD_map, Option.map_some, Option.bind_some, if_true, Bool.false_eq_true, if_false, ite_true, ite_false, Bool.not_true, Bool.not_false, decide_true, decide_false, isInt_i, isInt_b, isInt_t, isBl_i, isBl_b, isBl_t, fTuple_ev, fList_ev, dataOf_t, dataOf_l, dataOf_r, lft_ev, Z.RM.of_ok, Z.RM.bind_ok, mCons_ev, mNil_ev, m2_ev, mOf_ev, mT_ev, mTru_ev, mNot_ev, List.cons_append, List.nil_append, fAll_of]
    refine ⟨[.v (I p), .v (tps rows), .v (tp v), .v (.d (.tup [CS, rowD zs])), .n], ?_⟩
    rw [fSeq_ev, fIf_t (by simp only [gPur_ev, gAndV_ev, gOrV_ev, gNotV_ev, gIsi_ev, gAnd_ev, gOr_ev, gNot_ev, gTru_ev, gT_ev, g2_ev, g1_ev, gIf_ev, gCall_ev, gFn_ev, gTup_ev, gLst_ev, gSl_ev, gCh_ev, gYes_ev, oN_ev, oS_ev, asI_ev, aCons_ev, aNil_ev, vN_ev, kI_ev, kB_ev, kS_ev, kD'_ev, at_succ, at_zero, get_v, get_w, get_b, get_n, Z.R.of_some, Z.R.bind_ok, Z.R.pur_d, fAdd_i, fSub_i, fNeg_i, fLt_i, fLe_i, fGt_i, fGe_i, fEq_i, fNe_i, fInt_i, fInt_b, fAbs_i, fMin2_i, fMax2_i, fLen_l, fLen_t, fLen_r, tst_b, tru_b, tru_i, tru_t, tru_l, tru_r, tru_n, List.length_map, wipeE_cons, wipeE_nil, List.set_cons_succ, List.set_cons_zero, setE_cons, setE_nil, mkS_d, mkS_l, mkTup_nil, mkTup_ev, mkLst_ev, allD_cons, allD_nil, allD_map, Option.map_some, Option.bind_some, if_true, Bool.false_eq_true, if_false, ite_true, ite_false, Bool.not_true, Bool.not_false, decide_true, decide_false, isInt_i, isInt_b, isInt_t, isBl_i, isBl_b, isBl_t, fTuple_ev, fList_ev, dataOf_t, dataOf_l, dataOf_r, lft_ev, Z.RM.of_ok, Z.RM.bind_ok, mCons_ev, mNil_ev, m2_ev, mOf_ev, mT_ev, mTru_ev, mNot_ev, List.cons_append, List.nil_append, pair_ix0, pair_ix1, eCC, hv.len, e1]), fRet_ev, lft_n (x := .d (.bl (true && ((rows.all fun r => decide (dotZ p r zs = 0)) && decide (dotZ p v zs = 1))))) (by
      rw [gPur_ev, gAndV_ev, ea]
      cases hA : (rows.all fun r => decide (dotZ p r zs = 0)) with
      | true => simp only [gPur_ev, gAndV_ev, gOrV_ev, gNotV_ev, gIsi_ev, gAnd_ev, gOr_ev, gNot_ev, gTru_ev, gT_ev, g2_ev, g1_ev, gIf_ev, gCall_ev, gFn_ev, gTup_ev, gLst_ev, gSl_ev, gCh_ev, gYes_ev, oN_ev, oS_ev, asI_ev, aCons_ev, aNil_ev, vN_ev, kI_ev, kB_ev, kS_ev, kD'_ev, at_succ, at_zero, get_v, get_w, get_b, get_n, Z.R.of_some, Z.R.bind_ok, Z.R.pur_d, fAdd_i, fSub_i, fNeg_i, fLt_i, fLe_i, fGt_i, fGe_i, fEq_i, fNe_i, fInt_i, fInt_b, fAbs_i, fMin2_i, fMax2_i, fLen_l, fLen_t, fLen_r, tst_b, tru_b, tru_i, tru_t, tru_l, tru_r, tru_n, List.length_map, wipeE_cons, wipeE_nil, List.set_cons_succ, List.set_cons_zero, setE_cons, setE_nil, mkS_d, mkS_l, mkTup_nil, mkTup_ev, mkLst_ev, allD_cons, allD_nil, allD_map, Option.map_some, Option.bind_some, if_true, Bool.false_eq_true, if_false, ite_true, ite_false, Bool.not_true, Bool.not_false, decide_true, decide_false, isInt_i, isInt_b, isInt_t, isBl_i, isBl_b, isBl_t, fTuple_ev, fList_ev, dataOf_t, dataOf_l, dataOf_r, lft_ev, Z.RM.of_ok, Z.RM.bind_ok, mCons_ev, mNil_ev, m2_ev, mOf_ev, mT_ev, mTru_ev, mNot_ev, List.cons_append, List.nil_append, pair_ix1, e3, Bool.true_and]
      | false => simp only [gPur_ev, gAndV_ev, gOrV_ev, gNotV_ev, gIsi_ev, gAnd_ev, gOr_ev, gNot_ev, gTru_ev, gT_ev, g2_ev, g1_ev, gIf_ev, gCall_ev, gFn_ev, gTup_ev, gLst_ev, gSl_ev, gCh_ev, gYes_ev, oN_ev, oS_ev, asI_ev, aCons_ev, aNil_ev, vN_ev, kI_ev, kB_ev, kS_ev, kD'_ev, at_succ, at_zero, get_v, get_w, get_b, get_n, Z.R.of_some, Z.R.bind_ok, Z.R.pur_d, fAdd_i, fSub_i, fNeg_i, fLt_i, fLe_i, fGt_i, fGe_i, fEq_i, fNe_i, fInt_i, fInt_b, fAbs_i, fMin2_i, fMax2_i, fLen_l, fLen_t, fLen_r, tst_b, tru_b, tru_i, tru_t, tru_l, tru_r, tru_n, List.length_map, wipeE_cons, wipeE_nil, List.set_cons_succ, List.set_cons_zero, setE_cons, setE_nil, mkS_d, mkS_l, mkTup_nil, mkTup_ev, mkLst_ev, allD_cons, allD_nil, allD_map, Option.map_some, Option.bind_some, if_true, Bool.false_eq_true, if_false, ite_true, ite_false, Bool.not_true, Bool.not_false, decide_true, decide_false, isInt_i, isInt_b, isInt_t, isBl_i, isBl_b, isBl_t, fTuple_ev, fList_ev, dataOf_t, dataOf_l, dataOf_r, lft_ev, Z.RM.of_ok, Z.RM.bind_ok, mCons_ev, mNil_ev, m2_ev, mOf_ev, mT_ev, mTru_ev, mNot_ev, List.cons_append, List.nil_append, Bool.false_and, Bool.true_and])]
    rfl
  | false =>
    rw [h] at e1
    refine ret_if_f (by simp only [gPur_ev, gAndV_ev, gOrV_ev, gNotV_ev, gIsi_ev, gAnd_ev, gOr_ev, gNot_ev, gTru_ev, gT_ev, g2_ev, g1_ev, gIf_ev, gCall_ev, gFn_ev, gTup_ev, gLst_ev, gSl_ev, gCh_ev, gYes_ev, oN_ev, oS_ev, asI_ev, aCons_ev, aNil_ev, vN_ev, kI_ev, kB_ev, kS_ev, kD'_ev, at_succ, at_zero, get_v, get_w, get_b, get_n, Z.R.of_some, Z.R.bind_ok, Z.R.pur_d, fAdd_i, fSub_i, fNeg_i, fLt_i, fLe_i, fGt_i, fGe_i, fEq_i, fNe_i, fInt_i, fInt_b, fAbs_i, fMin2_i, fMax2_i, fLen_l, fLen_t, fLen_r, tst_b, tru_b, tru_i, tru_t, tru_l, tru_r, tru_n, List.length_map, wipeE_cons, wipeE_nil, List.set_cons_succ, List.set_cons_zero, setE_cons, setE_nil, mkS_d, mkS_l, mkTup_nil, mkTup_ev, mkLst_ev, allD_cons, allD_nil, allD_map, Option.map_some, Option.bind_some, if_true, Bool.false_eq_true, if_false, ite_true, ite_false, Bool.not_true, Bool.not_false, decide_true, decide_false, isInt_i, isInt_b, isInt_t, isBl_i, isBl_b, isBl_t, fTuple_ev, fList_ev, dataOf_t, dataOf_l, dataOf_r, lft_ev, Z.RM.of_ok, Z.RM.bind_ok, mCons_ev, mNil_ev, m2_ev, mOf_ev, mT_ev, mTru_ev, mNot_ev, List.cons_append, List.nil_append, pair_ix0, pair_ix1, eCC, hv.len, e1]) ?_
    exact ret_lft rfl
theorem zip_dot {a b : List Int} (ha : Rw p w a) (hb : Rw p w b) : F_summed [I p, .l (zipP (a.map D.int) (b.map D.int))] = .ok (I (dotZ p a b)) := by
  have e := summed_ok hp (a.zip b) (fun x m => mulOk_rg hp.rg.2 (ha.rg _ (List.of_mem_zip m).1)) (by rw [List.length_zip, ha.len]; omega)
  rw [← zipP_map] at e
  rw [e, zip_sum (by rw [ha.len, hb.len])]; rfl
theorem shows_rightC : F_shows_combination [I p, tps rows, tp v, .d (.tup [CS, rowD zs])] = .ok (.d (.bl (rightC p w rows v zs))) := by
  refine runP_ret rfl ?_
  show ∃ e, d_shows_combination [.v (I p), .v (tps rows), .v (tp v), .v (.d (.tup [CS, rowD zs])), .n, .n] = _
  unfold d_shows_combination
  have e0 := is_tuple_ok [CS, rowD zs] 2
  refine ret_if_f (by simp only [gPur_ev, gAndV_ev, gOrV_ev, gNotV_ev, gIsi_ev, gAnd_ev, gOr_ev, gNot_ev, gTru_ev, gT_ev, g2_ev, g1_ev, gIf_ev, gCall_ev, gFn_ev, gTup_ev, gLst_ev, gSl_ev, gCh_ev, gYes_ev, oN_ev, oS_ev, asI_ev, aCons_ev, aNil_ev, vN_ev, kI_ev, kB_ev, kS_ev, kD'_ev, at_succ, at_zero, get_v, get_w, get_b, get_n, Z.R.of_some, Z.R.bind_ok, Z.R.pur_d, fAdd_i, fSub_i, fNeg_i, fLt_i, fLe_i, fGt_i, fGe_i, fEq_i, fNe_i, fInt_i, fInt_b, fAbs_i, fMin2_i, fMax2_i, fLen_l, fLen_t, fLen_r, tst_b, tru_b, tru_i, tru_t, tru_l, tru_r, tru_n, List.length_map, wipeE_cons, wipeE_nil, List.set_cons_succ, List.set_cons_zero, setE_cons, setE_nil, mkS_d, mkS_l, mkTup_nil, mkTup_ev, mkLst_ev, allD_cons, allD_nil, allD_map, Option.map_some, Option.bind_some, if_true, Bool.false_eq_true, if_false, ite_true, ite_false, Bool.not_true, Bool.not_false, decide_true, decide_false, isInt_i, isInt_b, isInt_t, isBl_i, isBl_b, isBl_t, fTuple_ev, fList_ev, dataOf_t, dataOf_l, dataOf_r, lft_ev, Z.RM.of_ok, Z.RM.bind_ok, mCons_ev, mNil_ev, m2_ev, mOf_ev, mT_ev, mTru_ev, mNot_ev, List.cons_append, List.nil_append]; rw [show (2 : Int) = ((2 : Nat) : Int) from rfl, e0]; rfl) ?_
  refine ret_if_f (by simp only [gPur_ev, gAndV_ev, gOrV_ev, gNotV_ev, gIsi_ev, gAnd_ev, gOr_ev, gNot_ev, gTru_ev, gT_ev, g2_ev, g1_ev, gIf_ev, gCall_ev, gFn_ev, gTup_ev, gLst_ev, gSl_ev, gCh_ev, gYes_ev, oN_ev, oS_ev, asI_ev, aCons_ev, aNil_ev, vN_ev, kI_ev, kB_ev, kS_ev, kD'_ev, at_succ, at_zero, get_v, get_w, get_b, get_n, Z.R.of_some, Z.R.bind_ok, Z.R.pur_d, fAdd_i, fSub_i, fNeg_i, fLt_i, fLe_i, fGt_i, fGe_i, fEq_i, fNe_i, fInt_i, fInt_b, fAbs_i, fMin2_i, fMax2_i, fLen_l, fLen_t, fLen_r, tst_b, tru_b, tru_i, tru_t, tru_l, tru_r, tru_n, List.length_map, wipeE_cons, wipeE_nil, List.set_cons_succ, List.set_cons_zero, setE_cons, setE_nil, mkS_d, mkS_l, mkTup_nil, mkTup_ev, mkLst_ev, allD_cons, allD_nil, allD_map, Option.map_some, Option.bind_some, if_true, Bool.false_eq_true, if_false, ite_true, ite_false, Bool.not_true, Bool.not_false, decide_true, decide_false, isInt_i, isInt_b, isInt_t, isBl_i, isBl_b, isBl_t, fTuple_ev, fList_ev, dataOf_t, dataOf_l, dataOf_r, lft_ev, Z.RM.of_ok, Z.RM.bind_ok, mCons_ev, mNil_ev, m2_ev, mOf_ev, mT_ev, mTru_ev, mNot_ev, List.cons_append, List.nil_append, pair_ix0, pair_ix1, eCW]) ?_
  have e1 := are_numbers_ok (p := p) (n := w) hz
  unfold rightC
  cases h : nums p w zs with
  | true =>
    rw [h] at e1
    have R := nums_iff.mp h
    have z1 : ∀ a : List Int, fLZ [tp a, tp zs] = some (.l (zipP (a.map D.int) (zs.map D.int))) := fun a => rfl
    have el := gLc_all (vs := [5]) (gs := gIt (vN 1)) (k := kName 5) (te := g2 fEq (gFn F_summed (aCons (vN 0) (aCons (gCall fLZ (aCons (vN 5) (aCons (g2 fIx (vN 3) (kI 1)) aNil))) aNil))) (kI 0)) (en := [.v (I p), .v (tps rows), .v (tp v), .v (.d (.tup [CS, rowD zs])), .n, .n]) rows _ (fun r => D.bl (decide (dotZ p r zs = 0))) (gIt_of (x := tps rows) (e := rowD) rfl rfl) (by omega) (fun r m => ⟨_, rfl, by
      have e2 := zip_dot hp hr hv hw hn hz (hr r m) R
      simp only [gPur_ev, gAndV_ev, gOrV_ev, gNotV_ev, gIsi_ev, gAnd_ev, gOr_ev, gNot_ev, gTru_ev, gT_ev, g2_ev, g1_ev, gIf_ev, gCall_ev, gFn_ev, gTup_ev, gLst_ev, gSl_ev, gCh_ev, gYes_ev, oN_ev, oS_ev, asI_ev, aCons_ev, aNil_ev, vN_ev, kI_ev, kB_ev, kS_ev, kD'_ev, at_succ, at_zero, get_v, get_w, get_b, get_n, Z.R.of_some, Z.R.bind_ok, Z.R.pur_d, fAdd_i, fSub_i, fNeg_i, fLt_i, fLe_i, fGt_i, fGe_i, fEq_i, fNe_i, fInt_i, fInt_b, fAbs_i, fMin2_i, fMax2_i, fLen_l, fLen_t, fLen_r, tst_b, tru_b, tru_i, tru_t, tru_l, tru_r, tru_n, List.length_map, wipeE_cons, wipeE_nil, List.set_cons_succ, List.set_cons_zero, setE_cons, setE_nil, mkS_d, mkS_l, mkTup_nil, mkTup_ev, mkLst_ev, allD_cons, allD_nil, allD_map, Option.map_some, Option.bind_some, if_true, Bool.false_eq_true, if_false, ite_true, ite_false, Bool.not_true, Bool.not_false, decide_true, decide_false, isInt_i, isInt_b, isInt_t, isBl_i, isBl_b, isBl_t, fTuple_ev, fList_ev, dataOf_t, dataOf_l, dataOf_r, lft_ev, Z.RM.of_ok, Z.RM.bind_ok, mCons_ev, mNil_ev, m2_ev, mOf_ev, mT_ev, mTru_ev, mNot_ev, List.cons_append, List.nil_append, pair_ix1, z1, e2]⟩)
    have e3 := zip_dot hp hr hv hw hn hz hv R
    have ea : gCall fAll (aCons (gLc [5] (gIt (vN 1)) (kName 5) gYes (g2 fEq (gFn F_summed (aCons (vN 0) (aCons (gCall fLZ (aCons (vN 5) (aCons (g2 fIx (vN 3) (kI 1)) aNil))) aNil))) (kI 0))) aNil) [.v (I p), .v (tps rows), .v (tp v), .v (.d (.tup [CS, rowD zs])), .n, .n] = .ok (.d (.bl (rows.all fun r => decide (dotZ p r zs = 0)))) := by
      rw [gCall_ev, aCons_ev, el]; simp only [gPur_ev, gAndV_ev, gOrV_ev, gNotV_ev, gIsi_ev, gAnd_ev, gOr_ev, gNot_ev, gTru_ev, gT_ev, g2_ev, g1_ev, gIf_ev, gCall_ev, gFn_ev, gTup_ev, gLst_ev, gSl_ev, gCh_ev, gYes_ev, oN_ev, oS_ev, asI_ev, aCons_ev, aNil_ev, vN_ev, kI_ev, kB_ev, kS_ev, kD'_ev, at_succ, at_zero, get_v, get_w, get_b, get_n, Z.R.of_some, Z.R.bind_ok, Z.R.pur_d, fAdd_i, fSub_i, fNeg_i, fLt_i, fLe_i, fGt_i, fGe_i, fEq_i, fNe_i, fInt_i, fInt_b, fAbs_i, fMin2_i, fMax2_i, fLen_l, fLen_t, fLen_r, tst_b, tru_b, tru_i, tru_t, tru_l, tru_r, tru_n, List.length_map, wipeE_cons, wipeE_nil, List.set_cons_succ, List.set_cons_zero, setE_cons, setE_nil, mkS_d, mkS_l, mkTup_nil, mkTup_ev, mkLst_ev, allD_cons, allD_nil, allD_map, Option.map_some, Option.bind_some, if_true, Bool.false_eq_true, if_false, ite_true, ite_false, Bool.not_true, Bool.not_false, decide_true, decide_false, isInt_i, isInt_b, isInt_t, isBl_i, isBl_b, isBl_t, fTuple_ev, fList_ev, dataOf_t, dataOf_l, dataOf_r, lft_ev, Z.RM.of_ok, Z.RM.bind_ok, mCons_ev, mNil_ev, m2_ev, mOf_ev, mT_ev, mTru_ev, mNot_ev, List.cons_append, List.nil_append, fAll_of]
    refine ⟨[.v (I p), .v (tps rows), .v (tp v), .v (.d (.tup [CS, rowD zs])), .v (.d (.bl (rows.all fun r => decide (dotZ p r zs = 0)))), .n], ?_⟩
    rw [fSeq_ev, fIf_t (by simp only [gPur_ev, gAndV_ev, gOrV_ev, gNotV_ev, gIsi_ev, gAnd_ev, gOr_ev, gNot_ev, gTru_ev, gT_ev, g2_ev, g1_ev, gIf_ev, gCall_ev, gFn_ev, gTup_ev, gLst_ev, gSl_ev, gCh_ev, gYes_ev, oN_ev, oS_ev, asI_ev, aCons_ev, aNil_ev, vN_ev, kI_ev, kB_ev, kS_ev, kD'_ev, at_succ, at_zero, get_v, get_w, get_b, get_n, Z.R.of_some, Z.R.bind_ok, Z.R.pur_d, fAdd_i, fSub_i, fNeg_i, fLt_i, fLe_i, fGt_i, fGe_i, fEq_i, fNe_i, fInt_i, fInt_b, fAbs_i, fMin2_i, fMax2_i, fLen_l, fLen_t, fLen_r, tst_b, tru_b, tru_i, tru_t, tru_l, tru_r, tru_n, List.length_map, wipeE_cons, wipeE_nil, List.set_cons_succ, List.set_cons_zero, setE_cons, setE_nil, mkS_d, mkS_l, mkTup_nil, mkTup_ev, mkLst_ev, allD_cons, allD_nil, allD_map, Option.map_some, Option.bind_some, if_true, Bool.false_eq_true, if_false, ite_true, ite_false, Bool.not_true, Bool.not_false, decide_true, decide_false, isInt_i, isInt_b, isInt_t, isBl_i, isBl_b, isBl_t, fTuple_ev, fList_ev, dataOf_t, dataOf_l, dataOf_r, lft_ev, Z.RM.of_ok, Z.RM.bind_ok, mCons_ev, mNil_ev, m2_ev, mOf_ev, mT_ev, mTru_ev, mNot_ev, List.cons_append, List.nil_append, pair_ix0, pair_ix1, eCC, hv.len, e1]), fSeq_ev, fSet_ev, lft_n ea, RM.s_ok]
    rw [show toS (stow [.v (I p), .v (tps rows), .v (tp v), .v (.d (.tup [CS, rowD zs])), .n, .n] 4 (.v (.d (.bl (rows.all fun r => decide (dotZ p r zs = 0)))))) = .nx [.v (I p), .v (tps rows), .v (tp v), .v (.d (.tup [CS, rowD zs])), .v (.d (.bl (rows.all fun r => decide (dotZ p r zs = 0)))), .n] from rfl, sq_nx, fRet_ev, lft_n (x := .d (.bl (true && ((rows.all fun r => decide (dotZ p r zs = 0)) && decide (dotZ p v zs = 1))))) (by
      rw [gPur_ev, gAndV_ev]
      cases hA : (rows.all fun r => decide (dotZ p r zs = 0)) with
      | true => simp only [gPur_ev, gAndV_ev, gOrV_ev, gNotV_ev, gIsi_ev, gAnd_ev, gOr_ev, gNot_ev, gTru_ev, gT_ev, g2_ev, g1_ev, gIf_ev, gCall_ev, gFn_ev, gTup_ev, gLst_ev, gSl_ev, gCh_ev, gYes_ev, oN_ev, oS_ev, asI_ev, aCons_ev, aNil_ev, vN_ev, kI_ev, kB_ev, kS_ev, kD'_ev, at_succ, at_zero, get_v, get_w, get_b, get_n, Z.R.of_some, Z.R.bind_ok, Z.R.pur_d, fAdd_i, fSub_i, fNeg_i, fLt_i, fLe_i, fGt_i, fGe_i, fEq_i, fNe_i, fInt_i, fInt_b, fAbs_i, fMin2_i, fMax2_i, fLen_l, fLen_t, fLen_r, tst_b, tru_b, tru_i, tru_t, tru_l, tru_r, tru_n, List.length_map, wipeE_cons, wipeE_nil, List.set_cons_succ, List.set_cons_zero, setE_cons, setE_nil, mkS_d, mkS_l, mkTup_nil, mkTup_ev, mkLst_ev, allD_cons, allD_nil, allD_map, Option.map_some, Option.bind_some, if_true, Bool.false_eq_true, if_false, ite_true, ite_false, Bool.not_true, Bool.not_false, decide_true, decide_false, isInt_i, isInt_b, isInt_t, isBl_i, isBl_b, isBl_t, fTuple_ev, fList_ev, dataOf_t, dataOf_l, dataOf_r, lft_ev, Z.RM.of_ok, Z.RM.bind_ok, mCons_ev, mNil_ev, m2_ev, mOf_ev, mT_ev, mTru_ev, mNot_ev, List.cons_append, List.nil_append, pair_ix1, z1, e3, Bool.true_and]
      | false => simp only [gPur_ev, gAndV_ev, gOrV_ev, gNotV_ev, gIsi_ev, gAnd_ev, gOr_ev, gNot_ev, gTru_ev, gT_ev, g2_ev, g1_ev, gIf_ev, gCall_ev, gFn_ev, gTup_ev, gLst_ev, gSl_ev, gCh_ev, gYes_ev, oN_ev, oS_ev, asI_ev, aCons_ev, aNil_ev, vN_ev, kI_ev, kB_ev, kS_ev, kD'_ev, at_succ, at_zero, get_v, get_w, get_b, get_n, Z.R.of_some, Z.R.bind_ok, Z.R.pur_d, fAdd_i, fSub_i, fNeg_i, fLt_i, fLe_i, fGt_i, fGe_i, fEq_i, fNe_i, fInt_i, fInt_b, fAbs_i, fMin2_i, fMax2_i, fLen_l, fLen_t, fLen_r, tst_b, tru_b, tru_i, tru_t, tru_l, tru_r, tru_n, List.length_map, wipeE_cons, wipeE_nil, List.set_cons_succ, List.set_cons_zero, setE_cons, setE_nil, mkS_d, mkS_l, mkTup_nil, mkTup_ev, mkLst_ev, allD_cons, allD_nil, allD_map, Option.map_some, Option.bind_some, if_true, Bool.false_eq_true, if_false, ite_true, ite_false, Bool.not_true, Bool.not_false, decide_true, decide_false, isInt_i, isInt_b, isInt_t, isBl_i, isBl_b, isBl_t, fTuple_ev, fList_ev, dataOf_t, dataOf_l, dataOf_r, lft_ev, Z.RM.of_ok, Z.RM.bind_ok, mCons_ev, mNil_ev, m2_ev, mOf_ev, mT_ev, mTru_ev, mNot_ev, List.cons_append, List.nil_append, Bool.false_and, Bool.true_and])]
    rfl
  | false =>
    rw [h] at e1
    refine ret_if_f (by simp only [gPur_ev, gAndV_ev, gOrV_ev, gNotV_ev, gIsi_ev, gAnd_ev, gOr_ev, gNot_ev, gTru_ev, gT_ev, g2_ev, g1_ev, gIf_ev, gCall_ev, gFn_ev, gTup_ev, gLst_ev, gSl_ev, gCh_ev, gYes_ev, oN_ev, oS_ev, asI_ev, aCons_ev, aNil_ev, vN_ev, kI_ev, kB_ev, kS_ev, kD'_ev, at_succ, at_zero, get_v, get_w, get_b, get_n, Z.R.of_some, Z.R.bind_ok, Z.R.pur_d, fAdd_i, fSub_i, fNeg_i, fLt_i, fLe_i, fGt_i, fGe_i, fEq_i, fNe_i, fInt_i, fInt_b, fAbs_i, fMin2_i, fMax2_i, fLen_l, fLen_t, fLen_r, tst_b, tru_b, tru_i, tru_t, tru_l, tru_r, tru_n, List.length_map, wipeE_cons, wipeE_nil, List.set_cons_succ, List.set_cons_zero, setE_cons, setE_nil, mkS_d, mkS_l, mkTup_nil, mkTup_ev, mkLst_ev, allD_cons, allD_nil, allD_map, Option.map_some, Option.bind_some, if_true, Bool.false_eq_true, if_false, ite_true, ite_false, Bool.not_true, Bool.not_false, decide_true, decide_false, isInt_i, isInt_b, isInt_t, isBl_i, isBl_b, isBl_t, fTuple_ev, fList_ev, dataOf_t, dataOf_l, dataOf_r, lft_ev, Z.RM.of_ok, Z.RM.bind_ok, mCons_ev, mNil_ev, m2_ev, mOf_ev, mT_ev, mTru_ev, mNot_ev, List.cons_append, List.nil_append, pair_ix0, pair_ix1, eCC, hv.len, e1]) ?_
    exact ret_lft rfl
end
/-- other data -/
theorem odd_no {p : Int} {x y : T} (d : D) (h : (∃ z, d = .int z) ∨ (∃ ds, d = .tup ds ∧ ds.length ≠ 2)) : F_shows_combination [I p, x, y, .d d] = .ok (.d (.bl false)) ∧ F__law_is_right [I p, x, y, .d d] = .ok (.d (.bl false)) := by
  rcases h with ⟨z, rfl⟩ | ⟨ds, rfl, hl⟩
  · constructor
    · exact runP_ret rfl ⟨_, rfl⟩
    · exact runP_ret rfl ⟨_, rfl⟩
  · constructor
    · refine runP_ret rfl ⟨[.v (I p), mkS x, mkS y, .v (.d (.tup ds)), .n, .n], ?_⟩
      show d_shows_combination [.v (I p), mkS x, mkS y, .v (.d (.tup ds)), .n, .n] = _
      unfold d_shows_combination
      have e0 := is_tuple_ok ds 2
      rw [decide_eq_false hl] at e0
      rw [fSeq_ev, fIf_t (by simp only [gPur_ev, gAndV_ev, gOrV_ev, gNotV_ev, gIsi_ev, gAnd_ev, gOr_ev, gNot_ev, gTru_ev, gT_ev, g2_ev, g1_ev, gIf_ev, gCall_ev, gFn_ev, gTup_ev, gLst_ev, gSl_ev, gCh_ev, gYes_ev, oN_ev, oS_ev, asI_ev, aCons_ev, aNil_ev, vN_ev, kI_ev, kB_ev, kS_ev, kD'_ev, at_succ, at_zero, get_v, get_w, get_b, get_n, Z.R.of_some, Z.R.bind_ok, Z.R.pur_d, fAdd_i, fSub_i, fNeg_i, fLt_i, fLe_i, fGt_i, fGe_i, fEq_i, fNe_i, fInt_i, fInt_b, fAbs_i, fMin2_i, fMax2_i, fLen_l, fLen_t, fLen_r, tst_b, tru_b, tru_i, tru_t, tru_l, tru_r, tru_n, List.length_map, wipeE_cons, wipeE_nil, List.set_cons_succ, List.set_cons_zero, setE_cons, setE_nil, mkS_d, mkS_l, mkTup_nil, mkTup_ev, mkLst_ev, allD_cons, allD_nil, allD_map, Option.map_some, Option.bind_some, if_true, Bool.false_eq_true, if_false, ite_true, ite_false, Bool.not_true, Bool.not_false, decide_true, decide_false, isInt_i, isInt_b, isInt_t, isBl_i, isBl_b, isBl_t, fTuple_ev, fList_ev, dataOf_t, dataOf_l, dataOf_r, lft_ev, Z.RM.of_ok, Z.RM.bind_ok, mCons_ev, mNil_ev, m2_ev, mOf_ev, mT_ev, mTru_ev, mNot_ev, List.cons_append, List.nil_append]; rw [show (2 : Int) = ((2 : Nat) : Int) from rfl, e0]; rfl)]
      rfl
    · refine runP_ret rfl ⟨[.v (I p), mkS x, mkS y, .v (.d (.tup ds)), .n], ?_⟩
      show d__law_is_right [.v (I p), mkS x, mkS y, .v (.d (.tup ds)), .n] = _
      unfold d__law_is_right
      have : ¬ ((ds.length : Int) = 2) := by omega
      rw [fSeq_ev, fIf_t (by simp only [gPur_ev, gAndV_ev, gOrV_ev, gNotV_ev, gIsi_ev, gAnd_ev, gOr_ev, gNot_ev, gTru_ev, gT_ev, g2_ev, g1_ev, gIf_ev, gCall_ev, gFn_ev, gTup_ev, gLst_ev, gSl_ev, gCh_ev, gYes_ev, oN_ev, oS_ev, asI_ev, aCons_ev, aNil_ev, vN_ev, kI_ev, kB_ev, kS_ev, kD'_ev, at_succ, at_zero, get_v, get_w, get_b, get_n, Z.R.of_some, Z.R.bind_ok, Z.R.pur_d, fAdd_i, fSub_i, fNeg_i, fLt_i, fLe_i, fGt_i, fGe_i, fEq_i, fNe_i, fInt_i, fInt_b, fAbs_i, fMin2_i, fMax2_i, fLen_l, fLen_t, fLen_r, tst_b, tru_b, tru_i, tru_t, tru_l, tru_r, tru_n, List.length_map, wipeE_cons, wipeE_nil, List.set_cons_succ, List.set_cons_zero, setE_cons, setE_nil, mkS_d, mkS_l, mkTup_nil, mkTup_ev, mkLst_ev, allD_cons, allD_nil, allD_map, Option.map_some, Option.bind_some, if_true, Bool.false_eq_true, if_false, ite_true, ite_false, Bool.not_true, Bool.not_false, decide_true, decide_false, isInt_i, isInt_b, isInt_t, isBl_i, isBl_b, isBl_t, fTuple_ev, fList_ev, dataOf_t, dataOf_l, dataOf_r, lft_ev, Z.RM.of_ok, Z.RM.bind_ok, mCons_ev, mNil_ev, m2_ev, mOf_ev, mT_ev, mTru_ev, mNot_ev, List.cons_append, List.nil_append, isTup, this])]
      rfl
/-! dots as sums -/
theorem dotZ_dt {p : Int} {w : Nat} {a b : List Int} (ha : Rw p w a) : q p (dotZ p a b) = dt p w a (cq p b) := by
  unfold dotZ dt
  rw [q_mod, q_sum, ha.len]
  exact sm_congr fun k _ => by rw [q_mul]; rfl
theorem Wt.right {p : Int} (hp : Pr p) {w : Nat} {rows : List (List Int)} {v wts : List Int} (hv : Rw p w v) (h : Wt p w rows v wts) : rightW p w rows v wts = true := by
  unfold rightW
  rw [nums_iff.mpr h.rw, decide_eq_true ((add_Rw hp.pos).ext hv fun k hk => by rw [add_cq hk, h.eq k hk])]; rfl
theorem Cl.right {p : Int} (hp : Pr p) {w : Nat} {rows : List (List Int)} {v col : List Int} (hr : ∀ r ∈ rows, Rw p w r) (hv : Rw p w v) (h : Cl p w rows v col) : rightC p w rows v col = true := by
  unfold rightC
  have r1 : ∀ a b : List Int, Rg p (dotZ p a b) := fun a b => Rg.mod hp.pos _
  rw [nums_iff.mpr h.rw, Bool.true_and, Bool.and_eq_true, List.all_eq_true]
  refine ⟨fun r m => ?_, ?_⟩
  · obtain ⟨i, hi, rfl⟩ := List.getElem_of_mem m
    have := h.zr i hi
    rw [gd hi, ← dotZ_dt (hr _ m), ← q_zero] at this
    exact decide_eq_true (q_inj (r1 _ _) (rg01 hp).1 this)
  · have := h.on
    rw [← dotZ_dt hv, ← q_one] at this
    exact decide_eq_true (q_inj (r1 _ _) (rg01 hp).2 this)
/-- what is a sum has no column -/
theorem no_col {p : Int} (hp : Pr p) {w : Nat} {rows : List (List Int)} {v col : List Int} {ws : Nat → M p} (hv : ∀ k, k < w → cq p v k = sm rows.length fun i => ws i * cq p (rows.getD i []) k) (h : Cl p w rows v col) : False := by
  have h1 := h.on
  have : dt p w v (cq p col) = 0 := by
    unfold dt
    rw [sm_congr (g := fun k => sm rows.length fun i => ws i * (cq p (rows.getD i []) k * cq p col k)) fun k hk => by
      rw [hv k hk]
      have : ∀ i, ws i * (cq p (rows.getD i []) k * cq p col k) = cq p col k * (ws i * cq p (rows.getD i []) k) := fun i => by grind
      rw [sm_congr (n := rows.length) fun i _ => this i, sm_mul]; grind]
    rw [← sm_swap]
    refine sm_zero fun i hi => ?_
    rw [sm_mul]
    have := h.zr i hi
    unfold dt at this
    rw [this]; grind
  rw [this, ← q_zero, ← q_one] at h1
  have := q_inj (rg01 hp).1 (rg01 hp).2 h1
  omega
end K02
namespace K02
open PySem PySem.Spec L2 Z
open PyProof.Rows hiding St
theorem isIn_ints (z : Int) : ∀ L : List Int, isIn (.int z) (L.map D.int) = decide (z ∈ L)
  | [] => by simp [isIn, inV]
  | a :: r => by
    have ih := isIn_ints z r
    unfold isIn inV at ih ⊢
    rw [List.map_cons, List.map_cons, List.any_cons, ih]
    show ((a == z) || decide (z ∈ r)) = _
    by_cases h : a = z
    · subst h; simp
    · have : ¬ z = a := fun e => h e.symm
      simp [h, this]
theorem flt_ints : ∀ L : List Int, (L.map D.int).all flt = true
  | [] => rfl
  | a :: r => by rw [List.map_cons, List.all_cons, flt_ints r]; rfl
theorem fIn_ls (z : Int) (L : List Int) : fIn (I z) (ls L) = some (.d (.bl (decide (z ∈ L)))) := by
  show (match dataOf (ls L) with
    | some ds => if flt (.int z) && ds.all flt then some (T.d (.bl (isIn (.int z) ds))) else none
    | none => none) = _
  rw [dataOf_l, allD_map]
  simp only [flt_ints, isIn_ints]
  rfl
theorem pys_map : ∀ ds : List D, T.pys (ds.map T.d) = D.pys ds
  | [] => by rw [D.pys]; rfl
  | a :: r => by rw [List.map_cons, T.pys, pys_map r, D.pys]; rfl
theorem fNe_ls (xs ys : List Int) : fNe (ls xs) (ls ys) = some (.d (.bl (!decide (xs = ys)))) := by
  have p1 : ∀ zs : List Int, shp (T.py (ls zs)) = true := fun zs => by
    have := plns_lay (n := 0) (ds := zs.map D.int) (plns_of fun d m => by obtain ⟨z, _, rfl⟩ := List.mem_map.mp m; exact pln_int 0 z)
    show (PyData.canLay0 (T.py (ls zs)) && decide (PyData.depth (T.py (ls zs)) ≤ 64)) = true
    unfold ls
    rw [T.py, pys_map, PyData.canLay0, PyData.depth, this.1, decide_eq_true (by omega)]; rfl
  have p2 : PyData.eqv (T.py (ls xs)) (T.py (ls ys)) = decide (xs = ys) := by
    unfold ls
    rw [T.py, T.py, pys_map, pys_map, PyData.eqv]
    have := deqs_iff (n := 0) (m := 0) (a := xs.map D.int) (b := ys.map D.int) (plns_of fun d m => by obtain ⟨z, _, rfl⟩ := List.mem_map.mp m; exact pln_int 0 z) (plns_of fun d m => by obtain ⟨z, _, rfl⟩ := List.mem_map.mp m; exact pln_int 0 z)
    unfold deqs at this
    by_cases e : xs = ys
    · rw [decide_eq_true e]; exact this.mpr (by rw [e])
    · rw [decide_eq_false e]
      cases h : PyData.eqvAll (D.pys (xs.map D.int)) (D.pys (ys.map D.int)) with
      | false => rfl
      | true => exact absurd (map_inj int_inj (this.mp h)) e
  unfold fNe
  rw [p1, p1, p2]; rfl
theorem srt_self {L : List Int} (h : L.Pairwise (· < ·)) : srtI L = L := srt_uniq (srtI_perm L) (srtI_srt L) (h.imp fun a => Int.le_of_lt a)
theorem range_nodup (n : Nat) : (List.range n).Nodup := List.nodup_range
def lds (FL : List (List Int × Nat)) : List Int := FL.map fun x => (x.2 : Int)
theorem lds_up {p : Int} {w : Nat} {rows : List (List Int)} {FL : List (List Int × Nat)} (E : Ech p w rows FL) : (lds FL).Pairwise (· < ·) := List.pairwise_map.mpr (E.up.imp fun a => Int.ofNat_lt.mpr a)
theorem lds_count {p : Int} {w : Nat} {rows : List (List Int)} {FL : List (List Int × Nat)} (E : Ech p w rows FL) : ((List.range w).filter fun (k : Nat) => decide ((k : Int) ∈ lds FL)).length = FL.length := by
  have n2 : (FL.map Prod.snd).Nodup := List.pairwise_map.mpr (E.up.imp fun a => Nat.ne_of_lt a)
  have n1 : ((List.range w).filter fun (k : Nat) => decide ((k : Int) ∈ lds FL)).Nodup := (range_nodup w).filter _
  have := ((List.perm_ext_iff_of_nodup n1 n2).mpr fun a => by
    rw [List.mem_filter, List.mem_range, decide_eq_true_iff]
    constructor
    · rintro ⟨_, m⟩
      obtain ⟨x, mx, e⟩ := List.mem_map.mp m
      exact List.mem_map.mpr ⟨x, mx, by omega⟩
    · intro m
      obtain ⟨x, mx, rfl⟩ := List.mem_map.mp m
      exact ⟨(E.fw x mx).2, List.mem_map.mpr ⟨x, mx, rfl⟩⟩).length_eq
  rw [this, List.length_map]
/-- each row is made of the found ones -/
theorem ech_made {p : Int} (hp : Pr p) {w : Nat} {rows : List (List Int)} {FL : List (List Int × Nat)} (E : Ech p w rows FL) {r : List Int} (hr : Rw p w r) (m : r ∈ rows) : add p (fsts FL) (FL.map fun x => r.getD x.2 0) w = r := by
  refine (add_Rw hp.pos).ext hr fun k hk => ?_
  have hl : (fsts FL).length = FL.length := List.length_map ..
  rw [add_cq hk, hl]
  -- the functional of a place less what the leads tell of it
  let c : Nat → M p := fun j => (if j = k then 1 else 0) - sm FL.length fun i => if j = (FL.getD i ([], 0)).2 then cq p (FL.getD i ([], 0)).1 k else 0
  have hd : ∀ s, dt p w s c = cq p s k - sm FL.length fun i => cq p (FL.getD i ([], 0)).1 k * (if (FL.getD i ([], 0)).2 < w then cq p s (FL.getD i ([], 0)).2 else 0) := fun s => by
    unfold dt
    have e1 : ∀ j, cq p s j * c j = cq p s j * (if j = k then 1 else 0) - sm FL.length fun i => cq p s j * (if j = (FL.getD i ([], 0)).2 then cq p (FL.getD i ([], 0)).1 k else 0) := fun j => by
      show cq p s j * ((if j = k then 1 else 0) - sm FL.length fun i => if j = (FL.getD i ([], 0)).2 then cq p (FL.getD i ([], 0)).1 k else 0) = _
      rw [sm_mul]; grind
    rw [sm_congr fun j _ => e1 j, sm_sub, sm_swap]
    congr 1
    · rw [sm_one hk fun j _ hne => by (try dsimp only); rw [if_neg hne]; grind]
      (try dsimp only); rw [if_pos rfl]; grind
    · refine sm_congr fun i _ => ?_
      by_cases h : (FL.getD i ([], 0)).2 < w
      · rw [if_pos h, sm_one h fun j _ hne => by (try dsimp only); rw [if_neg hne]; grind]
        (try dsimp only); rw [if_pos rfl]; grind
      · rw [if_neg h, sm_zero fun j hj => by rw [if_neg (by omega)]; grind]; grind
  have mg : ∀ i, i < FL.length → FL.getD i ([], 0) ∈ FL := fun i hi => by
    have : FL.getD i ([], 0) = FL[i] := by simp [List.getD, hi]
    rw [this]; exact List.getElem_mem hi
  have hz : ∀ x ∈ FL, dt p w x.1 c = 0 := fun x mx => by
    rw [hd]
    obtain ⟨j, hj, rfl⟩ := List.getElem_of_mem mx
    have ej : FL.getD j ([], 0) = FL[j] := by simp [List.getD, hj]
    rw [sm_one hj fun i hi hne => by
      (try dsimp only)
      rw [if_pos (E.fw _ (mg i hi)).2, cq_of (E.un _ mx _ (mg i hi)), if_neg, q_zero]; grind
      intro e
      have ei : FL.getD i ([], 0) = FL[i] := by simp [List.getD, hi]
      rw [ei] at e
      have up := List.pairwise_iff_getElem.mp E.up
      rcases Nat.lt_or_gt_of_ne hne with h | h
      · have := up i j hi hj h; omega
      · have := up j i hj hi h; omega]
    (try dsimp only)
    rw [ej, if_pos (E.fw _ mx).2, cq_of (E.un _ mx _ mx), if_pos rfl, q_one]; grind
  have := (E.ann c).mpr hz r m
  rw [hd] at this
  have e2 : (sm FL.length fun i => cq p (FL.map fun x => r.getD x.2 0) i * cq p ((fsts FL).getD i []) k) = sm FL.length fun i => cq p (FL.getD i ([], 0)).1 k * (if (FL.getD i ([], 0)).2 < w then cq p r (FL.getD i ([], 0)).2 else 0) := sm_congr fun i hi => by
    have ei : FL.getD i ([], 0) = FL[i] := by simp [List.getD, hi]
    have e1 : (fsts FL).getD i [] = FL[i].1 := by simp [List.getD, hi]
    have e3 : (FL.map fun x => r.getD x.2 0).getD i 0 = r.getD FL[i].2 0 := by rw [gd (by rw [List.length_map]; exact hi), List.getElem_map]
    rw [if_pos (E.fw _ (mg i hi)).2, ei, e1]
    unfold cq
    rw [e3]; grind
  rw [e2]; grind
/-- no row of the found ones is parted from the rows by a column -/
theorem ech_wts {p : Int} (hp : Pr p) {w : Nat} {rows : List (List Int)} {FL : List (List Int × Nat)} (E : Ech p w rows FL) {x : List Int × Nat} (mx : x ∈ FL) {col : List Int} (h : Cl p w rows x.1 col) : False := by
  have h1 := (E.ann (cq p col)).mp (fun r m => by
    obtain ⟨i, hi, rfl⟩ := List.getElem_of_mem m
    have := h.zr i hi
    rwa [gd hi] at this) x mx
  have h2 := h.on
  rw [h1, ← q_zero, ← q_one] at h2
  have := q_inj (rg01 hp).1 (rg01 hp).2 h2
  omega
def jbody : En → SR := (fIf (lft (gT (g2 fNe (gLc [6] (gIt (vN 2)) (kName 6) gYes (gPur (g2 fIx (vN 6) (g2 fIx (vN 4) (vN 5))))) (gLc [8] (gR1 (gCall fLen (aCons (vN 2) aNil))) (kName 8) gYes (gCall fInt (aCons (g2 fEq (vN 8) (vN 5)) aNil)))))) (fRet (lft (kB false))) fNil)
def kbody : En → SR := (fIf (lft (gT (g2 fNe (gFn F__law_added (aCons (vN 0) (aCons (vN 2) (aCons (gLc [9] (gIt (vN 4)) (kName 9) gYes (gPur (g2 fIx (vN 6) (vN 9)))) (aCons (vN 3) aNil))))) (vN 6)))) (fRet (lft (kB false))) fNil)
theorem is_echelon_ok {p : Int} (hp : Pr p) {w : Nat} {rows : List (List Int)} {FL : List (List Int × Nat)} (E : Ech p w rows FL) (hr : ∀ r ∈ rows, Rw p w r) (hw : w < 100) (hn : rows.length < 100) (hF : FL.length < 1000) : F__law_is_echelon [I p, tps rows, tps (fsts FL), I w] = .ok (.d (.bl true)) := by
  refine runP_ret rfl ?_
  show ∃ e, d__law_is_echelon [.v (I p), .v (tps rows), .v (tps (fsts FL)), .v (I w), .n, .n, .n, .n, .n, .n] = _
  unfold d__law_is_echelon
  have hfl : (fsts FL).length = FL.length := List.length_map ..
  have hix : ∀ {i : Nat}, i < FL.length → fIx (tps (fsts FL)) (.d (.int (i : Int))) = some (tp ((fsts FL).getD i [])) := fun {i} hi => fIx_tps i rfl (by rw [hfl]; exact hi)
  refine ret_if_f ?_ ?_
  · have el := gLc_all (vs := [6]) (gs := gIt (vN 2)) (k := kName 6) (te := gFn F__law_numbers (aCons (vN 0) (aCons (vN 6) (aCons (vN 3) aNil)))) (en := [.v (I p), .v (tps rows), .v (tps (fsts FL)), .v (I w), .n, .n, .n, .n, .n, .n]) (fsts FL) _ (fun r => D.bl (nums p w r)) (gIt_of (x := tps (fsts FL)) (e := rowD) rfl rfl) (by omega) (fun r m => ⟨_, rfl, by
      obtain ⟨x, mx, rfl⟩ := List.mem_map.mp m
      have := law_numbers_ok (p := p) (n := w) (zs := x.1) (by rw [(E.fw x mx).1.len]; omega)
      simp only [gPur_ev, gAndV_ev, gOrV_ev, gNotV_ev, gIsi_ev, gAnd_ev, gOr_ev, gNot_ev, gTru_ev, gT_ev, g2_ev, g1_ev, gIf_ev, gCall_ev, gFn_ev, gTup_ev, gLst_ev, gSl_ev, gCh_ev, gYes_ev, oN_ev, oS_ev, asI_ev, aCons_ev, aNil_ev, vN_ev, kI_ev, kB_ev, kS_ev, kD'_ev, at_succ, at_zero, get_v, get_w, get_b, get_n, Z.R.of_some, Z.R.bind_ok, Z.R.pur_d, fAdd_i, fSub_i, fNeg_i, fLt_i, fLe_i, fGt_i, fGe_i, fEq_i, fNe_i, fInt_i, fInt_b, fAbs_i, fMin2_i, fMax2_i, fLen_l, fLen_t, fLen_r, tst_b, tru_b, tru_i, tru_t, tru_l, tru_r, tru_n, List.length_map, wipeE_cons, wipeE_nil, List.set_cons_succ, List.set_cons_zero, setE_cons, setE_nil, mkS_d, mkS_l, mkTup_nil, mkTup_ev, mkLst_ev, allD_cons, allD_nil, allD_map, Option.map_some, Option.bind_some, if_true, Bool.false_eq_true, if_false, ite_true, ite_false, Bool.not_true, Bool.not_false, decide_true, decide_false, isInt_i, isInt_b, isInt_t, isBl_i, isBl_b, isBl_t, fTuple_ev, fList_ev, dataOf_t, dataOf_l, dataOf_r, lft_ev, Z.RM.of_ok, Z.RM.bind_ok, mCons_ev, mNil_ev, m2_ev, mOf_ev, mT_ev, mTru_ev, mNot_ev, List.cons_append, List.nil_append, this]⟩)
    have ha : (fsts FL).all (nums p w) = true := List.all_eq_true.mpr fun r m => by
      obtain ⟨x, mx, rfl⟩ := List.mem_map.mp m
      exact nums_iff.mpr (E.fw x mx).1
    rw [gOr_ev, gNot_ev, gTru_ev, gIsi_ev, gNot_ev, gTru_ev, gCall_ev, aCons_ev, el]
    simp only [gPur_ev, gAndV_ev, gOrV_ev, gNotV_ev, gIsi_ev, gAnd_ev, gOr_ev, gNot_ev, gTru_ev, gT_ev, g2_ev, g1_ev, gIf_ev, gCall_ev, gFn_ev, gTup_ev, gLst_ev, gSl_ev, gCh_ev, gYes_ev, oN_ev, oS_ev, asI_ev, aCons_ev, aNil_ev, vN_ev, kI_ev, kB_ev, kS_ev, kD'_ev, at_succ, at_zero, get_v, get_w, get_b, get_n, Z.R.of_some, Z.R.bind_ok, Z.R.pur_d, fAdd_i, fSub_i, fNeg_i, fLt_i, fLe_i, fGt_i, fGe_i, fEq_i, fNe_i, fInt_i, fInt_b, fAbs_i, fMin2_i, fMax2_i, fLen_l, fLen_t, fLen_r, tst_b, tru_b, tru_i, tru_t, tru_l, tru_r, tru_n, List.length_map, wipeE_cons, wipeE_nil, List.set_cons_succ, List.set_cons_zero, setE_cons, setE_nil, mkS_d, mkS_l, mkTup_nil, mkTup_ev, mkLst_ev, allD_cons, allD_nil, allD_map, Option.map_some, Option.bind_some, if_true, Bool.false_eq_true, if_false, ite_true, ite_false, Bool.not_true, Bool.not_false, decide_true, decide_false, isInt_i, isInt_b, isInt_t, isBl_i, isBl_b, isBl_t, fTuple_ev, fList_ev, dataOf_t, dataOf_l, dataOf_r, lft_ev, Z.RM.of_ok, Z.RM.bind_ok, mCons_ev, mNil_ev, m2_ev, mOf_ev, mT_ev, mTru_ev, mNot_ev, List.cons_append, List.nil_append, isTup, fAll_of, ha]
  have s1 : fSet 4 (lft (gLc [6] (gIt (vN 2)) (kName 6) gYes (gFn F__law_lead (aCons (vN 6) aNil)))) [.v (I p), .v (tps rows), .v (tps (fsts FL)), .v (I w), .n, .n, .n, .n, .n, .n] = .nx [.v (I p), .v (tps rows), .v (tps (fsts FL)), .v (I w), .v (ls (lds FL)), .n, .n, .n, .n, .n] := by
    have el := gLc_all (vs := [6]) (gs := gIt (vN 2)) (k := kName 6) (te := gFn F__law_lead (aCons (vN 6) aNil)) (en := [.v (I p), .v (tps rows), .v (tps (fsts FL)), .v (I w), .n, .n, .n, .n, .n, .n]) FL (fun x => T.d (rowD x.1)) (fun x => D.int (x.2 : Int)) (by
      rw [gIt_ev, vN_ev]; simp only [gPur_ev, gAndV_ev, gOrV_ev, gNotV_ev, gIsi_ev, gAnd_ev, gOr_ev, gNot_ev, gTru_ev, gT_ev, g2_ev, g1_ev, gIf_ev, gCall_ev, gFn_ev, gTup_ev, gLst_ev, gSl_ev, gCh_ev, gYes_ev, oN_ev, oS_ev, asI_ev, aCons_ev, aNil_ev, vN_ev, kI_ev, kB_ev, kS_ev, kD'_ev, at_succ, at_zero, get_v, get_w, get_b, get_n, Z.R.of_some, Z.R.bind_ok, Z.R.pur_d, fAdd_i, fSub_i, fNeg_i, fLt_i, fLe_i, fGt_i, fGe_i, fEq_i, fNe_i, fInt_i, fInt_b, fAbs_i, fMin2_i, fMax2_i, fLen_l, fLen_t, fLen_r, tst_b, tru_b, tru_i, tru_t, tru_l, tru_r, tru_n, List.length_map, wipeE_cons, wipeE_nil, List.set_cons_succ, List.set_cons_zero, setE_cons, setE_nil, mkS_d, mkS_l, mkTup_nil, mkTup_ev, mkLst_ev, allD_cons, allD_nil, allD_map, Option.map_some, Option.bind_some, if_true, Bool.false_eq_true, if_false, ite_true, ite_false, Bool.not_true, Bool.not_false, decide_true, decide_false, isInt_i, isInt_b, isInt_t, isBl_i, isBl_b, isBl_t, fTuple_ev, fList_ev, dataOf_t, dataOf_l, dataOf_r, lft_ev, Z.RM.of_ok, Z.RM.bind_ok, mCons_ev, mNil_ev, m2_ev, mOf_ev, mT_ev, mTru_ev, mNot_ev, List.cons_append, List.nil_append, items_tps]; rw [List.map_map]; rfl) (by omega) (fun x m => ⟨_, rfl, by
      have e1 := law_lead_ok x.1 (by rw [(E.fw x m).1.len]; omega)
      rw [ld_FL E m] at e1
      simp only [gPur_ev, gAndV_ev, gOrV_ev, gNotV_ev, gIsi_ev, gAnd_ev, gOr_ev, gNot_ev, gTru_ev, gT_ev, g2_ev, g1_ev, gIf_ev, gCall_ev, gFn_ev, gTup_ev, gLst_ev, gSl_ev, gCh_ev, gYes_ev, oN_ev, oS_ev, asI_ev, aCons_ev, aNil_ev, vN_ev, kI_ev, kB_ev, kS_ev, kD'_ev, at_succ, at_zero, get_v, get_w, get_b, get_n, Z.R.of_some, Z.R.bind_ok, Z.R.pur_d, fAdd_i, fSub_i, fNeg_i, fLt_i, fLe_i, fGt_i, fGe_i, fEq_i, fNe_i, fInt_i, fInt_b, fAbs_i, fMin2_i, fMax2_i, fLen_l, fLen_t, fLen_r, tst_b, tru_b, tru_i, tru_t, tru_l, tru_r, tru_n, List.length_map, wipeE_cons, wipeE_nil, List.set_cons_succ, List.set_cons_zero, setE_cons, setE_nil, mkS_d, mkS_l, mkTup_nil, mkTup_ev, mkLst_ev, allD_cons, allD_nil, allD_map, Option.map_some, Option.bind_some, if_true, Bool.false_eq_true, if_false, ite_true, ite_false, Bool.not_true, Bool.not_false, decide_true, decide_false, isInt_i, isInt_b, isInt_t, isBl_i, isBl_b, isBl_t, fTuple_ev, fList_ev, dataOf_t, dataOf_l, dataOf_r, lft_ev, Z.RM.of_ok, Z.RM.bind_ok, mCons_ev, mNil_ev, m2_ev, mOf_ev, mT_ev, mTru_ev, mNot_ev, List.cons_append, List.nil_append, e1]⟩)
    rw [fSet_ev, lft_n el, RM.s_ok]
    unfold lds ls
    rw [List.map_map (l := FL) (g := D.int)]; rfl
  refine ret_seq s1 ?_
  have i1 : ¬ ((-1 : Int) ∈ lds FL) := fun m => by
    obtain ⟨x, _, e⟩ := List.mem_map.mp m
    have e : (x.2 : Int) = -1 := e
    omega
  refine ret_if_f ?_ ?_
  · have eg := gR1_of (g := vN 3) (en := [.v (I p), .v (tps rows), .v (tps (fsts FL)), .v (I w), .v (ls (lds FL)), .n, .n, .n, .n, .n]) (n := w) rfl (by omega)
    have el := gLc_if (vs := [7]) (k := kName 7) (tt := gT (g2 fIn (vN 7) (vN 4))) (te := gPur (vN 7)) (List.range w) _ (fun (k : Nat) => D.int (k : Int)) (fun (k : Nat) => decide ((k : Int) ∈ lds FL)) eg (by rw [List.length_range]; omega) (fun k hk => by
      refine ⟨[(7, I k)], rfl, ?_, fun _ => ?_⟩
      · simp only [gPur_ev, gAndV_ev, gOrV_ev, gNotV_ev, gIsi_ev, gAnd_ev, gOr_ev, gNot_ev, gTru_ev, gT_ev, g2_ev, g1_ev, gIf_ev, gCall_ev, gFn_ev, gTup_ev, gLst_ev, gSl_ev, gCh_ev, gYes_ev, oN_ev, oS_ev, asI_ev, aCons_ev, aNil_ev, vN_ev, kI_ev, kB_ev, kS_ev, kD'_ev, at_succ, at_zero, get_v, get_w, get_b, get_n, Z.R.of_some, Z.R.bind_ok, Z.R.pur_d, fAdd_i, fSub_i, fNeg_i, fLt_i, fLe_i, fGt_i, fGe_i, fEq_i, fNe_i, fInt_i, fInt_b, fAbs_i, fMin2_i, fMax2_i, fLen_l, fLen_t, fLen_r, tst_b, tru_b, tru_i, tru_t, tru_l, tru_r, tru_n, List.length_map, wipeE_cons, wipeE_nil, List.set_cons_succ, List.set_cons_zero, setE_cons, setE_nil, mkS_d, mkS_l, mkTup_nil, mkTup_ev, mkLst_ev, allD_cons, allD_nil, allD_map, Option.map_some, Option.bind_some, if_true, Bool.false_eq_true, if_false, ite_true, ite_false, Bool.not_true, Bool.not_false, decide_true, decide_false, isInt_i, isInt_b, isInt_t, isBl_i, isBl_b, isBl_t, fTuple_ev, fList_ev, dataOf_t, dataOf_l, dataOf_r, lft_ev, Z.RM.of_ok, Z.RM.bind_ok, mCons_ev, mNil_ev, m2_ev, mOf_ev, mT_ev, mTru_ev, mNot_ev, List.cons_append, List.nil_append, fIn_ls]
      · simp only [gPur_ev, gAndV_ev, gOrV_ev, gNotV_ev, gIsi_ev, gAnd_ev, gOr_ev, gNot_ev, gTru_ev, gT_ev, g2_ev, g1_ev, gIf_ev, gCall_ev, gFn_ev, gTup_ev, gLst_ev, gSl_ev, gCh_ev, gYes_ev, oN_ev, oS_ev, asI_ev, aCons_ev, aNil_ev, vN_ev, kI_ev, kB_ev, kS_ev, kD'_ev, at_succ, at_zero, get_v, get_w, get_b, get_n, Z.R.of_some, Z.R.bind_ok, Z.R.pur_d, fAdd_i, fSub_i, fNeg_i, fLt_i, fLe_i, fGt_i, fGe_i, fEq_i, fNe_i, fInt_i, fInt_b, fAbs_i, fMin2_i, fMax2_i, fLen_l, fLen_t, fLen_r, tst_b, tru_b, tru_i, tru_t, tru_l, tru_r, tru_n, List.length_map, wipeE_cons, wipeE_nil, List.set_cons_succ, List.set_cons_zero, setE_cons, setE_nil, mkS_d, mkS_l, mkTup_nil, mkTup_ev, mkLst_ev, allD_cons, allD_nil, allD_map, Option.map_some, Option.bind_some, if_true, Bool.false_eq_true, if_false, ite_true, ite_false, Bool.not_true, Bool.not_false, decide_true, decide_false, isInt_i, isInt_b, isInt_t, isBl_i, isBl_b, isBl_t, fTuple_ev, fList_ev, dataOf_t, dataOf_l, dataOf_r, lft_ev, Z.RM.of_ok, Z.RM.bind_ok, mCons_ev, mNil_ev, m2_ev, mOf_ev, mT_ev, mTru_ev, mNot_ev, List.cons_append, List.nil_append])
    have e2 : fSortI [ls (lds FL)] = some (ls (lds FL)) := by
      show (lstOf (ls (lds FL))).bind _ = _
      rw [lstOf_l, allD_map, Option.bind_some, asInts_map, Option.map_some, srt_self (lds_up E)]
    have e3 : (lds FL).length = FL.length := List.length_map ..
    have c1 : decide ((-1 : Int) ∈ lds FL) = false := decide_eq_false i1
    rw [gOr_ev, gT_ev, g2_ev, g1_ev, gOr_ev, gT_ev, g2_ev, gT_ev, g2_ev, gCall_ev (gs := aCons (gLc _ _ _ _ _) _), aCons_ev, el]
    simp only [gPur_ev, gAndV_ev, gOrV_ev, gNotV_ev, gIsi_ev, gAnd_ev, gOr_ev, gNot_ev, gTru_ev, gT_ev, g2_ev, g1_ev, gIf_ev, gCall_ev, gFn_ev, gTup_ev, gLst_ev, gSl_ev, gCh_ev, gYes_ev, oN_ev, oS_ev, asI_ev, aCons_ev, aNil_ev, vN_ev, kI_ev, kB_ev, kS_ev, kD'_ev, at_succ, at_zero, get_v, get_w, get_b, get_n, Z.R.of_some, Z.R.bind_ok, Z.R.pur_d, fAdd_i, fSub_i, fNeg_i, fLt_i, fLe_i, fGt_i, fGe_i, fEq_i, fNe_i, fInt_i, fInt_b, fAbs_i, fMin2_i, fMax2_i, fLen_l, fLen_t, fLen_r, tst_b, tru_b, tru_i, tru_t, tru_l, tru_r, tru_n, List.length_map, wipeE_cons, wipeE_nil, List.set_cons_succ, List.set_cons_zero, setE_cons, setE_nil, mkS_d, mkS_l, mkTup_nil, mkTup_ev, mkLst_ev, allD_cons, allD_nil, allD_map, Option.map_some, Option.bind_some, if_true, Bool.false_eq_true, if_false, ite_true, ite_false, Bool.not_true, Bool.not_false, decide_true, decide_false, isInt_i, isInt_b, isInt_t, isBl_i, isBl_b, isBl_t, fTuple_ev, fList_ev, dataOf_t, dataOf_l, dataOf_r, lft_ev, Z.RM.of_ok, Z.RM.bind_ok, mCons_ev, mNil_ev, m2_ev, mOf_ev, mT_ev, mTru_ev, mNot_ev, List.cons_append, List.nil_append, fIn_ls, c1, e2, fNe_ls, lds_count E, e3]
  obtain ⟨en1, s2, o5, h5, rfl⟩ := for_pre (k := kName 5) (mi := lft (gR1 (gCall fLen (aCons (vN 2) aNil)))) (f := jbody) (h := fun (i : Nat) => T.d (.int (i : Int))) (fun pre en => ∃ o5, NB o5 ∧ en = [.v (I p), .v (tps rows), .v (tps (fsts FL)), .v (I w), .v (ls (lds FL)), o5, .n, .n, .n, .n]) (List.range FL.length) [.v (I p), .v (tps rows), .v (tps (fsts FL)), .v (I w), .v (ls (lds FL)), .n, .n, .n, .n, .n] (lft_n (gR1_of (by simp only [gPur_ev, gAndV_ev, gOrV_ev, gNotV_ev, gIsi_ev, gAnd_ev, gOr_ev, gNot_ev, gTru_ev, gT_ev, g2_ev, g1_ev, gIf_ev, gCall_ev, gFn_ev, gTup_ev, gLst_ev, gSl_ev, gCh_ev, gYes_ev, oN_ev, oS_ev, asI_ev, aCons_ev, aNil_ev, vN_ev, kI_ev, kB_ev, kS_ev, kD'_ev, at_succ, at_zero, get_v, get_w, get_b, get_n, Z.R.of_some, Z.R.bind_ok, Z.R.pur_d, fAdd_i, fSub_i, fNeg_i, fLt_i, fLe_i, fGt_i, fGe_i, fEq_i, fNe_i, fInt_i, fInt_b, fAbs_i, fMin2_i, fMax2_i, fLen_l, fLen_t, fLen_r, tst_b, tru_b, tru_i, tru_t, tru_l, tru_r, tru_n, List.length_map, wipeE_cons, wipeE_nil, List.set_cons_succ, List.set_cons_zero, setE_cons, setE_nil, mkS_d, mkS_l, mkTup_nil, mkTup_ev, mkLst_ev, allD_cons, allD_nil, allD_map, Option.map_some, Option.bind_some, if_true, Bool.false_eq_true, if_false, ite_true, ite_false, Bool.not_true, Bool.not_false, decide_true, decide_false, isInt_i, isInt_b, isInt_t, isBl_i, isBl_b, isBl_t, fTuple_ev, fList_ev, dataOf_t, dataOf_l, dataOf_r, lft_ev, Z.RM.of_ok, Z.RM.bind_ok, mCons_ev, mNil_ev, m2_ev, mOf_ev, mT_ev, mTru_ev, mNot_ev, List.cons_append, List.nil_append]) (by omega))) ⟨.n, .n, rfl⟩ (fun pre j s en e q => by
    obtain ⟨o5, h5, rfl⟩ := q
    obtain ⟨rfl, hj⟩ := range_at e
    generalize pre.length = j at *
    refine ⟨_, [.v (I p), .v (tps rows), .v (tps (fsts FL)), .v (I w), .v (ls (lds FL)), .v (I j), .n, .n, .n, .n], [.v (I p), .v (tps rows), .v (tps (fsts FL)), .v (I w), .v (ls (lds FL)), .v (I j), .n, .n, .n, .n], rfl, by simp [h5.s], .inl ?_, .v (I j), .v, rfl⟩
    unfold jbody
    have i4 := fIx_ls (zs := lds FL) (z := j) j rfl (by unfold lds; rw [List.length_map]; exact hj)
    have e4 : (lds FL).getD j 0 = (FL[j].2 : Int) := by
      rw [gd (by unfold lds; rw [List.length_map]; exact hj)]; simp [lds]
    rw [e4] at i4
    have mj : FL[j] ∈ FL := List.getElem_mem hj
    have el := gLc_all (vs := [6]) (gs := gIt (vN 2)) (k := kName 6) (te := gPur (g2 fIx (vN 6) (g2 fIx (vN 4) (vN 5)))) (en := [.v (I p), .v (tps rows), .v (tps (fsts FL)), .v (I w), .v (ls (lds FL)), .v (I j), .n, .n, .n, .n]) FL (fun x => T.d (rowD x.1)) (fun x => D.int (x.1.getD FL[j].2 0)) (by
      rw [gIt_ev, vN_ev]; simp only [gPur_ev, gAndV_ev, gOrV_ev, gNotV_ev, gIsi_ev, gAnd_ev, gOr_ev, gNot_ev, gTru_ev, gT_ev, g2_ev, g1_ev, gIf_ev, gCall_ev, gFn_ev, gTup_ev, gLst_ev, gSl_ev, gCh_ev, gYes_ev, oN_ev, oS_ev, asI_ev, aCons_ev, aNil_ev, vN_ev, kI_ev, kB_ev, kS_ev, kD'_ev, at_succ, at_zero, get_v, get_w, get_b, get_n, Z.R.of_some, Z.R.bind_ok, Z.R.pur_d, fAdd_i, fSub_i, fNeg_i, fLt_i, fLe_i, fGt_i, fGe_i, fEq_i, fNe_i, fInt_i, fInt_b, fAbs_i, fMin2_i, fMax2_i, fLen_l, fLen_t, fLen_r, tst_b, tru_b, tru_i, tru_t, tru_l, tru_r, tru_n, List.length_map, wipeE_cons, wipeE_nil, List.set_cons_succ, List.set_cons_zero, setE_cons, setE_nil, mkS_d, mkS_l, mkTup_nil, mkTup_ev, mkLst_ev, allD_cons, allD_nil, allD_map, Option.map_some, Option.bind_some, if_true, Bool.false_eq_true, if_false, ite_true, ite_false, Bool.not_true, Bool.not_false, decide_true, decide_false, isInt_i, isInt_b, isInt_t, isBl_i, isBl_b, isBl_t, fTuple_ev, fList_ev, dataOf_t, dataOf_l, dataOf_r, lft_ev, Z.RM.of_ok, Z.RM.bind_ok, mCons_ev, mNil_ev, m2_ev, mOf_ev, mT_ev, mTru_ev, mNot_ev, List.cons_append, List.nil_append, items_tps]; rw [List.map_map]; rfl) (by omega) (fun x m => ⟨_, rfl, by
      have i5 := fIx_tp (zs := x.1) (z := (FL[j].2 : Int)) FL[j].2 rfl (by rw [(E.fw x m).1.len]; exact (E.fw _ mj).2)
      simp only [gPur_ev, gAndV_ev, gOrV_ev, gNotV_ev, gIsi_ev, gAnd_ev, gOr_ev, gNot_ev, gTru_ev, gT_ev, g2_ev, g1_ev, gIf_ev, gCall_ev, gFn_ev, gTup_ev, gLst_ev, gSl_ev, gCh_ev, gYes_ev, oN_ev, oS_ev, asI_ev, aCons_ev, aNil_ev, vN_ev, kI_ev, kB_ev, kS_ev, kD'_ev, at_succ, at_zero, get_v, get_w, get_b, get_n, Z.R.of_some, Z.R.bind_ok, Z.R.pur_d, fAdd_i, fSub_i, fNeg_i, fLt_i, fLe_i, fGt_i, fGe_i, fEq_i, fNe_i, fInt_i, fInt_b, fAbs_i, fMin2_i, fMax2_i, fLen_l, fLen_t, fLen_r, tst_b, tru_b, tru_i, tru_t, tru_l, tru_r, tru_n, List.length_map, wipeE_cons, wipeE_nil, List.set_cons_succ, List.set_cons_zero, setE_cons, setE_nil, mkS_d, mkS_l, mkTup_nil, mkTup_ev, mkLst_ev, allD_cons, allD_nil, allD_map, Option.map_some, Option.bind_some, if_true, Bool.false_eq_true, if_false, ite_true, ite_false, Bool.not_true, Bool.not_false, decide_true, decide_false, isInt_i, isInt_b, isInt_t, isBl_i, isBl_b, isBl_t, fTuple_ev, fList_ev, dataOf_t, dataOf_l, dataOf_r, lft_ev, Z.RM.of_ok, Z.RM.bind_ok, mCons_ev, mNil_ev, m2_ev, mOf_ev, mT_ev, mTru_ev, mNot_ev, List.cons_append, List.nil_append, i4, i5]⟩)
    have eg := gR1_of (g := gCall fLen (aCons (vN 2) aNil)) (en := [.v (I p), .v (tps rows), .v (tps (fsts FL)), .v (I w), .v (ls (lds FL)), .v (I j), .n, .n, .n, .n]) (n := FL.length) (by simp only [gPur_ev, gAndV_ev, gOrV_ev, gNotV_ev, gIsi_ev, gAnd_ev, gOr_ev, gNot_ev, gTru_ev, gT_ev, g2_ev, g1_ev, gIf_ev, gCall_ev, gFn_ev, gTup_ev, gLst_ev, gSl_ev, gCh_ev, gYes_ev, oN_ev, oS_ev, asI_ev, aCons_ev, aNil_ev, vN_ev, kI_ev, kB_ev, kS_ev, kD'_ev, at_succ, at_zero, get_v, get_w, get_b, get_n, Z.R.of_some, Z.R.bind_ok, Z.R.pur_d, fAdd_i, fSub_i, fNeg_i, fLt_i, fLe_i, fGt_i, fGe_i, fEq_i, fNe_i, fInt_i, fInt_b, fAbs_i, fMin2_i, fMax2_i, fLen_l, fLen_t, fLen_r, tst_b, tru_b, tru_i, tru_t, tru_l, tru_r, tru_n, List.length_map, wipeE_cons, wipeE_nil, List.set_cons_succ, List.set_cons_zero, setE_cons, setE_nil, mkS_d, mkS_l, mkTup_nil, mkTup_ev, mkLst_ev, allD_cons, allD_nil, allD_map, Option.map_some, Option.bind_some, if_true, Bool.false_eq_true, if_false, ite_true, ite_false, Bool.not_true, Bool.not_false, decide_true, decide_false, isInt_i, isInt_b, isInt_t, isBl_i, isBl_b, isBl_t, fTuple_ev, fList_ev, dataOf_t, dataOf_l, dataOf_r, lft_ev, Z.RM.of_ok, Z.RM.bind_ok, mCons_ev, mNil_ev, m2_ev, mOf_ev, mT_ev, mTru_ev, mNot_ev, List.cons_append, List.nil_append]) (by omega)
    have el2 := gLc_all (vs := [8]) (k := kName 8) (te := gCall fInt (aCons (g2 fEq (vN 8) (vN 5)) aNil)) (List.range FL.length) _ (fun i => D.int (if i = j then 1 else 0)) eg (by rw [List.length_range]; omega) (fun i hi => ⟨_, rfl, by
      by_cases h : i = j
      · simp only [gPur_ev, gAndV_ev, gOrV_ev, gNotV_ev, gIsi_ev, gAnd_ev, gOr_ev, gNot_ev, gTru_ev, gT_ev, g2_ev, g1_ev, gIf_ev, gCall_ev, gFn_ev, gTup_ev, gLst_ev, gSl_ev, gCh_ev, gYes_ev, oN_ev, oS_ev, asI_ev, aCons_ev, aNil_ev, vN_ev, kI_ev, kB_ev, kS_ev, kD'_ev, at_succ, at_zero, get_v, get_w, get_b, get_n, Z.R.of_some, Z.R.bind_ok, Z.R.pur_d, fAdd_i, fSub_i, fNeg_i, fLt_i, fLe_i, fGt_i, fGe_i, fEq_i, fNe_i, fInt_i, fInt_b, fAbs_i, fMin2_i, fMax2_i, fLen_l, fLen_t, fLen_r, tst_b, tru_b, tru_i, tru_t, tru_l, tru_r, tru_n, List.length_map, wipeE_cons, wipeE_nil, List.set_cons_succ, List.set_cons_zero, setE_cons, setE_nil, mkS_d, mkS_l, mkTup_nil, mkTup_ev, mkLst_ev, allD_cons, allD_nil, allD_map, Option.map_some, Option.bind_some, if_true, Bool.false_eq_true, if_false, ite_true, ite_false, Bool.not_true, Bool.not_false, decide_true, decide_false, isInt_i, isInt_b, isInt_t, isBl_i, isBl_b, isBl_t, fTuple_ev, fList_ev, dataOf_t, dataOf_l, dataOf_r, lft_ev, Z.RM.of_ok, Z.RM.bind_ok, mCons_ev, mNil_ev, m2_ev, mOf_ev, mT_ev, mTru_ev, mNot_ev, List.cons_append, List.nil_append, h]
      · have : ¬ ((i : Int) = (j : Int)) := by omega
        simp only [gPur_ev, gAndV_ev, gOrV_ev, gNotV_ev, gIsi_ev, gAnd_ev, gOr_ev, gNot_ev, gTru_ev, gT_ev, g2_ev, g1_ev, gIf_ev, gCall_ev, gFn_ev, gTup_ev, gLst_ev, gSl_ev, gCh_ev, gYes_ev, oN_ev, oS_ev, asI_ev, aCons_ev, aNil_ev, vN_ev, kI_ev, kB_ev, kS_ev, kD'_ev, at_succ, at_zero, get_v, get_w, get_b, get_n, Z.R.of_some, Z.R.bind_ok, Z.R.pur_d, fAdd_i, fSub_i, fNeg_i, fLt_i, fLe_i, fGt_i, fGe_i, fEq_i, fNe_i, fInt_i, fInt_b, fAbs_i, fMin2_i, fMax2_i, fLen_l, fLen_t, fLen_r, tst_b, tru_b, tru_i, tru_t, tru_l, tru_r, tru_n, List.length_map, wipeE_cons, wipeE_nil, List.set_cons_succ, List.set_cons_zero, setE_cons, setE_nil, mkS_d, mkS_l, mkTup_nil, mkTup_ev, mkLst_ev, allD_cons, allD_nil, allD_map, Option.map_some, Option.bind_some, if_true, Bool.false_eq_true, if_false, ite_true, ite_false, Bool.not_true, Bool.not_false, decide_true, decide_false, isInt_i, isInt_b, isInt_t, isBl_i, isBl_b, isBl_t, fTuple_ev, fList_ev, dataOf_t, dataOf_l, dataOf_r, lft_ev, Z.RM.of_ok, Z.RM.bind_ok, mCons_ev, mNil_ev, m2_ev, mOf_ev, mT_ev, mTru_ev, mNot_ev, List.cons_append, List.nil_append, h, this]⟩)
    have e5 : (FL.map fun x => D.int (x.1.getD FL[j].2 0)) = (FL.map fun x => x.1.getD FL[j].2 0).map D.int := by rw [List.map_map]; rfl
    have e6 : ((List.range FL.length).map fun i => D.int (if i = j then 1 else 0)) = ((List.range FL.length).map fun i => if i = j then (1 : Int) else 0).map D.int := by rw [List.map_map]; rfl
    have e7 : (FL.map fun x => x.1.getD FL[j].2 0) = (List.range FL.length).map fun i => if i = j then (1 : Int) else 0 := by
      apply List.ext_getElem (by simp)
      intro i h1 h2
      rw [List.length_map] at h1
      rw [List.getElem_map, List.getElem_map, List.getElem_range, E.un _ (List.getElem_mem h1) _ mj]
      have up := List.pairwise_iff_getElem.mp E.up
      by_cases h : i = j
      · subst h; rw [if_pos rfl, if_pos rfl]
      · rw [if_neg h, if_neg]
        rcases Nat.lt_or_gt_of_ne h with h | h
        · have := up i j h1 hj h; omega
        · have := up j i hj h1 h; omega
    rw [fIf_f ?_, fNil_ev]
    rw [gT_ev, g2_ev, el, R.bind_ok, el2, R.bind_ok, e5, e6, e7, fNe_ls, decide_eq_true rfl]; rfl)
  refine ret_seq s2 ?_
  obtain ⟨en2, s3, o6, h6, rfl⟩ := forN_pre (k := kName 6) (i := 1) (f := kbody) (h := fun r => T.d (rowD r)) (fun pre en => ∃ o6, NB o6 ∧ en = [.v (I p), .v (tps rows), .v (tps (fsts FL)), .v (I w), .v (ls (lds FL)), o5, o6, .n, .n, .n]) rows [.v (I p), .v (tps rows), .v (tps (fsts FL)), .v (I w), .v (ls (lds FL)), o5, .n, .n, .n, .n] rfl (items_tps rows) ⟨.n, .n, rfl⟩ (fun pre r s en e q => by
    obtain ⟨o6, h6, rfl⟩ := q
    have mr : r ∈ rows := by rw [e]; exact List.mem_append_right _ (List.mem_cons_self ..)
    have hr1 := hr r mr
    refine ⟨_, [.v (I p), .v (tps rows), .v (tps (fsts FL)), .v (I w), .v (ls (lds FL)), o5, .v (tp r), .n, .n, .n], [.v (I p), .v (tps rows), .v (tps (fsts FL)), .v (I w), .v (ls (lds FL)), o5, .v (tp r), .n, .n, .n], rfl, by simp [h6.s], .inl ?_, .v (tp r), .v, rfl⟩
    unfold kbody
    have el := gLc_all (vs := [9]) (gs := gIt (vN 4)) (k := kName 9) (te := gPur (g2 fIx (vN 6) (vN 9))) (en := [.v (I p), .v (tps rows), .v (tps (fsts FL)), .v (I w), .v (ls (lds FL)), o5, .v (tp r), .n, .n, .n]) FL (fun x => T.d (.int (x.2 : Int))) (fun x => D.int (r.getD x.2 0)) (by
      rw [gIt_ev, vN_ev]; simp only [gPur_ev, gAndV_ev, gOrV_ev, gNotV_ev, gIsi_ev, gAnd_ev, gOr_ev, gNot_ev, gTru_ev, gT_ev, g2_ev, g1_ev, gIf_ev, gCall_ev, gFn_ev, gTup_ev, gLst_ev, gSl_ev, gCh_ev, gYes_ev, oN_ev, oS_ev, asI_ev, aCons_ev, aNil_ev, vN_ev, kI_ev, kB_ev, kS_ev, kD'_ev, at_succ, at_zero, get_v, get_w, get_b, get_n, Z.R.of_some, Z.R.bind_ok, Z.R.pur_d, fAdd_i, fSub_i, fNeg_i, fLt_i, fLe_i, fGt_i, fGe_i, fEq_i, fNe_i, fInt_i, fInt_b, fAbs_i, fMin2_i, fMax2_i, fLen_l, fLen_t, fLen_r, tst_b, tru_b, tru_i, tru_t, tru_l, tru_r, tru_n, List.length_map, wipeE_cons, wipeE_nil, List.set_cons_succ, List.set_cons_zero, setE_cons, setE_nil, mkS_d, mkS_l, mkTup_nil, mkTup_ev, mkLst_ev, allD_cons, allD_nil, allD_map, Option.map_some, Option.bind_some, if_true, Bool.false_eq_true, if_false, ite_true, ite_false, Bool.not_true, Bool.not_false, decide_true, decide_false, isInt_i, isInt_b, isInt_t, isBl_i, isBl_b, isBl_t, fTuple_ev, fList_ev, dataOf_t, dataOf_l, dataOf_r, lft_ev, Z.RM.of_ok, Z.RM.bind_ok, mCons_ev, mNil_ev, m2_ev, mOf_ev, mT_ev, mTru_ev, mNot_ev, List.cons_append, List.nil_append, items_l]; unfold lds; rw [List.map_map, List.map_map]; rfl) (by omega) (fun x m => ⟨_, rfl, by
      have i5 := fIx_tp (zs := r) (z := (x.2 : Int)) x.2 rfl (by rw [hr1.len]; exact (E.fw x m).2)
      simp only [gPur_ev, gAndV_ev, gOrV_ev, gNotV_ev, gIsi_ev, gAnd_ev, gOr_ev, gNot_ev, gTru_ev, gT_ev, g2_ev, g1_ev, gIf_ev, gCall_ev, gFn_ev, gTup_ev, gLst_ev, gSl_ev, gCh_ev, gYes_ev, oN_ev, oS_ev, asI_ev, aCons_ev, aNil_ev, vN_ev, kI_ev, kB_ev, kS_ev, kD'_ev, at_succ, at_zero, get_v, get_w, get_b, get_n, Z.R.of_some, Z.R.bind_ok, Z.R.pur_d, fAdd_i, fSub_i, fNeg_i, fLt_i, fLe_i, fGt_i, fGe_i, fEq_i, fNe_i, fInt_i, fInt_b, fAbs_i, fMin2_i, fMax2_i, fLen_l, fLen_t, fLen_r, tst_b, tru_b, tru_i, tru_t, tru_l, tru_r, tru_n, List.length_map, wipeE_cons, wipeE_nil, List.set_cons_succ, List.set_cons_zero, setE_cons, setE_nil, mkS_d, mkS_l, mkTup_nil, mkTup_ev, mkLst_ev, allD_cons, allD_nil, allD_map, Option.map_some, Option.bind_some, if_true, Bool.false_eq_true, if_false, ite_true, ite_false, Bool.not_true, Bool.not_false, decide_true, decide_false, isInt_i, isInt_b, isInt_t, isBl_i, isBl_b, isBl_t, fTuple_ev, fList_ev, dataOf_t, dataOf_l, dataOf_r, lft_ev, Z.RM.of_ok, Z.RM.bind_ok, mCons_ev, mNil_ev, m2_ev, mOf_ev, mT_ev, mTru_ev, mNot_ev, List.cons_append, List.nil_append, i5]⟩)
    have e5 : (FL.map fun x => D.int (r.getD x.2 0)) = (FL.map fun x => r.getD x.2 0).map D.int := by rw [List.map_map]; rfl
    rw [e5] at el
    have ea := law_added_ok hp (x := tps (fsts FL)) (y := ls (FL.map fun x => r.getD x.2 0)) (w := w) (.inl rfl) (.inr rfl) (fun s m => by
      obtain ⟨x, mx, rfl⟩ := List.mem_map.mp m
      exact (E.fw x mx).1) (by rw [List.length_map, hfl]) (by omega) (by omega)
    rw [ech_made hp E hr1 mr] at ea
    rw [fIf_f ?_, fNil_ev]
    rw [gT_ev, g2_ev, gFn_ev, aCons_ev, aCons_ev, aCons_ev, el]
    simp only [gPur_ev, gAndV_ev, gOrV_ev, gNotV_ev, gIsi_ev, gAnd_ev, gOr_ev, gNot_ev, gTru_ev, gT_ev, g2_ev, g1_ev, gIf_ev, gCall_ev, gFn_ev, gTup_ev, gLst_ev, gSl_ev, gCh_ev, gYes_ev, oN_ev, oS_ev, asI_ev, aCons_ev, aNil_ev, vN_ev, kI_ev, kB_ev, kS_ev, kD'_ev, at_succ, at_zero, get_v, get_w, get_b, get_n, Z.R.of_some, Z.R.bind_ok, Z.R.pur_d, fAdd_i, fSub_i, fNeg_i, fLt_i, fLe_i, fGt_i, fGe_i, fEq_i, fNe_i, fInt_i, fInt_b, fAbs_i, fMin2_i, fMax2_i, fLen_l, fLen_t, fLen_r, tst_b, tru_b, tru_i, tru_t, tru_l, tru_r, tru_n, List.length_map, wipeE_cons, wipeE_nil, List.set_cons_succ, List.set_cons_zero, setE_cons, setE_nil, mkS_d, mkS_l, mkTup_nil, mkTup_ev, mkLst_ev, allD_cons, allD_nil, allD_map, Option.map_some, Option.bind_some, if_true, Bool.false_eq_true, if_false, ite_true, ite_false, Bool.not_true, Bool.not_false, decide_true, decide_false, isInt_i, isInt_b, isInt_t, isBl_i, isBl_b, isBl_t, fTuple_ev, fList_ev, dataOf_t, dataOf_l, dataOf_r, lft_ev, Z.RM.of_ok, Z.RM.bind_ok, mCons_ev, mNil_ev, m2_ev, mOf_ev, mT_ev, mTru_ev, mNot_ev, List.cons_append, List.nil_append, ea, fNe_tp])
  refine ret_seq s3 ?_
  refine ret_lft ?_
  have el := gLc_all (vs := [6]) (gs := gIt (vN 2)) (k := kName 6) (te := g2 fEq (g2 fIx (gFn F_combination (aCons (vN 0) (aCons (vN 1) (aCons (vN 6) aNil)))) (kI 0)) (kS (Str.ofString "weights"))) (en := [.v (I p), .v (tps rows), .v (tps (fsts FL)), .v (I w), .v (ls (lds FL)), o5, o6, .n, .n, .n]) FL (fun x => T.d (rowD x.1)) (fun x => D.bl true) (by
      rw [gIt_ev, vN_ev]; simp only [gPur_ev, gAndV_ev, gOrV_ev, gNotV_ev, gIsi_ev, gAnd_ev, gOr_ev, gNot_ev, gTru_ev, gT_ev, g2_ev, g1_ev, gIf_ev, gCall_ev, gFn_ev, gTup_ev, gLst_ev, gSl_ev, gCh_ev, gYes_ev, oN_ev, oS_ev, asI_ev, aCons_ev, aNil_ev, vN_ev, kI_ev, kB_ev, kS_ev, kD'_ev, at_succ, at_zero, get_v, get_w, get_b, get_n, Z.R.of_some, Z.R.bind_ok, Z.R.pur_d, fAdd_i, fSub_i, fNeg_i, fLt_i, fLe_i, fGt_i, fGe_i, fEq_i, fNe_i, fInt_i, fInt_b, fAbs_i, fMin2_i, fMax2_i, fLen_l, fLen_t, fLen_r, tst_b, tru_b, tru_i, tru_t, tru_l, tru_r, tru_n, List.length_map, wipeE_cons, wipeE_nil, List.set_cons_succ, List.set_cons_zero, setE_cons, setE_nil, mkS_d, mkS_l, mkTup_nil, mkTup_ev, mkLst_ev, allD_cons, allD_nil, allD_map, Option.map_some, Option.bind_some, if_true, Bool.false_eq_true, if_false, ite_true, ite_false, Bool.not_true, Bool.not_false, decide_true, decide_false, isInt_i, isInt_b, isInt_t, isBl_i, isBl_b, isBl_t, fTuple_ev, fList_ev, dataOf_t, dataOf_l, dataOf_r, lft_ev, Z.RM.of_ok, Z.RM.bind_ok, mCons_ev, mNil_ev, m2_ev, mOf_ev, mT_ev, mTru_ev, mNot_ev, List.cons_append, List.nil_append, items_tps]; rw [List.map_map]; rfl) (by omega) (fun x m => ⟨_, rfl, by
      obtain ⟨res, e1, ⟨wts, rfl, hq⟩ | ⟨col, rfl, hc⟩⟩ := combination_ok hp hr (E.fw x m).1 hw hn
      · simp only [gPur_ev, gAndV_ev, gOrV_ev, gNotV_ev, gIsi_ev, gAnd_ev, gOr_ev, gNot_ev, gTru_ev, gT_ev, g2_ev, g1_ev, gIf_ev, gCall_ev, gFn_ev, gTup_ev, gLst_ev, gSl_ev, gCh_ev, gYes_ev, oN_ev, oS_ev, asI_ev, aCons_ev, aNil_ev, vN_ev, kI_ev, kB_ev, kS_ev, kD'_ev, at_succ, at_zero, get_v, get_w, get_b, get_n, Z.R.of_some, Z.R.bind_ok, Z.R.pur_d, fAdd_i, fSub_i, fNeg_i, fLt_i, fLe_i, fGt_i, fGe_i, fEq_i, fNe_i, fInt_i, fInt_b, fAbs_i, fMin2_i, fMax2_i, fLen_l, fLen_t, fLen_r, tst_b, tru_b, tru_i, tru_t, tru_l, tru_r, tru_n, List.length_map, wipeE_cons, wipeE_nil, List.set_cons_succ, List.set_cons_zero, setE_cons, setE_nil, mkS_d, mkS_l, mkTup_nil, mkTup_ev, mkLst_ev, allD_cons, allD_nil, allD_map, Option.map_some, Option.bind_some, if_true, Bool.false_eq_true, if_false, ite_true, ite_false, Bool.not_true, Bool.not_false, decide_true, decide_false, isInt_i, isInt_b, isInt_t, isBl_i, isBl_b, isBl_t, fTuple_ev, fList_ev, dataOf_t, dataOf_l, dataOf_r, lft_ev, Z.RM.of_ok, Z.RM.bind_ok, mCons_ev, mNil_ev, m2_ev, mOf_ev, mT_ev, mTru_ev, mNot_ev, List.cons_append, List.nil_append, e1, pair_ix0, eWW]
      · exact (ech_wts hp E m hc).elim⟩)
  have ea : (FL.all fun _ => true) = true := List.all_eq_true.mpr fun _ _ => rfl
  rw [gCall_ev, aCons_ev, el]
  simp only [gPur_ev, gAndV_ev, gOrV_ev, gNotV_ev, gIsi_ev, gAnd_ev, gOr_ev, gNot_ev, gTru_ev, gT_ev, g2_ev, g1_ev, gIf_ev, gCall_ev, gFn_ev, gTup_ev, gLst_ev, gSl_ev, gCh_ev, gYes_ev, oN_ev, oS_ev, asI_ev, aCons_ev, aNil_ev, vN_ev, kI_ev, kB_ev, kS_ev, kD'_ev, at_succ, at_zero, get_v, get_w, get_b, get_n, Z.R.of_some, Z.R.bind_ok, Z.R.pur_d, fAdd_i, fSub_i, fNeg_i, fLt_i, fLe_i, fGt_i, fGe_i, fEq_i, fNe_i, fInt_i, fInt_b, fAbs_i, fMin2_i, fMax2_i, fLen_l, fLen_t, fLen_r, tst_b, tru_b, tru_i, tru_t, tru_l, tru_r, tru_n, List.length_map, wipeE_cons, wipeE_nil, List.set_cons_succ, List.set_cons_zero, setE_cons, setE_nil, mkS_d, mkS_l, mkTup_nil, mkTup_ev, mkLst_ev, allD_cons, allD_nil, allD_map, Option.map_some, Option.bind_some, if_true, Bool.false_eq_true, if_false, ite_true, ite_false, Bool.not_true, Bool.not_false, decide_true, decide_false, isInt_i, isInt_b, isInt_t, isBl_i, isBl_b, isBl_t, fTuple_ev, fList_ev, dataOf_t, dataOf_l, dataOf_r, lft_ev, Z.RM.of_ok, Z.RM.bind_ok, mCons_ev, mNil_ev, m2_ev, mOf_ev, mT_ev, mTru_ev, mNot_ev, List.cons_append, List.nil_append, fAll_of, ea]
end K02
namespace K02
open PySem PySem.Spec L2 Z
open PyProof.Rows hiding St
theorem drw : F__law_draw = Z.F_draw := rfl
theorem st0 (ns : List Int) : F__law_start [.d (.rol (ns.map D.int))] = .ok (Z.St ns 0 0 0) := start_St ns
theorem one0 : F__law_one_of = Z.F_oneof := rfl
def sbody : En → SR := (fIf (mAnd (lft (gT (g2 fGt (gCall fLen (aCons (vN 3) aNil)) (kI 1)))) (mT (m2 fEq (mCallM 0 F__law_draw (hO (lft (kI 3)) hNil)) (lft (kI 0))))) (fExpr (mApp 3 (mCallH F__law_added (hN 1 (hN 3 (hO (mLcN [5] 3 (kName 5) gYes (mCallM 0 F__law_draw (hN 1 hNil))) (hN 2 hNil))))))) (fExpr (mApp 3 (mOf (rOf fTuple) (mCons (mLc [6] (lft (gR1 (vN 2))) (kName 6) gYes (mCallM 0 F__law_draw (hN 1 hNil))) mNil)))))
abbrev eS (p : Int) (w : Nat) (rows : List (List Int)) (o4 : Sl) (s : T) : En := [.b s, .v (I p), .v (I w), .v (lss rows), o4, .n, .n]
section
variable {ns : List Int} (hl : ns.length ≤ 63) {p : Int} (hp : Pr p) {w : Nat} (hw : w < 100)
include hl hp hw
/-- a row of drawn numbers -/
theorem drawn_row {k : Nat} (E : T → En) (E2 : T → D → En) (i j : Nat) {s : T} (hs : Stt ns s) {g : En → R T} {n : Nat} (hg : ∀ s, g (E s) = .ok (I n)) (hn : n < 1000) (h1 : ∀ s d, stow (wipeE (E s) [k]) k (.v (.d d)) = some (E2 s d)) (ho : ∀ s d, ownAt (E2 s d) i = some s) (hj : ∀ s d, at_ (E2 s d) j = some (I p)) (hij : j ≠ i) (hse : ∀ s d s', setO (E2 s d) i s' = E2 s' d) (h3 : ∀ s d, wipeE (E2 s d) [k] = E s) : ∃ zs s', mLc [k] (lft (gR1 g)) (kName k) gYes (mCallM i F__law_draw (hN j hNil)) (E s) = .ok (ls zs) (E s') ∧ Rw p n zs ∧ Stt ns s' := by
  have pr := hp.rg
  obtain ⟨ys, s', e, h4, h5, h6⟩ := mLc_st (S := Stt ns) (P := fun y => ∃ z, y = I z ∧ Rg p z) (te := mCallM i F__law_draw (hN j hNil)) E E2 ((List.range n).map fun (i : Nat) => D.int (i : Int)) (mi := lft (gR1 g)) (s := s) (lft_n (by rw [gR1_of (hg s) (by omega), List.map_map]; rfl)) (by rw [List.length_map, List.length_range]; omega) hs h1 (fun s d hs => by
    obtain ⟨v, s', hv, e, hs'⟩ := draw_n hl (ho s d) hs (hj s d) hij hp.pos (by omega)
    rw [hse] at e
    exact ⟨I v, s', ⟨v, rfl, hv⟩, e, hs'⟩) h3
  obtain ⟨zs, e2, hz⟩ := row_of h5
  rw [h4, List.length_map, List.length_range] at hz
  exact ⟨zs, s', by rw [e, e2], hz, h6⟩
theorem sbody_ok {rows : List (List Int)} {o4 : Sl} {s : T} (hs : Stt ns s) (hr : ∀ r ∈ rows, Rw p w r) (hn : rows.length < 100) : ∃ r s', Rw p w r ∧ Stt ns s' ∧ sbody (eS p w rows o4 s) = .nx (eS p w (rows ++ [r]) o4 s') := by
  have pr := hp.rg
  have app : ∀ {m : En → RM T} {s1 s' : T} {r : List Int}, m (eS p w rows o4 s1) = .ok (tp r) (eS p w rows o4 s') → fExpr (mApp 3 m) (eS p w rows o4 s1) = .nx (eS p w (rows ++ [r]) o4 s') := fun {m s1 s' r} h => by
    rw [fExpr_ev]
    unfold mApp
    rw [show ownAt (eS p w rows o4 s1) 3 = some (lss rows) from rfl]
    simp only [h, RM.bind_ok]
    rw [show ownAt (eS p w rows o4 s') 3 = some (lss rows) from rfl]
    have : ((rows.map rowD).map T.d).length < most := by rw [List.length_map, List.length_map]; show _ < 16777216; omega
    simp only [if_pos this, RM.s_ok]
    have e : ((rows.map rowD).map T.d ++ [tp r]) = ((rows ++ [r]).map rowD).map T.d := by rw [List.map_append, List.map_append]; rfl
    rw [e]; rfl
  have two : ∀ {s1}, Stt ns s1 → ∃ r s', Rw p w r ∧ Stt ns s' ∧ (fExpr (mApp 3 (mOf (rOf fTuple) (mCons (mLc [6] (lft (gR1 (vN 2))) (kName 6) gYes (mCallM 0 F__law_draw (hN 1 hNil))) mNil)))) (eS p w rows o4 s1) = .nx (eS p w (rows ++ [r]) o4 s') := fun {s1} hs1 => by
    obtain ⟨zs, s', e, hz, hs'⟩ := drawn_row hl hp hw (k := 6) (fun s => eS p w rows o4 s) (fun s d => [.b s, .v (I p), .v (I w), .v (lss rows), o4, .n, .v (.d d)]) 0 1 hs1 (g := vN 2) (n := w) (fun s => rfl) (by omega) (fun s d => rfl) (fun s d => rfl) (fun s d => rfl) (by decide) (fun s d s' => rfl) (fun s d => rfl)
    refine ⟨zs, s', hz, hs', app ?_⟩
    rw [mOf_ev, mCons_ev, e, RM.bind_ok, mNil_ev, RM.bind_ok, RM.bind_ok]
    unfold rOf
    simp only [gPur_ev, gAndV_ev, gOrV_ev, gNotV_ev, gIsi_ev, gAnd_ev, gOr_ev, gNot_ev, gTru_ev, gT_ev, g2_ev, g1_ev, gIf_ev, gCall_ev, gFn_ev, gTup_ev, gLst_ev, gSl_ev, gCh_ev, gYes_ev, oN_ev, oS_ev, asI_ev, aCons_ev, aNil_ev, vN_ev, kI_ev, kB_ev, kS_ev, kD'_ev, at_succ, at_zero, get_v, get_w, get_b, get_n, Z.R.of_some, Z.R.bind_ok, Z.R.pur_d, fAdd_i, fSub_i, fNeg_i, fLt_i, fLe_i, fGt_i, fGe_i, fEq_i, fNe_i, fInt_i, fInt_b, fAbs_i, fMin2_i, fMax2_i, fLen_l, fLen_t, fLen_r, tst_b, tru_b, tru_i, tru_t, tru_l, tru_r, tru_n, List.length_map, wipeE_cons, wipeE_nil, List.set_cons_succ, List.set_cons_zero, setE_cons, setE_nil, mkS_d, mkS_l, mkTup_nil, mkTup_ev, mkLst_ev, allD_cons, allD_nil, allD_map, Option.map_some, Option.bind_some, if_true, Bool.false_eq_true, if_false, ite_true, ite_false, Bool.not_true, Bool.not_false, decide_true, decide_false, isInt_i, isInt_b, isInt_t, isBl_i, isBl_b, isBl_t, fTuple_ev, fList_ev, dataOf_t, dataOf_l, dataOf_r, lft_ev, Z.RM.of_ok, Z.RM.bind_ok, mCons_ev, mNil_ev, m2_ev, mOf_ev, mT_ev, mTru_ev, mNot_ev, List.cons_append, List.nil_append]
  have one : ∀ {s1}, Stt ns s1 → ∃ r s', Rw p w r ∧ Stt ns s' ∧ (fExpr (mApp 3 (mCallH F__law_added (hN 1 (hN 3 (hO (mLcN [5] 3 (kName 5) gYes (mCallM 0 F__law_draw (hN 1 hNil))) (hN 2 hNil))))))) (eS p w rows o4 s1) = .nx (eS p w (rows ++ [r]) o4 s') := fun {s1} hs1 => by
    obtain ⟨ys, s', e, h4, h5, h6⟩ := mLcN_st (S := Stt ns) (P := fun y => ∃ z, y = I z ∧ Rg p z) (k := 5) (i0 := 3) (te := mCallM 0 F__law_draw (hN 1 hNil)) (fun s => eS p w rows o4 s) (fun s d => [.b s, .v (I p), .v (I w), .v (lss rows), o4, .v (.d d), .n]) (rows.map rowD) (s := s1) (by rw [List.length_map]; omega) hs1 (fun s => rfl) (fun s d => rfl) (fun s d hs => by
      obtain ⟨v, s', hv, e, hs'⟩ := draw_n hl (en := [.b s, .v (I p), .v (I w), .v (lss rows), o4, .v (.d d), .n]) (i := 0) (j := 1) rfl hs rfl (by decide) hp.pos (by omega)
      exact ⟨I v, s', ⟨v, rfl, hv⟩, e, hs'⟩) (fun s d => rfl)
    obtain ⟨zs, e2, hz⟩ := row_of h5
    rw [h4, List.length_map] at hz
    have ea := law_added_ok hp (x := lss rows) (y := ls zs) (w := w) (.inr rfl) (.inr rfl) hr hz.len (by omega) (by omega)
    refine ⟨add p rows zs w, s', add_Rw hp.pos, h6, app ?_⟩
    unfold mCallH
    rw [hN_ev, if_pos (show (at_ (eS p w rows o4 s1) 1).isSome = true from rfl), hN_ev, if_pos (show (at_ (eS p w rows o4 s1) 3).isSome = true from rfl), hO_ev, e, RM.bind_ok, hN_ev, if_pos (show (at_ (eS p w rows o4 s') 2).isSome = true from rfl), hNil_ev]
    simp only [RM.bind_ok]
    rw [show hdsA (eS p w rows o4 s') [.n 1, .n 3, .o (.l ys), .n 2] = some [I p, lss rows, .l ys, I w] from rfl]
    simp only
    rw [e2, ea]; rfl
  unfold sbody
  have e0 : lft (gT (g2 fGt (gCall fLen (aCons (vN 3) aNil)) (kI 1))) (eS p w rows o4 s) = .ok (decide ((1 : Int) < (rows.length : Int))) (eS p w rows o4 s) := lft_n (by simp only [gPur_ev, gAndV_ev, gOrV_ev, gNotV_ev, gIsi_ev, gAnd_ev, gOr_ev, gNot_ev, gTru_ev, gT_ev, g2_ev, g1_ev, gIf_ev, gCall_ev, gFn_ev, gTup_ev, gLst_ev, gSl_ev, gCh_ev, gYes_ev, oN_ev, oS_ev, asI_ev, aCons_ev, aNil_ev, vN_ev, kI_ev, kB_ev, kS_ev, kD'_ev, at_succ, at_zero, get_v, get_w, get_b, get_n, Z.R.of_some, Z.R.bind_ok, Z.R.pur_d, fAdd_i, fSub_i, fNeg_i, fLt_i, fLe_i, fGt_i, fGe_i, fEq_i, fNe_i, fInt_i, fInt_b, fAbs_i, fMin2_i, fMax2_i, fLen_l, fLen_t, fLen_r, tst_b, tru_b, tru_i, tru_t, tru_l, tru_r, tru_n, List.length_map, wipeE_cons, wipeE_nil, List.set_cons_succ, List.set_cons_zero, setE_cons, setE_nil, mkS_d, mkS_l, mkTup_nil, mkTup_ev, mkLst_ev, allD_cons, allD_nil, allD_map, Option.map_some, Option.bind_some, if_true, Bool.false_eq_true, if_false, ite_true, ite_false, Bool.not_true, Bool.not_false, decide_true, decide_false, isInt_i, isInt_b, isInt_t, isBl_i, isBl_b, isBl_t, fTuple_ev, fList_ev, dataOf_t, dataOf_l, dataOf_r, lft_ev, Z.RM.of_ok, Z.RM.bind_ok, mCons_ev, mNil_ev, m2_ev, mOf_ev, mT_ev, mTru_ev, mNot_ev, List.cons_append, List.nil_append])
  by_cases h1 : (1 : Int) < (rows.length : Int)
  · rw [decide_eq_true h1] at e0
    obtain ⟨v, s1, hv, ed, hs1⟩ := draw_o hl (en := eS p w rows o4 s) (i := 0) (s := s) (m := 3) (g := lft (kI 3)) rfl hs rfl (by decide) (by decide)
    have ed' : mCallM 0 F__law_draw (hO (lft (kI 3)) hNil) (eS p w rows o4 s) = .ok (I v) (eS p w rows o4 s1) := ed
    have ec : mAnd (lft (gT (g2 fGt (gCall fLen (aCons (vN 3) aNil)) (kI 1)))) (mT (m2 fEq (mCallM 0 F__law_draw (hO (lft (kI 3)) hNil)) (lft (kI 0)))) (eS p w rows o4 s) = .ok (decide (v = 0)) (eS p w rows o4 s1) := by
      unfold mAnd
      rw [e0, RM.bind_ok, if_pos rfl, mT_ev, m2_ev, ed', RM.bind_ok]
      simp only [gPur_ev, gAndV_ev, gOrV_ev, gNotV_ev, gIsi_ev, gAnd_ev, gOr_ev, gNot_ev, gTru_ev, gT_ev, g2_ev, g1_ev, gIf_ev, gCall_ev, gFn_ev, gTup_ev, gLst_ev, gSl_ev, gCh_ev, gYes_ev, oN_ev, oS_ev, asI_ev, aCons_ev, aNil_ev, vN_ev, kI_ev, kB_ev, kS_ev, kD'_ev, at_succ, at_zero, get_v, get_w, get_b, get_n, Z.R.of_some, Z.R.bind_ok, Z.R.pur_d, fAdd_i, fSub_i, fNeg_i, fLt_i, fLe_i, fGt_i, fGe_i, fEq_i, fNe_i, fInt_i, fInt_b, fAbs_i, fMin2_i, fMax2_i, fLen_l, fLen_t, fLen_r, tst_b, tru_b, tru_i, tru_t, tru_l, tru_r, tru_n, List.length_map, wipeE_cons, wipeE_nil, List.set_cons_succ, List.set_cons_zero, setE_cons, setE_nil, mkS_d, mkS_l, mkTup_nil, mkTup_ev, mkLst_ev, allD_cons, allD_nil, allD_map, Option.map_some, Option.bind_some, if_true, Bool.false_eq_true, if_false, ite_true, ite_false, Bool.not_true, Bool.not_false, decide_true, decide_false, isInt_i, isInt_b, isInt_t, isBl_i, isBl_b, isBl_t, fTuple_ev, fList_ev, dataOf_t, dataOf_l, dataOf_r, lft_ev, Z.RM.of_ok, Z.RM.bind_ok, mCons_ev, mNil_ev, m2_ev, mOf_ev, mT_ev, mTru_ev, mNot_ev, List.cons_append, List.nil_append]
    rw [fIf_ev, ec, RM.s_ok]
    by_cases hv0 : v = 0
    · rw [decide_eq_true hv0, if_pos rfl]; exact one hs1
    · rw [decide_eq_false hv0, if_neg (by decide)]; exact two hs1
  · rw [decide_eq_false h1] at e0
    have ec : mAnd (lft (gT (g2 fGt (gCall fLen (aCons (vN 3) aNil)) (kI 1)))) (mT (m2 fEq (mCallM 0 F__law_draw (hO (lft (kI 3)) hNil)) (lft (kI 0)))) (eS p w rows o4 s) = .ok false (eS p w rows o4 s) := by
      unfold mAnd
      rw [e0, RM.bind_ok, if_neg (by decide)]
    rw [fIf_ev, ec, RM.s_ok, if_neg (by decide)]
    exact two hs
theorem some_rows_ok {s : T} (hs : Stt ns s) : ∃ rows s', F__law_some_rows s [I p, I w] = .ok (tps rows) s' ∧ (∀ r ∈ rows, Rw p w r) ∧ rows.length < 100 ∧ Stt ns s' := by
  obtain ⟨v, s1, hv, ed, hs1⟩ := draw_o hl (en := eS p w [] .n s) (i := 0) (s := s) (m := 6) (g := lft (kI 6)) rfl hs rfl (by decide) (by decide)
  have ed' : mCallM 0 F__law_draw (hO (lft (kI 6)) hNil) (eS p w [] .n s) = .ok (I v) (eS p w [] .n s1) := ed
  have hv6 := hv.2
  have hv0 := hv.1
  have em : mR1 (mCallM 0 F__law_draw (hO (lft (kI 6)) hNil)) (eS p w [] .n s) = .ok ((List.range v.toNat).map fun (i : Nat) => T.d (.int (i : Int))) (eS p w [] .n s1) := by
    have := gR1_of (g := fun _ => R.ok (I v)) (en := []) (n := v.toNat) (by rw [Int.toNat_of_nonneg hv0]) (by omega)
    rw [gR1_ev, R.bind_ok] at this
    rw [mR1_ev, ed', RM.bind_ok, this]; rfl
  obtain ⟨en', e2, rows, o4, s2, h4, hr, hlen, hs2, rfl⟩ := for_pre (k := kName 4) (f := sbody) (h := fun (i : Nat) => T.d (.int (i : Int))) (fun pre en => ∃ rows o4 s, NB o4 ∧ (∀ r ∈ rows, Rw p w r) ∧ rows.length = pre.length ∧ Stt ns s ∧ en = eS p w rows o4 s) (List.range v.toNat) (eS p w [] .n s) em ⟨[], .n, s1, .n, fun r m => absurd m List.not_mem_nil, rfl, hs1, rfl⟩ (fun pre j suf en e q => by
    obtain ⟨rows, o4, s, h4, hr, hlen, hs, rfl⟩ := q
    obtain ⟨rfl, hj⟩ := range_at e
    obtain ⟨r, s', h1, h2, h3⟩ := sbody_ok hl hp hw (o4 := .v (I pre.length)) hs hr (by omega)
    exact ⟨_, eS p w rows (.v (I pre.length)) s, _, rfl, by simp [h4.s], .inl h3, rows ++ [r], _, s', .v, fun x m => by
      rcases List.mem_append.mp m with m | m
      · exact hr x m
      · rw [List.mem_singleton.mp m]; exact h1, by rw [List.length_append, List.length_append, hlen]; rfl, h2, rfl⟩)
  rw [List.length_range] at hlen
  refine ⟨rows, s2, runM_ret rfl ⟨[.v (I p), .v (I w), .v (lss rows), o4, .n, .n], ?_⟩, hr, by omega, hs2⟩
  show d__law_some_rows [.b s, .v (I p), .v (I w), .n, .n, .n, .n] = _
  unfold d__law_some_rows
  rw [fSeq_ev, show fSet 3 (lft (gLst aNil)) [.b s, .v (I p), .v (I w), .n, .n, .n, .n] = .nx (eS p w [] .n s) from rfl, sq_nx, fSeq_ev]
  rw [show (fFor (kName 4) (mR1 (mCallM 0 F__law_draw (hO (lft (kI 6)) hNil))) (fIf (mAnd (lft (gT (g2 fGt (gCall fLen (aCons (vN 3) aNil)) (kI 1)))) (mT (m2 fEq (mCallM 0 F__law_draw (hO (lft (kI 3)) hNil)) (lft (kI 0))))) (fExpr (mApp 3 (mCallH F__law_added (hN 1 (hN 3 (hO (mLcN [5] 3 (kName 5) gYes (mCallM 0 F__law_draw (hN 1 hNil))) (hN 2 hNil))))))) (fExpr (mApp 3 (mOf (rOf fTuple) (mCons (mLc [6] (lft (gR1 (vN 2))) (kName 6) gYes (mCallM 0 F__law_draw (hN 1 hNil))) mNil)))))) (eS p w [] .n s) = .nx (eS p w rows o4 s2) from e2, sq_nx, fRet_ev, lft_n (x := tps rows) (by simp only [gPur_ev, gAndV_ev, gOrV_ev, gNotV_ev, gIsi_ev, gAnd_ev, gOr_ev, gNot_ev, gTru_ev, gT_ev, g2_ev, g1_ev, gIf_ev, gCall_ev, gFn_ev, gTup_ev, gLst_ev, gSl_ev, gCh_ev, gYes_ev, oN_ev, oS_ev, asI_ev, aCons_ev, aNil_ev, vN_ev, kI_ev, kB_ev, kS_ev, kD'_ev, at_succ, at_zero, get_v, get_w, get_b, get_n, Z.R.of_some, Z.R.bind_ok, Z.R.pur_d, fAdd_i, fSub_i, fNeg_i, fLt_i, fLe_i, fGt_i, fGe_i, fEq_i, fNe_i, fInt_i, fInt_b, fAbs_i, fMin2_i, fMax2_i, fLen_l, fLen_t, fLen_r, tst_b, tru_b, tru_i, tru_t, tru_l, tru_r, tru_n, List.length_map, wipeE_cons, wipeE_nil, List.set_cons_succ, List.set_cons_zero, setE_cons, setE_nil, mkS_d, mkS_l, mkTup_nil, mkTup_ev, mkLst_ev, allD_cons, allD_nil, allD_map, Option.map_some, Option.bind_some, if_true, Bool.false_eq_true, if_false, ite_true, ite_false, Bool.not_true, Bool.not_false, decide_true, decide_false, isInt_i, isInt_b, isInt_t, isBl_i, isBl_b, isBl_t, fTuple_ev, fList_ev, dataOf_t, dataOf_l, dataOf_r, lft_ev, Z.RM.of_ok, Z.RM.bind_ok, mCons_ev, mNil_ev, m2_ev, mOf_ev, mT_ev, mTru_ev, mNot_ev, List.cons_append, List.nil_append])]
  rfl
end
end K02
namespace K02
open PySem PySem.Spec L2 Z
open PyProof.Rows hiding St
theorem app_ok {en : En} {i : Nat} {ds : List D} {d : D} {m : En → RM T} (ho : ownAt en i = some (.l (ds.map T.d))) (hm : m en = .ok (.d d) en) (hl : ds.length < 1000) : fExpr (mApp i m) en = .nx (setO en i (.l ((ds ++ [d]).map T.d))) := by
  rw [fExpr_ev]
  unfold mApp
  rw [ho]
  simp only [hm, RM.bind_ok, ho]
  have : (ds.map T.d).length < most := by rw [List.length_map]; show _ < 16777216; omega
  simp only [if_pos this, RM.s_ok]
  rw [List.map_append]; rfl
theorem tup1 {g1 : En → R T} {en : En} {a : D} (h1 : g1 en = .ok (.d a)) : gTup (aCons g1 aNil) en = .ok (.d (.tup [a])) := by
  rw [gTup_ev, aCons_ev, h1]; rfl
theorem tup2 {g1 g2 : En → R T} {en : En} {a b : D} (h1 : g1 en = .ok (.d a)) (h2 : g2 en = .ok (.d b)) : gTup (aCons g1 (aCons g2 aNil)) en = .ok (.d (.tup [a, b])) := by
  rw [gTup_ev, aCons_ev, h1, R.bind_ok, aCons_ev, h2]; rfl
/-- data that both looks answer alike -/
def Odd (d : D) : Prop := (∃ z, d = .int z) ∨ (∃ ds, d = .tup ds ∧ ds.length ≠ 2) ∨ ∃ zs : List Int, zs.length < 1000 ∧ (d = .tup [WS, rowD zs] ∨ d = .tup [CS, rowD zs])
section
variable {p : Int} (hp : Pr p) {w : Nat} {rows : List (List Int)} {v : List Int} (hr : ∀ r ∈ rows, Rw p w r) (hv : Rw p w v) (hw : w < 100) (hn : rows.length < 100)
include hp hr hv hw hn
theorem odd_ok {d : D} (h : Odd d) : ∃ b, F_shows_combination [I p, tps rows, tp v, .d d] = .ok (.d (.bl b)) ∧ F__law_is_right [I p, tps rows, tp v, .d d] = .ok (.d (.bl b)) := by
  rcases h with h | h | ⟨zs, hz, rfl | rfl⟩
  · exact ⟨false, odd_no d (.inl h)⟩
  · exact ⟨false, odd_no d (.inr h)⟩
  · exact ⟨_, shows_rightW hp hr hv hw hn hz, law_rightW hp hr hv hw hn hz⟩
  · exact ⟨_, shows_rightC hp hr hv hw hn hz, law_rightC hp hr hv hw hn hz⟩
/-- what combination returns, and that it is right -/
theorem found_ok : ∃ tag zs, (tag = WS ∨ tag = CS) ∧ zs.length < 1000 ∧ F_combination [I p, tps rows, tp v] = .ok (.d (.tup [tag, rowD zs])) ∧ F__law_is_right [I p, tps rows, tp v, .d (.tup [tag, rowD zs])] = .ok (.d (.bl true)) := by
  obtain ⟨res, e, ⟨wts, rfl, h⟩ | ⟨col, rfl, h⟩⟩ := combination_ok hp hr hv hw hn
  · have hz : wts.length < 1000 := by rw [h.rw.len]; omega
    exact ⟨WS, wts, .inl rfl, hz, e, by rw [law_rightW hp hr hv hw hn hz, h.right hp hv]⟩
  · have hz : col.length < 1000 := by rw [h.rw.len]; omega
    exact ⟨CS, col, .inr rfl, hz, e, by rw [law_rightC hp hr hv hw hn hz, h.right hp hr hv]⟩
end
theorem says_ok (b : Bool) : F__law_says [.d (.bl b), .d (.bl b)] = .ok (.d (.bl true)) := by cases b <;> exact runP_ret rfl ⟨_, rfl⟩
theorem odd_tag {tag : D} (h : tag = WS ∨ tag = CS) {zs : List Int} (hz : zs.length < 1000) : Odd (.tup [tag, rowD zs]) := .inr (.inr ⟨zs, hz, by rcases h with rfl | rfl; exact .inl rfl; exact .inr rfl⟩)
def obody : En → SR := (fIf (lft (gNot (gTru (gFn F__law_says (aCons (gFn F_shows_combination (aCons (vN 3) (aCons (vN 5) (aCons (vN 7) (aCons (vN 12) aNil))))) (aCons (gFn F__law_is_right (aCons (vN 3) (aCons (vN 5) (aCons (vN 7) (aCons (vN 12) aNil))))) aNil)))))) (fRet (lft (kB false))) fNil)
def aif : En → SR := (fIf (lft (gT (g2 fGt (gCall fLen (aCons (g2 fIx (vN 8) (kI 1)) aNil)) (kI 0)))) (fSeq (fSet 10 (mCallM 1 F__law_draw (hO (lft (gCall fLen (aCons (g2 fIx (vN 8) (kI 1)) aNil))) hNil)))
  (fSeq (fSet 11 (m2 fMod (mOf (rOf fInt) (mCons (m2 fAdd (lft (g2 fAdd (g2 fIx (g2 fIx (vN 8) (kI 1)) (vN 10)) (kI 1))) (mCallM 1 F__law_draw (hO (lft (g2 fSub (vN 3) (kI 1))) hNil))) mNil)) (lft (gPur (vN 3)))))
  (fSeq (fExpr (mApp 9 (lft (gTup (aCons (g2 fIx (vN 8) (kI 0)) (aCons (g2 fAdd (g2 fAdd (gSl (g2 fIx (vN 8) (kI 1)) oN (oS (vN 10))) (gTup (aCons (vN 11) aNil))) (gSl (g2 fIx (vN 8) (kI 1)) (oS (g2 fAdd (vN 10) (kI 1))) oN)) aNil))))))
  (fExpr (mApp 9 (lft (gTup (aCons (g2 fIx (vN 8) (kI 0)) (aCons (g2 fAdd (g2 fAdd (gSl (g2 fIx (vN 8) (kI 1)) oN (oS (vN 10))) (gTup (aCons (g2 fAdd (g2 fIx (g2 fIx (vN 8) (kI 1)) (vN 10)) (vN 3)) aNil))) (gSl (g2 fIx (vN 8) (kI 1)) (oS (g2 fAdd (vN 10) (kI 1))) oN)) aNil))))))))) fNil)
def vbody : En → SR := (fSeq (fSet 8 (lft (gFn F_combination (aCons (vN 3) (aCons (vN 5) (aCons (vN 7) aNil))))))
  (fSeq (fIf (lft (gNot (gTru (gFn F__law_is_right (aCons (vN 3) (aCons (vN 5) (aCons (vN 7) (aCons (vN 8) aNil)))))))) (fRet (lft (kB false))) fNil)
  (fSeq (fSet 9 (lft (gLst (aCons (gPur (vN 8)) (aCons (gTup (aCons (kS (Str.ofString "column")) (aCons (g2 fIx (vN 8) (kI 1)) aNil))) (aCons (gTup (aCons (kS (Str.ofString "weights")) (aCons (g2 fIx (vN 8) (kI 1)) aNil))) (aCons (gTup (aCons (g2 fIx (vN 8) (kI 0)) (aCons (g2 fAdd (g2 fIx (vN 8) (kI 1)) (gTup (aCons (kI 0) aNil))) aNil))) (aCons (gSl (vN 8) oN (oS (kI 1))) (aCons (kI 7) (aCons (gTup aNil) aNil))))))))))
  (fSeq aif
  (fForN (kName 12) 9 obody)))))
abbrev eV (x0 o2 : Sl) (p : Int) (w : Nat) (rows : List (List Int)) (made : List Int) (s : T) (o7 o8 o9 o10 o11 o12 : Sl) : En := [x0, .v s, o2, .v (I p), .v (I w), .v (tps rows), .v (tp made), o7, o8, o9, o10, o11, o12, .n, .n]
def odds (tag : D) (zs : List Int) : List D := [.tup [tag, rowD zs], .tup [CS, rowD zs], .tup [WS, rowD zs], .tup [tag, rowD (zs ++ [0])], .tup [tag], .int 7, .tup []]
theorem odds_odd {tag : D} (h : tag = WS ∨ tag = CS) {zs : List Int} (hz : zs.length < 900) : ∀ d ∈ odds tag zs, Odd d := fun d m => by
  unfold odds at m
  simp only [List.mem_cons, List.not_mem_nil, or_false] at m
  rcases m with rfl | rfl | rfl | rfl | rfl | rfl | rfl
  · exact odd_tag h (by omega)
  · exact odd_tag (.inr rfl) (by omega)
  · exact odd_tag (.inl rfl) (by omega)
  · exact odd_tag h (by rw [List.length_append]; show _ + 1 < 1000; omega)
  · exact .inr (.inl ⟨[tag], rfl, fun e => by simp at e⟩)
  · exact .inl ⟨_, rfl⟩
  · exact .inr (.inl ⟨_, rfl, by decide⟩)
section
variable {ns : List Int} (hl : ns.length ≤ 63) {p : Int} (hp : Pr p) {w : Nat} {rows : List (List Int)} {v made : List Int} {x0 o2 : Sl}
include hl hp
theorem aif_ok {s : T} (hs : Stt ns s) {tag : D} (ht : tag = WS ∨ tag = CS) {zs : List Int} (hz : zs.length < 900) {o7 o10 o11 o12 : Sl} (h10 : NB o10) (h11 : NB o11) : ∃ (ds : List D) (s' : T) (o10' o11' : Sl), NB o10' ∧ NB o11' ∧ Stt ns s' ∧ (∀ d ∈ ds, Odd d) ∧ aif (eV x0 o2 p w rows made s o7 (.v (.d (.tup [tag, rowD zs]))) (.v (.l ((odds tag zs).map T.d))) o10 o11 o12) = .nx (eV x0 o2 p w rows made s' o7 (.v (.d (.tup [tag, rowD zs]))) (.v (.l (ds.map T.d))) o10' o11' o12) := by
  have pr := hp.rg
  unfold aif
  by_cases h0 : 0 < zs.length
  · have g0 : ∀ s o10 o11 odd, (gCall fLen (aCons (g2 fIx (vN 8) (kI 1)) aNil)) (eV x0 o2 p w rows made s o7 (.v (.d (.tup [tag, rowD zs]))) odd o10 o11 o12) = .ok (I zs.length) := fun s o10 o11 odd => by simp only [gPur_ev, gAndV_ev, gOrV_ev, gNotV_ev, gIsi_ev, gAnd_ev, gOr_ev, gNot_ev, gTru_ev, gT_ev, g2_ev, g1_ev, gIf_ev, gCall_ev, gFn_ev, gTup_ev, gLst_ev, gSl_ev, gCh_ev, gYes_ev, oN_ev, oS_ev, asI_ev, aCons_ev, aNil_ev, vN_ev, kI_ev, kB_ev, kS_ev, kD'_ev, at_succ, at_zero, get_v, get_w, get_b, get_n, Z.R.of_some, Z.R.bind_ok, Z.R.pur_d, fAdd_i, fSub_i, fNeg_i, fLt_i, fLe_i, fGt_i, fGe_i, fEq_i, fNe_i, fInt_i, fInt_b, fAbs_i, fMin2_i, fMax2_i, fLen_l, fLen_t, fLen_r, tst_b, tru_b, tru_i, tru_t, tru_l, tru_r, tru_n, List.length_map, wipeE_cons, wipeE_nil, List.set_cons_succ, List.set_cons_zero, setE_cons, setE_nil, mkS_d, mkS_l, mkTup_nil, mkTup_ev, mkLst_ev, allD_cons, allD_nil, allD_map, Option.map_some, Option.bind_some, if_true, Bool.false_eq_true, if_false, ite_true, ite_false, Bool.not_true, Bool.not_false, decide_true, decide_false, isInt_i, isInt_b, isInt_t, isBl_i, isBl_b, isBl_t, fTuple_ev, fList_ev, dataOf_t, dataOf_l, dataOf_r, lft_ev, Z.RM.of_ok, Z.RM.bind_ok, mCons_ev, mNil_ev, m2_ev, mOf_ev, mT_ev, mTru_ev, mNot_ev, List.cons_append, List.nil_append, pair_ix1]
    obtain ⟨a, s1, ha, ed, hs1⟩ := draw_o hl (en := eV x0 o2 p w rows made s o7 (.v (.d (.tup [tag, rowD zs]))) (.v (.l ((odds tag zs).map T.d))) o10 o11 o12) (i := 1) (s := s) (m := zs.length) (g := lft (gCall fLen (aCons (g2 fIx (vN 8) (kI 1)) aNil))) rfl hs (lft_n (g0 ..)) (by omega) (by omega)
    have ed : mCallM 1 F__law_draw (hO (lft (gCall fLen (aCons (g2 fIx (vN 8) (kI 1)) aNil))) hNil) (eV x0 o2 p w rows made s o7 (.v (.d (.tup [tag, rowD zs]))) (.v (.l ((odds tag zs).map T.d))) o10 o11 o12) = .ok (I a) (eV x0 o2 p w rows made s1 o7 (.v (.d (.tup [tag, rowD zs]))) (.v (.l ((odds tag zs).map T.d))) o10 o11 o12) := ed
    have a0 := ha.1
    have a1 := ha.2
    obtain ⟨k, rfl⟩ : ∃ k : Nat, a = (k : Int) := ⟨a.toNat, (Int.toNat_of_nonneg a0).symm⟩
    have hk : k < zs.length := by omega
    have ik := fIx_tp (zs := zs) (z := k) k rfl hk
    have t1 : fSet 10 (mCallM 1 F__law_draw (hO (lft (gCall fLen (aCons (g2 fIx (vN 8) (kI 1)) aNil))) hNil)) (eV x0 o2 p w rows made s o7 (.v (.d (.tup [tag, rowD zs]))) (.v (.l ((odds tag zs).map T.d))) o10 o11 o12) = .nx (eV x0 o2 p w rows made s1 o7 (.v (.d (.tup [tag, rowD zs]))) (.v (.l ((odds tag zs).map T.d))) (.v (I k)) o11 o12) := by
      rw [fSet_ev, ed, RM.s_ok]; simp [h10.s]
    obtain ⟨e, s2, he, ee, hs2⟩ := draw_o hl (en := eV x0 o2 p w rows made s1 o7 (.v (.d (.tup [tag, rowD zs]))) (.v (.l ((odds tag zs).map T.d))) (.v (I k)) o11 o12) (i := 1) (s := s1) (m := p - 1) (g := lft (g2 fSub (vN 3) (kI 1))) rfl hs1 (lft_n (by simp only [gPur_ev, gAndV_ev, gOrV_ev, gNotV_ev, gIsi_ev, gAnd_ev, gOr_ev, gNot_ev, gTru_ev, gT_ev, g2_ev, g1_ev, gIf_ev, gCall_ev, gFn_ev, gTup_ev, gLst_ev, gSl_ev, gCh_ev, gYes_ev, oN_ev, oS_ev, asI_ev, aCons_ev, aNil_ev, vN_ev, kI_ev, kB_ev, kS_ev, kD'_ev, at_succ, at_zero, get_v, get_w, get_b, get_n, Z.R.of_some, Z.R.bind_ok, Z.R.pur_d, fAdd_i, fSub_i, fNeg_i, fLt_i, fLe_i, fGt_i, fGe_i, fEq_i, fNe_i, fInt_i, fInt_b, fAbs_i, fMin2_i, fMax2_i, fLen_l, fLen_t, fLen_r, tst_b, tru_b, tru_i, tru_t, tru_l, tru_r, tru_n, List.length_map, wipeE_cons, wipeE_nil, List.set_cons_succ, List.set_cons_zero, setE_cons, setE_nil, mkS_d, mkS_l, mkTup_nil, mkTup_ev, mkLst_ev, allD_cons, allD_nil, allD_map, Option.map_some, Option.bind_some, if_true, Bool.false_eq_true, if_false, ite_true, ite_false, Bool.not_true, Bool.not_false, decide_true, decide_false, isInt_i, isInt_b, isInt_t, isBl_i, isBl_b, isBl_t, fTuple_ev, fList_ev, dataOf_t, dataOf_l, dataOf_r, lft_ev, Z.RM.of_ok, Z.RM.bind_ok, mCons_ev, mNil_ev, m2_ev, mOf_ev, mT_ev, mTru_ev, mNot_ev, List.cons_append, List.nil_append])) (by omega) (by omega)
    have ee : mCallM 1 F__law_draw (hO (lft (g2 fSub (vN 3) (kI 1))) hNil) (eV x0 o2 p w rows made s1 o7 (.v (.d (.tup [tag, rowD zs]))) (.v (.l ((odds tag zs).map T.d))) (.v (I k)) o11 o12) = .ok (I e) (eV x0 o2 p w rows made s2 o7 (.v (.d (.tup [tag, rowD zs]))) (.v (.l ((odds tag zs).map T.d))) (.v (I k)) o11 o12) := ee
    have t2 : fSet 11 (m2 fMod (mOf (rOf fInt) (mCons (m2 fAdd (lft (g2 fAdd (g2 fIx (g2 fIx (vN 8) (kI 1)) (vN 10)) (kI 1))) (mCallM 1 F__law_draw (hO (lft (g2 fSub (vN 3) (kI 1))) hNil))) mNil)) (lft (gPur (vN 3)))) (eV x0 o2 p w rows made s1 o7 (.v (.d (.tup [tag, rowD zs]))) (.v (.l ((odds tag zs).map T.d))) (.v (I k)) o11 o12) = .nx (eV x0 o2 p w rows made s2 o7 (.v (.d (.tup [tag, rowD zs]))) (.v (.l ((odds tag zs).map T.d))) (.v (I k)) (.v (I ((zs.getD k 0 + 1 + e) % p))) o12) := by
      have e1 : lft (g2 fAdd (g2 fIx (g2 fIx (vN 8) (kI 1)) (vN 10)) (kI 1)) (eV x0 o2 p w rows made s1 o7 (.v (.d (.tup [tag, rowD zs]))) (.v (.l ((odds tag zs).map T.d))) (.v (I k)) o11 o12) = .ok (I (zs.getD k 0 + 1)) (eV x0 o2 p w rows made s1 o7 (.v (.d (.tup [tag, rowD zs]))) (.v (.l ((odds tag zs).map T.d))) (.v (I k)) o11 o12) := lft_n (by simp only [gPur_ev, gAndV_ev, gOrV_ev, gNotV_ev, gIsi_ev, gAnd_ev, gOr_ev, gNot_ev, gTru_ev, gT_ev, g2_ev, g1_ev, gIf_ev, gCall_ev, gFn_ev, gTup_ev, gLst_ev, gSl_ev, gCh_ev, gYes_ev, oN_ev, oS_ev, asI_ev, aCons_ev, aNil_ev, vN_ev, kI_ev, kB_ev, kS_ev, kD'_ev, at_succ, at_zero, get_v, get_w, get_b, get_n, Z.R.of_some, Z.R.bind_ok, Z.R.pur_d, fAdd_i, fSub_i, fNeg_i, fLt_i, fLe_i, fGt_i, fGe_i, fEq_i, fNe_i, fInt_i, fInt_b, fAbs_i, fMin2_i, fMax2_i, fLen_l, fLen_t, fLen_r, tst_b, tru_b, tru_i, tru_t, tru_l, tru_r, tru_n, List.length_map, wipeE_cons, wipeE_nil, List.set_cons_succ, List.set_cons_zero, setE_cons, setE_nil, mkS_d, mkS_l, mkTup_nil, mkTup_ev, mkLst_ev, allD_cons, allD_nil, allD_map, Option.map_some, Option.bind_some, if_true, Bool.false_eq_true, if_false, ite_true, ite_false, Bool.not_true, Bool.not_false, decide_true, decide_false, isInt_i, isInt_b, isInt_t, isBl_i, isBl_b, isBl_t, fTuple_ev, fList_ev, dataOf_t, dataOf_l, dataOf_r, lft_ev, Z.RM.of_ok, Z.RM.bind_ok, mCons_ev, mNil_ev, m2_ev, mOf_ev, mT_ev, mTru_ev, mNot_ev, List.cons_append, List.nil_append, pair_ix1, ik])
      rw [fSet_ev, m2_ev, mOf_ev, mCons_ev, m2_ev, e1, RM.bind_ok, ee, RM.bind_ok]
      unfold rOf
      simp only [gPur_ev, gAndV_ev, gOrV_ev, gNotV_ev, gIsi_ev, gAnd_ev, gOr_ev, gNot_ev, gTru_ev, gT_ev, g2_ev, g1_ev, gIf_ev, gCall_ev, gFn_ev, gTup_ev, gLst_ev, gSl_ev, gCh_ev, gYes_ev, oN_ev, oS_ev, asI_ev, aCons_ev, aNil_ev, vN_ev, kI_ev, kB_ev, kS_ev, kD'_ev, at_succ, at_zero, get_v, get_w, get_b, get_n, Z.R.of_some, Z.R.bind_ok, Z.R.pur_d, fAdd_i, fSub_i, fNeg_i, fLt_i, fLe_i, fGt_i, fGe_i, fEq_i, fNe_i, fInt_i, fInt_b, fAbs_i, fMin2_i, fMax2_i, fLen_l, fLen_t, fLen_r, tst_b, tru_b, tru_i, tru_t, tru_l, tru_r, tru_n, List.length_map, wipeE_cons, wipeE_nil, List.set_cons_succ, List.set_cons_zero, setE_cons, setE_nil, mkS_d, mkS_l, mkTup_nil, mkTup_ev, mkLst_ev, allD_cons, allD_nil, allD_map, Option.map_some, Option.bind_some, if_true, Bool.false_eq_true, if_false, ite_true, ite_false, Bool.not_true, Bool.not_false, decide_true, decide_false, isInt_i, isInt_b, isInt_t, isBl_i, isBl_b, isBl_t, fTuple_ev, fList_ev, dataOf_t, dataOf_l, dataOf_r, lft_ev, Z.RM.of_ok, Z.RM.bind_ok, mCons_ev, mNil_ev, m2_ev, mOf_ev, mT_ev, mTru_ev, mNot_ev, List.cons_append, List.nil_append, fMod_i, if_pos hp.pos, RM.s_ok]
      simp [h11.s]
    have tk1 := fSl_take (zs := zs) (m := k) (z := k) rfl (by omega)
    have tk2 := fSl_drop (zs := zs) (m := k + 1) (z := (k : Int) + 1) (by omega) (by omega)
    have ad1 : ∀ m : Int, fAdd (tp (zs.take k)) (.d (.tup [.int m])) = some (tp (zs.take k ++ [m])) := fun m => fAdd_tp (b := [m]) (by rw [List.length_take]; show _ + 1 ≤ _; omega)
    have ad2 : ∀ m : Int, fAdd (tp (zs.take k ++ [m])) (tp (zs.drop (k + 1))) = some (tp (zs.take k ++ [m] ++ zs.drop (k + 1))) := fun m => fAdd_tp (by rw [List.length_append, List.length_take, List.length_drop]; show _ + 1 + _ ≤ _; omega)
    have ll : ∀ m : Int, (zs.take k ++ [m] ++ zs.drop (k + 1)).length < 1000 := fun m => by rw [List.length_append, List.length_append, List.length_take, List.length_drop]; show _ + 1 + _ < _; omega
    have lo : (odds tag zs).length = 7 := rfl
    have t3 := app_ok (en := eV x0 o2 p w rows made s2 o7 (.v (.d (.tup [tag, rowD zs]))) (.v (.l ((odds tag zs).map T.d))) (.v (I k)) (.v (I ((zs.getD k 0 + 1 + e) % p))) o12) (i := 9) (ds := odds tag zs) (d := .tup [tag, rowD (zs.take k ++ [(zs.getD k 0 + 1 + e) % p] ++ zs.drop (k + 1))]) (m := lft (gTup (aCons (g2 fIx (vN 8) (kI 0)) (aCons (g2 fAdd (g2 fAdd (gSl (g2 fIx (vN 8) (kI 1)) oN (oS (vN 10))) (gTup (aCons (vN 11) aNil))) (gSl (g2 fIx (vN 8) (kI 1)) (oS (g2 fAdd (vN 10) (kI 1))) oN)) aNil)))) rfl (lft_n (tup2 (by simp only [gPur_ev, gAndV_ev, gOrV_ev, gNotV_ev, gIsi_ev, gAnd_ev, gOr_ev, gNot_ev, gTru_ev, gT_ev, g2_ev, g1_ev, gIf_ev, gCall_ev, gFn_ev, gTup_ev, gLst_ev, gSl_ev, gCh_ev, gYes_ev, oN_ev, oS_ev, asI_ev, aCons_ev, aNil_ev, vN_ev, kI_ev, kB_ev, kS_ev, kD'_ev, at_succ, at_zero, get_v, get_w, get_b, get_n, Z.R.of_some, Z.R.bind_ok, Z.R.pur_d, fAdd_i, fSub_i, fNeg_i, fLt_i, fLe_i, fGt_i, fGe_i, fEq_i, fNe_i, fInt_i, fInt_b, fAbs_i, fMin2_i, fMax2_i, fLen_l, fLen_t, fLen_r, tst_b, tru_b, tru_i, tru_t, tru_l, tru_r, tru_n, List.length_map, wipeE_cons, wipeE_nil, List.set_cons_succ, List.set_cons_zero, setE_cons, setE_nil, mkS_d, mkS_l, mkTup_nil, mkTup_ev, mkLst_ev, allD_cons, allD_nil, allD_map, Option.map_some, Option.bind_some, if_true, Bool.false_eq_true, if_false, ite_true, ite_false, Bool.not_true, Bool.not_false, decide_true, decide_false, isInt_i, isInt_b, isInt_t, isBl_i, isBl_b, isBl_t, fTuple_ev, fList_ev, dataOf_t, dataOf_l, dataOf_r, lft_ev, Z.RM.of_ok, Z.RM.bind_ok, mCons_ev, mNil_ev, m2_ev, mOf_ev, mT_ev, mTru_ev, mNot_ev, List.cons_append, List.nil_append, pair_ix0]) (by rw [g2_ev, g2_ev, tup1 (a := .int ((zs.getD k 0 + 1 + e) % p)) rfl]; simp only [gPur_ev, gAndV_ev, gOrV_ev, gNotV_ev, gIsi_ev, gAnd_ev, gOr_ev, gNot_ev, gTru_ev, gT_ev, g2_ev, g1_ev, gIf_ev, gCall_ev, gFn_ev, gTup_ev, gLst_ev, gSl_ev, gCh_ev, gYes_ev, oN_ev, oS_ev, asI_ev, aCons_ev, aNil_ev, vN_ev, kI_ev, kB_ev, kS_ev, kD'_ev, at_succ, at_zero, get_v, get_w, get_b, get_n, Z.R.of_some, Z.R.bind_ok, Z.R.pur_d, fAdd_i, fSub_i, fNeg_i, fLt_i, fLe_i, fGt_i, fGe_i, fEq_i, fNe_i, fInt_i, fInt_b, fAbs_i, fMin2_i, fMax2_i, fLen_l, fLen_t, fLen_r, tst_b, tru_b, tru_i, tru_t, tru_l, tru_r, tru_n, List.length_map, wipeE_cons, wipeE_nil, List.set_cons_succ, List.set_cons_zero, setE_cons, setE_nil, mkS_d, mkS_l, mkTup_nil, mkTup_ev, mkLst_ev, allD_cons, allD_nil, allD_map, Option.map_some, Option.bind_some, if_true, Bool.false_eq_true, if_false, ite_true, ite_false, Bool.not_true, Bool.not_false, decide_true, decide_false, isInt_i, isInt_b, isInt_t, isBl_i, isBl_b, isBl_t, fTuple_ev, fList_ev, dataOf_t, dataOf_l, dataOf_r, lft_ev, Z.RM.of_ok, Z.RM.bind_ok, mCons_ev, mNil_ev, m2_ev, mOf_ev, mT_ev, mTru_ev, mNot_ev, List.cons_append, List.nil_append, pair_ix1, tk1, tk2, ad1, ad2]))) (by omega)
    have t4 := app_ok (en := eV x0 o2 p w rows made s2 o7 (.v (.d (.tup [tag, rowD zs]))) (.v (.l ((odds tag zs ++ [D.tup [tag, rowD (zs.take k ++ [(zs.getD k 0 + 1 + e) % p] ++ zs.drop (k + 1))]]).map T.d))) (.v (I k)) (.v (I ((zs.getD k 0 + 1 + e) % p))) o12) (i := 9) (ds := odds tag zs ++ [.tup [tag, rowD (zs.take k ++ [(zs.getD k 0 + 1 + e) % p] ++ zs.drop (k + 1))]]) (d := .tup [tag, rowD (zs.take k ++ [zs.getD k 0 + p] ++ zs.drop (k + 1))]) (m := lft (gTup (aCons (g2 fIx (vN 8) (kI 0)) (aCons (g2 fAdd (g2 fAdd (gSl (g2 fIx (vN 8) (kI 1)) oN (oS (vN 10))) (gTup (aCons (g2 fAdd (g2 fIx (g2 fIx (vN 8) (kI 1)) (vN 10)) (vN 3)) aNil))) (gSl (g2 fIx (vN 8) (kI 1)) (oS (g2 fAdd (vN 10) (kI 1))) oN)) aNil)))) rfl (lft_n (tup2 (by simp only [gPur_ev, gAndV_ev, gOrV_ev, gNotV_ev, gIsi_ev, gAnd_ev, gOr_ev, gNot_ev, gTru_ev, gT_ev, g2_ev, g1_ev, gIf_ev, gCall_ev, gFn_ev, gTup_ev, gLst_ev, gSl_ev, gCh_ev, gYes_ev, oN_ev, oS_ev, asI_ev, aCons_ev, aNil_ev, vN_ev, kI_ev, kB_ev, kS_ev, kD'_ev, at_succ, at_zero, get_v, get_w, get_b, get_n, Z.R.of_some, Z.R.bind_ok, Z.R.pur_d, fAdd_i, fSub_i, fNeg_i, fLt_i, fLe_i, fGt_i, fGe_i, fEq_i, fNe_i, fInt_i, fInt_b, fAbs_i, fMin2_i, fMax2_i, fLen_l, fLen_t, fLen_r, tst_b, tru_b, tru_i, tru_t, tru_l, tru_r, tru_n, List.length_map, wipeE_cons, wipeE_nil, List.set_cons_succ, List.set_cons_zero, setE_cons, setE_nil, mkS_d, mkS_l, mkTup_nil, mkTup_ev, mkLst_ev, allD_cons, allD_nil, allD_map, Option.map_some, Option.bind_some, if_true, Bool.false_eq_true, if_false, ite_true, ite_false, Bool.not_true, Bool.not_false, decide_true, decide_false, isInt_i, isInt_b, isInt_t, isBl_i, isBl_b, isBl_t, fTuple_ev, fList_ev, dataOf_t, dataOf_l, dataOf_r, lft_ev, Z.RM.of_ok, Z.RM.bind_ok, mCons_ev, mNil_ev, m2_ev, mOf_ev, mT_ev, mTru_ev, mNot_ev, List.cons_append, List.nil_append, pair_ix0]) (by rw [g2_ev, g2_ev, tup1 (a := .int (zs.getD k 0 + p)) (by simp only [gPur_ev, gAndV_ev, gOrV_ev, gNotV_ev, gIsi_ev, gAnd_ev, gOr_ev, gNot_ev, gTru_ev, gT_ev, g2_ev, g1_ev, gIf_ev, gCall_ev, gFn_ev, gTup_ev, gLst_ev, gSl_ev, gCh_ev, gYes_ev, oN_ev, oS_ev, asI_ev, aCons_ev, aNil_ev, vN_ev, kI_ev, kB_ev, kS_ev, kD'_ev, at_succ, at_zero, get_v, get_w, get_b, get_n, Z.R.of_some, Z.R.bind_ok, Z.R.pur_d, fAdd_i, fSub_i, fNeg_i, fLt_i, fLe_i, fGt_i, fGe_i, fEq_i, fNe_i, fInt_i, fInt_b, fAbs_i, fMin2_i, fMax2_i, fLen_l, fLen_t, fLen_r, tst_b, tru_b, tru_i, tru_t, tru_l, tru_r, tru_n, List.length_map, wipeE_cons, wipeE_nil, List.set_cons_succ, List.set_cons_zero, setE_cons, setE_nil, mkS_d, mkS_l, mkTup_nil, mkTup_ev, mkLst_ev, allD_cons, allD_nil, allD_map, Option.map_some, Option.bind_some, if_true, Bool.false_eq_true, if_false, ite_true, ite_false, Bool.not_true, Bool.not_false, decide_true, decide_false, isInt_i, isInt_b, isInt_t, isBl_i, isBl_b, isBl_t, fTuple_ev, fList_ev, dataOf_t, dataOf_l, dataOf_r, lft_ev, Z.RM.of_ok, Z.RM.bind_ok, mCons_ev, mNil_ev, m2_ev, mOf_ev, mT_ev, mTru_ev, mNot_ev, List.cons_append, List.nil_append, pair_ix1, ik])]; simp only [gPur_ev, gAndV_ev, gOrV_ev, gNotV_ev, gIsi_ev, gAnd_ev, gOr_ev, gNot_ev, gTru_ev, gT_ev, g2_ev, g1_ev, gIf_ev, gCall_ev, gFn_ev, gTup_ev, gLst_ev, gSl_ev, gCh_ev, gYes_ev, oN_ev, oS_ev, asI_ev, aCons_ev, aNil_ev, vN_ev, kI_ev, kB_ev, kS_ev, kD'_ev, at_succ, at_zero, get_v, get_w, get_b, get_n, Z.R.of_some, Z.R.bind_ok, Z.R.pur_d, fAdd_i, fSub_i, fNeg_i, fLt_i, fLe_i, fGt_i, fGe_i, fEq_i, fNe_i, fInt_i, fInt_b, fAbs_i, fMin2_i, fMax2_i, fLen_l, fLen_t, fLen_r, tst_b, tru_b, tru_i, tru_t, tru_l, tru_r, tru_n, List.length_map, wipeE_cons, wipeE_nil, List.set_cons_succ, List.set_cons_zero, setE_cons, setE_nil, mkS_d, mkS_l, mkTup_nil, mkTup_ev, mkLst_ev, allD_cons, allD_nil, allD_map, Option.map_some, Option.bind_some, if_true, Bool.false_eq_true, if_false, ite_true, ite_false, Bool.not_true, Bool.not_false, decide_true, decide_false, isInt_i, isInt_b, isInt_t, isBl_i, isBl_b, isBl_t, fTuple_ev, fList_ev, dataOf_t, dataOf_l, dataOf_r, lft_ev, Z.RM.of_ok, Z.RM.bind_ok, mCons_ev, mNil_ev, m2_ev, mOf_ev, mT_ev, mTru_ev, mNot_ev, List.cons_append, List.nil_append, pair_ix1, tk1, tk2, ad1, ad2]))) (by rw [List.length_append, lo]; exact (by decide : 7 + 1 < 1000))
    refine ⟨odds tag zs ++ [.tup [tag, rowD (zs.take k ++ [(zs.getD k 0 + 1 + e) % p] ++ zs.drop (k + 1))]] ++ [.tup [tag, rowD (zs.take k ++ [zs.getD k 0 + p] ++ zs.drop (k + 1))]], s2, .v (I k), .v (I ((zs.getD k 0 + 1 + e) % p)), .v, .v, hs2, fun d m => ?_, ?_⟩
    · rcases List.mem_append.mp m with m | m
      · rcases List.mem_append.mp m with m | m
        · exact odds_odd ht hz d m
        · rw [List.mem_singleton.mp m]; exact odd_tag ht (ll _)
      · rw [List.mem_singleton.mp m]; exact odd_tag ht (ll _)
    · rw [fIf_t (by rw [gT_ev, g2_ev, g0]; simp only [gPur_ev, gAndV_ev, gOrV_ev, gNotV_ev, gIsi_ev, gAnd_ev, gOr_ev, gNot_ev, gTru_ev, gT_ev, g2_ev, g1_ev, gIf_ev, gCall_ev, gFn_ev, gTup_ev, gLst_ev, gSl_ev, gCh_ev, gYes_ev, oN_ev, oS_ev, asI_ev, aCons_ev, aNil_ev, vN_ev, kI_ev, kB_ev, kS_ev, kD'_ev, at_succ, at_zero, get_v, get_w, get_b, get_n, Z.R.of_some, Z.R.bind_ok, Z.R.pur_d, fAdd_i, fSub_i, fNeg_i, fLt_i, fLe_i, fGt_i, fGe_i, fEq_i, fNe_i, fInt_i, fInt_b, fAbs_i, fMin2_i, fMax2_i, fLen_l, fLen_t, fLen_r, tst_b, tru_b, tru_i, tru_t, tru_l, tru_r, tru_n, List.length_map, wipeE_cons, wipeE_nil, List.set_cons_succ, List.set_cons_zero, setE_cons, setE_nil, mkS_d, mkS_l, mkTup_nil, mkTup_ev, mkLst_ev, allD_cons, allD_nil, allD_map, Option.map_some, Option.bind_some, if_true, Bool.false_eq_true, if_false, ite_true, ite_false, Bool.not_true, Bool.not_false, decide_true, decide_false, isInt_i, isInt_b, isInt_t, isBl_i, isBl_b, isBl_t, fTuple_ev, fList_ev, dataOf_t, dataOf_l, dataOf_r, lft_ev, Z.RM.of_ok, Z.RM.bind_ok, mCons_ev, mNil_ev, m2_ev, mOf_ev, mT_ev, mTru_ev, mNot_ev, List.cons_append, List.nil_append]; exact congrArg R.ok (decide_eq_true (by omega))), fSeq_ev, t1, sq_nx, fSeq_ev, t2, sq_nx, fSeq_ev, t3, sq_nx]
      exact t4
  · refine ⟨odds tag zs, s, o10, o11, h10, h11, hs, odds_odd ht hz, ?_⟩
    rw [fIf_f (by simp only [gPur_ev, gAndV_ev, gOrV_ev, gNotV_ev, gIsi_ev, gAnd_ev, gOr_ev, gNot_ev, gTru_ev, gT_ev, g2_ev, g1_ev, gIf_ev, gCall_ev, gFn_ev, gTup_ev, gLst_ev, gSl_ev, gCh_ev, gYes_ev, oN_ev, oS_ev, asI_ev, aCons_ev, aNil_ev, vN_ev, kI_ev, kB_ev, kS_ev, kD'_ev, at_succ, at_zero, get_v, get_w, get_b, get_n, Z.R.of_some, Z.R.bind_ok, Z.R.pur_d, fAdd_i, fSub_i, fNeg_i, fLt_i, fLe_i, fGt_i, fGe_i, fEq_i, fNe_i, fInt_i, fInt_b, fAbs_i, fMin2_i, fMax2_i, fLen_l, fLen_t, fLen_r, tst_b, tru_b, tru_i, tru_t, tru_l, tru_r, tru_n, List.length_map, wipeE_cons, wipeE_nil, List.set_cons_succ, List.set_cons_zero, setE_cons, setE_nil, mkS_d, mkS_l, mkTup_nil, mkTup_ev, mkLst_ev, allD_cons, allD_nil, allD_map, Option.map_some, Option.bind_some, if_true, Bool.false_eq_true, if_false, ite_true, ite_false, Bool.not_true, Bool.not_false, decide_true, decide_false, isInt_i, isInt_b, isInt_t, isBl_i, isBl_b, isBl_t, fTuple_ev, fList_ev, dataOf_t, dataOf_l, dataOf_r, lft_ev, Z.RM.of_ok, Z.RM.bind_ok, mCons_ev, mNil_ev, m2_ev, mOf_ev, mT_ev, mTru_ev, mNot_ev, List.cons_append, List.nil_append, pair_ix1]; exact congrArg R.ok (decide_eq_false (by omega)))]; rfl
theorem vbody_ok (hr : ∀ r ∈ rows, Rw p w r) (hv : Rw p w v) (hw : w < 100) (hn : rows.length < 100) {s : T} (hs : Stt ns s) {o8 o9 o10 o11 o12 : Sl} (h8 : NB o8) (h9 : NB o9) (h10 : NB o10) (h11 : NB o11) (h12 : NB o12) : ∃ s' o8' o9' o10' o11' o12', NB o8' ∧ NB o9' ∧ NB o10' ∧ NB o11' ∧ NB o12' ∧ Stt ns s' ∧ vbody (eV x0 o2 p w rows made s (.v (tp v)) o8 o9 o10 o11 o12) = .nx (eV x0 o2 p w rows made s' (.v (tp v)) o8' o9' o10' o11' o12') := by
  obtain ⟨tag, zs, ht, hz, ec, er⟩ := found_ok hp hr hv hw hn
  have hz : zs.length < 900 := by
    obtain ⟨res, e, ⟨wts, rfl, h⟩ | ⟨col, rfl, h⟩⟩ := combination_ok hp hr hv hw hn
    · rw [ec] at e; injection e with e; injection e with e; injection e with e; injection e with _ e; injection e with e
      rw [rowD_inj _ _ e, h.rw.len]; omega
    · rw [ec] at e; injection e with e; injection e with e; injection e with e; injection e with _ e; injection e with e
      rw [rowD_inj _ _ e, h.rw.len]; omega
  obtain ⟨ds, s1, o10', o11', n10, n11, hs1, hd, ea⟩ := aif_ok hl hp (w := w) (rows := rows) (made := made) (x0 := x0) (o2 := o2) hs ht hz (o7 := .v (tp v)) (o12 := o12) h10 h11
  obtain ⟨en, e5, o12', n12, rfl⟩ := forN_pre (k := kName 12) (i := 9) (f := obody) (h := T.d) (fun pre en => ∃ o12, NB o12 ∧ en = eV x0 o2 p w rows made s1 (.v (tp v)) (.v (.d (.tup [tag, rowD zs]))) (.w (.l (ds.map T.d))) o10' o11' o12) ds (eV x0 o2 p w rows made s1 (.v (tp v)) (.v (.d (.tup [tag, rowD zs]))) (.v (.l (ds.map T.d))) o10' o11' o12) rfl rfl ⟨o12, h12, rfl⟩ (fun pre d suf en e q => by
    obtain ⟨o12, h12, rfl⟩ := q
    obtain ⟨b, e1, e2⟩ := odd_ok hp hr hv hw hn (hd d (by rw [e]; exact List.mem_append_right _ (List.mem_cons_self ..)))
    have e3 := says_ok b
    refine ⟨_, eV x0 o2 p w rows made s1 (.v (tp v)) (.v (.d (.tup [tag, rowD zs]))) (.w (.l (ds.map T.d))) o10' o11' (.v (.d d)), _, rfl, by simp [h12.s], .inl ?_, .v (.d d), .v, rfl⟩
    unfold obody
    rw [fIf_f (by simp only [gPur_ev, gAndV_ev, gOrV_ev, gNotV_ev, gIsi_ev, gAnd_ev, gOr_ev, gNot_ev, gTru_ev, gT_ev, g2_ev, g1_ev, gIf_ev, gCall_ev, gFn_ev, gTup_ev, gLst_ev, gSl_ev, gCh_ev, gYes_ev, oN_ev, oS_ev, asI_ev, aCons_ev, aNil_ev, vN_ev, kI_ev, kB_ev, kS_ev, kD'_ev, at_succ, at_zero, get_v, get_w, get_b, get_n, Z.R.of_some, Z.R.bind_ok, Z.R.pur_d, fAdd_i, fSub_i, fNeg_i, fLt_i, fLe_i, fGt_i, fGe_i, fEq_i, fNe_i, fInt_i, fInt_b, fAbs_i, fMin2_i, fMax2_i, fLen_l, fLen_t, fLen_r, tst_b, tru_b, tru_i, tru_t, tru_l, tru_r, tru_n, List.length_map, wipeE_cons, wipeE_nil, List.set_cons_succ, List.set_cons_zero, setE_cons, setE_nil, mkS_d, mkS_l, mkTup_nil, mkTup_ev, mkLst_ev, allD_cons, allD_nil, allD_map, Option.map_some, Option.bind_some, if_true, Bool.false_eq_true, if_false, ite_true, ite_false, Bool.not_true, Bool.not_false, decide_true, decide_false, isInt_i, isInt_b, isInt_t, isBl_i, isBl_b, isBl_t, fTuple_ev, fList_ev, dataOf_t, dataOf_l, dataOf_r, lft_ev, Z.RM.of_ok, Z.RM.bind_ok, mCons_ev, mNil_ev, m2_ev, mOf_ev, mT_ev, mTru_ev, mNot_ev, List.cons_append, List.nil_append, e1, e2, e3]), fNil_ev])
  refine ⟨s1, .v (.d (.tup [tag, rowD zs])), .w (.l (ds.map T.d)), o10', o11', o12', .v, .w, n10, n11, n12, hs1, ?_⟩
  unfold vbody
  have s1' : fSet 8 (lft (gFn F_combination (aCons (vN 3) (aCons (vN 5) (aCons (vN 7) aNil))))) (eV x0 o2 p w rows made s (.v (tp v)) o8 o9 o10 o11 o12) = .nx (eV x0 o2 p w rows made s (.v (tp v)) (.v (.d (.tup [tag, rowD zs]))) o9 o10 o11 o12) := by
    rw [fSet_ev, lft_n (x := .d (.tup [tag, rowD zs])) (by simp only [gPur_ev, gAndV_ev, gOrV_ev, gNotV_ev, gIsi_ev, gAnd_ev, gOr_ev, gNot_ev, gTru_ev, gT_ev, g2_ev, g1_ev, gIf_ev, gCall_ev, gFn_ev, gTup_ev, gLst_ev, gSl_ev, gCh_ev, gYes_ev, oN_ev, oS_ev, asI_ev, aCons_ev, aNil_ev, vN_ev, kI_ev, kB_ev, kS_ev, kD'_ev, at_succ, at_zero, get_v, get_w, get_b, get_n, Z.R.of_some, Z.R.bind_ok, Z.R.pur_d, fAdd_i, fSub_i, fNeg_i, fLt_i, fLe_i, fGt_i, fGe_i, fEq_i, fNe_i, fInt_i, fInt_b, fAbs_i, fMin2_i, fMax2_i, fLen_l, fLen_t, fLen_r, tst_b, tru_b, tru_i, tru_t, tru_l, tru_r, tru_n, List.length_map, wipeE_cons, wipeE_nil, List.set_cons_succ, List.set_cons_zero, setE_cons, setE_nil, mkS_d, mkS_l, mkTup_nil, mkTup_ev, mkLst_ev, allD_cons, allD_nil, allD_map, Option.map_some, Option.bind_some, if_true, Bool.false_eq_true, if_false, ite_true, ite_false, Bool.not_true, Bool.not_false, decide_true, decide_false, isInt_i, isInt_b, isInt_t, isBl_i, isBl_b, isBl_t, fTuple_ev, fList_ev, dataOf_t, dataOf_l, dataOf_r, lft_ev, Z.RM.of_ok, Z.RM.bind_ok, mCons_ev, mNil_ev, m2_ev, mOf_ev, mT_ev, mTru_ev, mNot_ev, List.cons_append, List.nil_append, ec]), RM.s_ok]; simp [h8.s]
  have a1 : fAdd (tp zs) (.d (.tup [.int 0])) = some (tp (zs ++ [0])) := fAdd_tp (b := [0]) (by show _ + 1 ≤ _; omega)
  have c1 : fSl (.d (.tup [tag, rowD zs])) none (some 1) = some (.d (.tup [tag])) := by
    show some (T.d (.tup (cutG [tag, rowD zs] none (some ((1 : Nat) : Int))))) = _
    rw [cut_take _ (show 1 ≤ 2 by decide)]; rfl
  have s3' : fSet 9 (lft (gLst (aCons (gPur (vN 8)) (aCons (gTup (aCons (kS (Str.ofString "column")) (aCons (g2 fIx (vN 8) (kI 1)) aNil))) (aCons (gTup (aCons (kS (Str.ofString "weights")) (aCons (g2 fIx (vN 8) (kI 1)) aNil))) (aCons (gTup (aCons (g2 fIx (vN 8) (kI 0)) (aCons (g2 fAdd (g2 fIx (vN 8) (kI 1)) (gTup (aCons (kI 0) aNil))) aNil))) (aCons (gSl (vN 8) oN (oS (kI 1))) (aCons (kI 7) (aCons (gTup aNil) aNil))))))))) (eV x0 o2 p w rows made s (.v (tp v)) (.v (.d (.tup [tag, rowD zs]))) o9 o10 o11 o12) = .nx (eV x0 o2 p w rows made s (.v (tp v)) (.v (.d (.tup [tag, rowD zs]))) (.v (.l ((odds tag zs).map T.d))) o10 o11 o12) := by
    have b1 := tup2 (en := eV x0 o2 p w rows made s (.v (tp v)) (.v (.d (.tup [tag, rowD zs]))) o9 o10 o11 o12) (g1 := kS (Str.ofString "column")) (g2 := g2 fIx (vN 8) (kI 1)) (a := CS) (b := rowD zs) rfl (by simp only [gPur_ev, gAndV_ev, gOrV_ev, gNotV_ev, gIsi_ev, gAnd_ev, gOr_ev, gNot_ev, gTru_ev, gT_ev, g2_ev, g1_ev, gIf_ev, gCall_ev, gFn_ev, gTup_ev, gLst_ev, gSl_ev, gCh_ev, gYes_ev, oN_ev, oS_ev, asI_ev, aCons_ev, aNil_ev, vN_ev, kI_ev, kB_ev, kS_ev, kD'_ev, at_succ, at_zero, get_v, get_w, get_b, get_n, Z.R.of_some, Z.R.bind_ok, Z.R.pur_d, fAdd_i, fSub_i, fNeg_i, fLt_i, fLe_i, fGt_i, fGe_i, fEq_i, fNe_i, fInt_i, fInt_b, fAbs_i, fMin2_i, fMax2_i, fLen_l, fLen_t, fLen_r, tst_b, tru_b, tru_i, tru_t, tru_l, tru_r, tru_n, List.length_map, wipeE_cons, wipeE_nil, List.set_cons_succ, List.set_cons_zero, setE_cons, setE_nil, mkS_d, mkS_l, mkTup_nil, mkTup_ev, mkLst_ev, allD_cons, allD_nil, allD_map, Option.map_some, Option.bind_some, if_true, Bool.false_eq_true, if_false, ite_true, ite_false, Bool.not_true, Bool.not_false, decide_true, decide_false, isInt_i, isInt_b, isInt_t, isBl_i, isBl_b, isBl_t, fTuple_ev, fList_ev, dataOf_t, dataOf_l, dataOf_r, lft_ev, Z.RM.of_ok, Z.RM.bind_ok, mCons_ev, mNil_ev, m2_ev, mOf_ev, mT_ev, mTru_ev, mNot_ev, List.cons_append, List.nil_append, pair_ix1])
    have b2 := tup2 (en := eV x0 o2 p w rows made s (.v (tp v)) (.v (.d (.tup [tag, rowD zs]))) o9 o10 o11 o12) (g1 := kS (Str.ofString "weights")) (g2 := g2 fIx (vN 8) (kI 1)) (a := WS) (b := rowD zs) rfl (by simp only [gPur_ev, gAndV_ev, gOrV_ev, gNotV_ev, gIsi_ev, gAnd_ev, gOr_ev, gNot_ev, gTru_ev, gT_ev, g2_ev, g1_ev, gIf_ev, gCall_ev, gFn_ev, gTup_ev, gLst_ev, gSl_ev, gCh_ev, gYes_ev, oN_ev, oS_ev, asI_ev, aCons_ev, aNil_ev, vN_ev, kI_ev, kB_ev, kS_ev, kD'_ev, at_succ, at_zero, get_v, get_w, get_b, get_n, Z.R.of_some, Z.R.bind_ok, Z.R.pur_d, fAdd_i, fSub_i, fNeg_i, fLt_i, fLe_i, fGt_i, fGe_i, fEq_i, fNe_i, fInt_i, fInt_b, fAbs_i, fMin2_i, fMax2_i, fLen_l, fLen_t, fLen_r, tst_b, tru_b, tru_i, tru_t, tru_l, tru_r, tru_n, List.length_map, wipeE_cons, wipeE_nil, List.set_cons_succ, List.set_cons_zero, setE_cons, setE_nil, mkS_d, mkS_l, mkTup_nil, mkTup_ev, mkLst_ev, allD_cons, allD_nil, allD_map, Option.map_some, Option.bind_some, if_true, Bool.false_eq_true, if_false, ite_true, ite_false, Bool.not_true, Bool.not_false, decide_true, decide_false, isInt_i, isInt_b, isInt_t, isBl_i, isBl_b, isBl_t, fTuple_ev, fList_ev, dataOf_t, dataOf_l, dataOf_r, lft_ev, Z.RM.of_ok, Z.RM.bind_ok, mCons_ev, mNil_ev, m2_ev, mOf_ev, mT_ev, mTru_ev, mNot_ev, List.cons_append, List.nil_append, pair_ix1])
    have b3 := tup2 (en := eV x0 o2 p w rows made s (.v (tp v)) (.v (.d (.tup [tag, rowD zs]))) o9 o10 o11 o12) (g1 := g2 fIx (vN 8) (kI 0)) (g2 := g2 fAdd (g2 fIx (vN 8) (kI 1)) (gTup (aCons (kI 0) aNil))) (a := tag) (b := rowD (zs ++ [0])) (by simp only [gPur_ev, gAndV_ev, gOrV_ev, gNotV_ev, gIsi_ev, gAnd_ev, gOr_ev, gNot_ev, gTru_ev, gT_ev, g2_ev, g1_ev, gIf_ev, gCall_ev, gFn_ev, gTup_ev, gLst_ev, gSl_ev, gCh_ev, gYes_ev, oN_ev, oS_ev, asI_ev, aCons_ev, aNil_ev, vN_ev, kI_ev, kB_ev, kS_ev, kD'_ev, at_succ, at_zero, get_v, get_w, get_b, get_n, Z.R.of_some, Z.R.bind_ok, Z.R.pur_d, fAdd_i, fSub_i, fNeg_i, fLt_i, fLe_i, fGt_i, fGe_i, fEq_i, fNe_i, fInt_i, fInt_b, fAbs_i, fMin2_i, fMax2_i, fLen_l, fLen_t, fLen_r, tst_b, tru_b, tru_i, tru_t, tru_l, tru_r, tru_n, List.length_map, wipeE_cons, wipeE_nil, List.set_cons_succ, List.set_cons_zero, setE_cons, setE_nil, mkS_d, mkS_l, mkTup_nil, mkTup_ev, mkLst_ev, allD_cons, allD_nil, allD_map, Option.map_some, Option.bind_some, if_true, Bool.false_eq_true, if_false, ite_true, ite_false, Bool.not_true, Bool.not_false, decide_true, decide_false, isInt_i, isInt_b, isInt_t, isBl_i, isBl_b, isBl_t, fTuple_ev, fList_ev, dataOf_t, dataOf_l, dataOf_r, lft_ev, Z.RM.of_ok, Z.RM.bind_ok, mCons_ev, mNil_ev, m2_ev, mOf_ev, mT_ev, mTru_ev, mNot_ev, List.cons_append, List.nil_append, pair_ix0]) (by rw [g2_ev, tup1 (a := .int 0) rfl]; simp only [gPur_ev, gAndV_ev, gOrV_ev, gNotV_ev, gIsi_ev, gAnd_ev, gOr_ev, gNot_ev, gTru_ev, gT_ev, g2_ev, g1_ev, gIf_ev, gCall_ev, gFn_ev, gTup_ev, gLst_ev, gSl_ev, gCh_ev, gYes_ev, oN_ev, oS_ev, asI_ev, aCons_ev, aNil_ev, vN_ev, kI_ev, kB_ev, kS_ev, kD'_ev, at_succ, at_zero, get_v, get_w, get_b, get_n, Z.R.of_some, Z.R.bind_ok, Z.R.pur_d, fAdd_i, fSub_i, fNeg_i, fLt_i, fLe_i, fGt_i, fGe_i, fEq_i, fNe_i, fInt_i, fInt_b, fAbs_i, fMin2_i, fMax2_i, fLen_l, fLen_t, fLen_r, tst_b, tru_b, tru_i, tru_t, tru_l, tru_r, tru_n, List.length_map, wipeE_cons, wipeE_nil, List.set_cons_succ, List.set_cons_zero, setE_cons, setE_nil, mkS_d, mkS_l, mkTup_nil, mkTup_ev, mkLst_ev, allD_cons, allD_nil, allD_map, Option.map_some, Option.bind_some, if_true, Bool.false_eq_true, if_false, ite_true, ite_false, Bool.not_true, Bool.not_false, decide_true, decide_false, isInt_i, isInt_b, isInt_t, isBl_i, isBl_b, isBl_t, fTuple_ev, fList_ev, dataOf_t, dataOf_l, dataOf_r, lft_ev, Z.RM.of_ok, Z.RM.bind_ok, mCons_ev, mNil_ev, m2_ev, mOf_ev, mT_ev, mTru_ev, mNot_ev, List.cons_append, List.nil_append, pair_ix1, a1])
    have b4 : gSl (vN 8) oN (oS (kI 1)) (eV x0 o2 p w rows made s (.v (tp v)) (.v (.d (.tup [tag, rowD zs]))) o9 o10 o11 o12) = .ok (.d (.tup [tag])) := by simp only [gPur_ev, gAndV_ev, gOrV_ev, gNotV_ev, gIsi_ev, gAnd_ev, gOr_ev, gNot_ev, gTru_ev, gT_ev, g2_ev, g1_ev, gIf_ev, gCall_ev, gFn_ev, gTup_ev, gLst_ev, gSl_ev, gCh_ev, gYes_ev, oN_ev, oS_ev, asI_ev, aCons_ev, aNil_ev, vN_ev, kI_ev, kB_ev, kS_ev, kD'_ev, at_succ, at_zero, get_v, get_w, get_b, get_n, Z.R.of_some, Z.R.bind_ok, Z.R.pur_d, fAdd_i, fSub_i, fNeg_i, fLt_i, fLe_i, fGt_i, fGe_i, fEq_i, fNe_i, fInt_i, fInt_b, fAbs_i, fMin2_i, fMax2_i, fLen_l, fLen_t, fLen_r, tst_b, tru_b, tru_i, tru_t, tru_l, tru_r, tru_n, List.length_map, wipeE_cons, wipeE_nil, List.set_cons_succ, List.set_cons_zero, setE_cons, setE_nil, mkS_d, mkS_l, mkTup_nil, mkTup_ev, mkLst_ev, allD_cons, allD_nil, allD_map, Option.map_some, Option.bind_some, if_true, Bool.false_eq_true, if_false, ite_true, ite_false, Bool.not_true, Bool.not_false, decide_true, decide_false, isInt_i, isInt_b, isInt_t, isBl_i, isBl_b, isBl_t, fTuple_ev, fList_ev, dataOf_t, dataOf_l, dataOf_r, lft_ev, Z.RM.of_ok, Z.RM.bind_ok, mCons_ev, mNil_ev, m2_ev, mOf_ev, mT_ev, mTru_ev, mNot_ev, List.cons_append, List.nil_append, c1]
    rw [fSet_ev, lft_n (x := .l ((odds tag zs).map T.d)) (by
      rw [gLst_ev, aCons_ev, aCons_ev, aCons_ev, aCons_ev, aCons_ev, b1, b2, b3, b4]
      rfl), RM.s_ok]
    simp [h9.s]
  rw [fSeq_ev, s1', sq_nx, fSeq_ev, fIf_f (by simp only [gPur_ev, gAndV_ev, gOrV_ev, gNotV_ev, gIsi_ev, gAnd_ev, gOr_ev, gNot_ev, gTru_ev, gT_ev, g2_ev, g1_ev, gIf_ev, gCall_ev, gFn_ev, gTup_ev, gLst_ev, gSl_ev, gCh_ev, gYes_ev, oN_ev, oS_ev, asI_ev, aCons_ev, aNil_ev, vN_ev, kI_ev, kB_ev, kS_ev, kD'_ev, at_succ, at_zero, get_v, get_w, get_b, get_n, Z.R.of_some, Z.R.bind_ok, Z.R.pur_d, fAdd_i, fSub_i, fNeg_i, fLt_i, fLe_i, fGt_i, fGe_i, fEq_i, fNe_i, fInt_i, fInt_b, fAbs_i, fMin2_i, fMax2_i, fLen_l, fLen_t, fLen_r, tst_b, tru_b, tru_i, tru_t, tru_l, tru_r, tru_n, List.length_map, wipeE_cons, wipeE_nil, List.set_cons_succ, List.set_cons_zero, setE_cons, setE_nil, mkS_d, mkS_l, mkTup_nil, mkTup_ev, mkLst_ev, allD_cons, allD_nil, allD_map, Option.map_some, Option.bind_some, if_true, Bool.false_eq_true, if_false, ite_true, ite_false, Bool.not_true, Bool.not_false, decide_true, decide_false, isInt_i, isInt_b, isInt_t, isBl_i, isBl_b, isBl_t, fTuple_ev, fList_ev, dataOf_t, dataOf_l, dataOf_r, lft_ev, Z.RM.of_ok, Z.RM.bind_ok, mCons_ev, mNil_ev, m2_ev, mOf_ev, mT_ev, mTru_ev, mNot_ev, List.cons_append, List.nil_append, er]), fNil_ev, sq_nx, fSeq_ev, s3', sq_nx, fSeq_ev, ea, sq_nx]
  exact e5
end
end K02
namespace K02
open PySem PySem.Spec L2 Z
open PyProof.Rows hiding St
def tbody : En → SR := (fSeq (fSet 3 (mCallM 1 F__law_one_of (hO (lft (gLst (aCons (kI 3) (aCons (kI 5) (aCons (kI 7) (aCons (kI 11) (aCons (kI 251) aNil))))))) hNil)))
  (fSeq (fSet 4 (m2 fAdd (lft (kI 1)) (mCallM 1 F__law_draw (hO (lft (kI 6)) hNil))))
  (fSeq (fSet 5 (mCallM 1 F__law_some_rows (hN 3 (hN 4 hNil))))
  (fSeq (fIf (lft (gNot (gTru (gFn F__law_is_echelon (aCons (vN 3) (aCons (vN 5) (aCons (gFn F_echelon (aCons (vN 3) (aCons (vN 5) aNil))) (aCons (vN 4) aNil)))))))) (fRet (lft (kB false))) fNil)
  (fSeq (fSet 6 (mCallH F__law_added (hN 3 (hN 5 (hO (mLc [13] (lft (gIt (gPur (vN 5)))) (kName 13) gYes (mCallM 1 F__law_draw (hN 3 hNil))) (hN 4 hNil))))))
  (fSeq (fFor (kName 7) (mIt (mOf mkLst (mCons (lft (gPur (vN 6))) (mCons (mOf (rOf fTuple) (mCons (mLc [14] (lft (gR1 (vN 4))) (kName 14) gYes (mCallM 1 F__law_draw (hN 3 hNil))) mNil)) mNil)))) vbody)
  (fIf (lft (gT (g2 fNe (g2 fIx (gFn F_combination (aCons (vN 3) (aCons (vN 5) (aCons (vN 6) aNil)))) (kI 0)) (kS (Str.ofString "weights"))))) (fRet (lft (kB false))) fNil)))))))
abbrev eT (x0 : Sl) (s : T) (o2 o3 o4 o5 o6 o7 o8 o9 o10 o11 o12 : Sl) : En := [x0, .v s, o2, o3, o4, o5, o6, o7, o8, o9, o10, o11, o12, .n, .n]
theorem eNWW : fNe (.d (.str (Str.ofString "weights"))) (.d (.str (Str.ofString "weights"))) = some (.d (.bl false)) := by
  rw [fNe_pln (n := 0) (m := 0) (pln_str okW) (pln_str okW) (by decide) (by decide), deq_self (n := 0) (pln_str okW)]; rfl
theorem ech_short {p : Int} {w : Nat} {rows : List (List Int)} {FL : List (List Int × Nat)} (E : Ech p w rows FL) : FL.length ≤ w := by
  rw [← lds_count E]
  exact Nat.le_trans (List.length_filter_le _ _) (by rw [List.length_range]; exact Nat.le_refl _)
theorem tbody_ok {ns : List Int} (hl : ns.length ≤ 63) {x0 o2 : Sl} {s : T} (hs : Stt ns s) {o3 o4 o5 o6 o7 o8 o9 o10 o11 o12 : Sl} (h3 : NB o3) (h4 : NB o4) (h5 : NB o5) (h6 : NB o6) (h7 : NB o7) (h8 : NB o8) (h9 : NB o9) (h10 : NB o10) (h11 : NB o11) (h12 : NB o12) : ∃ s' o3' o4' o5' o6' o7' o8' o9' o10' o11' o12', NB o3' ∧ NB o4' ∧ NB o5' ∧ NB o6' ∧ NB o7' ∧ NB o8' ∧ NB o9' ∧ NB o10' ∧ NB o11' ∧ NB o12' ∧ Stt ns s' ∧ tbody (eT x0 s o2 o3 o4 o5 o6 o7 o8 o9 o10 o11 o12) = .nx (eT x0 s' o2 o3' o4' o5' o6' o7' o8' o9' o10' o11' o12') := by
  obtain ⟨d, s1, hd, e1, hs1⟩ := oneof_ok hl hs (ds := P5.map D.int) (by decide) (by decide)
  obtain ⟨p, hp, rfl⟩ := List.mem_map.mp hd
  have hp : Pr p := ⟨hp⟩
  have pr := hp.rg
  have t1 : fSet 3 (mCallM 1 F__law_one_of (hO (lft (gLst (aCons (kI 3) (aCons (kI 5) (aCons (kI 7) (aCons (kI 11) (aCons (kI 251) aNil))))))) hNil)) (eT x0 s o2 o3 o4 o5 o6 o7 o8 o9 o10 o11 o12) = .nx (eT x0 s1 o2 (.v (I p)) o4 o5 o6 o7 o8 o9 o10 o11 o12) := by
    rw [fSet_ev, callM (i := 1) (F := F__law_one_of) (hm := hO (lft (gLst (aCons (kI 3) (aCons (kI 5) (aCons (kI 7) (aCons (kI 11) (aCons (kI 251) aNil))))))) hNil) (en := eT x0 s o2 o3 o4 o5 o6 o7 o8 o9 o10 o11 o12) (en1 := eT x0 s o2 o3 o4 o5 o6 o7 o8 o9 o10 o11 o12) (hs := [.o (.l ((P5.map D.int).map T.d))]) (x0 := s) (x1 := s) (xs := [.l ((P5.map D.int).map T.d)]) rfl rfl rfl rfl e1, RM.s_ok]
    simp [h3.s]
  obtain ⟨u, s2, hu, e2, hs2⟩ := draw_o hl (en := eT x0 s1 o2 (.v (I p)) o4 o5 o6 o7 o8 o9 o10 o11 o12) (i := 1) (s := s1) (m := 6) (g := lft (kI 6)) rfl hs1 rfl (by decide) (by decide)
  have e2 : mCallM 1 F__law_draw (hO (lft (kI 6)) hNil) (eT x0 s1 o2 (.v (I p)) o4 o5 o6 o7 o8 o9 o10 o11 o12) = .ok (I u) (eT x0 s2 o2 (.v (I p)) o4 o5 o6 o7 o8 o9 o10 o11 o12) := e2
  have u0 := hu.1
  have u1 := hu.2
  obtain ⟨w, hw1, hw⟩ : ∃ w : Nat, 1 + u = (w : Int) ∧ w < 100 := ⟨(1 + u).toNat, by omega, by omega⟩
  have t2 : fSet 4 (m2 fAdd (lft (kI 1)) (mCallM 1 F__law_draw (hO (lft (kI 6)) hNil))) (eT x0 s1 o2 (.v (I p)) o4 o5 o6 o7 o8 o9 o10 o11 o12) = .nx (eT x0 s2 o2 (.v (I p)) (.v (I w)) o5 o6 o7 o8 o9 o10 o11 o12) := by
    rw [fSet_ev, m2_ev, lft_ev, kI_ev, RM.of_ok, RM.bind_ok, e2, RM.bind_ok]
    simp only [gPur_ev, gAndV_ev, gOrV_ev, gNotV_ev, gIsi_ev, gAnd_ev, gOr_ev, gNot_ev, gTru_ev, gT_ev, g2_ev, g1_ev, gIf_ev, gCall_ev, gFn_ev, gTup_ev, gLst_ev, gSl_ev, gCh_ev, gYes_ev, oN_ev, oS_ev, asI_ev, aCons_ev, aNil_ev, vN_ev, kI_ev, kB_ev, kS_ev, kD'_ev, at_succ, at_zero, get_v, get_w, get_b, get_n, Z.R.of_some, Z.R.bind_ok, Z.R.pur_d, fAdd_i, fSub_i, fNeg_i, fLt_i, fLe_i, fGt_i, fGe_i, fEq_i, fNe_i, fInt_i, fInt_b, fAbs_i, fMin2_i, fMax2_i, fLen_l, fLen_t, fLen_r, tst_b, tru_b, tru_i, tru_t, tru_l, tru_r, tru_n, List.length_map, wipeE_cons, wipeE_nil, List.set_cons_succ, List.set_cons_zero, setE_cons, setE_nil, mkS_d, mkS_l, mkTup_nil, mkTup_ev, mkLst_ev, allD_cons, allD_nil, allD_map, Option.map_some, Option.bind_some, if_true, Bool.false_eq_true, if_false, ite_true, ite_false, Bool.not_true, Bool.not_false, decide_true, decide_false, isInt_i, isInt_b, isInt_t, isBl_i, isBl_b, isBl_t, fTuple_ev, fList_ev, dataOf_t, dataOf_l, dataOf_r, lft_ev, Z.RM.of_ok, Z.RM.bind_ok, mCons_ev, mNil_ev, m2_ev, mOf_ev, mT_ev, mTru_ev, mNot_ev, List.cons_append, List.nil_append, hw1, RM.s_ok]
    simp [h4.s]
  obtain ⟨rows, s3, e3, hr, hn, hs3⟩ := some_rows_ok hl hp hw hs2
  have t3 : fSet 5 (mCallM 1 F__law_some_rows (hN 3 (hN 4 hNil))) (eT x0 s2 o2 (.v (I p)) (.v (I w)) o5 o6 o7 o8 o9 o10 o11 o12) = .nx (eT x0 s3 o2 (.v (I p)) (.v (I w)) (.v (tps rows)) o6 o7 o8 o9 o10 o11 o12) := by
    rw [fSet_ev, callM (i := 1) (F := F__law_some_rows) (hm := hN 3 (hN 4 hNil)) (en := eT x0 s2 o2 (.v (I p)) (.v (I w)) o5 o6 o7 o8 o9 o10 o11 o12) (en1 := eT x0 s2 o2 (.v (I p)) (.v (I w)) o5 o6 o7 o8 o9 o10 o11 o12) (hs := [.n 3, .n 4]) (x0 := s2) (x1 := s2) (xs := [I p, I w]) rfl rfl rfl rfl e3, RM.s_ok]
    simp [h5.s]
  obtain ⟨FL, eE, E, _⟩ := echelon_ok hp hr (by omega : w < 1000) (by omega) (tps rows) (.inl rfl)
  have e4 := is_echelon_ok hp E hr hw hn (by have := ech_short E; omega)
  have t4 : (fIf (lft (gNot (gTru (gFn F__law_is_echelon (aCons (vN 3) (aCons (vN 5) (aCons (gFn F_echelon (aCons (vN 3) (aCons (vN 5) aNil))) (aCons (vN 4) aNil)))))))) (fRet (lft (kB false))) fNil) (eT x0 s3 o2 (.v (I p)) (.v (I w)) (.v (tps rows)) o6 o7 o8 o9 o10 o11 o12) = .nx (eT x0 s3 o2 (.v (I p)) (.v (I w)) (.v (tps rows)) o6 o7 o8 o9 o10 o11 o12) := by
    rw [fIf_f (by simp only [gPur_ev, gAndV_ev, gOrV_ev, gNotV_ev, gIsi_ev, gAnd_ev, gOr_ev, gNot_ev, gTru_ev, gT_ev, g2_ev, g1_ev, gIf_ev, gCall_ev, gFn_ev, gTup_ev, gLst_ev, gSl_ev, gCh_ev, gYes_ev, oN_ev, oS_ev, asI_ev, aCons_ev, aNil_ev, vN_ev, kI_ev, kB_ev, kS_ev, kD'_ev, at_succ, at_zero, get_v, get_w, get_b, get_n, Z.R.of_some, Z.R.bind_ok, Z.R.pur_d, fAdd_i, fSub_i, fNeg_i, fLt_i, fLe_i, fGt_i, fGe_i, fEq_i, fNe_i, fInt_i, fInt_b, fAbs_i, fMin2_i, fMax2_i, fLen_l, fLen_t, fLen_r, tst_b, tru_b, tru_i, tru_t, tru_l, tru_r, tru_n, List.length_map, wipeE_cons, wipeE_nil, List.set_cons_succ, List.set_cons_zero, setE_cons, setE_nil, mkS_d, mkS_l, mkTup_nil, mkTup_ev, mkLst_ev, allD_cons, allD_nil, allD_map, Option.map_some, Option.bind_some, if_true, Bool.false_eq_true, if_false, ite_true, ite_false, Bool.not_true, Bool.not_false, decide_true, decide_false, isInt_i, isInt_b, isInt_t, isBl_i, isBl_b, isBl_t, fTuple_ev, fList_ev, dataOf_t, dataOf_l, dataOf_r, lft_ev, Z.RM.of_ok, Z.RM.bind_ok, mCons_ev, mNil_ev, m2_ev, mOf_ev, mT_ev, mTru_ev, mNot_ev, List.cons_append, List.nil_append, eE, e4]), fNil_ev]
  obtain ⟨ys, s4, e5, h51, h52, hs4⟩ := mLc_st (S := Stt ns) (P := fun y => ∃ z, y = I z ∧ Rg p z) (k := 13) (te := mCallM 1 F__law_draw (hN 3 hNil)) (mi := lft (gIt (gPur (vN 5)))) (fun s => eT x0 s o2 (.v (I p)) (.v (I w)) (.v (tps rows)) o6 o7 o8 o9 o10 o11 o12) (fun s d => [x0, .v s, o2, .v (I p), .v (I w), .v (tps rows), o6, o7, o8, o9, o10, o11, o12, .v (.d d), .n]) (rows.map rowD) (s := s3) rfl (by rw [List.length_map]; omega) hs3 (fun s d => rfl) (fun s d hs => by
    obtain ⟨v, s', hv, e, hs'⟩ := draw_n hl (en := [x0, .v s, o2, .v (I p), .v (I w), .v (tps rows), o6, o7, o8, o9, o10, o11, o12, .v (.d d), .n]) (i := 1) (j := 3) rfl hs rfl (by decide) hp.pos (by omega)
    exact ⟨I v, s', ⟨v, rfl, hv⟩, e, hs'⟩) (fun s d => rfl)
  obtain ⟨wts, e6, hq⟩ := row_of h52
  rw [h51, List.length_map] at hq
  have ea := law_added_ok hp (x := tps rows) (y := ls wts) (w := w) (.inl rfl) (.inr rfl) hr hq.len (by omega) (by omega)
  have hm : Rw p w (add p rows wts w) := add_Rw hp.pos
  generalize hmade : add p rows wts w = made at *
  have t5 : fSet 6 (mCallH F__law_added (hN 3 (hN 5 (hO (mLc [13] (lft (gIt (gPur (vN 5)))) (kName 13) gYes (mCallM 1 F__law_draw (hN 3 hNil))) (hN 4 hNil))))) (eT x0 s3 o2 (.v (I p)) (.v (I w)) (.v (tps rows)) o6 o7 o8 o9 o10 o11 o12) = .nx (eT x0 s4 o2 (.v (I p)) (.v (I w)) (.v (tps rows)) (.v (tp made)) o7 o8 o9 o10 o11 o12) := by
    have : mCallH F__law_added (hN 3 (hN 5 (hO (mLc [13] (lft (gIt (gPur (vN 5)))) (kName 13) gYes (mCallM 1 F__law_draw (hN 3 hNil))) (hN 4 hNil)))) (eT x0 s3 o2 (.v (I p)) (.v (I w)) (.v (tps rows)) o6 o7 o8 o9 o10 o11 o12) = .ok (tp made) (eT x0 s4 o2 (.v (I p)) (.v (I w)) (.v (tps rows)) o6 o7 o8 o9 o10 o11 o12) := by
      unfold mCallH
      rw [hN_ev, if_pos (show (at_ (eT x0 s3 o2 (.v (I p)) (.v (I w)) (.v (tps rows)) o6 o7 o8 o9 o10 o11 o12) 3).isSome = true from rfl), hN_ev, if_pos (show (at_ (eT x0 s3 o2 (.v (I p)) (.v (I w)) (.v (tps rows)) o6 o7 o8 o9 o10 o11 o12) 5).isSome = true from rfl), hO_ev, e5, RM.bind_ok, hN_ev, if_pos (show (at_ (eT x0 s4 o2 (.v (I p)) (.v (I w)) (.v (tps rows)) o6 o7 o8 o9 o10 o11 o12) 4).isSome = true from rfl), hNil_ev]
      simp only [RM.bind_ok]
      rw [show hdsA (eT x0 s4 o2 (.v (I p)) (.v (I w)) (.v (tps rows)) o6 o7 o8 o9 o10 o11 o12) [.n 3, .n 5, .o (.l ys), .n 4] = some [I p, tps rows, .l ys, I w] from rfl]
      simp only
      rw [e6, ea]; rfl
    rw [fSet_ev, this, RM.s_ok]
    simp [h6.s]
  obtain ⟨oth, s5, e7, ho, hs5⟩ := drawn_row hl hp hw (k := 14) (fun s => eT x0 s o2 (.v (I p)) (.v (I w)) (.v (tps rows)) (.v (tp made)) o7 o8 o9 o10 o11 o12) (fun s d => [x0, .v s, o2, .v (I p), .v (I w), .v (tps rows), .v (tp made), o7, o8, o9, o10, o11, o12, .n, .v (.d d)]) 1 3 hs4 (g := vN 4) (n := w) (fun s => rfl) (by omega) (fun s d => rfl) (fun s d => rfl) (fun s d => rfl) (by decide) (fun s d s' => rfl) (fun s d => rfl)
  have em : (mIt (mOf mkLst (mCons (lft (gPur (vN 6))) (mCons (mOf (rOf fTuple) (mCons (mLc [14] (lft (gR1 (vN 4))) (kName 14) gYes (mCallM 1 F__law_draw (hN 3 hNil))) mNil)) mNil)))) (eT x0 s4 o2 (.v (I p)) (.v (I w)) (.v (tps rows)) (.v (tp made)) o7 o8 o9 o10 o11 o12) = .ok ([made, oth].map fun r => T.d (rowD r)) (eT x0 s5 o2 (.v (I p)) (.v (I w)) (.v (tps rows)) (.v (tp made)) o7 o8 o9 o10 o11 o12) := by
    rw [mIt_ev, mOf_ev, mCons_ev, show lft (gPur (vN 6)) (eT x0 s4 o2 (.v (I p)) (.v (I w)) (.v (tps rows)) (.v (tp made)) o7 o8 o9 o10 o11 o12) = .ok (tp made) (eT x0 s4 o2 (.v (I p)) (.v (I w)) (.v (tps rows)) (.v (tp made)) o7 o8 o9 o10 o11 o12) from rfl, RM.bind_ok, mCons_ev, mOf_ev, mCons_ev, e7]
    unfold rOf
    simp only [gPur_ev, gAndV_ev, gOrV_ev, gNotV_ev, gIsi_ev, gAnd_ev, gOr_ev, gNot_ev, gTru_ev, gT_ev, g2_ev, g1_ev, gIf_ev, gCall_ev, gFn_ev, gTup_ev, gLst_ev, gSl_ev, gCh_ev, gYes_ev, oN_ev, oS_ev, asI_ev, aCons_ev, aNil_ev, vN_ev, kI_ev, kB_ev, kS_ev, kD'_ev, at_succ, at_zero, get_v, get_w, get_b, get_n, Z.R.of_some, Z.R.bind_ok, Z.R.pur_d, fAdd_i, fSub_i, fNeg_i, fLt_i, fLe_i, fGt_i, fGe_i, fEq_i, fNe_i, fInt_i, fInt_b, fAbs_i, fMin2_i, fMax2_i, fLen_l, fLen_t, fLen_r, tst_b, tru_b, tru_i, tru_t, tru_l, tru_r, tru_n, List.length_map, wipeE_cons, wipeE_nil, List.set_cons_succ, List.set_cons_zero, setE_cons, setE_nil, mkS_d, mkS_l, mkTup_nil, mkTup_ev, mkLst_ev, allD_cons, allD_nil, allD_map, Option.map_some, Option.bind_some, if_true, Bool.false_eq_true, if_false, ite_true, ite_false, Bool.not_true, Bool.not_false, decide_true, decide_false, isInt_i, isInt_b, isInt_t, isBl_i, isBl_b, isBl_t, fTuple_ev, fList_ev, dataOf_t, dataOf_l, dataOf_r, lft_ev, Z.RM.of_ok, Z.RM.bind_ok, mCons_ev, mNil_ev, m2_ev, mOf_ev, mT_ev, mTru_ev, mNot_ev, List.cons_append, List.nil_append]
    rw [if_pos (show ([tp made, .d (rowD oth)] : List T).length ≤ most from show 2 ≤ 16777216 by decide)]
    rfl
  obtain ⟨en6, t6, s6, o7', o8', o9', o10', o11', o12', n7, n8, n9, n10, n11, n12, hs6, rfl⟩ := for_pre (k := kName 7) (f := vbody) (h := fun r => T.d (rowD r)) (fun pre en => ∃ s o7 o8 o9 o10 o11 o12, NB o7 ∧ NB o8 ∧ NB o9 ∧ NB o10 ∧ NB o11 ∧ NB o12 ∧ Stt ns s ∧ en = eV x0 o2 p w rows made s o7 o8 o9 o10 o11 o12) [made, oth] (eV x0 o2 p w rows made s4 o7 o8 o9 o10 o11 o12) em ⟨s5, o7, o8, o9, o10, o11, o12, h7, h8, h9, h10, h11, h12, hs5, rfl⟩ (fun pre v suf en e q => by
    obtain ⟨s, o7, o8, o9, o10, o11, o12, h7, h8, h9, h10, h11, h12, hs, rfl⟩ := q
    have hv : Rw p w v := by
      have m : v ∈ [made, oth] := by rw [e]; exact List.mem_append_right _ (List.mem_cons_self ..)
      rcases List.mem_cons.mp m with rfl | m
      · exact hm
      · rw [List.mem_singleton.mp m]; exact ho
    obtain ⟨s', o8', o9', o10', o11', o12', n8, n9, n10, n11, n12, hs', e9⟩ := vbody_ok hl hp (made := made) (x0 := x0) (o2 := o2) hr hv hw hn hs h8 h9 h10 h11 h12
    exact ⟨_, eV x0 o2 p w rows made s (.v (tp v)) o8 o9 o10 o11 o12, _, rfl, by simp [h7.s], .inl e9, s', _, _, _, _, _, _, .v, n8, n9, n10, n11, n12, hs', rfl⟩)
  have t7 : (fIf (lft (gT (g2 fNe (g2 fIx (gFn F_combination (aCons (vN 3) (aCons (vN 5) (aCons (vN 6) aNil)))) (kI 0)) (kS (Str.ofString "weights"))))) (fRet (lft (kB false))) fNil) (eV x0 o2 p w rows made s6 o7' o8' o9' o10' o11' o12') = .nx (eV x0 o2 p w rows made s6 o7' o8' o9' o10' o11' o12') := by
    obtain ⟨res, e, ⟨ws, rfl, h⟩ | ⟨col, rfl, h⟩⟩ := combination_ok hp hr hm hw hn
    · rw [fIf_f (by simp only [gPur_ev, gAndV_ev, gOrV_ev, gNotV_ev, gIsi_ev, gAnd_ev, gOr_ev, gNot_ev, gTru_ev, gT_ev, g2_ev, g1_ev, gIf_ev, gCall_ev, gFn_ev, gTup_ev, gLst_ev, gSl_ev, gCh_ev, gYes_ev, oN_ev, oS_ev, asI_ev, aCons_ev, aNil_ev, vN_ev, kI_ev, kB_ev, kS_ev, kD'_ev, at_succ, at_zero, get_v, get_w, get_b, get_n, Z.R.of_some, Z.R.bind_ok, Z.R.pur_d, fAdd_i, fSub_i, fNeg_i, fLt_i, fLe_i, fGt_i, fGe_i, fEq_i, fNe_i, fInt_i, fInt_b, fAbs_i, fMin2_i, fMax2_i, fLen_l, fLen_t, fLen_r, tst_b, tru_b, tru_i, tru_t, tru_l, tru_r, tru_n, List.length_map, wipeE_cons, wipeE_nil, List.set_cons_succ, List.set_cons_zero, setE_cons, setE_nil, mkS_d, mkS_l, mkTup_nil, mkTup_ev, mkLst_ev, allD_cons, allD_nil, allD_map, Option.map_some, Option.bind_some, if_true, Bool.false_eq_true, if_false, ite_true, ite_false, Bool.not_true, Bool.not_false, decide_true, decide_false, isInt_i, isInt_b, isInt_t, isBl_i, isBl_b, isBl_t, fTuple_ev, fList_ev, dataOf_t, dataOf_l, dataOf_r, lft_ev, Z.RM.of_ok, Z.RM.bind_ok, mCons_ev, mNil_ev, m2_ev, mOf_ev, mT_ev, mTru_ev, mNot_ev, List.cons_append, List.nil_append, e, pair_ix0, eNWW]), fNil_ev]
    · exact (no_col hp (ws := cq p wts) (fun k hk => by rw [← hmade, add_cq hk]) h).elim
  refine ⟨s6, .v (I p), .v (I w), .v (tps rows), .v (tp made), o7', o8', o9', o10', o11', o12', .v, .v, .v, .v, n7, n8, n9, n10, n11, n12, hs6, ?_⟩
  unfold tbody
  rw [fSeq_ev, t1, sq_nx, fSeq_ev, t2, sq_nx, fSeq_ev, t3, sq_nx, fSeq_ev, t4, sq_nx, fSeq_ev, t5, sq_nx, fSeq_ev, t6, sq_nx, t7]
theorem law_true (ns : List Int) (hl : ns.length ≤ 63) (hb : ∀ z ∈ ns, Builtin.Int.intBits z ≤ 1048576) : F_law [.d (.rol (ns.map D.int))] = .ok (.d (.bl true)) := by
  refine runP_ret rfl ?_
  show ∃ e, d_law [.v (.d (.rol (ns.map D.int))), .n, .n, .n, .n, .n, .n, .n, .n, .n, .n, .n, .n, .n, .n] = _
  unfold d_law
  refine ret_seq (en1 := eT (.v (.d (.rol (ns.map D.int)))) (Z.St ns 0 0 0) .n .n .n .n .n .n .n .n .n .n .n) ?_ ?_
  · rw [fSet_ev, lft_n (x := Z.St ns 0 0 0) (by
      rw [gFn_ev, aCons_ev, vN_ev, aNil_ev]
      simp only [at_zero, get_v, R.of_some, R.bind_ok, st0]), RM.s_ok]; rfl
  obtain ⟨en', e1, s, o2, o3, o4, o5, o6, o7, o8, o9, o10, o11, o12, _, _, _, _, _, _, _, _, _, _, _, _, rfl⟩ := for_pre (k := kName 2) (mi := lft (gR1 (kI 3))) (f := tbody) (h := fun (i : Nat) => T.d (.int (i : Int))) (fun pre en => ∃ s o2 o3 o4 o5 o6 o7 o8 o9 o10 o11 o12, NB o2 ∧ NB o3 ∧ NB o4 ∧ NB o5 ∧ NB o6 ∧ NB o7 ∧ NB o8 ∧ NB o9 ∧ NB o10 ∧ NB o11 ∧ NB o12 ∧ Stt ns s ∧ en = eT (.v (.d (.rol (ns.map D.int)))) s o2 o3 o4 o5 o6 o7 o8 o9 o10 o11 o12) (List.range 3) _ (lft_n (gR1_of rfl (by decide))) ⟨_, .n, .n, .n, .n, .n, .n, .n, .n, .n, .n, .n, .n, .n, .n, .n, .n, .n, .n, .n, .n, .n, .n, ⟨0, 0, 0, rfl⟩, rfl⟩ (fun pre j suf en e q => by
    obtain ⟨s, o2, o3, o4, o5, o6, o7, o8, o9, o10, o11, o12, h2, h3, h4, h5, h6, h7, h8, h9, h10, h11, h12, hs, rfl⟩ := q
    obtain ⟨s', o3', o4', o5', o6', o7', o8', o9', o10', o11', o12', n3, n4, n5, n6, n7, n8, n9, n10, n11, n12, hs', e9⟩ := tbody_ok hl (x0 := .v (.d (.rol (ns.map D.int)))) (o2 := .v (I j)) hs h3 h4 h5 h6 h7 h8 h9 h10 h11 h12
    exact ⟨_, eT (.v (.d (.rol (ns.map D.int)))) s (.v (I j)) o3 o4 o5 o6 o7 o8 o9 o10 o11 o12, _, rfl, by simp [h2.s], .inl e9, s', .v (I j), o3', o4', o5', o6', o7', o8', o9', o10', o11', o12', .v, n3, n4, n5, n6, n7, n8, n9, n10, n11, n12, hs', rfl⟩)
  refine ret_seq e1 ?_
  exact ret_lft rfl
end K02
open PySem PySem.W PyProof.Rows
set_option maxHeartbeats 0 in
theorem PySem.Challenge.cw_countunseen_k02_combinations_holds : PySem.Challenge.rw_countunseen_k02_combinations.Holds := by
  w_on; o_law; k_head; (case hw => w_witness2)
  k_fill
  refine L2.walk_ofB (l := PySem.Challenge.rw_countunseen_k02_combinations) (n := 63) (k := 6) (x := "script") (CX := fun w => L2.CX PySem.Challenge.rw_countunseen_k02_combinations.prog w) (sp := fun w => Z.spL _ K02.F_law) rfl (by decide) rfl ⟨rfl, by decide, by decide⟩ (fun w h Y => PySem.W.kIn_of Y) ?F (fun w H a ns hl hb hO hS => Z.law_spL hO hS (K02.law_true ns hl hb)) (fun w H s e s2 h => Z.cx_false h)
  case F =>
    intro w mg fa h KX G hmg
    refine' K02.all_mk KX G hmg ?a0 ?l0 ?c0 ?k0 ?a1 ?l1 ?c1 ?k1 ?a2 ?l2 ?c2 ?k2 ?a3 ?l3 ?c3 ?k3 ?a4 ?l4 ?c4 ?k4 ?a5 ?l5 ?c5 ?k5 ?a6 ?l6 ?c6 ?k6 ?a7 ?l7 ?c7 ?k7 ?a8 ?l8 ?c8 ?k8 ?a9 ?l9 ?c9 ?k9 ?a10 ?l10 ?c10 ?k10 ?a11 ?l11 ?c11 ?k11 ?a12 ?l12 ?c12 ?k12 ?a13 ?l13 ?c13 ?k13 ?a14 ?l14 ?c14 ?k14 ?a15 ?l15 ?c15 ?k15 ?a16 ?l16 ?c16 ?k16 ?a17 ?l17 ?c17 ?k17 ?a18 ?l18 ?c18 ?k18 ?a19 ?l19 ?c19 ?k19 ?a20 ?l20 ?c20 ?k20 ?a21 ?l21 ?c21 ?k21 ?a22 ?l22 ?c22 ?k22 ?a23 ?l23 ?c23 ?k23 ?a24 ?l24 ?c24 ?k24 ?a25 ?l25 ?c25 ?k25 ?a26 ?l26 ?c26 ?k26 ?y_abs ?y_all ?y_bool ?y_enumerate ?y_int ?y_isinstance ?y_len ?y_list ?y_range ?y_sorted ?y_sum ?y_tuple ?y_zip ?x_COLUMN ?x_WEIGHTS
    (case a0 => k_is); (case l0 => k_is); (case c0 => k_is); (case k0 => k_is); (case a1 => k_is); (case l1 => k_is); (case c1 => k_is); (case k1 => k_is); (case a2 => k_is); (case l2 => k_is); (case c2 => k_is); (case k2 => k_is); (case a3 => k_is); (case l3 => k_is); (case c3 => k_is); (case k3 => k_is); (case a4 => k_is); (case l4 => k_is); (case c4 => k_is); (case k4 => k_is); (case a5 => k_is); (case l5 => k_is); (case c5 => k_is); (case k5 => k_is); (case a6 => k_is); (case l6 => k_is); (case c6 => k_is); (case k6 => k_is); (case a7 => k_is); (case l7 => k_is); (case c7 => k_is); (case k7 => k_is); (case a8 => k_is); (case l8 => k_is); (case c8 => k_is); (case k8 => k_is); (case a9 => k_is); (case l9 => k_is); (case c9 => k_is); (case k9 => k_is); (case a10 => k_is); (case l10 => k_is); (case c10 => k_is); (case k10 => k_is); (case a11 => k_is); (case l11 => k_is); (case c11 => k_is); (case k11 => k_is); (case a12 => k_is); (case l12 => k_is); (case c12 => k_is); (case k12 => k_is); (case a13 => k_is); (case l13 => k_is); (case c13 => k_is); (case k13 => k_is); (case a14 => k_is); (case l14 => k_is); (case c14 => k_is); (case k14 => k_is); (case a15 => k_is); (case l15 => k_is); (case c15 => k_is); (case k15 => k_is); (case a16 => k_is); (case l16 => k_is); (case c16 => k_is); (case k16 => k_is); (case a17 => k_is); (case l17 => k_is); (case c17 => k_is); (case k17 => k_is); (case a18 => k_is); (case l18 => k_is); (case c18 => k_is); (case k18 => k_is); (case a19 => k_is); (case l19 => k_is); (case c19 => k_is); (case k19 => k_is); (case a20 => k_is); (case l20 => k_is); (case c20 => k_is); (case k20 => k_is); (case a21 => k_is); (case l21 => k_is); (case c21 => k_is); (case k21 => k_is); (case a22 => k_is); (case l22 => k_is); (case c22 => k_is); (case k22 => k_is); (case a23 => k_is); (case l23 => k_is); (case c23 => k_is); (case k23 => k_is); (case a24 => k_is); (case l24 => k_is); (case c24 => k_is); (case k24 => k_is); (case a25 => k_is); (case l25 => k_is); (case c25 => k_is); (case k25 => k_is); (case a26 => k_is); (case l26 => k_is); (case c26 => k_is); (case k26 => k_is); (case y_abs => k_is); (case y_all => k_is); (case y_bool => k_is); (case y_enumerate => k_is); (case y_int => k_is); (case y_isinstance => k_is); (case y_len => k_is); (case y_list => k_is); (case y_range => k_is); (case y_sorted => k_is); (case y_sum => k_is); (case y_tuple => k_is); (case y_zip => k_is); (case x_COLUMN => k_is); (case x_WEIGHTS => k_is)
