import PyProof.Rows.All
import Wide.All
import OpenK.AllK
import Wide.FinOn
import HandS.ForMost
import HandS.ForExc
import HandS.IsInst
import HandS.Conv
import HandS.Flow
import HandS.Strs
import HandS.SetKeys
import HandS.TupMul
import HandS.TupAny
import HandS.Codes
import HandS.Style
import HandS.Zip
import HandS.TryMany
import KE.SortData
import PyProof.StrBlock2
import PyProof.P3In
import HandS.WordsExc
import HandS.EndBits
import PyProof.ReprRoads
import HandS.WordsDict
import HandS.SetFor
import PySem.Challenge.RW_wordbooks_k49_whole_least_words
set_option Elab.async false
set_option linter.all false
set_option maxRecDepth 100000
set_option maxHeartbeats 4000000
/-! Wb: plain data, and how values of the hand layer stand for them. -/
namespace Wb
open PySem PySem.Spec PyProof.Rows L2

/-- plain data -/
inductive D where
  | non | bl (b : Bool) | int (i : Int) | str (s : List Nat) | tup (xs : List D) | lst (xs : List D) | dic (kvs : List (D × D)) | fn (k : Nat) | rol (xs : List D)

structure Rt where
  K : PySem.W.Frag
  fa : Nat → Option Addr

def keyD : Key → D
  | .inl i => .int i
  | .inr x => .str x.cps.toList

mutual
/-- a value stands for a datum -/
inductive Rp (R : Rt) (H : Hp) : V → D → Prop
  | non : Rp R H .non .non
  | bl (b : Bool) : Rp R H (.bl b) (.bl b)
  | int (i : Int) : Rp R H (.int i) (.int i)
  | str (s : List Nat) : Rp R H (.str ⟨s.toArray⟩) (.str s)
  | tup {a : Addr} {vs : List V} {ds : List D} : SqT R.K H a vs → Rps R H vs ds → Rp R H (.ref a) (.tup ds)
  | lst {a : Addr} {vs : List V} {ds : List D} : H a = some (.lst vs) → Rps R H vs ds → Rp R H (.ref a) (.lst ds)
  | rol {a : Addr} {vs : List V} {ds : List D} : SqL R.K H a vs → Rps R H vs ds → Rp R H (.ref a) (.rol ds)
  | fn {k : Nat} {a : Addr} : R.fa k = some a → Rp R H (.ref a) (.fn k)
inductive Rps (R : Rt) (H : Hp) : List V → List D → Prop
  | nil : Rps R H [] []
  | cons {v : V} {vs : List V} {d : D} {ds : List D} : Rp R H v d → Rps R H vs ds → Rps R H (v :: vs) (d :: ds)
end

def Ex (H H' : Hp) : Prop := ∀ a o, H a = some o → H' a = some o
theorem Ex.refl (H : Hp) : Ex H H := fun _ _ h => h
theorem Ex.trans {H H1 H2 : Hp} (a : Ex H H1) (b : Ex H1 H2) : Ex H H2 := fun x o h => b x o (a x o h)
theorem Ex.new {H : Hp} {p : Addr} {o : HO} (h : H p = none) : Ex H (upd H p o) := fun a u e => by
  rw [upd_ne (ne_of_none e h)]
  exact e
theorem Ex.mut {H H' : Hp} {p : Addr} {o : HO} (e : Ex H H') (h : H p = none) : Ex H (upd H' p o) := fun a u ha => by
  rw [upd_ne (ne_of_none ha h)]
  exact e a u ha
theorem Ex.up {H H' : Hp} {p : Addr} {o : HO} (e : Ex H H') (h : H' p = some o) : Ex (upd H p o) H' := fun a u ha => by
  by_cases he : a = p
  · subst he
    rw [upd_same] at ha
    cases ha
    exact h
  · rw [upd_ne he] at ha
    exact e a u ha
theorem ex_rd {H H' : Hp} {a : Addr} {u : HO} (e : Ex H H') (h : Rd H a u) : Rd H' a u := by
  rcases h with h | ⟨o, h⟩
  · exact Or.inl (e a _ h)
  · exact Or.inr ⟨o, e a _ h⟩
theorem ex_l {K : PySem.W.Frag} {H H' : Hp} {a : Addr} {xs : List V} (e : Ex H H') (h : SqL K H a xs) : SqL K H' a xs := by
  rcases h with h | h
  · exact Or.inl (ex_rd e h)
  · exact Or.inr h
theorem ex_t {K : PySem.W.Frag} {H H' : Hp} {a : Addr} {xs : List V} (e : Ex H H') (h : SqT K H a xs) : SqT K H' a xs := by
  rcases h with h | h
  · exact Or.inl (ex_rd e h)
  · exact Or.inr h
theorem fresh_back {H H' : Hp} {p : Addr} (e : Ex H H') (h : H' p = none) : H p = none := by
  cases h1 : H p with
  | none => rfl
  | some o =>
    rw [e p o h1] at h
    cases h

mutual
theorem Rp.mono {R : Rt} {H H' : Hp} (e : Ex H H') : ∀ {v : V} {d : D}, Rp R H v d → Rp R H' v d
  | _, _, .non => .non
  | _, _, .bl b => .bl b
  | _, _, .int i => .int i
  | _, _, .str s => .str s
  | _, _, .tup h hs => .tup (ex_t e h) (Rps.mono e hs)
  | _, _, .lst h hs => .lst (e _ _ h) (Rps.mono e hs)
  | _, _, .rol h hs => .rol (ex_l e h) (Rps.mono e hs)
  | _, _, .fn h => .fn h
theorem Rps.mono {R : Rt} {H H' : Hp} (e : Ex H H') : ∀ {vs : List V} {ds : List D}, Rps R H vs ds → Rps R H' vs ds
  | _, _, .nil => .nil
  | _, _, .cons h hs => .cons (Rp.mono e h) (Rps.mono e hs)
end

section
variable {R : Rt} {H : Hp}
theorem Rps.length : ∀ {vs : List V} {ds : List D}, Rps R H vs ds → vs.length = ds.length
  | _, _, .nil => rfl
  | _, _, .cons _ t => congrArg (· + 1) t.length
theorem Rps.append : ∀ {vs ws : List V} {ds es : List D}, Rps R H vs ds → Rps R H ws es → Rps R H (vs ++ ws) (ds ++ es)
  | _, _, _, _, .nil, s => s
  | _, _, _, _, .cons r t, s => .cons r (Rps.append t s)
theorem Rps.take : ∀ {vs : List V} {ds : List D} (n : Nat), Rps R H vs ds → Rps R H (vs.take n) (ds.take n)
  | _, _, 0, _ => .nil
  | _, _, _ + 1, .nil => .nil
  | _, _, n + 1, .cons r t => .cons r (Rps.take n t)
theorem Rps.drop : ∀ {vs : List V} {ds : List D} (n : Nat), Rps R H vs ds → Rps R H (vs.drop n) (ds.drop n)
  | _, _, 0, r => r
  | _, _, _ + 1, .nil => .nil
  | _, _, n + 1, .cons _ t => Rps.drop n t
theorem Rps.get : ∀ {vs : List V} {ds : List D} {i : Nat} {d : D}, Rps R H vs ds → ds[i]? = some d → ∃ v, vs[i]? = some v ∧ Rp R H v d
  | _, _, _, _, .nil, e => by simp at e
  | _, _, 0, _, .cons r _, e => by simp at e; subst e; exact ⟨_, rfl, r⟩
  | _, _, i + 1, d, .cons _ t, e => by
    obtain ⟨v, h1, h2⟩ := Rps.get (i := i) (d := d) t (by simpa using e)
    exact ⟨v, by simpa using h1, h2⟩
theorem Rps.get' : ∀ {vs : List V} {ds : List D} {i : Nat} {v : V}, Rps R H vs ds → vs[i]? = some v → ∃ d, ds[i]? = some d ∧ Rp R H v d
  | _, _, _, _, .nil, e => by simp at e
  | _, _, 0, _, .cons r _, e => by simp at e; subst e; exact ⟨_, rfl, r⟩
  | _, _, i + 1, d, .cons _ t, e => by
    obtain ⟨v, h1, h2⟩ := Rps.get' (i := i) (v := d) t (by simpa using e)
    exact ⟨v, by simpa using h1, h2⟩
theorem Rps.set {v : V} {d : D} (r : Rp R H v d) : ∀ {vs : List V} {ds : List D} (i : Nat), Rps R H vs ds → Rps R H (vs.set i v) (ds.set i d)
  | _, _, _, .nil => .nil
  | _, _, 0, .cons _ t => .cons r t
  | _, _, i + 1, .cons q t => .cons q (Rps.set r i t)
theorem Rps.reverse {vs : List V} {ds : List D} (h : Rps R H vs ds) : Rps R H vs.reverse ds.reverse := by
  induction vs generalizing ds with
  | nil => cases h; exact .nil
  | cons v vs ih =>
    cases h with
    | cons r t =>
      rw [List.reverse_cons, List.reverse_cons]
      exact (ih t).append (.cons r .nil)
theorem Rps.strs : ∀ {vs : List V} {xs : List (List Nat)}, Rps R H vs (xs.map D.str) → vs = (xs.map SX.S).map V.str
  | _, [], .nil => rfl
  | _, x :: xs, .cons r t => by
    cases r
    rw [Rps.strs t]
    rfl
theorem Rps.of_strs : ∀ {xs : List (List Nat)}, Rps R H ((xs.map SX.S).map V.str) (xs.map D.str)
  | [] => .nil
  | x :: xs => .cons (.str x) Rps.of_strs
theorem Rps.ints : ∀ {vs : List V} {xs : List Int}, Rps R H vs (xs.map D.int) → vs = xs.map V.int
  | _, [], .nil => rfl
  | _, x :: xs, .cons r t => by
    cases r
    rw [Rps.ints t]
    rfl
theorem Rps.of_ints : ∀ {xs : List Int}, Rps R H (xs.map V.int) (xs.map D.int)
  | [] => .nil
  | x :: xs => .cons (.int x) Rps.of_ints
theorem Rps.bls : ∀ {vs : List V} {xs : List Bool}, Rps R H vs (xs.map D.bl) → vs = xs.map V.bl
  | _, [], .nil => rfl
  | _, x :: xs, .cons r t => by
    cases r
    rw [Rps.bls t]
    rfl
end

/-! ### the environment -/
inductive Slot where
  | no | val (d : D) | own (d : D)
abbrev Env' := List Slot
/-- an error in the air: which class, its field -/
structure Err where
  c : Nat
  f : D
inductive Ent where
  | val (d : D) | own (d : D)
def Ent.d : Ent → D
  | .val d => d
  | .own d => d
def Ent.slot : Ent → Slot
  | .val d => .val d
  | .own d => .own d

/-- the object at p, alone in our hands, holds the datum -/
def Top (R : Rt) (Hf H : Hp) (p : Addr) : D → Prop
  | .lst ds => ∃ vs, H p = some (.lst vs) ∧ Rps R Hf vs ds
  | .dic kvs => ∃ ks : List (Key × V), H p = some (.dK ks) ∧ ks.map (fun q => keyD q.1) = kvs.map (·.1) ∧ Rps R Hf (ks.map (·.2)) (kvs.map (·.2))
  | _ => False

/-- what is fixed through a def's body: the heap at its entry, what was frozen then, the object handed in to be changed -/
structure Fx where
  R : Rt
  H0 : Hp
  Hf0 : Hp
  io : Option Addr
  /-- objects of ours that stand aside, untouched -/
  aw : List (Addr × HO)

structure Co (F : Fx) (σ : L2.St) (g : Env') (Hf H : Hp) : Prop where
  len : g.length = σ.length
  ex0 : Ex F.Hf0 Hf
  ex : Ex Hf H
  frz : ∀ a, Hf a ≠ none → F.Hf0 a ≠ none ∨ F.H0 a = none
  pres : ∀ a o, F.H0 a = some o → some a ≠ F.io → H a = some o
  val : ∀ (i : Nat) d, g[i]? = some (.val d) → ∃ v, σ[i]? = some (some v) ∧ Rp F.R Hf v d
  own : ∀ (i : Nat) d, g[i]? = some (.own d) → ∃ p, σ[i]? = some (some (.ref p)) ∧ Hf p = none ∧ (some p = F.io ∨ F.H0 p = none) ∧ Top F.R Hf H p d
  dist : ∀ (i j : Nat) d d' p, g[i]? = some (.own d) → g[j]? = some (.own d') → σ[i]? = some (some (.ref p)) → σ[j]? = some (some (.ref p)) → i = j
  awy : ∀ q ∈ F.aw, H q.1 = some q.2 ∧ Hf q.1 = none ∧ some q.1 ≠ F.io ∧ ∀ (i : Nat) d, g[i]? = some (.own d) → σ[i]? ≠ some (some (.ref q.1))
  ios : ∀ p, F.io = some p → σ[0]? = some (some (.ref p)) ∧ ∃ d, g[0]? = some (.own d)

/-- what an evaluated expression stands for -/
def RpE (F : Fx) (σ : L2.St) (g : Env') (Hf H : Hp) (v : V) : Ent → Prop
  | .val d => Rp F.R Hf v d
  | .own d => ∃ p, v = .ref p ∧ Hf p = none ∧ F.H0 p = none ∧ some p ≠ F.io ∧ (∀ (i : Nat) d', g[i]? = some (.own d') → σ[i]? ≠ some (some (.ref p))) ∧ (∀ q ∈ F.aw, q.1 ≠ p) ∧ Top F.R Hf H p d

theorem Top.some {R : Rt} {Hf H : Hp} {p : Addr} {d : D} (t : Top R Hf H p d) : ∃ o, H p = some o := by
  cases d with
  | lst ds => obtain ⟨vs, h, _⟩ := t; exact ⟨_, h⟩
  | dic kvs => obtain ⟨vs, h, _⟩ := t; exact ⟨_, h⟩
  | _ => exact t.elim
theorem Top.mono {R : Rt} {Hf Hf' H H' : Hp} {p : Addr} {d : D} (t : Top R Hf H p d) (e : Ex Hf Hf') (h : ∀ o, H p = Option.some o → H' p = Option.some o) : Top R Hf' H' p d := by
  cases d with
  | lst ds => obtain ⟨vs, h1, h2⟩ := t; exact ⟨vs, h _ h1, h2.mono e⟩
  | dic kvs => obtain ⟨vs, h1, h2, h3⟩ := t; exact ⟨vs, h _ h1, h2, h3.mono e⟩
  | _ => exact t.elim
end Wb

set_option Elab.async false
set_option linter.all false
set_option maxRecDepth 100000
set_option maxHeartbeats 4000000
/-! Wb: the monad, what a term of it says of the model's own evaluation, the plain constructs. -/
namespace Wb
open PySem PySem.Spec PyProof.Rows L2

inductive Res (α : Type) where
  | ok (a : α) (g : Env') | exc (x : Err) (g : Env') | bad
inductive CRes where
  | ret (e : Ent) (io : D) | exc (x : Err) (io : D) | bad
/-- what calls give: the def's number, its arguments (a thing handed in to be changed stands first) -/
abbrev Cal := Nat → List D → CRes
abbrev M (α : Type) := Cal → Env' → Res α
def Res.bnd {α β : Type} (r : Res α) (f : α → Env' → Res β) : Res β :=
  match r with
  | .ok a g => f a g
  | .exc x g => .exc x g
  | .bad => .bad
def bnd {α β : Type} (m : M α) (f : α → M β) : M β := fun c g => (m c g).bnd fun a g' => f a c g'
def ret {α : Type} (a : α) : M α := fun _ g => .ok a g
def lift {α : Type} (o : Option α) : M α := fun _ g => match o with
  | some a => .ok a g
  | none => .bad

/-! ### the model's own readings -/
def wE (X : Cx) (e : Expr) : TE := fun σ H Q => ∀ (pins : List (Addr × Obj)) (s : Shared), Inv X pins σ H s → wpAny (model X.prog X.w) X.A (eval e X.env) (EP X pins σ Q) X.xe s
theorem pe_w {X : Cx} {e : Expr} : PE X e (wE X e) := ⟨fun pins s _ _ _ I h => h pins s I⟩
theorem wE_of {X : Cx} {e : Expr} {t : TE} {σ : L2.St} {H : Hp} {Q : VK} (p : PE X e t) (h : t σ H Q) : wE X e σ H Q := fun pins s I => p.run pins s σ H Q I h
def wT (X : Cx) (e : Expr) : TT := fun σ H Q => ∀ (pins : List (Addr × Obj)) (s : Shared), Inv X pins σ H s → wpAny (model X.prog X.w) X.A (isTrue e X.env (eval e X.env)) (TP X pins σ Q) X.xe s
theorem pt_w {X : Cx} {e : Expr} : PT X e (wT X e) := ⟨fun pins s _ _ _ I h => h pins s I⟩
theorem wT_of {X : Cx} {e : Expr} {t : TT} {σ : L2.St} {H : Hp} {Q : Bool → Hp → Prop} (p : PT X e t) (h : t σ H Q) : wT X e σ H Q := fun pins s I => p.run pins s σ H Q I h
/-- a test whatever its whole is -/
def wW (X : Cx) (e : Expr) : TT := fun σ H Q => ∀ (whole : Sem Value) (pins : List (Addr × Obj)) (s : Shared), Inv X pins σ H s → wpAny (model X.prog X.w) X.A (isTrue e X.env whole) (TP X pins σ Q) X.xe s
theorem pw_w {X : Cx} {e : Expr} : PW X e (wW X e) := ⟨fun wh pins s _ _ _ I h => h wh pins s I⟩
theorem wW_of {X : Cx} {e : Expr} {t : TT} {σ : L2.St} {H : Hp} {Q : Bool → Hp → Prop} (p : PW X e t) (h : t σ H Q) : wW X e σ H Q := fun wh pins s I => p.run wh pins s σ H Q I h
def wA (X : Cx) (es : List Expr) : TA := fun σ H Q => ∀ (pos : Pos) (pins : List (Addr × Obj)) (s : Shared), Inv X pins σ H s → wpAny (model X.prog X.w) X.A (spliced (backTo pos (starEach es X.env))) (AP X pins σ Q) X.xe s
theorem pa_w {X : Cx} {es : List Expr} : PA X es (wA X es) := ⟨fun pos pins s _ _ _ I h => h pos pins s I⟩
theorem wA_of {X : Cx} {es : List Expr} {t : TA} {σ : L2.St} {H : Hp} {Q : List V → Hp → Prop} (p : PA X es t) (h : t σ H Q) : wA X es σ H Q := fun pos pins s I => p.run pos pins s σ H Q I h
def wS (X : Cx) (st : Stmt) : TS := fun D σ H => ∀ (pins : List (Addr × Obj)) (s : Shared), Inv X pins σ H s → wpAny (model X.prog X.w) X.A (exec st X.env) (SP X pins D) X.xe s
theorem ps_w {X : Cx} {st : Stmt} : PS X st (wS X st) := ⟨fun pins s _ _ _ I h => h pins s I⟩
theorem wS_of {X : Cx} {st : Stmt} {t : TS} {σ : L2.St} {H : Hp} {D : Ends} (p : PS X st t) (h : t D σ H) : wS X st D σ H := fun pins s I => p.run pins s σ H D I h
def wSs (X : Cx) (sts : List Stmt) : TS := fun D σ H => ∀ (pins : List (Addr × Obj)) (s : Shared), Inv X pins σ H s → wpAny (model X.prog X.w) X.A (execs sts X.env) (SP X pins D) X.xe s
theorem pss_w {X : Cx} {sts : List Stmt} : PSs X sts (wSs X sts) := ⟨fun pins s _ _ _ I h => h pins s I⟩
theorem wSs_of {X : Cx} {sts : List Stmt} {t : TS} {σ : L2.St} {H : Hp} {D : Ends} (p : PSs X sts t) (h : t D σ H) : wSs X sts D σ H := fun pins s I => p.run pins s σ H D I h
/-- an operation on two values -/
def wO (X : Cx) (f : Value → Value → Sem Value) : R2 := fun x y H Q => ∀ (pins : List (Addr × Obj)) (s : Shared) (σ : L2.St) (v u : Value), Inv X pins σ H s → RelV x v → RelV y u → wpAny (model X.prog X.w) X.A (f v u) (EP X pins σ Q) X.xe s
theorem or_w {X : Cx} {f : Value → Value → Sem Value} : OpR X f (wO X f) := fun pins s σ _ _ _ v u _ I rx ry h => h pins s σ v u I rx ry
theorem wO_of {X : Cx} {f : Value → Value → Sem Value} {r : R2} {x y : V} {H : Hp} {Q : VK} (p : OpR X f r) (h : r x y H Q) : wO X f x y H Q := fun pins s σ v u I rx ry => p pins s σ H x y v u Q I rx ry h
/-- a call of a value -/
def wC (X : Cx) (f : Value) : List V → Hp → VK → Prop := fun xs H Q => ∀ (pins : List (Addr × Obj)) (s : Shared) (σ : L2.St) (us : List Value), Inv X pins σ H s → Vals xs us → wpAny (model X.prog X.w) X.A (call f us) (EP X pins σ Q) X.xe s
theorem cr_w {X : Cx} {f : Value} : CallR X f (wC X f) := fun pins s σ _ _ us _ I r h => h pins s σ us I r
theorem wC_of {X : Cx} {f : Value} {r : List V → Hp → VK → Prop} {xs : List V} {H : Hp} {Q : VK} (p : CallR X f r) (h : r xs H Q) : wC X f xs H Q := fun pins s σ us I rx => p pins s σ H xs us Q I rx h

/-! ### what a term of the monad says -/
/-- an exception's datum -/
abbrev RX := Err → Value → Option Addr → Hp → Prop
structure Gl' where
  R : Rt
  rx : RX
variable {α β γ δ : Type}

def Post (X : Cx) (F : Fx) (rx : RX) (σ : L2.St) (Hf : Hp) (rel : Env' → Hp → Hp → β → α → Prop) (r : Res α) (w : (β → Hp → Prop) → Prop) : Prop :=
  match r with
  | .ok a g' => ∀ Q : β → Hp → Prop, (∀ b Hf' H', Ex Hf Hf' → Co F σ g' Hf' H' → rel g' Hf' H' b a → Q b H') → w Q
  | .exc x g' => ∀ (W : WX) (Q : β → Hp → Prop), Takes X W → (∀ c dx Hf' H', Ex Hf Hf' → Co F σ g' Hf' H' → rx x c dx H' → W c dx σ H') → w Q
  | .bad => True
section
variable {X : Cx} {F : Fx} {rx : RX} {σ : L2.St} {g : Env'} {Hf H : Hp}
theorem Post.ok {rel : Env' → Hp → Hp → β → α → Prop} {w : (β → Hp → Prop) → Prop} {a : α} {b : β} (co : Co F σ g Hf H) (r : rel g Hf H b a) (h : ∀ Q : β → Hp → Prop, Q b H → w Q) : Post X F rx σ Hf rel (.ok a g) w :=
  fun Q q => h Q (q b Hf H (Ex.refl _) co r)
theorem Post.imp {rel : Env' → Hp → Hp → β → α → Prop} {r : Res α} {w w' : (β → Hp → Prop) → Prop} (h : Post X F rx σ Hf rel r w) (hw : ∀ Q, w Q → w' Q) : Post X F rx σ Hf rel r w' := by
  cases r with
  | ok a g' => exact fun Q q => hw Q (h Q q)
  | exc x g' => exact fun W Q t q => hw Q (h W Q t q)
  | bad => trivial
theorem Post.ex {rel : Env' → Hp → Hp → β → α → Prop} {r : Res α} {w : (β → Hp → Prop) → Prop} {Hf0 : Hp} (e : Ex Hf0 Hf) (h : Post X F rx σ Hf rel r w) : Post X F rx σ Hf0 rel r w := by
  cases r with
  | ok a g' => exact fun Q q => h Q fun b Hf' H' e' co rl => q b Hf' H' (e.trans e') co rl
  | exc x g' => exact fun W Q t q => h W Q t fun c dx Hf' H' e' co rl => q c dx Hf' H' (e.trans e') co rl
  | bad => trivial
theorem Post.bind {rel1 : Env' → Hp → Hp → β → α → Prop} {rel2 : Env' → Hp → Hp → δ → γ → Prop} {r : Res α} {f : α → Env' → Res γ} {w1 : (β → Hp → Prop) → Prop} {w2 : β → Hp → (δ → Hp → Prop) → Prop} {w : (δ → Hp → Prop) → Prop}
    (h1 : Post X F rx σ Hf rel1 r w1) (h2 : ∀ a g' b Hf' H', r = .ok a g' → Ex Hf Hf' → Co F σ g' Hf' H' → rel1 g' Hf' H' b a → Post X F rx σ Hf' rel2 (f a g') (w2 b H'))
    (hw : ∀ Q, w1 (fun b H' => w2 b H' Q) → w Q) : Post X F rx σ Hf rel2 (r.bnd f) w := by
  cases r with
  | ok a g' =>
    show Post X F rx σ Hf rel2 (f a g') w
    have h2' := fun b Hf' H' => h2 a g' b Hf' H' rfl
    cases hf : f a g' with
    | ok c g2 =>
      rw [hf] at h2'
      exact fun Q q => hw Q (h1 _ fun b Hf' H' e co rl => h2' b Hf' H' e co rl Q fun d Hf2 H2 e2 co2 rl2 => q d Hf2 H2 (e.trans e2) co2 rl2)
    | exc x g2 =>
      rw [hf] at h2'
      exact fun W Q t q => hw Q (h1 _ fun b Hf' H' e co rl => h2' b Hf' H' e co rl W Q t fun c dx Hf2 H2 e2 co2 rl2 => q c dx Hf2 H2 (e.trans e2) co2 rl2)
    | bad => trivial
  | exc x g' => exact fun W Q t q => hw Q (h1 W _ t q)
  | bad => trivial
/-- the end turned, its state kept -/
theorem Post.map {rel1 : Env' → Hp → Hp → β → α → Prop} {rel2 : Env' → Hp → Hp → δ → γ → Prop} {r : Res α} {f : α → γ} {w1 : (β → Hp → Prop) → Prop} {w : (δ → Hp → Prop) → Prop} {k : β → δ}
    (h1 : Post X F rx σ Hf rel1 r w1) (h2 : ∀ a g' b Hf' H', r = .ok a g' → Ex Hf Hf' → Co F σ g' Hf' H' → rel1 g' Hf' H' b a → rel2 g' Hf' H' (k b) (f a)) (hw : ∀ Q : δ → Hp → Prop, w1 (fun b H' => Q (k b) H') → w Q) :
    Post X F rx σ Hf rel2 (r.bnd fun a g' => .ok (f a) g') w := by
  cases r with
  | ok a g' => exact fun Q q => hw Q (h1 _ fun b Hf' H' e co rl => q (k b) Hf' H' e co (h2 a g' b Hf' H' rfl e co rl))
  | exc x g' => exact fun W Q t q => hw Q (h1 W _ t q)
  | bad => trivial
end

/-- the relations: a value and what it stands for; frozen; values and data; a truth -/
abbrev relE (F : Fx) (σ : L2.St) : Env' → Hp → Hp → V → Ent → Prop := fun g Hf H v e => RpE F σ g Hf H v e
abbrev relD (F : Fx) : Env' → Hp → Hp → V → D → Prop := fun _ Hf _ v d => Rp F.R Hf v d
abbrev relDs (F : Fx) : Env' → Hp → Hp → List V → List D → Prop := fun _ Hf _ vs ds => Rps F.R Hf vs ds
abbrev relB : Env' → Hp → Hp → Bool → Bool → Prop := fun _ _ _ b c => b = c

/-- m says of e -/
def DE (X : Cx) (F : Fx) (rx : RX) (cal : Cal) (e : Expr) (m : M Ent) : Prop :=
  ∀ (σ : L2.St) (g : Env') (Hf H : Hp), Co F σ g Hf H → Post X F rx σ Hf (relE F σ) (m cal g) (wE X e σ H)
def DD (X : Cx) (F : Fx) (rx : RX) (cal : Cal) (e : Expr) (m : M D) : Prop :=
  ∀ (σ : L2.St) (g : Env') (Hf H : Hp), Co F σ g Hf H → Post X F rx σ Hf (relD F) (m cal g) (wE X e σ H)
def DT (X : Cx) (F : Fx) (rx : RX) (cal : Cal) (e : Expr) (m : M Bool) : Prop :=
  ∀ (σ : L2.St) (g : Env') (Hf H : Hp), Co F σ g Hf H → Post X F rx σ Hf relB (m cal g) (wT X e σ H)
def DW (X : Cx) (F : Fx) (rx : RX) (cal : Cal) (e : Expr) (m : M Bool) : Prop :=
  ∀ (σ : L2.St) (g : Env') (Hf H : Hp), Co F σ g Hf H → Post X F rx σ Hf relB (m cal g) (wW X e σ H)
def DA (X : Cx) (F : Fx) (rx : RX) (cal : Cal) (es : List Expr) (m : M (List D)) : Prop :=
  ∀ (σ : L2.St) (g : Env') (Hf H : Hp), Co F σ g Hf H → Post X F rx σ Hf (relDs F) (m cal g) (wA X es σ H)

/-! ### freezing -/
/-- the object at p joins the frozen ones -/
theorem Co.freeze {F : Fx} {σ : L2.St} {g : Env'} {Hf H : Hp} {p : Addr} {o : HO} (co : Co F σ g Hf H) (hp : Hf p = none) (ho : H p = some o) (h0 : F.H0 p = none) (hs : ∀ (i : Nat) d', g[i]? = some (.own d') → σ[i]? ≠ some (some (.ref p))) (hw : ∀ q ∈ F.aw, q.1 ≠ p) :
    Ex Hf (upd Hf p o) ∧ Co F σ g (upd Hf p o) H := by
  have e1 : Ex Hf (upd Hf p o) := Ex.new hp
  refine ⟨e1, co.len, co.ex0.trans e1, Ex.up co.ex ho, fun a ha => ?_, co.pres, fun i d hg => ?_, fun i d hg => ?_, co.dist, fun q hq => ?_, co.ios⟩
  · by_cases he : a = p
    · subst he
      exact .inr h0
    · rw [upd_ne he] at ha
      exact co.frz a ha
  · obtain ⟨v, h1, h2⟩ := co.val i d hg
    exact ⟨v, h1, h2.mono e1⟩
  · obtain ⟨q, h1, h2, h3, h4⟩ := co.own i d hg
    have hq : q ≠ p := fun z => by
      subst z
      exact hs i d hg h1
    exact ⟨q, h1, by rw [upd_ne hq]; exact h2, h3, h4.mono e1 fun _ h => h⟩
  · obtain ⟨k1, k2, k3, k4⟩ := co.awy q hq
    exact ⟨k1, by rw [upd_ne (hw q hq)]; exact k2, k3, k4⟩
theorem RpE.freeze {F : Fx} {σ : L2.St} {g : Env'} {Hf H : Hp} {v : V} {ds : List D} (co : Co F σ g Hf H) (r : RpE F σ g Hf H v (.own (.lst ds))) : ∃ Hf', Ex Hf Hf' ∧ Co F σ g Hf' H ∧ Rp F.R Hf' v (.lst ds) := by
  obtain ⟨p, rfl, h1, h2, h3, h4, hw, vs, h5, h6⟩ := r
  obtain ⟨e, co'⟩ := co.freeze h1 h5 h2 h4 hw
  exact ⟨_, e, co', .lst upd_same (h6.mono e)⟩
def frz (e : Ent) : Option D := match e with
  | .val d => some d
  | .own (.lst ds) => some (.lst ds)
  | .own _ => none
/-- an operand: a value that is frozen -/
def mD (m : M Ent) : M D := bnd m fun e => lift (frz e)
section
variable {X : Cx} {F : Fx} {rx : RX} {cal : Cal} {e a b : Expr} {m : M Ent} {ma mb : M D}
theorem DE.toD (h : DE X F rx cal e m) : DD X F rx cal e (mD m) := fun σ g Hf H co => by
  have h1 := h σ g Hf H co
  show Post X F rx σ Hf (relD F) ((m cal g).bnd fun a g' => lift (frz a) cal g') (wE X e σ H)
  cases hr : m cal g with
  | ok en g' =>
    rw [hr] at h1
    show Post X F rx σ Hf (relD F) (lift (frz en) cal g') (wE X e σ H)
    cases en with
    | val d => exact fun Q q => h1 Q fun v Hf' H' e1 co1 r => q v Hf' H' e1 co1 r
    | own d =>
      cases d with
      | lst ds =>
        exact fun Q q => h1 Q fun v Hf' H' e1 co1 r => by
          obtain ⟨Hf2, e2, co2, r2⟩ := RpE.freeze co1 r
          exact q v Hf2 H' (e1.trans e2) co2 r2
      | _ => trivial
  | exc x g' => rw [hr] at h1; exact h1
  | bad => trivial
theorem DD.toE (h : DD X F rx cal e ma) : DE X F rx cal e (bnd ma fun d => ret (.val d)) := fun σ g Hf H co => by
  have h1 := h σ g Hf H co
  show Post X F rx σ Hf (relE F σ) ((ma cal g).bnd fun a g' => .ok (.val a) g') (wE X e σ H)
  exact Post.map (k := id) h1 (fun a g' b Hf' H' _ _ _ r => r) fun Q q => q

/-! ### constants, names -/
def mK (d : D) : M D := ret d
theorem dd_int {i : Int} {j : Nat} {pos : Pos} : DD X F rx cal (.Constant (.int i) j pos) (mK (.int i)) := fun σ g Hf H co => Post.ok co (.int i) fun Q q => wE_of pe_int q
theorem dd_bl {i : Bool} {j : Nat} {pos : Pos} : DD X F rx cal (.Constant (.bool i) j pos) (mK (.bl i)) := fun σ g Hf H co => Post.ok co (.bl i) fun Q q => wE_of pe_bl q
theorem dd_non {j : Nat} {pos : Pos} : DD X F rx cal (.Constant .none j pos) (mK .non) := fun σ g Hf H co => Post.ok co .non fun Q q => wE_of pe_non q
theorem dd_str {x : Str} {j : Nat} {pos : Pos} : DD X F rx cal (.Constant (.str x) j pos) (mK (.str x.cps.toList)) := fun σ g Hf H co =>
  Post.ok (b := .str x) co (by have r := Rp.str (R := F.R) (H := Hf) x.cps.toList; exact r) fun Q q => wE_of pe_str q

/-- a name's slot: what is owned is frozen by being read as a value -/
def mV (i : Nat) : M D := fun _ g => match g[i]? with
  | some (.val d) => .ok d g
  | some (.own (.lst ds)) => .ok (.lst ds) (g.set i (.val (.lst ds)))
  | _ => .bad
theorem Co.frzSlot {F : Fx} {σ : L2.St} {g : Env'} {Hf H : Hp} {i : Nat} {ds : List D} (co : Co F σ g Hf H) (hg : g[i]? = some (.own (.lst ds))) (hi : F.io = none ∨ i ≠ 0) :
    ∃ v Hf', σ[i]? = some (some v) ∧ Ex Hf Hf' ∧ Co F σ (g.set i (.val (.lst ds))) Hf' H ∧ Rp F.R Hf' v (.lst ds) := by
  obtain ⟨p, h1, h2, h3, vs, h4, h5⟩ := co.own i _ hg
  have hlt : i < g.length := (List.getElem?_eq_some_iff.mp hg).1
  have nio : some p ≠ F.io := fun z => by
    rcases hi with hi | hi
    · rw [hi] at z; cases z
    · obtain ⟨k1, d0, k2⟩ := co.ios p z.symm
      exact hi (co.dist i 0 _ _ p hg k2 h1 k1)
  have h0 : F.H0 p = none := h3.resolve_left nio
  have e1 : Ex Hf (upd Hf p (.lst vs)) := Ex.new h2
  refine ⟨_, upd Hf p (.lst vs), h1, e1, ⟨by rw [List.length_set]; exact co.len, co.ex0.trans e1, Ex.up co.ex h4, fun a ha => ?_, co.pres, fun j d hj => ?_, fun j d hj => ?_, fun j k d d' q hj hk => ?_, fun q hq => ?_, fun q hq => ?_⟩, .lst upd_same (h5.mono e1)⟩
  · by_cases he : a = p
    · subst he
      exact .inr h0
    · rw [upd_ne he] at ha
      exact co.frz a ha
  · by_cases hij : i = j
    · subst hij
      rw [List.getElem?_set_self hlt] at hj
      cases hj
      exact ⟨_, h1, .lst upd_same (h5.mono e1)⟩
    · rw [List.getElem?_set_ne hij] at hj
      obtain ⟨v, k1, k2⟩ := co.val j d hj
      exact ⟨v, k1, k2.mono e1⟩
  · have hij : i ≠ j := fun z => by
      subst z
      rw [List.getElem?_set_self hlt] at hj
      cases hj
    rw [List.getElem?_set_ne hij] at hj
    obtain ⟨q, k1, k2, k3, k4⟩ := co.own j d hj
    have hq : q ≠ p := fun z => by
      subst z
      exact hij (co.dist i j _ _ _ hg hj h1 k1)
    exact ⟨q, k1, by rw [upd_ne hq]; exact k2, k3, k4.mono e1 fun _ h => h⟩
  · have hij : i ≠ j := fun z => by
      subst z
      rw [List.getElem?_set_self hlt] at hj
      cases hj
    have hik : i ≠ k := fun z => by
      subst z
      rw [List.getElem?_set_self hlt] at hk
      cases hk
    rw [List.getElem?_set_ne hij] at hj
    rw [List.getElem?_set_ne hik] at hk
    exact co.dist j k d d' q hj hk
  · obtain ⟨k1, k2, k3, k4⟩ := co.awy q hq
    have hqp : q.1 ≠ p := fun z => k4 i _ hg (by rw [z]; exact h1)
    refine ⟨k1, by rw [upd_ne hqp]; exact k2, k3, fun j d hj => ?_⟩
    have hij : i ≠ j := fun z => by
      subst z
      rw [List.getElem?_set_self hlt] at hj
      cases hj
    rw [List.getElem?_set_ne hij] at hj
    exact k4 j d hj
  · obtain ⟨k1, d0, k2⟩ := co.ios q hq
    have h0i : i ≠ 0 := by
      rcases hi with hi | hi
      · rw [hi] at hq; cases hq
      · exact hi
    exact ⟨k1, d0, by rw [List.getElem?_set_ne h0i]; exact k2⟩
theorem dd_var {i : Nat} {x : Str} {pos : Pos} (hN : X.N[i]? = some x) (hv : Vis X.env.scope x) (hi : F.io = none ∨ i ≠ 0) (hd : (x == ("__debug__" : Str)) = false) (hcd : (x == ("__classdict__" : Str)) = false) : DD X F rx cal (.Name x pos) (mV i) := fun σ g Hf H co => by
  unfold mV
  cases hg : g[i]? with
  | none => trivial
  | some sl =>
    cases sl with
    | no => trivial
    | val d =>
      obtain ⟨v, h1, h2⟩ := co.val i d hg
      exact Post.ok co h2 fun Q q => wE_of (pe_var hN hv hd hcd) ⟨v, h1, q⟩
    | own d =>
      cases d with
      | lst ds =>
        obtain ⟨v, Hf', h1, e1, co1, r1⟩ := co.frzSlot hg hi
        exact fun Q q => wE_of (pe_var hN hv hd hcd) ⟨v, h1, q v Hf' H e1 co1 r1⟩
      | _ => trivial
end
end Wb

set_option Elab.async false
set_option linter.all false
set_option maxRecDepth 100000
set_option maxHeartbeats 4000000
/-! Wb: operators over plain data. -/
namespace Wb
open PySem PySem.Spec PyProof.Rows L2

/-! ### new objects -/
section
variable {F : Fx} {σ : L2.St} {g : Env'} {Hf H : Hp} {p : Addr}
theorem Co.away (co : Co F σ g Hf H) (hp : H p = none) : Hf p = none ∧ F.H0 p = none ∧ some p ≠ F.io ∧ (∀ (i : Nat) d', g[i]? = some (.own d') → σ[i]? ≠ some (some (.ref p))) ∧ (∀ q ∈ F.aw, q.1 ≠ p) := by
  have hs : ∀ (i : Nat) d', g[i]? = some (.own d') → σ[i]? ≠ some (some (.ref p)) := fun i d' hg hσ => by
    obtain ⟨q, h1, _, _, t⟩ := co.own i d' hg
    rw [h1] at hσ
    cases hσ
    obtain ⟨o, e⟩ := t.some
    rw [hp] at e
    cases e
  have hio : some p ≠ F.io := fun z => by
    obtain ⟨h1, d, h2⟩ := co.ios p z.symm
    exact hs 0 d h2 h1
  have hw : ∀ q ∈ F.aw, q.1 ≠ p := fun q hq z => by
    obtain ⟨k1, _⟩ := co.awy q hq
    rw [z, hp] at k1
    cases k1
  refine ⟨fresh_back co.ex hp, ?_, hio, hs, hw⟩
  cases e : F.H0 p with
  | none => rfl
  | some o =>
    have := co.pres p o e hio
    rw [hp] at this
    cases this
theorem Co.newOwn (co : Co F σ g Hf H) (hp : H p = none) (o : HO) : Co F σ g Hf (upd H p o) := by
  obtain ⟨h1, h2, h3, h4, h5⟩ := co.away hp
  refine ⟨co.len, co.ex0, co.ex.trans (Ex.new hp), co.frz, fun a u e n => (Ex.new hp) a u (co.pres a u e n), co.val, fun i d hg => ?_, co.dist, fun q hq => ⟨(Ex.new hp) _ _ (co.awy q hq).1, (co.awy q hq).2⟩, co.ios⟩
  obtain ⟨q, k1, k2, k3, k4⟩ := co.own i d hg
  exact ⟨q, k1, k2, k3, k4.mono (Ex.refl _) fun u e => (Ex.new hp) q u e⟩
theorem Co.newFrz (co : Co F σ g Hf H) (hp : H p = none) (o : HO) : Ex Hf (upd Hf p o) ∧ Co F σ g (upd Hf p o) (upd H p o) := by
  obtain ⟨h1, h2, h3, h4, h5⟩ := co.away hp
  exact (co.newOwn hp o).freeze h1 upd_same h2 h4 h5
theorem Co.newList (co : Co F σ g Hf H) (hp : H p = none) {vs : List V} {ds : List D} (r : Rps F.R Hf vs ds) : RpE F σ g Hf (upd H p (.lst vs)) (.ref p) (.own (.lst ds)) := by
  obtain ⟨h1, h2, h3, h4, h5⟩ := co.away hp
  exact ⟨p, rfl, h1, h2, h3, h4, h5, vs, upd_same, r⟩
end

def lim : Nat := 16777216
theorem lim_eq : sizeLine = lim := sizeLine_eq
/-! ### data of the library -/
mutual
def toP : D → PyData
  | .non => .none
  | .bl b => .bool b
  | .int i => .int i
  | .str s => .str ⟨s.toArray⟩
  | .tup xs => .tuple (toPs xs)
  | .lst xs => .list (toPs xs)
  | .rol xs => .list (toPs xs)
  | .dic _ => .none
  | .fn _ => .none
def toPs : List D → List PyData
  | [] => []
  | x :: xs => toP x :: toPs xs
end
mutual
/-- data that is compared, n deep at most -/
def okD : Nat → D → Bool
  | _, .non => true
  | _, .bl _ => true
  | _, .int _ => true
  | _, .str s => s.all (· < 0x110000)
  | n + 1, .tup xs => okDs n xs
  | n + 1, .lst xs => okDs n xs
  | _, _ => false
def okDs : Nat → List D → Bool
  | _, [] => true
  | n, x :: xs => okD n x && okDs n xs
end
mutual
theorem Rp.dp {R : Rt} {H : Hp} : ∀ {n : Nat} {d : D} {v : V}, okD n d = true → Rp R H v d → Dp R.K H v (toP d)
  | _, .non, _, _, r => by cases r; exact .non
  | _, .bl b, _, _, r => by cases r; exact .bl b
  | _, .int i, _, _, r => by cases r; exact .int i
  | _, .str s, _, _, r => by cases r; exact .str _
  | n + 1, .tup xs, _, h, r => by
    cases r with
    | tup a b => rw [toP]; rw [okD] at h; exact .tup a (Rps.dp h b)
  | n + 1, .lst xs, _, h, r => by
    cases r with
    | lst a b => rw [toP]; rw [okD] at h; exact .lst (.inl (.inl a)) (Rps.dp h b)
  | 0, .tup xs, _, h, _ => by simp [okD] at h
  | 0, .lst xs, _, h, _ => by simp [okD] at h
  | 0, .rol xs, _, h, _ => by simp [okD] at h
  | n + 1, .rol xs, _, h, _ => by simp [okD] at h
  | 0, .dic xs, _, h, _ => by simp [okD] at h
  | n + 1, .dic xs, _, h, _ => by simp [okD] at h
  | 0, .fn xs, _, h, _ => by simp [okD] at h
  | n + 1, .fn xs, _, h, _ => by simp [okD] at h
theorem Rps.dp {R : Rt} {H : Hp} : ∀ {n : Nat} {ds : List D} {vs : List V}, okDs n ds = true → Rps R H vs ds → DpAll R.K H vs (toPs ds)
  | _, [], _, _, r => by cases r; rw [toPs]; exact .nil
  | n, d :: ds, _, h, r => by
    cases r with
    | cons a b =>
      rw [okDs, Bool.and_eq_true] at h
      rw [toPs]
      exact .cons (Rp.dp h.1 a) (Rps.dp h.2 b)
end
mutual
theorem okD_can : ∀ {n : Nat} {d : D}, okD n d = true → (toP d).canLay0 = true ∧ (toP d).depth ≤ n
  | _, .non, _ => by simp [toP, PyData.canLay0, PyData.depth]
  | _, .bl b, _ => by simp [toP, PyData.canLay0, PyData.depth]
  | _, .int i, _ => by simp [toP, PyData.canLay0, PyData.depth]
  | _, .str s, h => by
    simp only [okD] at h
    simp [toP, PyData.canLay0, PyData.depth, PyData.strOk]
    simpa using h
  | n + 1, .tup xs, h => by
    rw [okD] at h
    obtain ⟨h1, h2⟩ := okDs_can h
    rw [toP, PyData.canLay0, PyData.depth]
    exact ⟨h1, by omega⟩
  | n + 1, .lst xs, h => by
    rw [okD] at h
    obtain ⟨h1, h2⟩ := okDs_can h
    rw [toP, PyData.canLay0, PyData.depth]
    exact ⟨h1, by omega⟩
  | 0, .tup xs, h => by simp [okD] at h
  | 0, .lst xs, h => by simp [okD] at h
  | 0, .rol xs, h => by simp [okD] at h
  | n + 1, .rol xs, h => by simp [okD] at h
  | 0, .dic xs, h => by simp [okD] at h
  | n + 1, .dic xs, h => by simp [okD] at h
  | 0, .fn xs, h => by simp [okD] at h
  | n + 1, .fn xs, h => by simp [okD] at h
theorem okDs_can : ∀ {n : Nat} {ds : List D}, okDs n ds = true → PyData.canLayAll0 (toPs ds) = true ∧ PyData.depthAll (toPs ds) ≤ n
  | _, [], _ => by simp [toPs, PyData.canLayAll0, PyData.depthAll]
  | n, d :: ds, h => by
    rw [okDs, Bool.and_eq_true] at h
    obtain ⟨h1, h2⟩ := okD_can h.1
    obtain ⟨h3, h4⟩ := okDs_can h.2
    rw [toPs, PyData.canLayAll0, PyData.depthAll]
    exact ⟨by rw [h1, h3]; rfl, by omega⟩
end
mutual
/-- == of data -/
def eqv : D → D → Bool
  | .non, .non => true
  | .bl a, .bl b => a == b
  | .bl a, .int j => (if a then 1 else 0) == j
  | .int i, .bl b => i == (if b then 1 else 0)
  | .int i, .int j => decide (i = j)
  | .str x, .str y => decide (x = y)
  | .lst xs, .lst ys => eqvs xs ys
  | .tup xs, .tup ys => eqvs xs ys
  | _, _ => false
def eqvs : List D → List D → Bool
  | [], [] => true
  | x :: xs, y :: ys => eqv x y && eqvs xs ys
  | _, _ => false
end
theorem beq_S (x y : List Nat) : ((⟨x.toArray⟩ : Str) == ⟨y.toArray⟩) = decide (x = y) := SX.S_beq_eq
mutual
theorem eqv_toP : ∀ {n m : Nat} {d e : D}, okD n d = true → okD m e = true → PyData.eqv (toP d) (toP e) = eqv d e
  | n, m, d, e, hd, he => by
    cases d <;> cases e <;> (try cases n) <;> (try cases m) <;> (first | (simp [okD] at hd; done) | (simp [okD] at he; done) | skip) <;>
      first
        | (simp [toP, PyData.eqv, eqv, beq_S]; done)
        | (rw [toP, toP, PyData.eqv, eqv]; rw [okD] at hd he; exact eqvs_toP hd he)
        | (rw [toP, toP, PyData.eqv, eqv]; exact Bool.beq_eq_decide_eq ..)
theorem eqvs_toP : ∀ {n m : Nat} {ds es : List D}, okDs n ds = true → okDs m es = true → PyData.eqvAll (toPs ds) (toPs es) = eqvs ds es
  | _, _, [], [], _, _ => by simp [toPs, PyData.eqvAll, eqvs]
  | _, _, [], _ :: _, _, _ => by simp [toPs, PyData.eqvAll, eqvs]
  | _, _, _ :: _, [], _, _ => by simp [toPs, PyData.eqvAll, eqvs]
  | n, m, d :: ds, e :: es, hd, he => by
    rw [okDs, Bool.and_eq_true] at hd he
    rw [toPs, toPs, PyData.eqvAll, eqvs, eqv_toP hd.1 he.1, eqvs_toP hd.2 he.2]
end

/-! ### two operands -/
section
variable {X : Cx} {F : Fx} {rx : RX} {cal : Cal} {a b c : Expr} {ma mb mc : M D} {σ : L2.St} {g : Env'} {Hf H : Hp} {γ δ : Type}
theorem one {rel : Env' → Hp → Hp → δ → γ → Prop} {f : D → Option γ} {w : (δ → Hp → Prop) → Prop} {wk : V → Hp → (δ → Hp → Prop) → Prop}
    (ha : DD X F rx cal a ma) (co : Co F σ g Hf H)
    (hf : ∀ x da c g' Hf' H', Ex Hf Hf' → Co F σ g' Hf' H' → Rp F.R Hf' x da → f da = some c → Post X F rx σ Hf' rel (.ok c g') (wk x H'))
    (hw : ∀ Q, wE X a σ H (fun x H1 => wk x H1 Q) → w Q) : Post X F rx σ Hf rel ((bnd ma fun a => lift (f a)) cal g) w := by
  refine Post.bind (ha σ g Hf H co) (fun da g1 x Hf1 H1 _ e1 co1 r1 => ?_) hw
  show Post X F rx σ Hf1 rel (lift (f da) cal g1) (wk x H1)
  unfold lift
  cases hc : f da with
  | none => trivial
  | some c => exact hf x da c g1 Hf1 H1 e1 co1 r1 hc
theorem two {rel : Env' → Hp → Hp → δ → γ → Prop} {f : D → D → Option γ} {w : (δ → Hp → Prop) → Prop} {wk : V → V → Hp → (δ → Hp → Prop) → Prop}
    (ha : DD X F rx cal a ma) (hb : DD X F rx cal b mb) (co : Co F σ g Hf H)
    (hf : ∀ x y da db c g' Hf' H', Ex Hf Hf' → Co F σ g' Hf' H' → Rp F.R Hf' x da → Rp F.R Hf' y db → f da db = some c → Post X F rx σ Hf' rel (.ok c g') (wk x y H'))
    (hw : ∀ Q, wE X a σ H (fun x H1 => wE X b σ H1 (fun y H2 => wk x y H2 Q)) → w Q) : Post X F rx σ Hf rel ((bnd ma fun a => bnd mb fun b => lift (f a b)) cal g) w := by
  refine Post.bind (ha σ g Hf H co) (w2 := fun x H1 Q => wE X b σ H1 (fun y H2 => wk x y H2 Q)) (fun da g1 x Hf1 H1 _ e1 co1 r1 => ?_) hw
  refine Post.bind (hb σ g1 Hf1 H1 co1) (w2 := fun y H2 Q => wk x y H2 Q) (fun db g2 y Hf2 H2 _ e2 co2 r2 => ?_) fun Q q => q
  show Post X F rx σ Hf2 rel (lift (f da db) cal g2) (wk x y H2)
  unfold lift
  cases hc : f da db with
  | none => trivial
  | some c => exact hf x y da db c g2 Hf2 H2 (e1.trans e2) co2 (r1.mono e2) r2 hc
/-- a value that needs nothing of the heap -/
theorem Post.pure {d : D} {v : V} {w : VK → Prop} (co : Co F σ g Hf H) (r : Rp F.R Hf v d) (h : ∀ Q : VK, Q v H → w Q) : Post X F rx σ Hf (relE F σ) (.ok (.val d) g) w := Post.ok (a := Ent.val d) co r h
/-- a new list -/
theorem Post.list {ds : List D} {vs : List V} {w : VK → Prop} (co : Co F σ g Hf H) (r : Rps F.R Hf vs ds) (h : ∀ Q : VK, (∀ p, H p = none → Q (.ref p) (upd H p (.lst vs))) → w Q) : Post X F rx σ Hf (relE F σ) (.ok (.own (.lst ds)) g) w :=
  fun Q q => h Q fun p hp => q _ Hf _ (Ex.refl _) (co.newOwn hp _) (co.newList hp r)
/-- a new tuple -/
theorem Post.tuple {ds : List D} {vs : List V} {w : VK → Prop} (co : Co F σ g Hf H) (r : Rps F.R Hf vs ds) (h : ∀ Q : VK, (∀ p, H p = none → Q (.ref p) (upd H p (.tup vs))) → w Q) : Post X F rx σ Hf (relE F σ) (.ok (.val (.tup ds)) g) w :=
  fun Q q => h Q fun p hp => by
    obtain ⟨e, co'⟩ := co.newFrz hp (.tup vs)
    exact q _ _ _ e co' (.tup (.inl (.inl upd_same)) (r.mono e))
end

/-! ### binary operators -/
def addD : D → D → Option Ent
  | .int a, .int b => some (.val (.int (a + b)))
  | .str a, .str b => if a.length + b.length ≤ lim then some (.val (.str (a ++ b))) else none
  | .lst a, .lst b => if a.length + b.length ≤ lim then some (.own (.lst (a ++ b))) else none
  | .tup a, .tup b => if a.length + b.length ≤ lim then some (.val (.tup (a ++ b))) else none
  | _, _ => none
def subD : D → D → Option Ent
  | .int a, .int b => some (.val (.int (a - b)))
  | _, _ => none
def mulD : D → D → Option Ent
  | .int a, .int b => if (-(2 ^ 64) < a ∧ a < 2 ^ 64) ∨ (-(2 ^ 64) < b ∧ b < 2 ^ 64) then some (.val (.int (a * b))) else none
  | .str s, .int n => if 0 ≤ n ∧ n ≤ 1000 ∧ s.length ≤ 1000 then some (.val (.str (List.replicate n.toNat s).flatten)) else none
  | .lst xs, .int n => if 0 ≤ n ∧ n ≤ 1000 ∧ xs.length ≤ 1000 then some (.own (.lst (List.replicate n.toNat xs).flatten)) else none
  | .tup xs, .int n => if 2 ≤ n ∧ n ≤ 1000 ∧ xs.length ≤ 1000 ∧ 1 ≤ xs.length then some (.val (.tup (List.replicate n.toNat xs).flatten)) else none
  | _, _ => none
def divD : D → D → Option Ent
  | .int a, .int b => if 0 < b ∧ b < 1073741824 then some (.val (.int (a / b))) else none
  | _, _ => none
def modD : D → D → Option Ent
  | .int a, .int b => if 0 < b then some (.val (.int (a % b))) else none
  | _, _ => none
def shlD : D → D → Option Ent
  | .int a, .int b => if 0 ≤ b ∧ b ≤ 1000000 ∧ a.natAbs < 2 ^ 64 then some (.val (.int (a * 2 ^ b.toNat))) else none
  | _, _ => none
def binD (op : Operator) (x y : D) : Option Ent := match op with
  | .Add => addD x y
  | .Sub => subD x y
  | .Mult => mulD x y
  | .FloorDiv => divD x y
  | .Mod => modD x y
  | .LShift => shlD x y
  | _ => none
theorem rep_S (s : List Nat) (n : Nat) : (List.replicate n s.toArray).foldl (· ++ ·) #[] = (List.replicate n s).flatten.toArray := by
  have h : ∀ (k : Nat) (acc : List Nat), (List.replicate k s.toArray).foldl (· ++ ·) acc.toArray = (acc ++ (List.replicate k s).flatten).toArray := by
    intro k
    induction k with
    | zero => intro acc; simp
    | succ k ih =>
      intro acc
      rw [List.replicate_succ, List.foldl_cons, List.append_toArray, ih, List.replicate_succ, List.flatten_cons, List.append_assoc]
  exact h n []
section
variable {X : Cx} {F : Fx} {rx : RX} {cal : Cal} {σ : L2.St} {g : Env'} {Hf H : Hp} {x y : V} {da db : D} {en : Ent}
theorem op_mul_str : OpR X (binaryOp .Mult) (fun x y H Q => ∃ (s : List Nat) (n : Int), x = .str ⟨s.toArray⟩ ∧ y = .int n ∧ 0 ≤ n ∧ n ≤ 1000 ∧ s.length ≤ 1000 ∧ Q (.str ⟨(List.replicate n.toNat s).flatten.toArray⟩) H) := by
  intro pins s σ H x y v u Q I rx ry h
  obtain ⟨z, n, rfl, rfl, h0, h1, h2, q⟩ := h
  obtain ⟨t, rfl⟩ := rx
  obtain ⟨t', rfl⟩ := ry
  have hl : (⟨z.toArray⟩ : Str).length = z.length := by simp [Str.length]
  refine PySem.SB.mul ⟨?_, fun hn hx => ?_, fun hn hx => ?_⟩ fun tk k => ?_
  · rw [decide_eq_false (by omega), decide_eq_false (by omega)] <;> rfl
  · rw [hl]
    have hn1 : 1 ≤ n := by omega
    intro hgt
    have h3 : (2 ^ 63 - 1 : Int) / n < (z.length : Int) := hgt
    have h4 : (2 ^ 63 - 1 : Int) < (z.length : Int) * n := by
      have := Int.lt_mul_of_ediv_lt (show 0 < n by omega) h3
      exact this
    have h5 : (z.length : Int) * n ≤ 1000 * 1000 := Int.mul_le_mul (by omega) h1 h0 (by omega)
    omega
  · rw [hl]
    have h5 : z.length * n.toNat ≤ 1000 * 1000 := Nat.mul_le_mul h2 (by omega)
    unfold Builtin.Str.tooLong
    exact decide_eq_false (by rw [sizeLine_eq]; omega)
  · refine ⟨.str ⟨(List.replicate n.toNat z).flatten.toArray⟩, H, I.tok _, ⟨tk, ?_⟩, q⟩
    unfold PySem.Txt.mul
    by_cases hn : n < 1
    · rw [if_pos hn]
      have : n = 0 := by omega
      subst this
      rfl
    · rw [if_neg hn]
      by_cases hc : (n == 1 || (⟨z.toArray⟩ : Str).length == 0) = true
      · rw [if_pos hc]
        rw [Bool.or_eq_true] at hc
        rcases hc with hc | hc
        · have : n = 1 := by simpa using hc
          subst this
          simp
        · rw [hl] at hc
          have : z = [] := List.eq_nil_of_length_eq_zero (by simpa using hc)
          subst this
          simp
      · rw [if_neg hc, rep_S]
theorem add_ok (co : Co F σ g Hf H) (r1 : Rp F.R Hf x da) (r2 : Rp F.R Hf y db) (hK : F.R.K = X.K) (h : addD da db = some en) : Post X F rx σ Hf (relE F σ) (.ok en g) (wO X (binaryOp .Add) x y H) := by
  unfold addD at h
  split at h
  · cases h; cases r1; cases r2
    exact Post.pure co (.int _) fun Q q => wO_of op_add ⟨_, _, rfl, rfl, q⟩
  · split at h
    · cases h; cases r1; cases r2
      rename_i hz
      refine Post.pure co (.str _) fun Q q => wO_of op_add_str ⟨_, _, rfl, rfl, ?_, ?_⟩
      · rw [lim_eq]; simpa [Str.length] using hz
      · have e : (⟨‹List Nat›.toArray⟩ : Str) ++ ⟨‹List Nat›.toArray⟩ = _ := SX.S_cat _ _
        first | (rw [SX.S_cat]; exact q) | (erw [SX.S_cat]; exact q)
    · cases h
  · split at h
    · cases h
      rename_i hz
      cases r1 with
      | lst a1 b1 =>
        cases r2 with
        | lst a2 b2 =>
          refine Post.list co (b1.append b2) fun Q q => wO_of op_cat ⟨_, _, _, _, rfl, rfl, co.ex _ _ a1, co.ex _ _ a2, ?_, q⟩
          rw [lim_eq, b1.length, b2.length]
          exact hz
    · cases h
  · split at h
    · cases h
      rename_i hz
      cases r1 with
      | tup a1 b1 =>
        cases r2 with
        | tup a2 b2 =>
          rename_i xs ys _ va vxs vb vys
          rw [hK] at a1 a2
          have t1 : SqT X.K H va vxs := ex_t co.ex a1
          have t2 : SqT X.K H vb vys := ex_t co.ex a2
          have hzz : vxs.length + vys.length ≤ sizeLine := by rw [lim_eq, b1.length, b2.length]; exact hz
          by_cases e1 : vxs = []
          · subst e1
            cases b1
            exact Post.pure co (.tup (by rw [hK]; exact a2) b2) fun Q q => wO_of op_catA ⟨_, _, _, _, rfl, rfl, t1, t2, hzz, fun _ => q, fun z => absurd rfl z, fun z => absurd rfl z⟩
          · by_cases e2 : vys = []
            · subst e2
              cases b2
              rw [List.append_nil]
              exact Post.pure co (.tup (by rw [hK]; exact a1) b1) fun Q q => wO_of op_catA ⟨_, _, _, _, rfl, rfl, t1, t2, hzz, fun z => absurd z e1, fun _ _ => q, fun _ z => absurd rfl z⟩
            · exact Post.tuple co (b1.append b2) fun Q q => wO_of op_catA ⟨_, _, _, _, rfl, rfl, t1, t2, hzz, fun z => absurd z e1, fun _ z => absurd z e2, fun _ _ => q⟩
    · cases h
  · cases h
end
end Wb

set_option Elab.async false
set_option linter.all false
set_option maxRecDepth 100000
set_option maxHeartbeats 4000000
/-! Wb: operators, comparisons. -/
namespace Wb
open PySem PySem.Spec PyProof.Rows L2
theorem Rps.rep {R : Rt} {H : Hp} {vs : List V} {ds : List D} (h : Rps R H vs ds) : ∀ k : Nat, Rps R H (List.replicate k vs).flatten (List.replicate k ds).flatten
  | 0 => .nil
  | k + 1 => by
    rw [List.replicate_succ, List.replicate_succ, List.flatten_cons, List.flatten_cons]
    exact h.append (Rps.rep h k)
section
variable {X : Cx} {F : Fx} {rx : RX} {cal : Cal} {σ : L2.St} {g : Env'} {Hf H : Hp} {x y : V} {da db : D} {en : Ent}
theorem sub_ok (co : Co F σ g Hf H) (r1 : Rp F.R Hf x da) (r2 : Rp F.R Hf y db) (h : subD da db = some en) : Post X F rx σ Hf (relE F σ) (.ok en g) (wO X (binaryOp .Sub) x y H) := by
  unfold subD at h
  split at h
  · cases h; cases r1; cases r2
    exact Post.pure co (.int _) fun Q q => wO_of op_sub ⟨_, _, rfl, rfl, q⟩
  · cases h
theorem div_ok (co : Co F σ g Hf H) (r1 : Rp F.R Hf x da) (r2 : Rp F.R Hf y db) (h : divD da db = some en) : Post X F rx σ Hf (relE F σ) (.ok en g) (wO X (binaryOp .FloorDiv) x y H) := by
  unfold divD at h
  split at h
  · split at h
    · cases h; cases r1; cases r2
      rename_i hc
      exact Post.pure co (.int _) fun Q q => wO_of op_fdiv ⟨_, _, rfl, rfl, hc, q⟩
    · cases h
  · cases h
theorem mod_ok (co : Co F σ g Hf H) (r1 : Rp F.R Hf x da) (r2 : Rp F.R Hf y db) (h : modD da db = some en) : Post X F rx σ Hf (relE F σ) (.ok en g) (wO X (binaryOp .Mod) x y H) := by
  unfold modD at h
  split at h
  · split at h
    · cases h; cases r1; cases r2
      rename_i hc
      exact Post.pure co (.int _) fun Q q => wO_of op_mod ⟨_, _, rfl, rfl, hc, q⟩
    · cases h
  · cases h
theorem shl_ok (co : Co F σ g Hf H) (r1 : Rp F.R Hf x da) (r2 : Rp F.R Hf y db) (h : shlD da db = some en) : Post X F rx σ Hf (relE F σ) (.ok en g) (wO X (binaryOp .LShift) x y H) := by
  unfold shlD at h
  split at h
  · split at h
    · cases h; cases r1; cases r2
      rename_i hc
      exact Post.pure co (.int _) fun Q q => wO_of op_shl ⟨_, _, rfl, rfl, hc, q⟩
    · cases h
  · cases h
theorem mul_ok (co : Co F σ g Hf H) (r1 : Rp F.R Hf x da) (r2 : Rp F.R Hf y db) (hK : F.R.K = X.K) (h : mulD da db = some en) : Post X F rx σ Hf (relE F σ) (.ok en g) (wO X (binaryOp .Mult) x y H) := by
  unfold mulD at h
  split at h
  · split at h
    · cases h; cases r1; cases r2
      rename_i hc
      exact Post.pure co (.int _) fun Q q => wO_of op_mul ⟨_, _, rfl, rfl, hc, q⟩
    · cases h
  · split at h
    · cases h; cases r1; cases r2
      rename_i hc
      exact Post.pure co (.str _) fun Q q => wO_of op_mul_str ⟨_, _, rfl, rfl, hc.1, hc.2.1, hc.2.2, q⟩
    · cases h
  · split at h
    · cases h
      rename_i hc
      cases r1 with
      | lst a1 b1 =>
        cases r2
        refine Post.list co (b1.rep _) fun Q q => wO_of op_rep ⟨_, _, _, rfl, rfl, co.ex _ _ a1, by omega, by omega, ?_, q⟩
        rw [b1.length, sizeLine_eq]
        exact Nat.le_trans (Nat.mul_le_mul hc.2.2 (show _ ≤ 1000 by omega)) (by decide)
    · cases h
  · split at h
    · cases h
      rename_i hc
      cases r1 with
      | tup a1 b1 =>
        cases r2
        rw [hK] at a1
        have hl := b1.length
        refine Post.tuple co (b1.rep _) fun Q q => wO_of op_repT ⟨_, _, _, rfl, rfl, ex_t co.ex a1, fun z => ?_, hc.1, hc.2.1, by omega, q⟩
        rw [z] at hl
        have : (0 : Nat) = _ := hl
        omega
    · cases h
  · cases h
theorem bin_ok {op : Operator} (co : Co F σ g Hf H) (r1 : Rp F.R Hf x da) (r2 : Rp F.R Hf y db) (hK : F.R.K = X.K) (h : binD op da db = some en) : Post X F rx σ Hf (relE F σ) (.ok en g) (wO X (binaryOp op) x y H) := by
  unfold binD at h
  split at h
  · exact add_ok co r1 r2 hK h
  · exact sub_ok co r1 r2 h
  · exact mul_ok co r1 r2 hK h
  · exact div_ok co r1 r2 h
  · exact mod_ok co r1 r2 h
  · exact shl_ok co r1 r2 h
  · cases h
def mBin (op : Operator) (ma mb : M D) : M Ent := bnd ma fun a => bnd mb fun b => lift (binD op a b)
theorem de_bin {op : Operator} {a b : Expr} {ma mb : M D} {pos : Pos} (hK : F.R.K = X.K) (ha : DD X F rx cal a ma) (hb : DD X F rx cal b mb) : DE X F rx cal (.BinOp a op b pos) (mBin op ma mb) := fun σ g Hf H co =>
  two ha hb co (fun x y da db c g' Hf' H' _ co' r1 r2 hc => bin_ok co' r1 r2 hK hc) fun Q q => wE_of (pe_op or_w pe_w pe_w) q
end

/-! ### comparisons -/
def dp : Nat := 30
def memD (x : D) (ys : List D) : Bool := ys.any fun z => eqv z x
def ltS (a b : List Nat) : Bool := decide (a < b)
def inD : D → D → Option Bool
  | x, .lst ys => if okD dp x && okDs dp ys then some (memD x ys) else none
  | x, .tup ys => if okD dp x && okDs dp ys then some (memD x ys) else none
  | .str [c], .str z => some (decide (c ∈ z))
  | _, _ => none
def isNon : D → Bool
  | .non => true
  | _ => false
def cmpD (op : CmpOp) (x y : D) : Option Bool := match op with
  | .Eq => if okD dp x && okD dp y then some (eqv x y) else none
  | .NotEq => if okD dp x && okD dp y then some (!eqv x y) else none
  | .Lt => match x, y with
    | .int a, .int b => some (decide (a < b))
    | .str a, .str b => some (ltS a b)
    | _, _ => none
  | .LtE => match x, y with
    | .int a, .int b => some (decide (a ≤ b))
    | .str a, .str b => some (!ltS b a)
    | _, _ => none
  | .Gt => match x, y with
    | .int a, .int b => some (decide (b < a))
    | .str a, .str b => some (ltS b a)
    | _, _ => none
  | .GtE => match x, y with
    | .int a, .int b => some (decide (b ≤ a))
    | .str a, .str b => some (!ltS a b)
    | _, _ => none
  | .In => inD x y
  | .NotIn => (inD x y).map (!·)
  | .Is => match y with
    | .non => some (isNon x)
    | _ => none
  | .IsNot => match y with
    | .non => some (!isNon x)
    | _ => none
theorem okD_shaped {n : Nat} {d : D} (h : okD n d = true) (hn : n ≤ 64) : SeqAt.shaped (toP d) = true := by
  obtain ⟨h1, h2⟩ := okD_can h
  unfold SeqAt.shaped
  rw [h1, decide_eq_true (by omega)] <;> rfl
theorem any_toPs (d : D) (n : Nat) (hd : okD n d = true) : ∀ (ys : List D) (m : Nat), okDs m ys = true → ((toPs ys).any fun z => PyData.eqv z (toP d)) = memD d ys
  | [], _, _ => by simp [toPs, memD]
  | y :: ys, m, h => by
    rw [okDs, Bool.and_eq_true] at h
    have ih := any_toPs d n hd ys m h.2
    unfold memD at ih ⊢
    rw [toPs, List.any_cons, List.any_cons, ih, eqv_toP h.1 hd]
section
variable {X : Cx} {F : Fx} {rx : RX} {cal : Cal} {σ : L2.St} {g : Env'} {Hf H : Hp} {x y : V} {da db : D} {k : Bool}
theorem Post.bool {w : VK → Prop} (co : Co F σ g Hf H) (h : ∀ Q : VK, Q (.bl k) H → w Q) : Post X F rx σ Hf (relD F) (.ok (.bl k) g) w := Post.ok co (.bl k) h
theorem in_ok (hu : X.A.units + 64 < cLine) (hK : F.R.K = X.K) (co : Co F σ g Hf H) (r1 : Rp F.R Hf x da) (r2 : Rp F.R Hf y db) (h : inD da db = some k) : ∀ Q : VK, Q (.bl k) H → wO X (compareOp .In) x y H Q := by
  intro Q q
  unfold inD at h
  split at h
  · split at h
    · cases h
      rename_i hc
      rw [Bool.and_eq_true] at hc
      rw [← any_toPs _ _ hc.1 _ _ hc.2] at q
      have e1 := Rp.dp hc.1 (r1.mono co.ex)
      have e2 := Rp.dp (n := dp + 1) (d := .lst _) (by rw [okD]; exact hc.2) (r2.mono co.ex)
      rw [hK] at e1 e2
      rw [toP] at e2
      intro pins s σ' v u I rx ry
      obtain ⟨as, q1⟩ := Dp.reads I _ x v e1 rx
      obtain ⟨bs, q2⟩ := Dp.reads I _ y u e2 ry
      obtain ⟨c1, c2⟩ := okD_can hc.1
      obtain ⟨c3, c4⟩ := okDs_can hc.2
      exact SeqAt.in_list_reads q2 q1 c3 c1 (by have : dp = 30 := rfl; omega) ⟨.bl _, H, I, rfl, q⟩
    · cases h
  · split at h
    · cases h
      rename_i hc
      rw [Bool.and_eq_true] at hc
      rw [← any_toPs _ _ hc.1 _ _ hc.2] at q
      have e1 := Rp.dp hc.1 (r1.mono co.ex)
      have e2 := Rp.dp (n := dp + 1) (d := .tup _) (by rw [okD]; exact hc.2) (r2.mono co.ex)
      rw [hK] at e1 e2
      rw [toP] at e2
      intro pins s σ' v u I rx ry
      obtain ⟨as, q1⟩ := Dp.reads I _ x v e1 rx
      obtain ⟨bs, q2⟩ := Dp.reads I _ y u e2 ry
      obtain ⟨c1, c2⟩ := okD_can hc.1
      obtain ⟨c3, c4⟩ := okDs_can hc.2
      exact SeqAt.in_tuple_reads q2 q1 c3 c1 (by have : dp = 30 := rfl; omega) ⟨.bl _, H, I, rfl, q⟩
    · cases h
  · cases h; cases r1; cases r2
    exact wO_of op_in_sign ⟨_, _, rfl, rfl, q⟩
  · cases h
theorem notin_ok (hu : X.A.units + 64 < cLine) (hK : F.R.K = X.K) (co : Co F σ g Hf H) (r1 : Rp F.R Hf x da) (r2 : Rp F.R Hf y db) (h : inD da db = some k) : ∀ Q : VK, Q (.bl (!k)) H → wO X (compareOp .NotIn) x y H Q := by
  intro Q q
  unfold inD at h
  split at h
  · split at h
    · cases h
      rename_i hc
      rw [Bool.and_eq_true] at hc
      rw [← any_toPs _ _ hc.1 _ _ hc.2] at q
      have e1 := Rp.dp hc.1 (r1.mono co.ex)
      have e2 := Rp.dp (n := dp + 1) (d := .lst _) (by rw [okD]; exact hc.2) (r2.mono co.ex)
      rw [hK] at e1 e2
      rw [toP] at e2
      intro pins s σ' v u I rx ry
      obtain ⟨as, q1⟩ := Dp.reads I _ x v e1 rx
      obtain ⟨bs, q2⟩ := Dp.reads I _ y u e2 ry
      obtain ⟨c1, c2⟩ := okD_can hc.1
      obtain ⟨c3, c4⟩ := okDs_can hc.2
      exact SeqAt.notIn_list_reads q2 q1 c3 c1 (by have : dp = 30 := rfl; omega) ⟨.bl _, H, I, rfl, q⟩
    · cases h
  · split at h
    · cases h
      rename_i hc
      rw [Bool.and_eq_true] at hc
      rw [← any_toPs _ _ hc.1 _ _ hc.2] at q
      have e1 := Rp.dp hc.1 (r1.mono co.ex)
      have e2 := Rp.dp (n := dp + 1) (d := .tup _) (by rw [okD]; exact hc.2) (r2.mono co.ex)
      rw [hK] at e1 e2
      rw [toP] at e2
      intro pins s σ' v u I rx ry
      obtain ⟨as, q1⟩ := Dp.reads I _ x v e1 rx
      obtain ⟨bs, q2⟩ := Dp.reads I _ y u e2 ry
      obtain ⟨c1, c2⟩ := okD_can hc.1
      obtain ⟨c3, c4⟩ := okDs_can hc.2
      exact SeqAt.notIn_tuple_reads q2 q1 c3 c1 (by have : dp = 30 := rfl; omega) ⟨.bl _, H, I, rfl, q⟩
    · cases h
  · cases h; cases r1; cases r2
    exact wO_of op_notIn_sign ⟨_, _, rfl, rfl, q⟩
  · cases h
theorem Rp.non_iff {R : Rt} {H : Hp} {v : V} {d : D} (r : Rp R H v d) : decide (v = .non) = isNon d := by
  cases r <;> rfl
theorem Rp.non_iff' {R : Rt} {H : Hp} {v : V} {d : D} (r : Rp R H v d) : (!decide (v = .non)) = !isNon d := by
  cases r <;> rfl
theorem cmp_ok {op : CmpOp} (hu : X.A.units + 64 < cLine) (hK : F.R.K = X.K) (co : Co F σ g Hf H) (r1 : Rp F.R Hf x da) (r2 : Rp F.R Hf y db) (h : cmpD op da db = some k) : ∀ Q : VK, Q (.bl k) H → wO X (compareOp op) x y H Q := by
  intro Q q
  unfold cmpD at h
  split at h
  · split at h
    · cases h
      rename_i hc
      rw [Bool.and_eq_true] at hc
      have e1 := Rp.dp hc.1 (r1.mono co.ex)
      have e2 := Rp.dp hc.2 (r2.mono co.ex)
      rw [hK] at e1 e2
      exact wO_of (op_eqD hu) ⟨_, _, e1, e2, okD_shaped hc.1 (by decide), okD_shaped hc.2 (by decide), by rw [eqv_toP hc.1 hc.2]; exact q⟩
    · cases h
  · split at h
    · cases h
      rename_i hc
      rw [Bool.and_eq_true] at hc
      have e1 := Rp.dp hc.1 (r1.mono co.ex)
      have e2 := Rp.dp hc.2 (r2.mono co.ex)
      rw [hK] at e1 e2
      exact wO_of (op_neD hu) ⟨_, _, e1, e2, okD_shaped hc.1 (by decide), okD_shaped hc.2 (by decide), by rw [eqv_toP hc.1 hc.2]; exact q⟩
    · cases h
  · split at h
    · cases h; cases r1; cases r2
      exact wO_of op_lt ⟨_, _, rfl, rfl, q⟩
    · cases h; cases r1; cases r2
      exact wO_of op_lt_str ⟨_, _, rfl, rfl, q⟩
    · cases h
  · split at h
    · cases h; cases r1; cases r2
      exact wO_of op_le ⟨_, _, rfl, rfl, q⟩
    · cases h; cases r1; cases r2
      exact wO_of op_le_str ⟨_, _, rfl, rfl, q⟩
    · cases h
  · split at h
    · cases h; cases r1; cases r2
      exact wO_of op_gt ⟨_, _, rfl, rfl, q⟩
    · cases h; cases r1; cases r2
      exact wO_of op_gt_str ⟨_, _, rfl, rfl, q⟩
    · cases h
  · split at h
    · cases h; cases r1; cases r2
      exact wO_of op_ge ⟨_, _, rfl, rfl, q⟩
    · cases h; cases r1; cases r2
      exact wO_of op_ge_str ⟨_, _, rfl, rfl, q⟩
    · cases h
  · exact in_ok hu hK co r1 r2 h Q q
  · obtain ⟨k', h1, rfl⟩ := Option.map_eq_some_iff.mp h
    exact notin_ok hu hK co r1 r2 h1 Q q
  · split at h
    · cases h; cases r2
      exact wO_of op_isN ⟨rfl, by rw [r1.non_iff]; exact q⟩
    · cases h
  · split at h
    · cases h; cases r2
      exact wO_of op_notN ⟨rfl, by rw [r1.non_iff']; exact q⟩
    · cases h
end

/-- a comparison, a chain of two -/
def mCmp (op : CmpOp) (ma mb : M D) : M Bool := bnd ma fun a => bnd mb fun b => lift (cmpD op a b)
def mChain (op op' : CmpOp) (ma mb mc : M D) : M Bool := bnd ma fun a => bnd mb fun b => bnd (lift (cmpD op a b)) fun k => if k then bnd mc fun c => lift (cmpD op' b c) else ret false
/-- a truth as a value -/
def mBl (m : M Bool) : M D := bnd m fun k => ret (.bl k)
/-- a value as a truth -/
def truD : D → Option Bool
  | .bl k => some k
  | _ => none
def mTr (m : M D) : M Bool := bnd m fun d => lift (truD d)
def mNot (m : M Bool) : M Bool := bnd m fun k => ret (!k)
def mAnd (m n : M Bool) : M Bool := bnd m fun k => if k then n else ret false
def mOr (m n : M Bool) : M Bool := bnd m fun k => if k then ret true else n
def mIf {α : Type} (t : M Bool) (m n : M α) : M α := bnd t fun k => if k then m else n
section
variable {X : Cx} {F : Fx} {rx : RX} {cal : Cal} {a b c t : Expr} {ma mb mc : M D} {mt mu : M Bool} {pos : Pos} {rest : List Expr}
/-- what a comparison gives is a truth, as a value and as a test -/
def DC (X : Cx) (F : Fx) (rx : RX) (cal : Cal) (e : Expr) (m : M Bool) : Prop := DD X F rx cal e (mBl m) ∧ DT X F rx cal e m
theorem bl_map {σ : L2.St} {g : Env'} {Hf : Hp} {r : Res Bool} {w : (Bool → Hp → Prop) → Prop} {w' : VK → Prop} (h : Post X F rx σ Hf relB r w) (hw : ∀ Q : VK, w (fun k H' => Q (.bl k) H') → w' Q) :
    Post X F rx σ Hf (relD F) (r.bnd fun k g' => .ok (.bl k) g') w' :=
  Post.map (k := V.bl) h (fun a g' b Hf' H' _ _ _ e => by cases e; exact .bl _) hw
theorem dc_cmp {op : CmpOp} (hu : X.A.units + 64 < cLine) (hK : F.R.K = X.K) (hm : behindInMarks op b = false) (ha : DD X F rx cal a ma) (hb : DD X F rx cal b mb) : DC X F rx cal (.Compare a [op] [b] pos) (mCmp op ma mb) := by
  have core : ∀ {σ : L2.St} {g : Env'} {Hf H : Hp} (co : Co F σ g Hf H), Post X F rx σ Hf relB (mCmp op ma mb cal g) (fun Q => wE X a σ H (fun x H1 => wE X b σ H1 (fun y H2 => wO X (compareOp op) x y H2 fun z H3 => ∃ k, z = .bl k ∧ Q k H3))) :=
    fun {σ g Hf H} co => two (wk := fun x y H2 Q => wO X (compareOp op) x y H2 fun z H3 => ∃ k, z = .bl k ∧ Q k H3) ha hb co (fun x y da db k g' Hf' H' _ co' r1 r2 hc => Post.ok co' rfl fun Q q => cmp_ok hu hK co' r1 r2 hc _ ⟨k, rfl, q⟩) fun Q q => q
  refine ⟨fun σ g Hf H co => ?_, fun σ g Hf H co => ?_⟩
  · refine bl_map (g := g) (core co) fun Q q => wE_of (pe_cmpR or_w pe_w pe_w hm) ?_
    intro pins s I
    refine thn (q pins s I) fun v s1 ⟨x, H1, I1, r1, q1⟩ => ⟨x, H1, I1, r1, fun pins2 s2 I2 => ?_⟩
    refine thn (q1 pins2 s2 I2) fun v s1 ⟨x, H1, I1, r1, q1⟩ => ⟨x, H1, I1, r1, fun pins s σ' v u I rx ry => ?_⟩
    exact thn (q1 pins s σ' v u I rx ry) fun v s1 ⟨x, H1, I1, r1, k, e, q1⟩ => ⟨x, H1, I1, r1, by rw [e]; exact q1⟩
  · exact (core co).imp fun Q q => wT_of (pt_cmpR or_w pe_w pe_w hm) q
theorem dc_chain {op op' : CmpOp} (hu : X.A.units + 64 < cLine) (hK : F.R.K = X.K) (hm : lastMarks [op, op'] [b, c] = false) (ha : DD X F rx cal a ma) (hb : DD X F rx cal b mb) (hc : DD X F rx cal c mc) :
    DC X F rx cal (.Compare a [op, op'] [b, c] pos) (mChain op op' ma mb mc) := by
  have core : ∀ {σ : L2.St} {g : Env'} {Hf H : Hp} (co : Co F σ g Hf H), Post X F rx σ Hf relB (mChain op op' ma mb mc cal g) (fun Q => tChain (wO X (compareOp op)) (wO X (compareOp op')) (wE X a) (wE X b) (wE X c) σ H (fun z H3 => ∃ k, z = .bl k ∧ Q k H3)) := by
    intro σ g Hf H co
    refine Post.bind (ha σ g Hf H co) (w2 := fun x H1 Q => wE X b σ H1 fun y H2 => wO X (compareOp op) x y H2 fun z H3 => ∃ k, z = .bl k ∧ (if k = true then wE X c σ H3 fun w' H4 => wO X (compareOp op') y w' H4 (fun z H3 => ∃ k, z = .bl k ∧ Q k H3) else (∃ k', V.bl false = .bl k' ∧ Q k' H3))) (fun da g1 x Hf1 H1 _ e1 co1 r1 => ?_) fun Q q => q
    refine Post.bind (hb σ g1 Hf1 H1 co1) (w2 := fun y H2 Q => wO X (compareOp op) x y H2 fun z H3 => ∃ k, z = .bl k ∧ (if k = true then wE X c σ H3 fun w' H4 => wO X (compareOp op') y w' H4 (fun z H3 => ∃ k, z = .bl k ∧ Q k H3) else (∃ k', V.bl false = .bl k' ∧ Q k' H3))) (fun db g2 y Hf2 H2 _ e2 co2 r2 => ?_) fun Q q => q
    show Post X F rx σ Hf2 relB ((lift (cmpD op da db) cal g2).bnd _) _
    unfold lift
    cases hk : cmpD op da db with
    | none => trivial
    | some k =>
      show Post X F rx σ Hf2 relB ((if k then bnd mc fun c => lift (cmpD op' db c) else ret false) cal g2) _
      cases k with
      | false =>
        show Post X F rx σ Hf2 relB (.ok false g2) _
        exact Post.ok co2 rfl fun Q q => cmp_ok hu hK co2 (r1.mono e2) r2 hk _ ⟨false, rfl, iteF ⟨false, rfl, q⟩⟩
      | true =>
        show Post X F rx σ Hf2 relB (((bnd mc fun c => lift (cmpD op' db c)) : M Bool) cal g2) _
        refine Post.bind (hc σ g2 Hf2 H2 co2) (w2 := fun w' H4 Q => wO X (compareOp op') y w' H4 (fun z H3 => ∃ k, z = .bl k ∧ Q k H3)) (fun dc g3 w' Hf3 H3 _ e3 co3 r3 => ?_) fun Q q => cmp_ok hu hK co2 (r1.mono e2) r2 hk _ ⟨true, rfl, iteT q⟩
        show Post X F rx σ Hf3 relB (lift (cmpD op' db dc) cal g3) _
        unfold lift
        cases hk2 : cmpD op' db dc with
        | none => trivial
        | some k2 => exact Post.ok co3 rfl fun Q q => cmp_ok hu hK co3 (r2.mono e3) r3 hk2 _ ⟨k2, rfl, q⟩
  refine ⟨fun σ g Hf H co => ?_, fun σ g Hf H co => ?_⟩
  · refine bl_map (g := g) (core co) fun Q q => ?_
    intro pins s I
    exact thn ((pe_chain (pos := pos) or_w or_w pe_w pe_w pe_w hm).run pins s σ H _ I q) fun v s1 ⟨x, H1, I1, r1, k, e, q1⟩ => ⟨x, H1, I1, r1, by rw [e]; exact q1⟩
  · exact (core co).imp fun Q q => wT_of (pt_chain or_w or_w pe_w pe_w pe_w hm) q
theorem dt_val (h : DD X F rx cal t ma) (he : ∀ whole, isTrue t X.env whole = (do let v ← whole; standAt t.pos; holding [v] (truthy v))) : DT X F rx cal t (mTr ma) := fun σ g Hf H co => by
  refine one (wk := fun x H1 Q => ∃ k, x = .bl k ∧ Q k H1) h co (fun x da k g' Hf' H' _ co' r hc => ?_) fun Q q => wT_of (pt_val pe_w he) q
  unfold truD at hc
  split at hc
  · cases hc; cases r
    exact Post.ok co' rfl fun Q q => ⟨_, rfl, q⟩
  · cases hc
theorem dt_not (h : DT X F rx cal a mt) : DT X F rx cal (.UnaryOp .Not a pos) (mNot mt) := fun σ g Hf H co =>
  Post.map (k := fun b => !b) (h σ g Hf H co) (fun a g' b Hf' H' _ _ _ e => by cases e; rfl) fun Q q => wT_of (pt_not pt_w) q
theorem dw_and1 (h : DT X F rx cal a mt) : DW X F rx cal (.BoolOp .And [a] pos) mt := fun σ g Hf H co => (h σ g Hf H co).imp fun Q q => wW_of (pw_and1 pt_w) q
theorem dw_or1 (h : DT X F rx cal a mt) : DW X F rx cal (.BoolOp .Or [a] pos) mt := fun σ g Hf H co => (h σ g Hf H co).imp fun Q q => wW_of (pw_or1 pt_w) q
theorem dw_and (h : DT X F rx cal a mt) (h2 : DW X F rx cal (.BoolOp .And (b :: rest) pos) mu) : DW X F rx cal (.BoolOp .And (a :: b :: rest) pos) (mAnd mt mu) := fun σ g Hf H co => by
  refine Post.bind (h σ g Hf H co) (w2 := fun k H1 Q => if k = true then wW X (.BoolOp .And (b :: rest) pos) σ H1 Q else Q false H1) (fun k g1 k' Hf1 H1 _ e1 co1 r1 => ?_) fun Q q => wW_of (pw_and pt_w pw_w) q
  cases r1
  cases k with
  | true => exact (h2 σ g1 Hf1 H1 co1).imp fun Q q => iteT q
  | false => exact Post.ok co1 rfl fun Q q => iteF q
theorem dw_or (h : DT X F rx cal a mt) (h2 : DW X F rx cal (.BoolOp .Or (b :: rest) pos) mu) : DW X F rx cal (.BoolOp .Or (a :: b :: rest) pos) (mOr mt mu) := fun σ g Hf H co => by
  refine Post.bind (h σ g Hf H co) (w2 := fun k H1 Q => if k = true then Q true H1 else wW X (.BoolOp .Or (b :: rest) pos) σ H1 Q) (fun k g1 k' Hf1 H1 _ e1 co1 r1 => ?_) fun Q q => wW_of (pw_or pt_w pw_w) q
  cases r1
  cases k with
  | false => exact (h2 σ g1 Hf1 H1 co1).imp fun Q q => iteF q
  | true => exact Post.ok co1 rfl fun Q q => iteT q
theorem dt_w (h : DW X F rx cal a mt) : DT X F rx cal a mt := fun σ g Hf H co => (h σ g Hf H co).imp fun Q q => wT_of pw_w.pt q
/-- not, and, or as values -/
theorem dd_not (h : DD X F rx cal a (mBl mt)) : DD X F rx cal (.UnaryOp .Not a pos) (mBl (mNot mt)) := fun σ g Hf H co => by
  have h1 := h σ g Hf H co
  unfold mBl mNot bnd ret Res.bnd at *
  cases hr : mt cal g with
  | ok k g' =>
    simp only [hr] at h1 ⊢
    exact fun Q q => wE_of (pe_not pe_w) (h1 _ fun v Hf' H' e co r => by cases r; exact ⟨_, rfl, q _ Hf' H' e co (.bl _)⟩)
  | exc x g' =>
    simp only [hr] at h1 ⊢
    exact fun W Q t q => wE_of (pe_not pe_w) (h1 W _ t q)
  | bad => trivial
theorem dd_one {op : BoolOp} (h : DD X F rx cal a ma) : DD X F rx cal (.BoolOp op [a] pos) ma := fun σ g Hf H co => (h σ g Hf H co).imp fun Q q => wE_of (pe_one pe_w) q
theorem dd_and (h : DD X F rx cal a (mBl mt)) (h2 : DD X F rx cal (.BoolOp .And (b :: rest) pos) (mBl mu)) : DD X F rx cal (.BoolOp .And (a :: b :: rest) pos) (mBl (mAnd mt mu)) := fun σ g Hf H co => by
  have h1 := h σ g Hf H co
  have e0 : mBl (mAnd mt mu) cal g = (mBl mt cal g).bnd fun d g' => (match d with | .bl true => mBl mu cal g' | _ => .ok (.bl false) g') := by
    unfold mBl mAnd bnd ret
    cases mt cal g with
    | ok k g' => cases k <;> rfl
    | exc x g' => rfl
    | bad => rfl
  rw [e0]
  refine Post.bind h1 (w2 := fun (x : V) H1 (Q : VK) => ∃ c, x = V.bl c ∧ if c = true then wE X (.BoolOp .And (b :: rest) pos) σ H1 Q else Q (.bl false) H1) (fun d g1 x Hf1 H1 hr e1 co1 r1 => ?_) fun Q q => wE_of (pe_and pe_w pe_w) q
  have hd : ∃ k, d = .bl k := by
    unfold mBl bnd ret Res.bnd at hr
    cases hm : mt cal g with
    | ok k g' => rw [hm] at hr; cases hr; exact ⟨_, rfl⟩
    | exc x g' => rw [hm] at hr; cases hr
    | bad => rw [hm] at hr; cases hr
  obtain ⟨k, rfl⟩ := hd
  cases r1
  cases k with
  | true => exact (h2 σ g1 Hf1 H1 co1).imp fun Q q => ⟨true, rfl, iteT q⟩
  | false => exact Post.ok co1 (.bl false) fun Q q => ⟨false, rfl, iteF q⟩
theorem dd_or (h : DD X F rx cal a (mBl mt)) (h2 : DD X F rx cal (.BoolOp .Or (b :: rest) pos) (mBl mu)) : DD X F rx cal (.BoolOp .Or (a :: b :: rest) pos) (mBl (mOr mt mu)) := fun σ g Hf H co => by
  have h1 := h σ g Hf H co
  have e0 : mBl (mOr mt mu) cal g = (mBl mt cal g).bnd fun d g' => (match d with | .bl false => mBl mu cal g' | _ => .ok (.bl true) g') := by
    unfold mBl mOr bnd ret
    cases mt cal g with
    | ok k g' => cases k <;> rfl
    | exc x g' => rfl
    | bad => rfl
  rw [e0]
  refine Post.bind h1 (w2 := fun (x : V) H1 (Q : VK) => ∃ c, x = V.bl c ∧ if c = true then Q (.bl true) H1 else wE X (.BoolOp .Or (b :: rest) pos) σ H1 Q) (fun d g1 x Hf1 H1 hr e1 co1 r1 => ?_) fun Q q => wE_of (pe_or pe_w pe_w) q
  have hd : ∃ k, d = .bl k := by
    unfold mBl bnd ret Res.bnd at hr
    cases hm : mt cal g with
    | ok k g' => rw [hm] at hr; cases hr; exact ⟨_, rfl⟩
    | exc x g' => rw [hm] at hr; cases hr
    | bad => rw [hm] at hr; cases hr
  obtain ⟨k, rfl⟩ := hd
  cases r1
  cases k with
  | false => exact (h2 σ g1 Hf1 H1 co1).imp fun Q q => ⟨false, rfl, iteF q⟩
  | true => exact Post.ok co1 (.bl true) fun Q q => ⟨true, rfl, iteT q⟩
theorem de_if {me mf : M Ent} (ht : DT X F rx cal t mt) (ha : DE X F rx cal a me) (hb : DE X F rx cal b mf) : DE X F rx cal (.IfExp t a b pos) (mIf mt me mf) := fun σ g Hf H co => by
  refine Post.bind (ht σ g Hf H co) (w2 := fun k H1 Q => if k = true then wE X a σ H1 Q else wE X b σ H1 Q) (fun k g1 k' Hf1 H1 _ e1 co1 r1 => ?_) fun Q q => wE_of (pe_ifExp pt_w pe_w pe_w) q
  cases r1
  cases k with
  | true => exact (ha σ g1 Hf1 H1 co1).imp fun Q q => iteT q
  | false => exact (hb σ g1 Hf1 H1 co1).imp fun Q q => iteF q
/-- a value that is known to be a truth -/
theorem dd_trbl (h : DD X F rx cal a ma) : DD X F rx cal a (mBl (mTr ma)) := fun σ g Hf H co => by
  have h1 := h σ g Hf H co
  unfold mBl mTr bnd ret lift Res.bnd at *
  cases hr : ma cal g with
  | ok d g' =>
    simp only [hr] at h1 ⊢
    cases d with
    | bl k => exact fun Q q => h1 Q fun v Hf' H' e co r => q v Hf' H' e co r
    | _ => trivial
  | exc x g' =>
    simp only [hr] at h1 ⊢
    exact h1
  | bad => trivial
end
end Wb

set_option Elab.async false
set_option linter.all false
set_option maxRecDepth 100000
set_option maxHeartbeats 4000000
/-! Wb: arguments, displays, subscripts, slices. -/
namespace Wb
open PySem PySem.Spec PyProof.Rows L2

/-! ### arguments -/
def noStar : Expr → Bool
  | .Starred _ _ => false
  | _ => true
theorem star_cons {e : Expr} {es : List Expr} {env : PySem.Env} (h : noStar e = true) : starEach (e :: es) env = (false, eval e env) :: starEach es env := by
  cases e <;> first | rfl | cases h
def noStars (es : List Expr) : Bool := es.all noStar
theorem star_any {env : PySem.Env} {pos : Pos} : ∀ {es : List Expr}, noStars es = true → (starEach es env).any (·.1) = false
  | [], _ => rfl
  | e :: es, h => by
    unfold noStars at h
    rw [List.all_cons, Bool.and_eq_true] at h
    rw [star_cons h.1, List.any_cons, star_any (pos := pos) h.2]
    rfl
theorem back_any {pos : Pos} {l : List (Bool × Sem Value)} (h : l.any (·.1) = false) : (backTo pos l).any (·.1) = false := by
  rw [← h]
  unfold backTo
  induction l with
  | nil => rfl
  | cons a r ih =>
    first
      | rw [List.map_cons, List.any_cons, List.any_cons, ih (by rw [List.any_cons, Bool.or_eq_false_iff] at h; exact h.2)]
      | simp [List.any_map, Function.comp_def]
theorem plain_args {env : PySem.Env} {pos : Pos} {es : List Expr} (h : noStars es = true) : (backTo pos (starEach es env)).any (·.1) = false := back_any (star_any (pos := pos) h)
section
variable {X : Cx} {F : Fx} {rx : RX} {cal : Cal} {e : Expr} {es : List Expr} {m : M D} {ms : M (List D)} {pos : Pos} {k : Nat}
def mNil : M (List D) := ret []
def mCons (m : M D) (ms : M (List D)) : M (List D) := bnd m fun d => bnd ms fun ds => ret (d :: ds)
theorem da_nil : DA X F rx cal [] mNil := fun σ g Hf H co => Post.ok co .nil fun Q q => wA_of pa_nil q
theorem da_cons (hs : noStar e = true) (h : DD X F rx cal e m) (h2 : DA X F rx cal es ms) : DA X F rx cal (e :: es) (mCons m ms) := fun σ g Hf H co => by
  refine Post.bind (h σ g Hf H co) (w2 := fun x H1 Q => wA X es σ H1 fun xs H2 => Q (x :: xs) H2) (fun d g1 x Hf1 H1 _ e1 co1 r1 => ?_) fun Q q => wA_of (pa_cons pe_w pa_w (star_cons hs)) q
  exact Post.map (k := fun xs => x :: xs) (h2 σ g1 Hf1 H1 co1) (fun ds g2 xs Hf2 H2 _ e2 _ r2 => .cons (r1.mono e2) r2) fun Q q => q
/-! ### displays -/
def mTup (ms : M (List D)) : M Ent := bnd ms fun ds => lift (if ds.length ≤ lim then some (.val (.tup ds)) else none)
def mLst (ms : M (List D)) : M Ent := bnd ms fun ds => lift (if ds.length ≤ lim then some (.own (.lst ds)) else none)
theorem de_tup (h : DA X F rx cal es ms) : DE X F rx cal (.Tuple es k pos) (mTup ms) := fun σ g Hf H co => by
  refine Post.bind (h σ g Hf H co) (w2 := fun (xs : List V) H1 (Q : VK) => xs.length ≤ sizeLine ∧ ∀ p, H1 p = none → Q (.ref p) (upd H1 p (.tup xs))) (fun ds g1 xs Hf1 H1 _ e1 co1 r1 => ?_) fun Q q => wE_of (pe_tup pa_w) q
  show Post X F rx σ Hf1 (relE F σ) (lift _ cal g1) _
  unfold lift
  by_cases hz : ds.length ≤ lim
  · rw [if_pos hz]
    exact Post.tuple co1 r1 fun Q q => ⟨by rw [lim_eq, r1.length]; exact hz, q⟩
  · rw [if_neg hz]
    trivial
theorem de_lst (h : DA X F rx cal es ms) : DE X F rx cal (.List es pos) (mLst ms) := fun σ g Hf H co => by
  refine Post.bind (h σ g Hf H co) (w2 := fun (xs : List V) H1 (Q : VK) => xs.length ≤ sizeLine ∧ ∀ p, H1 p = none → Q (.ref p) (upd H1 p (.lst xs))) (fun ds g1 xs Hf1 H1 _ e1 co1 r1 => ?_) fun Q q => wE_of (pe_lst pa_w) q
  show Post X F rx σ Hf1 (relE F σ) (lift _ cal g1) _
  unfold lift
  by_cases hz : ds.length ≤ lim
  · rw [if_pos hz]
    exact Post.list co1 r1 fun Q q => ⟨by rw [lim_eq, r1.length]; exact hz, q⟩
  · rw [if_neg hz]
    trivial
end

/-! ### subscripts -/
/-- a place in xs, from the end where it is below 0 -/
def atZ {α : Type} (xs : List α) (i : Int) : Option α := if 0 ≤ i then xs[i.toNat]? else if -(xs.length : Int) ≤ i then xs[(i + xs.length).toNat]? else none
theorem atZ_atI {α : Type} {xs : List α} {i : Int} {v : α} (h : atZ xs i = some v) : atI xs i = some v := by
  unfold atZ at h
  unfold atI ixN
  by_cases h0 : 0 ≤ i
  · rw [if_pos h0] at h ⊢
    obtain ⟨h1, _⟩ := List.getElem?_eq_some_iff.mp h
    rw [if_pos (by omega)]
    exact h
  · rw [if_neg h0] at h ⊢
    by_cases h1 : -(xs.length : Int) ≤ i
    · rw [if_pos h1] at h ⊢
      exact h
    · rw [if_neg h1] at h
      cases h
def subD' : D → D → Option D
  | .str s, .int i => if s.length ≤ lim then (atZ s i).map fun c => .str [c] else none
  | .tup xs, .int i => atZ xs i
  | .lst xs, .int i => atZ xs i
  | .rol xs, .int i => atZ xs i
  | _, _ => none
/-- not a slice -/
def plainIx : Expr → Bool
  | .Slice _ _ _ _ => false
  | _ => true
theorem plainIx_ok {b : Expr} (h : plainIx b = true) : PlainIx b := fun o i => by
  cases b <;> first | rfl | cases h
theorem atI_rps {R : Rt} {H : Hp} {vs : List V} {ds : List D} {i : Int} {d : D} (r : Rps R H vs ds) (h : atZ ds i = some d) : ∃ v, atI vs i = some v ∧ Rp R H v d := by
  unfold atZ at h
  have hl := r.length
  by_cases h0 : 0 ≤ i
  · rw [if_pos h0] at h
    obtain ⟨v, h1, h2⟩ := r.get h
    exact ⟨v, atZ_atI (by unfold atZ; rw [if_pos h0]; exact h1), h2⟩
  · rw [if_neg h0] at h
    by_cases h1 : -(ds.length : Int) ≤ i
    · rw [if_pos h1] at h
      obtain ⟨v, h2, h3⟩ := r.get h
      exact ⟨v, atZ_atI (by unfold atZ; rw [if_neg h0, hl, if_pos h1]; exact h2), h3⟩
    · rw [if_neg h1] at h
      cases h
/-- a subscript's reading at values -/
def wX (X : Cx) (b : Expr) : R2 := fun x y H Q => ∀ (value : Expr) (pins : List (Addr × Obj)) (s : Shared) (σ : L2.St) (v u : Value), Inv X pins σ H s → RelV x v → RelV y u → wpAny (model X.prog X.w) X.A (subscriptTail value b v u) (EP X pins σ Q) X.xe s
theorem pe_wx {X : Cx} {a b : Expr} {pos : Pos} : PE X (.Subscript a b pos) (tOp (wX X b) (wE X a) (wE X b)) := by
  refine ⟨fun pins s σ H Q I h => ?_⟩
  exact Subscript_ (binT pe_w pe_w I h fun v u s2 x y H2 I2 rx ry q => q a pins s2 σ v u I2 rx ry)
theorem wX_of {X : Cx} {b : Expr} {r : R2} {x y : V} {H : Hp} {Q : VK} (p : IxR X r) (hp : PlainIx b) (h : r x y H Q) : wX X b x y H Q := fun value pins s σ v u I rx ry => p value b pins s σ H x y v u Q I rx ry h (hp _ _)
section
variable {X : Cx} {F : Fx} {rx : RX} {cal : Cal} {a b : Expr} {ma mb : M D} {pos : Pos}
theorem sub_ok' {σ : L2.St} {g : Env'} {Hf H : Hp} {x y : V} {da db d : D} (hK : F.R.K = X.K) (hp : PlainIx b) (co : Co F σ g Hf H) (r1 : Rp F.R Hf x da) (r2 : Rp F.R Hf y db) (h : subD' da db = some d) :
    Post X F rx σ Hf (relD F) (.ok d g) (wX X b x y H) := by
  unfold subD' at h
  split at h
  · split at h
    · rename_i hz
      obtain ⟨c, h1, rfl⟩ := Option.map_eq_some_iff.mp h
      cases r1; cases r2
      exact Post.ok (b := .str ⟨#[c]⟩) co (by have r := Rp.str (R := F.R) (H := Hf) [c]; exact r) fun Q q => wX_of ix_str hp ⟨_, _, c, rfl, rfl, by rw [lim_eq]; simpa [Str.length] using hz, atZ_atI h1, q⟩
    · cases h
  · cases r1 with
    | tup h1 h2 =>
      cases r2
      obtain ⟨v, k1, k2⟩ := atI_rps h2 h
      rw [hK] at h1
      exact Post.ok co k2 fun Q q => wX_of ix_tup hp ⟨_, _, _, v, rfl, rfl, ex_t co.ex h1, k1, q⟩
  · cases r1 with
    | lst h1 h2 =>
      cases r2
      obtain ⟨v, k1, k2⟩ := atI_rps h2 h
      exact Post.ok co k2 fun Q q => wX_of ix_list hp ⟨_, _, _, v, rfl, rfl, .inl (.inl (co.ex _ _ h1)), k1, q⟩
  · cases r1 with
    | rol h1 h2 =>
      cases r2
      obtain ⟨v, k1, k2⟩ := atI_rps h2 h
      rw [hK] at h1
      exact Post.ok co k2 fun Q q => wX_of ix_list hp ⟨_, _, _, v, rfl, rfl, ex_l co.ex h1, k1, q⟩
  · cases h
def mSub (ma mb : M D) : M D := bnd ma fun a => bnd mb fun b => lift (subD' a b)
theorem dd_sub (hK : F.R.K = X.K) (hp : plainIx b = true) (ha : DD X F rx cal a ma) (hb : DD X F rx cal b mb) : DD X F rx cal (.Subscript a b pos) (mSub ma mb) := fun σ g Hf H co =>
  two ha hb co (fun x y da db c g' Hf' H' _ co' r1 r2 hc => sub_ok' hK (plainIx_ok hp) co' r1 r2 hc) fun Q q => wE_of pe_wx q
/-- of a name's slot, owned or not -/
def slotD : Slot → Option D
  | .val d => some d
  | .own d => some d
  | .no => none
/-- the value at a slot is there -/
theorem Co.at {F : Fx} {σ : L2.St} {g : Env'} {Hf H : Hp} {i : Nat} {d : D} (co : Co F σ g Hf H) (h : (g[i]?).bind slotD = some d) : ∃ v, σ[i]? = some (some v) := by
  cases hg : g[i]? with
  | none => rw [hg] at h; cases h
  | some sl =>
    cases sl with
    | no => rw [hg] at h; cases h
    | val d' => obtain ⟨v, h1, _⟩ := co.val i d' hg; exact ⟨v, h1⟩
    | own d' => obtain ⟨v, h1, _⟩ := co.own i d' hg; exact ⟨_, h1⟩
/-- what stands at a slot, read behind other things: its value, and what the heap says of it (its items frozen) -/
inductive At (F : Fx) (Hf H : Hp) (v : V) : D → Prop
  | val {d : D} (h : Rp F.R Hf v d) : At F Hf H v d
  | lst {p : Addr} {vs : List V} {ds : List D} (e : v = .ref p) (h : H p = some (.lst vs)) (r : Rps F.R Hf vs ds) : At F Hf H v (.lst ds)
  | dic {p : Addr} {kvs : List (D × D)} (e : v = .ref p) (h : Top F.R Hf H p (.dic kvs)) : At F Hf H v (.dic kvs)
theorem Co.atSlot {F : Fx} {σ : L2.St} {g : Env'} {Hf H : Hp} {i : Nat} {d : D} {v : V} (co : Co F σ g Hf H) (h : (g[i]?).bind slotD = some d) (hv : σ[i]? = some (some v)) : At F Hf H v d := by
  cases hg : g[i]? with
  | none => rw [hg] at h; cases h
  | some sl =>
    cases sl with
    | no => rw [hg] at h; cases h
    | val d' =>
      rw [hg] at h
      obtain rfl : d' = d := Option.some.inj h
      obtain ⟨v', h1, h2⟩ := co.val i d' hg
      rw [hv] at h1
      cases h1
      exact .val h2
    | own d' =>
      rw [hg] at h
      obtain rfl : d' = d := Option.some.inj h
      obtain ⟨p, h1, h2, h3, h4⟩ := co.own i d' hg
      rw [hv] at h1
      cases h1
      cases d' with
      | lst ds => obtain ⟨vs, h5, h6⟩ := h4; exact .lst rfl h5 h6
      | dic kvs => exact .dic rfl h4
      | _ => exact h4.elim
/-- a slot that is read with an operand evaluated ahead of the reading -/
def mSlot {α : Type} (i : Nat) (mb : M D) (f : D → D → Option α) : M α := fun c g => match (g[i]?).bind slotD with
  | some _ => (mb c g).bnd fun b g' => match (g'[i]?).bind slotD with
    | some a => (match f a b with | some d => .ok d g' | none => .bad)
    | none => .bad
  | none => .bad
theorem slot_two {γ δ : Type} {σ : L2.St} {g : Env'} {Hf H : Hp} {i : Nat} {rel : Env' → Hp → Hp → δ → γ → Prop} {f : D → D → Option γ} {w : (δ → Hp → Prop) → Prop} {wk : V → V → Hp → (δ → Hp → Prop) → Prop}
    (hb : DD X F rx cal b mb) (co : Co F σ g Hf H)
    (hf : ∀ x y da db c g' Hf' H', Ex Hf Hf' → Co F σ g' Hf' H' → At F Hf' H' x da → Rp F.R Hf' y db → f da db = some c → Post X F rx σ Hf' rel (.ok c g') (wk x y H'))
    (hw : ∀ v Q, σ[i]? = some (some v) → wE X b σ H (fun y H2 => wk v y H2 Q) → w Q) : Post X F rx σ Hf rel (mSlot i mb f cal g) w := by
  unfold mSlot
  cases h0 : (g[i]?).bind slotD with
  | none => trivial
  | some d0 =>
    obtain ⟨v, hv⟩ := co.at h0
    show Post X F rx σ Hf rel ((mb cal g).bnd _) w
    refine Post.bind (w2 := fun y H2 Q => wk v y H2 Q) (hb σ g Hf H co) (fun db g1 y Hf1 H1 _ e1 co1 r1 => ?_) fun Q q => hw v Q hv q
    show Post X F rx σ Hf1 rel (match (g1[i]?).bind slotD with | some a => (match f a db with | some d => .ok d g1 | none => .bad) | none => .bad) _
    cases h1 : (g1[i]?).bind slotD with
    | none => trivial
    | some da =>
      show Post X F rx σ Hf1 rel (match f da db with | some d => .ok d g1 | none => .bad) _
      cases h2 : f da db with
      | none => trivial
      | some c => exact hf v y da db c g1 Hf1 H1 e1 co1 (co1.atSlot h1 hv) r1 h2
def mSubV (i : Nat) (mb : M D) : M D := mSlot i mb subD'
theorem dd_subV {i : Nat} {x : Str} {px : Pos} (hK : F.R.K = X.K) (hp : plainIx b = true) (hN : X.N[i]? = some x) (hv : Vis X.env.scope x) (hd : (x == ("__debug__" : Str)) = false) (hcd : (x == ("__classdict__" : Str)) = false) (hb : DD X F rx cal b mb) :
    DD X F rx cal (.Subscript (.Name x px) b pos) (mSubV i mb) := fun σ g Hf H co => by
  refine slot_two (wk := fun v y H2 Q => wX X b v y H2 Q) hb co (fun x y da db c g' Hf' H' _ co' a1 r2 hc => ?_) fun v Q hσ q => wE_of pe_wx (wE_of (pe_var hN hv hd hcd) ⟨v, hσ, q⟩)
  cases a1 with
  | val r1 => exact sub_ok' hK (plainIx_ok hp) co' r1 r2 hc
  | lst e h r =>
    subst e
    cases db with
    | int j =>
      obtain ⟨v, k7, k8⟩ := atI_rps r (show atZ _ j = some c from hc)
      cases r2
      exact Post.ok co' k8 fun Q q => wX_of ix_list (plainIx_ok hp) ⟨_, _, _, v, rfl, rfl, .inl (.inl h), k7, q⟩
    | _ => cases hc
  | dic e h => cases hc
end
end Wb

set_option Elab.async false
set_option linter.all false
set_option maxRecDepth 100000
set_option maxHeartbeats 4000000
/-! Wb: statements, targets, loops. -/
namespace Wb
open PySem PySem.Spec PyProof.Rows L2

inductive SRes where
  | nx (g : Env') | rt (e : Ent) (g : Env') | bk (g : Env') | ct (g : Env') | exc (x : Err) (g : Env') | bad
abbrev MS := Cal → Env' → SRes

def PostS (X : Cx) (F : Fx) (rx : RX) (Hf : Hp) (r : SRes) (w : Ends → Prop) : Prop :=
  match r with
  | .nx g' => ∀ D : Ends, (∀ σ' Hf' H', Ex Hf Hf' → Co F σ' g' Hf' H' → D.nx σ' H') → w D
  | .bk g' => ∀ D : Ends, (∀ σ' Hf' H', Ex Hf Hf' → Co F σ' g' Hf' H' → D.bk σ' H') → w D
  | .ct g' => ∀ D : Ends, (∀ σ' Hf' H', Ex Hf Hf' → Co F σ' g' Hf' H' → D.ct σ' H') → w D
  | .rt e g' => ∀ D : Ends, (∀ v σ' Hf' H', Ex Hf Hf' → Co F σ' g' Hf' H' → RpE F σ' g' Hf' H' v e → D.rt v H') → w D
  | .exc x g' => ∀ (W : WX) (D : Ends), Takes X W → (∀ c dx σ' Hf' H', Ex Hf Hf' → Co F σ' g' Hf' H' → rx x c dx H' → W c dx σ' H') → w D
  | .bad => True
def DS (X : Cx) (F : Fx) (rx : RX) (cal : Cal) (st : Stmt) (m : MS) : Prop :=
  ∀ (σ : L2.St) (g : Env') (Hf H : Hp), Co F σ g Hf H → PostS X F rx Hf (m cal g) fun D => wS X st D σ H
def DSs (X : Cx) (F : Fx) (rx : RX) (cal : Cal) (sts : List Stmt) (m : MS) : Prop :=
  ∀ (σ : L2.St) (g : Env') (Hf H : Hp), Co F σ g Hf H → PostS X F rx Hf (m cal g) fun D => wSs X sts D σ H

section
variable {X : Cx} {F : Fx} {rx : RX} {cal : Cal} {σ : L2.St} {g : Env'} {Hf H : Hp}
theorem PostS.imp {r : SRes} {w w' : Ends → Prop} (h : PostS X F rx Hf r w) (hw : ∀ D, w D → w' D) : PostS X F rx Hf r w' := by
  cases r with
  | nx g' => exact fun D q => hw D (h D q)
  | bk g' => exact fun D q => hw D (h D q)
  | ct g' => exact fun D q => hw D (h D q)
  | rt e g' => exact fun D q => hw D (h D q)
  | exc x g' => exact fun W D t q => hw D (h W D t q)
  | bad => trivial
theorem PostS.ex {r : SRes} {w : Ends → Prop} {Hf0 : Hp} (e : Ex Hf0 Hf) (h : PostS X F rx Hf r w) : PostS X F rx Hf0 r w := by
  cases r with
  | nx g' => exact fun D q => h D fun σ' Hf' H' e' co => q σ' Hf' H' (e.trans e') co
  | bk g' => exact fun D q => h D fun σ' Hf' H' e' co => q σ' Hf' H' (e.trans e') co
  | ct g' => exact fun D q => h D fun σ' Hf' H' e' co => q σ' Hf' H' (e.trans e') co
  | rt en g' => exact fun D q => h D fun v σ' Hf' H' e' co r => q v σ' Hf' H' (e.trans e') co r
  | exc x g' => exact fun W D t q => h W D t fun c dx σ' Hf' H' e' co r => q c dx σ' Hf' H' (e.trans e') co r
  | bad => trivial
/-- an expression, then what is done with its value -/
def sBnd {α : Type} (m : M α) (f : α → MS) : MS := fun c g => match m c g with
  | .ok a g' => f a c g'
  | .exc x g' => .exc x g'
  | .bad => .bad
theorem PostS.bind {α β : Type} {rel : Env' → Hp → Hp → β → α → Prop} {m : M α} {f : α → MS} {w1 : (β → Hp → Prop) → Prop} {w2 : β → Hp → Ends → Prop} {w : Ends → Prop}
    (h1 : Post X F rx σ Hf rel (m cal g) w1) (h2 : ∀ a g' b Hf' H', m cal g = .ok a g' → Ex Hf Hf' → Co F σ g' Hf' H' → rel g' Hf' H' b a → PostS X F rx Hf' (f a cal g') (w2 b H'))
    (hw : ∀ D, w1 (fun b H' => w2 b H' D) → w D) : PostS X F rx Hf (sBnd m f cal g) w := by
  unfold sBnd
  cases hr : m cal g with
  | ok a g' =>
    rw [hr] at h1
    show PostS X F rx Hf (f a cal g') w
    have h2' := fun b Hf' H' => h2 a g' b Hf' H' hr
    cases hf : f a cal g' with
    | nx g2 =>
      rw [hf] at h2'
      exact fun D q => hw D (h1 _ fun b Hf' H' e co rl => h2' b Hf' H' e co rl D fun σ' Hf2 H2 e2 co2 => q σ' Hf2 H2 (e.trans e2) co2)
    | bk g2 =>
      rw [hf] at h2'
      exact fun D q => hw D (h1 _ fun b Hf' H' e co rl => h2' b Hf' H' e co rl D fun σ' Hf2 H2 e2 co2 => q σ' Hf2 H2 (e.trans e2) co2)
    | ct g2 =>
      rw [hf] at h2'
      exact fun D q => hw D (h1 _ fun b Hf' H' e co rl => h2' b Hf' H' e co rl D fun σ' Hf2 H2 e2 co2 => q σ' Hf2 H2 (e.trans e2) co2)
    | rt en g2 =>
      rw [hf] at h2'
      exact fun D q => hw D (h1 _ fun b Hf' H' e co rl => h2' b Hf' H' e co rl D fun v σ' Hf2 H2 e2 co2 r2 => q v σ' Hf2 H2 (e.trans e2) co2 r2)
    | exc x g2 =>
      rw [hf] at h2'
      exact fun W D t q => hw D (h1 _ fun b Hf' H' e co rl => h2' b Hf' H' e co rl W D t fun c dx σ' Hf2 H2 e2 co2 r2 => q c dx σ' Hf2 H2 (e.trans e2) co2 r2)
    | bad => trivial
  | exc x g' =>
    rw [hr] at h1
    exact fun W D t q => hw D (h1 W _ t fun c dx Hf' H' e co r => q c dx σ Hf' H' e co r)
  | bad => trivial
/-! ### in a row -/
def sNil : MS := fun _ g => .nx g
def sSeq (m n : MS) : MS := fun c g => match m c g with
  | .nx g' => n c g'
  | r => r
theorem dss_nil : DSs X F rx cal [] sNil := fun σ g Hf H co D q => wSs_of pss_nil (q σ Hf H (Ex.refl _) co)
theorem dss_cons {st : Stmt} {sts : List Stmt} {m n : MS} (h1 : DS X F rx cal st m) (h2 : DSs X F rx cal sts n) : DSs X F rx cal (st :: sts) (sSeq m n) := fun σ g Hf H co => by
  have hc : ∀ D, wS X st { D with nx := fun σ' H' => wSs X sts D σ' H' } σ H → wSs X (st :: sts) D σ H := fun D q => wSs_of (pss_cons ps_w pss_w) q
  have k1 := h1 σ g Hf H co
  unfold sSeq
  cases hm : m cal g with
  | nx g' =>
    rw [hm] at k1
    show PostS X F rx Hf (n cal g') _
    have k2 := fun σ' Hf' H' co' => h2 σ' g' Hf' H' co'
    cases hn : n cal g' with
    | nx g2 => rw [hn] at k2; exact fun D q => hc D (k1 _ fun σ' Hf' H' e co' => k2 σ' Hf' H' co' D fun σ2 Hf2 H2 e2 co2 => q σ2 Hf2 H2 (e.trans e2) co2)
    | bk g2 => rw [hn] at k2; exact fun D q => hc D (k1 _ fun σ' Hf' H' e co' => k2 σ' Hf' H' co' D fun σ2 Hf2 H2 e2 co2 => q σ2 Hf2 H2 (e.trans e2) co2)
    | ct g2 => rw [hn] at k2; exact fun D q => hc D (k1 _ fun σ' Hf' H' e co' => k2 σ' Hf' H' co' D fun σ2 Hf2 H2 e2 co2 => q σ2 Hf2 H2 (e.trans e2) co2)
    | rt en g2 => rw [hn] at k2; exact fun D q => hc D (k1 _ fun σ' Hf' H' e co' => k2 σ' Hf' H' co' D fun v σ2 Hf2 H2 e2 co2 r2 => q v σ2 Hf2 H2 (e.trans e2) co2 r2)
    | exc x g2 => rw [hn] at k2; exact fun W D t q => hc D (k1 _ fun σ' Hf' H' e co' => k2 σ' Hf' H' co' W D t fun c dx σ2 Hf2 H2 e2 co2 r2 => q c dx σ2 Hf2 H2 (e.trans e2) co2 r2)
    | bad => trivial
  | bk g2 => rw [hm] at k1; exact fun D q => hc D (k1 _ q)
  | ct g2 => rw [hm] at k1; exact fun D q => hc D (k1 _ q)
  | rt en g2 => rw [hm] at k1; exact fun D q => hc D (k1 _ q)
  | exc x g2 => rw [hm] at k1; exact fun W D t q => hc D (k1 W _ t q)
  | bad => trivial

/-! ### storing -/
theorem Co.store {i : Nat} {v : V} {en : Ent} (co : Co F σ g Hf H) (r : RpE F σ g Hf H v en) (hi : i < g.length) (hio : F.io = none ∨ i ≠ 0) : Co F (σ.set i (some v)) (g.set i en.slot) Hf H := by
  have hσ : i < σ.length := by rw [← co.len]; exact hi
  have ne_of_own : ∀ (j : Nat) d, (g.set i en.slot)[j]? = some (.own d) → j ≠ i → g[j]? = some (.own d) := fun j d h hj => by
    rw [List.getElem?_set_ne (Ne.symm hj)] at h
    exact h
  have own_at : ∀ d, (g.set i en.slot)[i]? = some (.own d) → en = .own d := fun d h => by
    rw [List.getElem?_set_self hi] at h
    cases en with
    | val d' => cases h
    | own d' => cases h; rfl
  refine ⟨by rw [List.length_set, List.length_set]; exact co.len, co.ex0, co.ex, co.frz, co.pres, fun j d hj => ?_, fun j d hj => ?_, fun j k d d' p hj hk h1 h2 => ?_, fun q hq => ?_, fun p hp => ?_⟩
  · by_cases hij : j = i
    · subst hij
      rw [List.getElem?_set_self hi] at hj
      cases en with
      | val d' => cases hj; exact ⟨v, List.getElem?_set_self hσ, r⟩
      | own d' => cases hj
    · rw [List.getElem?_set_ne (Ne.symm hij)] at hj
      obtain ⟨u, h1, h2⟩ := co.val j d hj
      exact ⟨u, by rw [List.getElem?_set_ne (Ne.symm hij)]; exact h1, h2⟩
  · by_cases hij : j = i
    · subst hij
      have e := own_at d hj
      subst e
      obtain ⟨p, rfl, h1, h2, h3, h4, h5, h6⟩ := r
      exact ⟨p, List.getElem?_set_self hσ, h1, .inr h2, h6⟩
    · obtain ⟨p, h1, h2⟩ := co.own j d (ne_of_own j d hj hij)
      exact ⟨p, by rw [List.getElem?_set_ne (Ne.symm hij)]; exact h1, h2⟩
  · by_cases hji : j = i
    · subst hji
      by_cases hki : k = j
      · exact hki.symm
      · have e := own_at d hj
        subst e
        obtain ⟨q, rfl, _, _, _, h5, _⟩ := r
        rw [List.getElem?_set_self hσ] at h1
        cases h1
        rw [List.getElem?_set_ne (Ne.symm hki)] at h2
        exact absurd h2 (h5 k d' (ne_of_own k d' hk hki))
    · by_cases hki : k = i
      · subst hki
        have e := own_at d' hk
        subst e
        obtain ⟨q, rfl, _, _, _, h5, _⟩ := r
        rw [List.getElem?_set_self hσ] at h2
        cases h2
        rw [List.getElem?_set_ne (Ne.symm hji)] at h1
        exact absurd h1 (h5 j d (ne_of_own j d hj hji))
      · rw [List.getElem?_set_ne (Ne.symm hji)] at h1
        rw [List.getElem?_set_ne (Ne.symm hki)] at h2
        exact co.dist j k d d' p (ne_of_own j d hj hji) (ne_of_own k d' hk hki) h1 h2
  · obtain ⟨k1, k2, k3, k4⟩ := co.awy q hq
    refine ⟨k1, k2, k3, fun j d hj hs => ?_⟩
    by_cases hij : j = i
    · subst hij
      have e := own_at d hj
      subst e
      obtain ⟨p, rfl, h1, h2, h3, h4, h5, h6⟩ := r
      rw [List.getElem?_set_self hσ] at hs
      cases hs
      exact h5 q hq rfl
    · rw [List.getElem?_set_ne (Ne.symm hij)] at hs
      exact k4 j d (ne_of_own j d hj hij) hs
  · obtain ⟨h1, d, h2⟩ := co.ios p hp
    have h0 : i ≠ 0 := by
      rcases hio with z | z
      · rw [z] at hp; cases hp
      · exact z
    exact ⟨by rw [List.getElem?_set_ne h0]; exact h1, d, by rw [List.getElem?_set_ne h0]; exact h2⟩
def sSet (i : Nat) (m : M Ent) : MS := sBnd m fun e => fun _ g => if i < g.length then .nx (g.set i e.slot) else .bad
theorem set_post {i : Nat} {v : V} {en : Ent} {w : Ends → Prop} (co : Co F σ g Hf H) (r : RpE F σ g Hf H v en) (hio : F.io = none ∨ i ≠ 0) (hw : ∀ D : Ends, D.nx (σ.set i (some v)) H → w D) :
    PostS X F rx Hf (if i < g.length then SRes.nx (g.set i en.slot) else .bad) w := by
  by_cases hi : i < g.length
  · rw [if_pos hi]
    exact fun D q => hw D (q _ Hf H (Ex.refl _) (co.store r hi hio))
  · rw [if_neg hi]
    trivial
theorem ds_set {i : Nat} {x : Str} {e : Expr} {m : M Ent} {pos px : Pos} (hN : X.N.Nodup) (hi : X.N[i]? = some x) (hx : Loc X.env.scope x) (hf : X.fn x = true ∨ X.env.scope.names.lookup x = some .local) (hio : F.io = none ∨ i ≠ 0)
    (hs : swapsWith e (some (.Name x px)) pos.line X.env = pure false) (h : DE X F rx cal e m) : DS X F rx cal (.Assign [.Name x px] e pos) (sSet i m) := fun σ g Hf H co =>
  PostS.bind (w2 := fun v H1 D => D.nx (σ.set i (some v)) H1) (h σ g Hf H co) (fun en g1 v Hf1 H1 _ e1 co1 r1 => set_post co1 r1 hio fun D q => q) fun D q => wS_of (ps_set hN hi hx pe_w hs hf) q
def sExpr {α : Type} (m : M α) : MS := sBnd m fun _ => sNil
theorem ds_expr {e : Expr} {m : M D} {pos : Pos} (hs : swapsWith e none pos.line X.env = pure false) (h : DD X F rx cal e m) : DS X F rx cal (.Expr e pos) (sExpr m) := fun σ g Hf H co =>
  PostS.bind (w2 := fun v H1 D => D.nx σ H1) (h σ g Hf H co) (fun en g1 v Hf1 H1 _ e1 co1 r1 => fun D q => q σ Hf1 H1 (Ex.refl _) co1) fun D q => wS_of (ps_expr pe_w hs) q
def sRet (m : M Ent) : MS := sBnd m fun e => fun _ g => .rt e g
theorem ds_ret {e : Expr} {m : M Ent} {pos : Pos} (h : DE X F rx cal e m) : DS X F rx cal (.Return (some e) pos) (sRet m) := fun σ g Hf H co =>
  PostS.bind (w2 := fun v H1 D => D.rt v H1) (h σ g Hf H co) (fun en g1 v Hf1 H1 _ e1 co1 r1 => fun D q => q v σ Hf1 H1 (Ex.refl _) co1 r1) fun D q => wS_of (ps_ret pe_w) q
def sRetN : MS := fun _ g => .rt (.val .non) g
theorem ds_retN {pos : Pos} : DS X F rx cal (.Return none pos) sRetN := fun σ g Hf H co D q => wS_of ps_retN (q _ σ Hf H (Ex.refl _) co .non)
def sBrk : MS := fun _ g => .bk g
def sCnt : MS := fun _ g => .ct g
theorem ds_pass {pos : Pos} : DS X F rx cal (.Pass pos) sNil := fun σ g Hf H co D q => wS_of ps_pass (q σ Hf H (Ex.refl _) co)
theorem ds_brk {pos : Pos} : DS X F rx cal (.Break pos) sBrk := fun σ g Hf H co D q => wS_of ps_break (q σ Hf H (Ex.refl _) co)
theorem ds_cnt {pos : Pos} : DS X F rx cal (.Continue pos) sCnt := fun σ g Hf H co D q => wS_of ps_continue (q σ Hf H (Ex.refl _) co)
def sIf (t : M Bool) (m n : MS) : MS := sBnd t fun k => if k then m else n
theorem ds_if {t : Expr} {a b : List Stmt} {mt : M Bool} {m n : MS} {pos : Pos} (ht : DT X F rx cal t mt) (ha : DSs X F rx cal a m) (hb : DSs X F rx cal b n) : DS X F rx cal (.If t a b pos) (sIf mt m n) := fun σ g Hf H co => by
  refine PostS.bind (w2 := fun (k : Bool) H1 D => if k = true then wSs X a D σ H1 else wSs X b D σ H1) (ht σ g Hf H co) (fun k g1 k' Hf1 H1 _ e1 co1 r1 => ?_) fun D q => wS_of (ps_if pt_w pss_w pss_w) q
  cases r1
  cases k with
  | true => exact (ha σ g1 Hf1 H1 co1).imp fun D q => iteT q
  | false => exact (hb σ g1 Hf1 H1 co1).imp fun D q => iteF q
end
/-- an owned local, handed out of the def: the slot is left -/
def mMove (i : Nat) : M Ent := fun _ g => match g[i]? with
  | some (.val d) => .ok (.val d) g
  | some (.own d) => .ok (.own d) (g.set i .no)
  | _ => .bad
section
variable {X : Cx} {F : Fx} {rx : RX} {cal : Cal}
theorem Co.leave {σ : L2.St} {g : Env'} {Hf H : Hp} {i : Nat} (co : Co F σ g Hf H) (hi : F.io = none ∨ i ≠ 0) : Co F σ (g.set i .no) Hf H := by
  have back : ∀ (j : Nat) sl, sl ≠ Slot.no → (g.set i Slot.no)[j]? = some sl → g[j]? = some sl := fun j sl hne h => by
    by_cases hij : i = j
    · subst hij
      rw [List.getElem?_set] at h
      simp only [if_true] at h
      split at h
      · cases h; exact absurd rfl hne
      · cases h
    · rw [List.getElem?_set_ne hij] at h
      exact h
  refine ⟨by rw [List.length_set]; exact co.len, co.ex0, co.ex, co.frz, co.pres, fun j d hj => co.val j d (back j _ (by simp) hj), fun j d hj => co.own j d (back j _ (by simp) hj), fun j k d d' p hj hk h1 h2 => co.dist j k d d' p (back j _ (by simp) hj) (back k _ (by simp) hk) h1 h2, fun q hq => ⟨(co.awy q hq).1, (co.awy q hq).2.1, (co.awy q hq).2.2.1, fun j d hj => (co.awy q hq).2.2.2 j d (back j _ (by simp) hj)⟩, fun p hp => ?_⟩
  obtain ⟨h1, d, h2⟩ := co.ios p hp
  have h0 : i ≠ 0 := by
    rcases hi with z | z
    · rw [z] at hp; cases hp
    · exact z
  exact ⟨h1, d, by rw [List.getElem?_set_ne h0]; exact h2⟩
theorem de_move {i : Nat} {x : Str} {pos : Pos} (hN : X.N[i]? = some x) (hv : Vis X.env.scope x) (hi : F.io = none ∨ i ≠ 0) (hd : (x == ("__debug__" : Str)) = false) (hcd : (x == ("__classdict__" : Str)) = false) : DE X F rx cal (.Name x pos) (mMove i) := fun σ g Hf H co => by
  unfold mMove
  cases hg : g[i]? with
  | none => trivial
  | some sl =>
    cases sl with
    | no => trivial
    | val d =>
      obtain ⟨v, h1, h2⟩ := co.val i d hg
      exact Post.ok (a := Ent.val d) co h2 fun Q q => wE_of (pe_var hN hv hd hcd) ⟨v, h1, q⟩
    | own d =>
      obtain ⟨p, h1, h2, h3, h4⟩ := co.own i d hg
      have hlt : i < g.length := (List.getElem?_eq_some_iff.mp hg).1
      have nio : some p ≠ F.io := fun z => by
        rcases hi with hi | hi
        · rw [hi] at z; cases z
        · obtain ⟨k1, d0, k2⟩ := co.ios p z.symm
          exact hi (co.dist i 0 _ _ p hg k2 h1 k1)
      refine Post.ok (a := Ent.own d) (b := .ref p) (co.leave hi) ⟨p, rfl, h2, h3.resolve_left nio, nio, fun j d' hj hσ => ?_, fun q hq z => (co.awy q hq).2.2.2 i d hg (by rw [z]; exact h1), h4⟩ fun Q q => wE_of (pe_var hN hv hd hcd) ⟨_, h1, q⟩
      by_cases hij : i = j
      · subst hij
        rw [List.getElem?_set_self hlt] at hj
        cases hj
      · rw [List.getElem?_set_ne hij] at hj
        exact hij (co.dist i j _ _ p hg hj h1 hσ)
end
end Wb

set_option Elab.async false
set_option linter.all false
set_option maxRecDepth 100000
set_option maxHeartbeats 4000000
/-! Wb: targets, what is walked, for, while, list comprehensions. -/
namespace Wb
open PySem PySem.Spec PyProof.Rows L2

/-! ### targets -/
inductive Tg where
  | nm (i : Nat) | tp (ts : List Tg)
mutual
def Tg.sl : Tg → List Nat
  | .nm i => [i]
  | .tp ts => Tg.sls ts
def Tg.sls : List Tg → List Nat
  | [] => []
  | t :: ts => t.sl ++ Tg.sls ts
end
mutual
/-- a frozen datum stored at a target -/
def asg : Tg → D → Env' → Option Env'
  | .nm i, d, g => if i < g.length then some (g.set i (.val d)) else none
  | .tp ts, .tup ds, g => asgs ts ds g
  | .tp ts, .lst ds, g => asgs ts ds g
  | .tp _, _, _ => none
def asgs : List Tg → List D → Env' → Option Env'
  | [], [], g => some g
  | t :: ts, d :: ds, g => (asg t d g).bind fun g' => asgs ts ds g'
  | _, _, _ => none
end
def wG (X : Cx) (tg : Expr) : TG := fun v σ H Q => ∀ (pins : List (Addr × Obj)) (s : Shared) (u : Value), Inv X pins σ H s → RelV v u → wpAny (model X.prog X.w) X.A (assign tg X.env u) (fun _ s' => ∃ σ' H', Inv X pins σ' H' s' ∧ Q σ' H') X.xe s
theorem pg_w {X : Cx} {tg : Expr} : PG X tg (wG X tg) := ⟨fun pins s _ _ _ u _ I r h => h pins s u I r⟩
theorem wG_of {X : Cx} {tg : Expr} {t : TG} {v : V} {σ : L2.St} {H : Hp} {Q : L2.St → Hp → Prop} (p : PG X tg t) (h : t v σ H Q) : wG X tg v σ H Q := fun pins s u I r => p.run pins s σ H v u Q I r h
def wGs (X : Cx) (ts : List Expr) : TGs := fun vs σ H Q => ∀ (pins : List (Addr × Obj)) (s : Shared) (us : List Value), Inv X pins σ H s → Vals vs us → wpAny (model X.prog X.w) X.A (assignInOrder ((assignEach ts X.env).map (·.2)) us) (fun _ s' => ∃ σ' H', Inv X pins σ' H' s' ∧ Q σ' H') X.xe s
theorem pgs_w {X : Cx} {ts : List Expr} : PGs X ts (wGs X ts) := ⟨fun pins s _ _ _ us _ I r h => h pins s us I r⟩
theorem wGs_of {X : Cx} {ts : List Expr} {t : TGs} {vs : List V} {σ : L2.St} {H : Hp} {Q : L2.St → Hp → Prop} (p : PGs X ts t) (h : t vs σ H Q) : wGs X ts vs σ H Q := fun pins s us I r => p.run pins s σ H vs us Q I r h
def DG (X : Cx) (F : Fx) (tg : Expr) (t : Tg) : Prop :=
  ∀ (σ : L2.St) (g : Env') (Hf H : Hp) (v : V) (d : D) (g' : Env'), Co F σ g Hf H → Rp F.R Hf v d → asg t d g = some g' →
    ∀ Q : L2.St → Hp → Prop, (∀ σ', Co F σ' g' Hf H → σ'.length = σ.length → (∀ j, j ∉ t.sl → σ'[j]? = σ[j]?) → Q σ' H) → wG X tg v σ H Q
def DGs (X : Cx) (F : Fx) (es : List Expr) (ts : List Tg) : Prop :=
  ∀ (σ : L2.St) (g : Env') (Hf H : Hp) (vs : List V) (ds : List D) (g' : Env'), Co F σ g Hf H → Rps F.R Hf vs ds → asgs ts ds g = some g' →
    ∀ Q : L2.St → Hp → Prop, (∀ σ', Co F σ' g' Hf H → σ'.length = σ.length → (∀ j, j ∉ Tg.sls ts → σ'[j]? = σ[j]?) → Q σ' H) → wGs X es vs σ H Q
section
variable {X : Cx} {F : Fx} {rx : RX} {cal : Cal}
theorem dg_name {i : Nat} {x : Str} {px : Pos} (hN : X.N.Nodup) (hi : X.N[i]? = some x) (hx : Loc X.env.scope x) (hf : X.fn x = true ∨ X.env.scope.names.lookup x = some .local) (hio : F.io = none ∨ i ≠ 0) : DG X F (.Name x px) (.nm i) := fun σ g Hf H v d g' co r h Q q => by
  rw [asg] at h
  split at h
  · rename_i hlt
    cases h
    refine wG_of (pg_name hN hi hx hf) (q (σ.set i (some v)) (co.store (en := .val d) r hlt hio) (by rw [List.length_set]) fun j hj => ?_)
    have hne : i ≠ j := fun z => hj (by rw [Tg.sl, z]; simp)
    rw [List.getElem?_set_ne hne]
  · cases h
theorem dgs_nil : DGs X F [] [] := fun σ g Hf H vs ds g' co r h Q q => by
  cases ds with
  | nil =>
    cases r
    rw [asgs] at h
    cases h
    exact wGs_of pgs_nil ⟨rfl, q σ co rfl fun _ _ => rfl⟩
  | cons d ds => rw [asgs] at h; cases h; all_goals simp
/-- no star among targets -/
theorem each_cons {e : Expr} {es : List Expr} {env : PySem.Env} (h : noStar e = true) : (assignEach (e :: es) env).map (·.2) = assign e env :: (assignEach es env).map (·.2) := by
  cases e <;> first | rfl | cases h
theorem each_len {env : PySem.Env} : ∀ es : List Expr, noStars es = true → (assignEach es env).length = es.length ∧ (assignEach es env).findIdx? (·.1) = none
  | [], _ => ⟨rfl, rfl⟩
  | e :: es, h => by
    unfold noStars at h
    rw [List.all_cons, Bool.and_eq_true] at h
    obtain ⟨h1, h2⟩ := each_len (env := env) es h.2
    have e1 : assignEach (e :: es) env = (false, assign e env) :: assignEach es env := by
      have h0 := h.1
      cases e <;> first | rfl | cases h0
    rw [e1]
    refine ⟨by rw [List.length_cons, h1, List.length_cons], ?_⟩
    rw [List.findIdx?_cons, h2]
    rfl
theorem dgs_cons {e : Expr} {es : List Expr} {t : Tg} {ts : List Tg} (hs : noStar e = true) (h1 : DG X F e t) (h2 : DGs X F es ts) : DGs X F (e :: es) (t :: ts) := fun σ g Hf H vs ds g' co r h Q q => by
  cases ds with
  | nil => rw [asgs] at h; cases h; all_goals simp
  | cons d ds =>
    cases r with
    | cons r1 r2 =>
      rw [asgs] at h
      obtain ⟨g1, e1, e2⟩ := Option.bind_eq_some_iff.mp h
      refine wGs_of (pgs_cons pg_w pgs_w (each_cons hs)) ⟨_, _, rfl, h1 σ g Hf H _ d g1 co r1 e1 _ fun σ1 co1 hl1 k1 => ?_⟩
      refine h2 σ1 g1 Hf H _ ds g' co1 r2 e2 _ fun σ2 co2 hl2 k2 => q σ2 co2 (hl2.trans hl1) fun j hj => ?_
      rw [Tg.sls, List.mem_append, not_or] at hj
      rw [k2 j hj.2, k1 j hj.1]
theorem asgs_len : ∀ {ts : List Tg} {ds : List D} {g g' : Env'}, asgs ts ds g = some g' → ts.length = ds.length
  | [], [], _, _, _ => rfl
  | [], _ :: _, _, _, h => by rw [asgs] at h; cases h; all_goals simp
  | _ :: _, [], _, _, h => by rw [asgs] at h; cases h; all_goals simp
  | t :: ts, d :: ds, g, g', h => by
    rw [asgs] at h
    obtain ⟨g1, _, e2⟩ := Option.bind_eq_some_iff.mp h
    rw [List.length_cons, List.length_cons, asgs_len e2]
theorem dg_tup {es : List Expr} {ts : List Tg} {k : Nat} {pos : Pos} (hc : X.calm = true) (hK : F.R.K = X.K) (hs : noStars es = true) (hl : es.length = ts.length) (h : DGs X F es ts) : DG X F (.Tuple es k pos) (.tp ts) := fun σ g Hf H v d g' co r ha Q q => by
  obtain ⟨k1, k2⟩ := each_len (env := X.env) es hs
  cases d with
  | tup ds =>
    rw [asg] at ha
    cases r with
    | tup a b =>
      rw [hK] at a
      refine wG_of (pg_tup (n := es.length) hc pgs_w k1 k2) ⟨_, _, rfl, ex_t co.ex a, ?_, h σ g Hf H _ ds g' co b ha _ fun σ' co' hl' hj => q σ' co' hl' fun j hj' => hj j (by rw [Tg.sl] at hj'; exact hj')⟩
      rw [b.length, ← asgs_len ha, hl]
  | lst ds =>
    rw [asg] at ha
    cases r with
    | lst a b =>
      refine wG_of (pg_lst (n := es.length) hc pgs_w k1 k2) ⟨_, _, rfl, .inl (.inl (co.ex _ _ a)), ?_, h σ g Hf H _ ds g' co b ha _ fun σ' co' hl' hj => q σ' co' hl' fun j hj' => hj j (by rw [Tg.sl] at hj'; exact hj')⟩
      rw [b.length, ← asgs_len ha, hl]
  | _ => rw [asg] at ha; cases ha; all_goals simp
end
/-- targets = a frozen value -/
def sAsg (t : Tg) (m : M D) : MS := sBnd m fun d => fun _ g => match asg t d g with
  | some g' => .nx g'
  | none => .bad
section
variable {X : Cx} {F : Fx} {rx : RX} {cal : Cal}
theorem ds_asg {tg e : Expr} {t : Tg} {m : M D} {pos : Pos} (hg : DG X F tg t) (hs : swapsWithSole [tg] e pos.line X.env = pure false) (hw : swappedStores [tg] e X.env = pure none) (hst : noStar tg = true) (h : DD X F rx cal e m) :
    DS X F rx cal (.Assign [tg] e pos) (sAsg t m) := fun σ g Hf H co => by
  refine PostS.bind (w2 := fun v H1 D => wG X tg v σ H1 D.nx) (h σ g Hf H co) (fun d g1 v Hf1 H1 _ e1 co1 r1 => ?_) fun D q => wS_of (ps_asg pe_w pg_w hs hw (by rw [each_cons hst]; rfl)) q
  show PostS X F rx Hf1 (match asg t d g1 with | some g' => .nx g' | none => .bad) _
  cases ha : asg t d g1 with
  | none => trivial
  | some g' => exact fun D q => hg σ g1 Hf1 H1 v d g' co1 r1 ha _ fun σ' co' _ _ => q σ' Hf1 H1 (Ex.refl _) co'

/-! ### what is walked -/
def wI (X : Cx) (tg iter : Expr) : TI := fun σ H R => ∀ (pins : List (Addr × Obj)) (s : Shared), Inv X pins σ H s → wpAny (model X.prog X.w) X.A (eval iter X.env) (fun v s1 => wpAny (model X.prog X.w) X.A (pyIter v) (PIE X pins σ tg R) X.xe s1) X.xe s
theorem pi_w {tg iter : Expr} : PI X tg iter (wI X tg iter) := ⟨fun pins s _ _ _ I h => h pins s I⟩
theorem wI_of {tg iter : Expr} {t : TI} {σ : L2.St} {H : Hp} {R : It → Hp → Prop} (p : PI X tg iter t) (h : t σ H R) : wI X tg iter σ H R := fun pins s I => p.run pins s σ H R I h
end
/-- the iterator yields the data: things that stand, or new tuples of such -/
def ItOk (R : Rt) (J : It) (Hf0 : Hp) (ds : List D) : Prop :=
  ∀ (i : Nat) (Hf H : Hp), Ex Hf0 Hf → Ex Hf H →
    (∀ d, ds[i]? = some d → J.go i H ∧ ∀ x H2, J.yld i H x H2 → (H2 = H ∧ Rp R Hf x d) ∨ ∃ T vs es, x = .ref T ∧ H T = none ∧ H2 = upd H T (.tup vs) ∧ Rps R Hf vs es ∧ d = .tup es) ∧ (ds.length ≤ i → J.stop i H)
abbrev relI (F : Fx) : Env' → Hp → Hp → It → List D → Prop := fun _ Hf _ J ds => ItOk F.R J Hf ds
def DI (X : Cx) (F : Fx) (rx : RX) (cal : Cal) (tg iter : Expr) (m : M (List D)) : Prop :=
  ∀ (σ : L2.St) (g : Env') (Hf H : Hp), Co F σ g Hf H → Post X F rx σ Hf (relI F) (m cal g) (wI X tg iter σ H)
section
variable {X : Cx} {F : Fx} {rx : RX} {cal : Cal} {tg e : Expr} {m : M D}
theorem it_list {a : Addr} {vs : List V} {ds : List D} {Hf0 : Hp} (hK : F.R.K = X.K) (h : SqL X.K Hf0 a vs) (r : Rps F.R Hf0 vs ds) : ItOk F.R (Itl X.K a) Hf0 ds := fun i Hf H e co => by
  have hs : SqL X.K H a vs := ex_l (e.trans co) h
  refine ⟨fun d hd => ?_, fun hl => ⟨vs, hs, by rw [r.length]; exact hl⟩⟩
  obtain ⟨v, h1, h2⟩ := r.get hd
  refine ⟨⟨vs, v, hs, h1⟩, fun x H2 hy => ?_⟩
  obtain ⟨rfl, hx⟩ := hy
  have := hx vs hs
  rw [h1] at this
  cases this
  exact .inl ⟨rfl, h2.mono e⟩
theorem it_tup {a : Addr} {vs : List V} {ds : List D} {Hf0 : Hp} (h : SqT X.K Hf0 a vs) (r : Rps F.R Hf0 vs ds) : ItOk F.R (Itt X.K a) Hf0 ds := fun i Hf H e co => by
  have hs : SqT X.K H a vs := ex_t (e.trans co) h
  refine ⟨fun d hd => ?_, fun hl => ⟨vs, hs, by rw [r.length]; exact hl⟩⟩
  obtain ⟨v, h1, h2⟩ := r.get hd
  refine ⟨⟨vs, v, hs, h1⟩, fun x H2 hy => ?_⟩
  obtain ⟨rfl, hx⟩ := hy
  have := hx vs hs
  rw [h1] at this
  cases this
  exact .inl ⟨rfl, h2.mono e⟩
theorem it_rng {lo : Int} {n : Nat} {Hf0 : Hp} : ItOk F.R (Itr lo n) Hf0 ((List.range n).map fun (k : Nat) => D.int (lo + k)) := fun i Hf H e co => by
  refine ⟨fun d hd => ?_, fun hl => (by simpa using hl : n ≤ i)⟩
  rw [List.getElem?_map] at hd
  obtain ⟨k, h1, rfl⟩ := Option.map_eq_some_iff.mp hd
  obtain ⟨h2, h3⟩ := List.getElem?_eq_some_iff.mp h1
  rw [List.getElem_range] at h3
  subst h3
  refine ⟨(by simpa using h2 : i < n), fun x H2 hy => ?_⟩
  obtain ⟨rfl, rfl⟩ := hy
  exact .inl ⟨rfl, .int _⟩
theorem it_str {z : List Nat} {Hf0 : Hp} : ItOk F.R (Its ⟨z.toArray⟩) Hf0 (z.map fun c => D.str [c]) := fun i Hf H e co => by
  refine ⟨fun d hd => ?_, fun hl => (by simpa using hl : (⟨z.toArray⟩ : Str).cps.size ≤ i)⟩
  rw [List.getElem?_map] at hd
  obtain ⟨c, h1, rfl⟩ := Option.map_eq_some_iff.mp hd
  obtain ⟨h2, h3⟩ := List.getElem?_eq_some_iff.mp h1
  refine ⟨(by simpa using h2 : i < (⟨z.toArray⟩ : Str).cps.size), fun x H2 hy => ?_⟩
  obtain ⟨rfl, c', h4, rfl⟩ := hy
  have h5 : z[i]? = some c' := by simpa using h4
  rw [h1] at h5
  cases h5
  exact .inl ⟨rfl, by have r := Rp.str (R := F.R) (H := Hf) [c]; exact r⟩
def itemsD : D → Option (List D)
  | .lst ds => some ds
  | .rol ds => some ds
  | .tup ds => some ds
  | .str z => some (z.map fun c => D.str [c])
  | _ => none
def mIter (m : M D) : M (List D) := bnd m fun d => lift (itemsD d)
theorem di_val (hK : F.R.K = X.K) (h : DD X F rx cal e m) : DI X F rx cal tg e (mIter m) := fun σ g Hf H co => by
  show Post X F rx σ Hf (relI F) (mIter m cal g) (wI X tg e σ H)
  have h1 := h σ g Hf H co
  unfold mIter bnd
  cases hr : m cal g with
  | ok d g1 =>
    rw [hr] at h1
    show Post X F rx σ Hf (relI F) (lift (itemsD d) cal g1) _
    unfold lift
    cases hd : itemsD d with
    | none => trivial
    | some ds =>
      refine fun Q q pins s I => ?_
      have k := fun (Q' : VK) q' => h1 Q' q'
      -- the walked value by its kind
      cases d with
      | lst ds' =>
        cases hd
        refine (pi_list pe_w).run pins s σ H Q I (k _ fun v Hf1 H1 e1 co1 r1 => ?_)
        cases r1 with
        | lst a b => exact ⟨_, rfl, ⟨_, .inl (.inl (co1.ex _ _ a))⟩, q _ Hf1 H1 e1 co1 (it_list hK (.inl (.inl a)) b)⟩
      | rol ds' =>
        cases hd
        refine (pi_list pe_w).run pins s σ H Q I (k _ fun v Hf1 H1 e1 co1 r1 => ?_)
        cases r1 with
        | rol a b =>
          rw [hK] at a
          exact ⟨_, rfl, ⟨_, ex_l co1.ex a⟩, q _ Hf1 H1 e1 co1 (it_list hK a b)⟩
      | tup ds' =>
        cases hd
        refine (pi_tup pe_w).run pins s σ H Q I (k _ fun v Hf1 H1 e1 co1 r1 => ?_)
        cases r1 with
        | tup a b =>
          rw [hK] at a
          exact ⟨_, rfl, ⟨_, ex_t co1.ex a⟩, q _ Hf1 H1 e1 co1 (it_tup a b)⟩
      | str z =>
        cases hd
        refine (pi_str pe_w).run pins s σ H Q I (k _ fun v Hf1 H1 e1 co1 r1 => ?_)
        cases r1
        exact ⟨_, rfl, q _ Hf1 H1 e1 co1 it_str⟩
      | _ => cases hd
  | exc x g1 =>
    rw [hr] at h1
    exact fun W Q t q pins s I => thn (h1 W (fun _ _ => False) t q pins s I) fun v s1 ⟨_, _, _, _, z⟩ => z.elim
  | bad => trivial
/-- range of one, two ints -/
def okZ : Int → Bool
  | .ofNat n => Nat.ble n 4611686018427387903
  | .negSucc n => Nat.ble n 4611686018427387903
theorem okZ_iff {a : Int} : okZ a = true ↔ -(2 ^ 62) ≤ a ∧ a < 2 ^ 62 := by
  cases a with
  | ofNat n =>
    show Nat.ble n _ = true ↔ -(2 ^ 62) ≤ ((n : Nat) : Int) ∧ ((n : Nat) : Int) < 2 ^ 62
    rw [Nat.ble_eq]
    constructor
    · intro h; constructor <;> omega
    · intro h; omega
  | negSucc n =>
    show Nat.ble n _ = true ↔ _
    rw [Nat.ble_eq]
    constructor
    · intro h; constructor <;> omega
    · intro h; omega
def rngD (a b : Int) : Option (List D) := if (okZ a && okZ b) = true then some ((List.range (b - a).toNat).map fun (k : Nat) => D.int (a + k)) else none
theorem okZ_and {a b : Int} (h : (okZ a && okZ b) = true) : -(2 ^ 62) ≤ a ∧ a < 2 ^ 62 ∧ -(2 ^ 62) ≤ b ∧ b < 2 ^ 62 := by
  rw [Bool.and_eq_true, okZ_iff, okZ_iff] at h
  exact ⟨h.1.1, h.1.2, h.2.1, h.2.2⟩
theorem okZ_of {a b : Int} (h : -(2 ^ 62) ≤ a ∧ a < 2 ^ 62 ∧ -(2 ^ 62) ≤ b ∧ b < 2 ^ 62) : (okZ a && okZ b) = true := by
  rw [Bool.and_eq_true, okZ_iff, okZ_iff]
  exact ⟨⟨h.1, h.2.1⟩, h.2.2.1, h.2.2.2⟩
def rng1 : List D → Option (List D)
  | [.int b] => rngD 0 b
  | _ => none
def rng2 : List D → Option (List D)
  | [.int a, .int b] => rngD a b
  | _ => none
def mRng1 (ms : M (List D)) : M (List D) := bnd ms fun ds => lift (rng1 ds)
def mRng2 (ms : M (List D)) : M (List D) := bnd ms fun ds => lift (rng2 ds)
theorem di_rng1 {a : Expr} {ms : M (List D)} {p pos : Pos} (hg : Gl X "range") (hm : X.mg "range" = none) (hs : noStar a = true) (h : DA X F rx cal [a] ms) : DI X F rx cal tg (.Call (.Name "range" p) [a] [] pos) (mRng1 ms) := fun σ g Hf H co => by
  refine Post.bind (w2 := fun (vs : List V) H1 (R : It → Hp → Prop) => ∃ j : Int, vs = [.int j] ∧ -(2 ^ 62) ≤ j ∧ j < 2 ^ 62 ∧ R (Itr 0 j.toNat) H1) (h σ g Hf H co) (fun ds g1 vs Hf1 H1 _ e1 co1 r1 => ?_) fun Q q => wI_of (pi_range1 hg hm pa_w (star_cons hs)) q
  show Post X F rx σ Hf1 (relI F) (lift (rng1 ds) cal g1) _
  unfold lift
  cases hd : rng1 ds with
  | none => trivial
  | some out =>
    unfold rng1 at hd
    split at hd
    · unfold rngD at hd
      split at hd
      · rename_i hb
        have hb := okZ_and hb
        cases hd
        cases r1 with
        | cons a1 a2 =>
          cases a1; cases a2
          rw [show (∀ b : Int, b - 0 = b) from fun b => by omega]
          exact Post.ok co1 it_rng fun Q q => ⟨_, rfl, hb.2.2.1, hb.2.2.2, q⟩
      · cases hd
    · cases hd
theorem di_rng2 {a b : Expr} {ms : M (List D)} {p pos : Pos} (hg : Gl X "range") (hm : X.mg "range" = none) (hs : noStar a = true) (hs2 : noStar b = true) (h : DA X F rx cal [a, b] ms) : DI X F rx cal tg (.Call (.Name "range" p) [a, b] [] pos) (mRng2 ms) := fun σ g Hf H co => by
  refine Post.bind (w2 := fun (vs : List V) H1 (R : It → Hp → Prop) => ∃ i j : Int, vs = [.int i, .int j] ∧ (-(2 ^ 62) ≤ i ∧ i < 2 ^ 62 ∧ -(2 ^ 62) ≤ j ∧ j < 2 ^ 62) ∧ R (Itr i (j - i).toNat) H1) (h σ g Hf H co) (fun ds g1 vs Hf1 H1 _ e1 co1 r1 => ?_)
    fun Q q => wI_of (pi_range2 hg hm pa_w (by rw [star_cons hs, star_cons hs2]; rfl) (by rw [star_cons hs2]; rfl)) q
  show Post X F rx σ Hf1 (relI F) (lift (rng2 ds) cal g1) _
  unfold lift
  cases hd : rng2 ds with
  | none => trivial
  | some out =>
    unfold rng2 at hd
    split at hd
    · unfold rngD at hd
      split at hd
      · rename_i hb
        have hb := okZ_and hb
        cases hd
        cases r1 with
        | cons a1 a2 =>
          cases a2 with
          | cons a2 a3 =>
            cases a1; cases a2; cases a3
            exact Post.ok co1 it_rng fun Q q => ⟨_, _, rfl, hb, q⟩
      · cases hd
    · cases hd
end

/-! ### for, while -/
def forL (t : Tg) (body : MS) (c : Cal) : List D → Env' → SRes
  | [], g => .nx g
  | d :: ds, g => match asg t d g with
    | none => .bad
    | some g1 => match body c g1 with
      | .nx g2 => forL t body c ds g2
      | .ct g2 => forL t body c ds g2
      | .bk g2 => .nx g2
      | r => r
def sFor (mi : M (List D)) (t : Tg) (body : MS) : MS := sBnd mi fun ds => fun c g => forL t body c ds g
def whL (t : M Bool) (body : MS) (c : Cal) : Nat → Env' → SRes
  | 0, _ => .bad
  | n + 1, g => match t c g with
    | .ok true g1 => (match body c g1 with
      | .nx g2 => whL t body c n g2
      | .ct g2 => whL t body c n g2
      | .bk g2 => .nx g2
      | r => r)
    | .ok false g1 => .nx g1
    | .exc x g1 => .exc x g1
    | .bad => .bad
def sWh (n : Nat) (t : M Bool) (body : MS) : MS := fun c g => whL t body c n g
theorem forL_ends {t : Tg} {body : MS} {c : Cal} : ∀ (ds : List D) (g : Env') {g' : Env'}, forL t body c ds g ≠ .bk g' ∧ forL t body c ds g ≠ .ct g'
  | [], g, g' => by simp [forL]
  | d :: ds, g, g' => by
    rw [forL]
    split
    · simp
    · split
      · exact forL_ends ds _
      · exact forL_ends ds _
      · simp
      · rename_i h1 h2 h3
        exact ⟨h3 _, h2 _⟩
theorem whL_ends {t : M Bool} {body : MS} {c : Cal} : ∀ (n : Nat) (g : Env') {g' : Env'}, whL t body c n g ≠ .bk g' ∧ whL t body c n g ≠ .ct g'
  | 0, g, g' => by simp [whL]
  | n + 1, g, g' => by
    rw [whL]
    split
    · split
      · exact whL_ends n _
      · exact whL_ends n _
      · simp
      · rename_i h1 h2 h3
        exact ⟨h3 _, h2 _⟩
    · simp
    · simp
    · simp
section
variable {X : Cx} {F : Fx} {rx : RX} {cal : Cal} {σ : L2.St} {g : Env'} {Hf H : Hp}
theorem yield_co {x : V} {H2 : Hp} {d : D} (co : Co F σ g Hf H) (h : (H2 = H ∧ Rp F.R Hf x d) ∨ ∃ T vs es, x = .ref T ∧ H T = none ∧ H2 = upd H T (.tup vs) ∧ Rps F.R Hf vs es ∧ d = .tup es) :
    ∃ Hf2, Ex Hf Hf2 ∧ Co F σ g Hf2 H2 ∧ Rp F.R Hf2 x d := by
  rcases h with ⟨rfl, r⟩ | ⟨T, vs, es, rfl, hT, rfl, r, rfl⟩
  · exact ⟨Hf, Ex.refl _, co, r⟩
  · obtain ⟨e, co'⟩ := co.newFrz hT (.tup vs)
    exact ⟨_, e, co', .tup (.inl (.inl upd_same)) (r.mono e)⟩
/-- the rest of a loop -/
theorem for_rest {tg : Expr} {body : List Stmt} {t : Tg} {mb : MS} (hg : DG X F tg t) (hb : DSs X F rx cal body mb) {J : It} {ds : List D} {Hf0 : Hp} (it : ItOk F.R J Hf0 ds) (e0 : Ex Hf0 Hf) (co : Co F σ g Hf H) :
    PostS X F rx Hf (forL t mb cal ds g) fun D => ∃ W : Nat → Nat → L2.St → Hp → Prop, (∃ m, W 0 m σ H) ∧ ∀ i m σ H, W i m σ H →
      (J.stop i H ∧ D.nx σ H) ∨ (J.go i H ∧ ∃ N : L2.St → Hp → Prop, (∀ σ' H', N σ' H' → ∃ m', m' < m ∧ W (i + 1) m' σ' H') ∧ ∀ x H', J.yld i H x H' → wG X tg x σ H' fun σ2 H2 => wSs X body { D with nx := N, ct := N, bk := D.nx } σ2 H2) := by
  -- one turn, whatever the end is
  have turn : ∀ (fin : SRes), forL t mb cal ds g = fin → ∀ (D : Ends), fin ≠ .bad →
      (∀ σ' g' Hf' H', Ex Hf Hf' → Co F σ' g' Hf' H' → (fin = .nx g' → D.nx σ' H')) →
      (∀ en g', fin = .rt en g' → ∀ v σ' Hf' H', Ex Hf Hf' → Co F σ' g' Hf' H' → RpE F σ' g' Hf' H' v en → D.rt v H') →
      (∀ x g', fin = .exc x g' → ∃ W : WX, Takes X W ∧ ∀ c dx σ' Hf' H', Ex Hf Hf' → Co F σ' g' Hf' H' → rx x c dx H' → W c dx σ' H') →
      ∃ W : Nat → Nat → L2.St → Hp → Prop, (∃ m, W 0 m σ H) ∧ ∀ i m σ H, W i m σ H →
      (J.stop i H ∧ D.nx σ H) ∨ (J.go i H ∧ ∃ N : L2.St → Hp → Prop, (∀ σ' H', N σ' H' → ∃ m', m' < m ∧ W (i + 1) m' σ' H') ∧ ∀ x H', J.yld i H x H' → wG X tg x σ H' fun σ2 H2 => wSs X body { D with nx := N, ct := N, bk := D.nx } σ2 H2) := by
    intro fin hfin D hbad hnx hrt hexc
    refine ⟨fun i m σ1 H1 => m = ds.length - i ∧ i ≤ ds.length ∧ ∃ g1 Hf1, Ex Hf Hf1 ∧ Co F σ1 g1 Hf1 H1 ∧ forL t mb cal (ds.drop i) g1 = fin, ⟨ds.length, by simp, Nat.zero_le _, g, Hf, Ex.refl _, co, by rw [List.drop_zero]; exact hfin⟩, ?_⟩
    rintro i m σ1 H1 ⟨rfl, hi, g1, Hf1, e1, co1, hfor⟩
    obtain ⟨k1, k2⟩ := it i Hf1 H1 (e0.trans e1) co1.ex
    by_cases hlt : i < ds.length
    · obtain ⟨go, step⟩ := k1 ds[i] (List.getElem?_eq_getElem hlt)
      refine .inr ⟨go, ?_⟩
      rw [List.drop_eq_getElem_cons hlt, forL] at hfor
      cases ha : asg t ds[i] g1 with
      | none => rw [ha] at hfor; exact absurd hfor.symm hbad
      | some g2 =>
        rw [ha] at hfor
        refine ⟨fun σ' H' => ∃ g3 Hf3, Ex Hf Hf3 ∧ Co F σ' g3 Hf3 H' ∧ forL t mb cal (ds.drop (i + 1)) g3 = fin, fun σ' H' ⟨g3, Hf3, e3, co3, h3⟩ => ⟨ds.length - (i + 1), by omega, rfl, hlt, g3, Hf3, e3, co3, h3⟩, fun x H' hy => ?_⟩
        obtain ⟨Hf2, e2, co2, r2⟩ := yield_co co1 (step x H' hy)
        refine hg σ1 g1 Hf2 H' x ds[i] g2 co2 r2 ha _ fun σ2 co2 _ _ => ?_
        have hbd := hb σ2 g2 Hf2 H' co2
        have e12 := e1.trans e2
        dsimp only at hfor
        cases hm : mb cal g2 with
        | nx g3 =>
          rw [hm] at hbd hfor
          exact hbd _ fun σ' Hf' H3 e3 co3 => ⟨g3, Hf', e12.trans e3, co3, hfor⟩
        | ct g3 =>
          rw [hm] at hbd hfor
          exact hbd _ fun σ' Hf' H3 e3 co3 => ⟨g3, Hf', e12.trans e3, co3, hfor⟩
        | bk g3 =>
          rw [hm] at hbd hfor
          exact hbd _ fun σ' Hf' H3 e3 co3 => hnx σ' g3 Hf' H3 (e12.trans e3) co3 hfor.symm
        | rt en g3 =>
          rw [hm] at hbd hfor
          exact hbd _ fun v σ' Hf' H3 e3 co3 r3 => hrt en g3 hfor.symm v σ' Hf' H3 (e12.trans e3) co3 r3
        | exc y g3 =>
          rw [hm] at hbd hfor
          obtain ⟨W, tk, hW⟩ := hexc y g3 hfor.symm
          exact hbd W _ tk fun c dx σ' Hf' H3 e3 co3 r3 => hW c dx σ' Hf' H3 (e12.trans e3) co3 r3
        | bad =>
          rw [hm] at hfor
          exact absurd hfor.symm hbad
    · have hd : ds.drop i = [] := List.drop_of_length_le (by omega)
      rw [hd, forL] at hfor
      exact .inl ⟨k2 (by omega), hnx σ1 g1 Hf1 H1 e1 co1 hfor.symm⟩
  cases hr : forL t mb cal ds g with
  | nx g' =>
    exact fun D q => turn _ hr D (by simp) (fun σ' g2 Hf' H' e co h => by cases h; exact q σ' Hf' H' e co) (fun _ _ h => by cases h) (fun _ _ h => by cases h)
  | rt en g' =>
    exact fun D q => turn _ hr D (by simp) (fun σ' g2 Hf' H' e co h => by cases h) (fun _ _ h => by cases h; exact fun v σ' Hf' H' e co r => q v σ' Hf' H' e co r) (fun _ _ h => by cases h)
  | exc x g' =>
    exact fun W D tk q => turn _ hr D (by simp) (fun σ' g2 Hf' H' e co h => by cases h) (fun _ _ h => by cases h) (fun _ _ h => by cases h; exact ⟨W, tk, q⟩)
  | bad => trivial
  | bk g' => exact absurd hr (forL_ends ds g).1
  | ct g' => exact absurd hr (forL_ends ds g).2

theorem ds_for {tg iter : Expr} {body : List Stmt} {t : Tg} {mi : M (List D)} {mb : MS} {pos : Pos} (hp : PassesOwn (model X.prog X.w) X.A X.env X.xe) (hc : X.calm = true) (hs : ∀ x, foldedSetIterable iter X.env x = pure x)
    (hi : DI X F rx cal tg iter mi) (hg : DG X F tg t) (hb : DSs X F rx cal body mb) : DS X F rx cal (.For tg iter body [] pos) (sFor mi t mb) := fun σ g Hf H co => by
  refine PostS.bind (w2 := fun (J : It) H1 D => ∃ W : Nat → Nat → L2.St → Hp → Prop, (∃ m, W 0 m σ H1) ∧ ∀ i m σ H, W i m σ H →
      (J.stop i H ∧ D.nx σ H) ∨ (J.go i H ∧ ∃ N : L2.St → Hp → Prop, (∀ σ' H', N σ' H' → ∃ m', m' < m ∧ W (i + 1) m' σ' H') ∧ ∀ x H', J.yld i H x H' → wG X tg x σ H' fun σ2 H2 => wSs X body { D with nx := N, ct := N, bk := D.nx } σ2 H2))
    (hi σ g Hf H co) (fun ds g1 J Hf1 H1 _ e1 co1 it => ?_) fun D q => wS_of (ps_for hp hc pi_w pg_w pss_w hs) q
  exact for_rest hg hb it (Ex.refl _) co1
/-- a while's rest -/
theorem while_rest {c : Expr} {body : List Stmt} {mt : M Bool} {mb : MS} (ht : DT X F rx cal c mt) (hb : DSs X F rx cal body mb) (n : Nat) (co : Co F σ g Hf H) :
    PostS X F rx Hf (whL mt mb cal n g) fun D => tWhile (wT X c) (wSs X body) D σ H := by
  have turn : ∀ (fin : SRes), whL mt mb cal n g = fin → ∀ (D : Ends), fin ≠ .bad →
      (∀ σ' g' Hf' H', Ex Hf Hf' → Co F σ' g' Hf' H' → (fin = .nx g' → D.nx σ' H')) →
      (∀ en g', fin = .rt en g' → ∀ v σ' Hf' H', Ex Hf Hf' → Co F σ' g' Hf' H' → RpE F σ' g' Hf' H' v en → D.rt v H') →
      (∀ x g', fin = .exc x g' → ∃ W : WX, Takes X W ∧ ∀ c dx σ' Hf' H', Ex Hf Hf' → Co F σ' g' Hf' H' → rx x c dx H' → W c dx σ' H') →
      tWhile (wT X c) (wSs X body) D σ H := by
    intro fin hfin D hbad hnx hrt hexc
    refine ⟨fun m σ1 H1 => ∃ g1 Hf1, Ex Hf Hf1 ∧ Co F σ1 g1 Hf1 H1 ∧ whL mt mb cal m g1 = fin, ⟨n, g, Hf, Ex.refl _, co, hfin⟩, ?_⟩
    rintro m σ1 H1 ⟨g1, Hf1, e1, co1, hw⟩
    cases m with
    | zero => exact absurd hw.symm hbad
    | succ m =>
      rw [whL] at hw
      have k := ht σ1 g1 Hf1 H1 co1
      cases hm : mt cal g1 with
      | ok b g2 =>
        rw [hm] at k hw
        refine k _ fun b' Hf2 H2 e2 co2 r2 => ?_
        cases r2
        cases b with
        | false =>
          dsimp only at hw
          exact iteF (hnx σ1 g2 Hf2 H2 (e1.trans e2) co2 hw.symm)
        | true =>
          dsimp only at hw
          refine iteT ⟨fun σ' H' => ∃ g3 Hf3, Ex Hf Hf3 ∧ Co F σ' g3 Hf3 H' ∧ whL mt mb cal m g3 = fin, fun σ' H' ⟨g3, Hf3, e3, co3, h3⟩ => ⟨m, Nat.lt_succ_self _, g3, Hf3, e3, co3, h3⟩, ?_⟩
          have hbd := hb σ1 g2 Hf2 H2 co2
          have e12 := e1.trans e2
          cases hm2 : mb cal g2 with
          | nx g3 =>
            rw [hm2] at hbd hw
            exact hbd _ fun σ' Hf' H3 e3 co3 => ⟨g3, Hf', e12.trans e3, co3, hw⟩
          | ct g3 =>
            rw [hm2] at hbd hw
            exact hbd _ fun σ' Hf' H3 e3 co3 => ⟨g3, Hf', e12.trans e3, co3, hw⟩
          | bk g3 =>
            rw [hm2] at hbd hw
            exact hbd _ fun σ' Hf' H3 e3 co3 => hnx σ' g3 Hf' H3 (e12.trans e3) co3 hw.symm
          | rt en g3 =>
            rw [hm2] at hbd hw
            exact hbd _ fun v σ' Hf' H3 e3 co3 r3 => hrt en g3 hw.symm v σ' Hf' H3 (e12.trans e3) co3 r3
          | exc y g3 =>
            rw [hm2] at hbd hw
            obtain ⟨W, tk, hW⟩ := hexc y g3 hw.symm
            exact hbd W _ tk fun c dx σ' Hf' H3 e3 co3 r3 => hW c dx σ' Hf' H3 (e12.trans e3) co3 r3
          | bad =>
            rw [hm2] at hw
            exact absurd hw.symm hbad
      | exc y g2 =>
        rw [hm] at k hw
        obtain ⟨W, tk, hW⟩ := hexc y g2 hw.symm
        exact k W _ tk fun c dx Hf' H3 e3 co3 r3 => hW c dx σ1 Hf' H3 (e1.trans e3) co3 r3
      | bad =>
        rw [hm] at hw
        exact absurd hw.symm hbad
  cases hr : whL mt mb cal n g with
  | nx g' => exact fun D q => turn _ hr D (by simp) (fun σ' g2 Hf' H' e co h => by cases h; exact q σ' Hf' H' e co) (fun _ _ h => by cases h) (fun _ _ h => by cases h)
  | rt en g' => exact fun D q => turn _ hr D (by simp) (fun σ' g2 Hf' H' e co h => by cases h) (fun _ _ h => by cases h; exact fun v σ' Hf' H' e co r => q v σ' Hf' H' e co r) (fun _ _ h => by cases h)
  | exc x g' => exact fun W D tk q => turn _ hr D (by simp) (fun σ' g2 Hf' H' e co h => by cases h) (fun _ _ h => by cases h) (fun _ _ h => by cases h; exact ⟨W, tk, q⟩)
  | bad => trivial
  | bk g' => exact absurd hr (whL_ends n g).1
  | ct g' => exact absurd hr (whL_ends n g).2
theorem ds_while {c : Expr} {body : List Stmt} {mt : M Bool} {mb : MS} {pos : Pos} (n : Nat) (hp : PassesOwn (model X.prog X.w) X.A X.env X.xe) (ht : DT X F rx cal c mt) (hb : DSs X F rx cal body mb) : DS X F rx cal (.While c body [] pos) (sWh n mt mb) := fun σ g Hf H co =>
  (while_rest ht hb n co).imp fun D q => wS_of (ps_while hp pt_w pss_w) q
end
end Wb

set_option Elab.async false
set_option linter.all false
set_option maxRecDepth 100000
set_option maxHeartbeats 4000000
/-! Wb: list comprehensions. -/
namespace Wb
open PySem PySem.Spec PyProof.Rows L2

def wipeG (g : Env') : List Nat → Env'
  | [] => g
  | v :: vs => (wipeG g vs).set v .no
/-- the slots vs as they were in g0 -/
def restG (g0 g : Env') : List Nat → Env'
  | [] => g
  | v :: vs => (restG g0 g vs).set v ((g0[v]?).getD .no)
def notOwn : Option Slot → Bool
  | some (.own _) => false
  | none => false
  | _ => true
def okW (vs : List Nat) (g : Env') : Bool := vs.all fun v => notOwn g[v]?
theorem wipeG_len (g : Env') : ∀ vs, (wipeG g vs).length = g.length
  | [] => rfl
  | v :: vs => by rw [wipeG, List.length_set, wipeG_len g vs]
theorem restG_len (g0 g : Env') : ∀ vs, (restG g0 g vs).length = g.length
  | [] => rfl
  | v :: vs => by rw [restG, List.length_set, restG_len g0 g vs]
theorem wipeG_out {g : Env'} {j : Nat} : ∀ {vs : List Nat}, j ∉ vs → (wipeG g vs)[j]? = g[j]?
  | [], _ => rfl
  | v :: vs, h => by
    rw [List.mem_cons, not_or] at h
    rw [wipeG, List.getElem?_set_ne (Ne.symm h.1), wipeG_out h.2]
theorem wipeG_in {g : Env'} {j : Nat} {sl : Slot} : ∀ {vs : List Nat}, j ∈ vs → (wipeG g vs)[j]? = some sl → sl = .no
  | v :: vs, h, e => by
    rw [wipeG] at e
    by_cases hv : v = j
    · subst hv
      rw [List.getElem?_set] at e
      simp only [if_true] at e
      split at e
      · cases e; rfl
      · cases e
    · rw [List.getElem?_set_ne hv] at e
      rcases List.mem_cons.mp h with z | z
      · exact absurd z.symm hv
      · exact wipeG_in z e
theorem restG_out {g0 g : Env'} {j : Nat} : ∀ {vs : List Nat}, j ∉ vs → (restG g0 g vs)[j]? = g[j]?
  | [], _ => rfl
  | v :: vs, h => by
    rw [List.mem_cons, not_or] at h
    rw [restG, List.getElem?_set_ne (Ne.symm h.1), restG_out h.2]
theorem restG_in {g0 g : Env'} {j : Nat} {sl : Slot} : ∀ {vs : List Nat}, j ∈ vs → (restG g0 g vs)[j]? = some sl → sl = (g0[j]?).getD .no
  | v :: vs, h, e => by
    rw [restG] at e
    by_cases hv : v = j
    · subst hv
      rw [List.getElem?_set] at e
      simp only [if_true] at e
      split at e
      · cases e; rfl
      · cases e
    · rw [List.getElem?_set_ne hv] at e
      rcases List.mem_cons.mp h with z | z
      · exact absurd z.symm hv
      · exact restG_in z e
section
variable {F : Fx} {σ : L2.St} {g : Env'} {Hf H : Hp}
theorem Co.wiped {vs : List Nat} (co : Co F σ g Hf H) (hio : F.io = none ∨ 0 ∉ vs) : Co F (wipe σ vs) (wipeG g vs) Hf H := by
  have back : ∀ (j : Nat) sl, sl ≠ Slot.no → (wipeG g vs)[j]? = some sl → j ∉ vs ∧ g[j]? = some sl := fun j sl hne h => by
    by_cases hj : j ∈ vs
    · exact absurd (wipeG_in hj h) hne
    · rw [wipeG_out hj] at h
      exact ⟨hj, h⟩
  refine ⟨by rw [wipeG_len, wipe_length]; exact co.len, co.ex0, co.ex, co.frz, co.pres, fun j d hj => ?_, fun j d hj => ?_, fun j k d d' p hj hk h1 h2 => ?_, fun q hq => ⟨(co.awy q hq).1, (co.awy q hq).2.1, (co.awy q hq).2.2.1, fun j d hj hs => ?_⟩, fun p hp => ?_⟩
  · obtain ⟨n, h⟩ := back j _ (by simp) hj
    obtain ⟨v, h1, h2⟩ := co.val j d h
    exact ⟨v, by rw [wipe_out n]; exact h1, h2⟩
  · obtain ⟨n, h⟩ := back j _ (by simp) hj
    obtain ⟨p, h1, h2⟩ := co.own j d h
    exact ⟨p, by rw [wipe_out n]; exact h1, h2⟩
  · obtain ⟨n, h⟩ := back j _ (by simp) hj
    obtain ⟨n', h'⟩ := back k _ (by simp) hk
    rw [wipe_out n] at h1
    rw [wipe_out n'] at h2
    exact co.dist j k d d' p h h' h1 h2
  · obtain ⟨n, h⟩ := back j _ (by simp) hj
    rw [wipe_out n] at hs
    exact (co.awy q hq).2.2.2 j d h hs
  · obtain ⟨h1, d, h2⟩ := co.ios p hp
    have h0 : 0 ∉ vs := by
      rcases hio with z | z
      · rw [z] at hp; cases hp
      · exact z
    exact ⟨by rw [wipe_out h0]; exact h1, d, by rw [wipeG_out h0]; exact h2⟩
theorem Co.restd {vs : List Nat} {gE : Env'} {Hf' H' : Hp} (co : Co F σ g Hf H) (ow : okW vs g = true) (hio : F.io = none ∨ 0 ∉ vs) (e : Ex Hf Hf') (c2 : Co F (wipe σ vs) gE Hf' H') : Co F σ (restG g gE vs) Hf' H' := by
  have hin : ∀ (j : Nat) sl, sl ≠ Slot.no → (restG g gE vs)[j]? = some sl → (j ∈ vs ∧ g[j]? = some sl) ∨ (j ∉ vs ∧ gE[j]? = some sl) := fun j sl hne h => by
    by_cases hj : j ∈ vs
    · have z := restG_in hj h
      left
      refine ⟨hj, ?_⟩
      cases hg : g[j]? with
      | none => rw [hg] at z; exact absurd z hne
      | some s2 => rw [hg] at z; rw [z]; rfl
    · rw [restG_out hj] at h
      exact .inr ⟨hj, h⟩
  have hown : ∀ (j : Nat) d, (restG g gE vs)[j]? = some (.own d) → j ∉ vs ∧ gE[j]? = some (.own d) := fun j d h => by
    rcases hin j _ (by simp) h with ⟨z, k⟩ | z
    · have q := List.all_eq_true.mp ow j z
      rw [k] at q
      cases q
    · exact z
  refine ⟨by rw [restG_len, c2.len, wipe_length], c2.ex0, c2.ex, c2.frz, c2.pres, fun j d hj => ?_, fun j d hj => ?_, fun j k d d' p hj hk h1 h2 => ?_, fun q hq => ⟨(c2.awy q hq).1, (c2.awy q hq).2.1, (c2.awy q hq).2.2.1, fun j d hj hs => ?_⟩, fun p hp => ?_⟩
  · rcases hin j _ (by simp) hj with ⟨z, k⟩ | ⟨z, k⟩
    · obtain ⟨v, h1, h2⟩ := co.val j d k
      exact ⟨v, h1, h2.mono e⟩
    · obtain ⟨v, h1, h2⟩ := c2.val j d k
      rw [wipe_out z] at h1
      exact ⟨v, h1, h2⟩
  · obtain ⟨z, k⟩ := hown j d hj
    obtain ⟨p, h1, h2⟩ := c2.own j d k
    rw [wipe_out z] at h1
    exact ⟨p, h1, h2⟩
  · obtain ⟨z, k1⟩ := hown j d hj
    obtain ⟨z', k2⟩ := hown k d' hk
    exact c2.dist j k d d' p k1 k2 (by rw [wipe_out z]; exact h1) (by rw [wipe_out z']; exact h2)
  · obtain ⟨z, k1⟩ := hown j d hj
    exact (c2.awy q hq).2.2.2 j d k1 (by rw [wipe_out z]; exact hs)
  · obtain ⟨h1, d, h2⟩ := c2.ios p hp
    have h0 : 0 ∉ vs := by
      rcases hio with z | z
      · rw [z] at hp; cases hp
      · exact z
    rw [wipe_out h0] at h1
    exact ⟨h1, d, by rw [restG_out h0]; exact h2⟩
/-- an object is set aside; it is changed there; it comes back as ours -/
theorem Co.aside {D : Addr} {o : HO} (co : Co F σ g Hf H) (hD : H D = some o) (h1 : Hf D = none) (h2 : some D ≠ F.io) (h3 : ∀ (i : Nat) d, g[i]? = some (.own d) → σ[i]? ≠ some (some (.ref D))) : Co { F with aw := (D, o) :: F.aw } σ g Hf H :=
  ⟨co.len, co.ex0, co.ex, co.frz, co.pres, co.val, co.own, co.dist, fun q hq => by
    rcases List.mem_cons.mp hq with rfl | hq
    · exact ⟨hD, h1, h2, h3⟩
    · exact co.awy q hq, co.ios⟩
theorem Co.back {D : Addr} {o : HO} (co : Co { F with aw := (D, o) :: F.aw } σ g Hf H) : Co F σ g Hf H :=
  ⟨co.len, co.ex0, co.ex, co.frz, co.pres, co.val, co.own, co.dist, fun q hq => co.awy q (List.mem_cons_of_mem _ hq), co.ios⟩
theorem Co.updAside {D : Addr} {o : HO} (co : Co F σ g Hf H) (h1 : Hf D = none) (h2 : some D ≠ F.io) (h3 : ∀ (i : Nat) d, g[i]? = some (.own d) → σ[i]? ≠ some (some (.ref D))) (h4 : F.H0 D = none) (h5 : ∀ q ∈ F.aw, q.1 ≠ D) : Co F σ g Hf (upd H D o) := by
  refine ⟨co.len, co.ex0, Ex.mut co.ex h1, co.frz, fun a u e n => ?_, co.val, fun i d hg => ?_, co.dist, fun q hq => ⟨?_, (co.awy q hq).2⟩, co.ios⟩
  · rw [upd_ne (ne_of_none e h4)]
    exact co.pres a u e n
  · obtain ⟨p, k1, k2, k3, k4⟩ := co.own i d hg
    have hp : p ≠ D := fun z => h3 i d hg (by rw [← z]; exact k1)
    exact ⟨p, k1, k2, k3, k4.mono (Ex.refl _) fun u hu => by rw [upd_ne hp]; exact hu⟩
  · rw [upd_ne (h5 q hq)]
    exact (co.awy q hq).1
end
def lcL (t : Tg) (tt : M Bool) (me : M D) (vs : List Nat) (c : Cal) : List D → Env' → List D → Res (List D)
  | [], g, acc => .ok acc g
  | d :: ds, g, acc => match asg t d g with
    | none => .bad
    | some g1 => match tt c g1 with
      | .ok true g2 => (match me c g2 with
        | .ok y g3 => if acc.length < lim then lcL t tt me vs c ds (wipeG g3 vs) (acc ++ [y]) else .bad
        | _ => .bad)
      | .ok false g2 => lcL t tt me vs c ds (wipeG g2 vs) acc
      | _ => .bad
def mLc (mi : M (List D)) (t : Tg) (tt : M Bool) (me : M D) (vs : List Nat) : M Ent := bnd mi fun ds => fun c g =>
  if okW vs g then (match lcL t tt me vs c ds (wipeG g vs) [] with
    | .ok acc g' => .ok (.own (.lst acc)) (restG g g' vs)
    | _ => .bad) else .bad
def Fx.like (F' F : Fx) : Prop := F'.R = F.R ∧ F'.io = F.io
abbrev blkOf (X : Cx) (scope : Scope) (s : Shared) (H : Hp) (C : Addr) (cl : List (Str × Addr)) (fp : List Addr) : Cx := X.blk s H scope (compEnvC scope cl C X.env) fp
/-- the tests of a clause -/
def DTs (X : Cx) (F : Fx) (rx : RX) (cal : Cal) (ifs : List Expr) (m : M Bool) : Prop :=
  ∀ (σ : L2.St) (g : Env') (Hf H : Hp), Co F σ g Hf H → Post X F rx σ Hf relB (m cal g) (fun Q => ∀ (pins : List (Addr × Obj)) (s : Shared), Inv X pins σ H s →
    wpAny (model X.prog X.w) X.A (forIn ifs true fun c r => if r = true then do let ok ← isTrue c X.env (eval c X.env); pure (ForInStep.yield ok) else pure (ForInStep.yield r)) (TP X pins σ Q) X.xe s)
theorem dts_nil {X : Cx} {F : Fx} {rx : RX} {cal : Cal} : DTs X F rx cal [] (ret true) := fun σ g Hf H co => Post.ok co rfl fun Q q pins s I => pts_nil.run pins s σ H Q I q
theorem dts_one {X : Cx} {F : Fx} {rx : RX} {cal : Cal} {c : Expr} {m : M Bool} (h : DT X F rx cal c m) : DTs X F rx cal [c] m := fun σ g Hf H co => (h σ g Hf H co).imp fun Q q pins s I => (pts_one pt_w).run pins s σ H Q I q
/-- a comprehension's block: its target, tests, element, in every block that may run -/
structure BlkD (X : Cx) (F : Fx) (rx : RX) (cal : Cal) (scope : Scope) (tg : Expr) (ifs : List Expr) (elt : Expr) (t : Tg) (tt : M Bool) (me : M D) : Prop where
  hg : ∀ F' : Fx, F'.like F → ∀ s H C cl fp, DG (blkOf X scope s H C cl fp) F' tg t
  ht : ∀ F' : Fx, F'.like F → ∀ s H C cl fp, DTs (blkOf X scope s H C cl fp) F' rx cal ifs tt
  he : ∀ F' : Fx, F'.like F → ∀ s H C cl fp, DD (blkOf X scope s H C cl fp) F' rx cal elt me
section
variable {X : Cx} {F : Fx} {rx : RX} {cal : Cal} {scope : Scope} {tg iter elt : Expr} {ifs : List Expr} {t : Tg} {tt : M Bool} {me : M D} {own : List (Str × Nat)} {mi : M (List D)} {pos : Pos}
def bG (X : Cx) (scope : Scope) (tg : Expr) : TG := fun v σ H Q => ∀ s H0 C cl fp, wG (blkOf X scope s H0 C cl fp) tg v σ H Q
def bT (X : Cx) (scope : Scope) (ifs : List Expr) : TT := fun σ H Q => ∀ s0 H0 C cl fp, ∀ (pins : List (Addr × Obj)) (s : Shared), Inv (blkOf X scope s0 H0 C cl fp) pins σ H s →
    wpAny (model X.prog X.w) X.A (forIn ifs true fun c r => if r = true then do let ok ← isTrue c (blkOf X scope s0 H0 C cl fp).env (eval c (blkOf X scope s0 H0 C cl fp).env); pure (ForInStep.yield ok) else pure (ForInStep.yield r)) (TP (blkOf X scope s0 H0 C cl fp) pins σ Q) (blkOf X scope s0 H0 C cl fp).xe s
def bE (X : Cx) (scope : Scope) (e : Expr) : TE := fun σ H Q => ∀ s H0 C cl fp, wE (blkOf X scope s H0 C cl fp) e σ H Q
theorem wipe_same {σ σ2 : L2.St} {vs : List Nat} (hl : σ2.length = σ.length) (h : ∀ j, j ∉ vs → σ2[j]? = σ[j]?) : wipe σ2 vs = wipe σ vs := by
  have key : ∀ (τ : L2.St) (ws : List Nat) (j : Nat), j ∈ ws → (wipe τ ws)[j]? = if j < τ.length then some none else none := by
    intro τ ws j
    induction ws with
    | nil => intro h; cases h
    | cons w ws ih =>
      intro h
      unfold wipe
      by_cases hw : w = j
      · subst hw
        rw [List.getElem?_set, wipe_length]
        simp
      · rw [List.getElem?_set_ne hw]
        rcases List.mem_cons.mp h with z | z
        · exact absurd z.symm hw
        · exact ih z
  apply List.ext_getElem?
  intro j
  by_cases hj : j ∈ vs
  · rw [key σ2 vs j hj, key σ vs j hj, hl]
  · rw [wipe_out hj, wipe_out hj, h j hj]
theorem lc_rest {σ : L2.St} {g : Env'} {Hf H1 Hf0 : Hp} {J : It} {ds : List D} {Dl : Addr} (B : BlkD X F rx cal scope tg ifs elt t tt me) (hsl : ∀ j ∈ t.sl, j ∈ own.map (·.2)) (hio : F.io = none ∨ 0 ∉ own.map (·.2)) (it : ItOk F.R J Hf0 ds) (e0 : Ex Hf0 Hf) (co : Co F σ g Hf H1)
    (ow : okW (own.map (·.2)) g = true) (hD : H1 Dl = none) {acc : List D} {gE : Env'} (hr : lcL t tt me (own.map (·.2)) cal ds (wipeG g (own.map (·.2))) [] = .ok acc gE) (Q : VK)
    (q : ∀ Hf' H', Ex Hf Hf' → Co F σ (restG g gE (own.map (·.2))) Hf' H' → RpE F σ (restG g gE (own.map (·.2))) Hf' H' (.ref Dl) (.own (.lst acc)) → Q (.ref Dl) H') :
    ∃ W : Nat → Nat → Hp → Prop, (∃ m, W 0 m (upd H1 Dl (.lst []))) ∧ ∀ i m H, W i m H →
      (J.stop i H ∧ Q (.ref Dl) H) ∨ (J.go i H ∧ ∃ Nx : Hp → Prop, (∀ H', Nx H' → ∃ m', m' < m ∧ W (i + 1) m' H') ∧ ∀ x H', J.yld i H x H' → bG X scope tg x (wipe σ (own.map (·.2))) H' fun σ2 H2 => wipe σ2 (own.map (·.2)) = wipe σ (own.map (·.2)) ∧ bT X scope ifs σ2 H2 fun b H3 =>
        if b = true then bE X scope elt σ2 H3 fun y H4 => ∃ acc, H4 Dl = some (.lst acc) ∧ acc.length < sizeLine ∧ Nx (upd H4 Dl (.lst (acc ++ [y]))) else Nx H3) := by
  obtain ⟨d1, d2, d3, d4, d5⟩ := co.away hD
  generalize hvs : own.map (·.2) = vs at *
  have fr : ∀ {g' : Env'}, (∀ (i : Nat) d, g'[i]? = some (.own d) → (wipe σ vs)[i]? ≠ some (some (.ref Dl))) → ∀ (i : Nat) d, (restG g g' vs)[i]? = some (.own d) → σ[i]? ≠ some (some (.ref Dl)) := fun {g'} h i d hi hs => by
    by_cases hj : i ∈ vs
    · have z := restG_in hj hi
      cases hg : g[i]? with
      | none => rw [hg] at z; cases z
      | some s2 =>
        rw [hg] at z
        have z' : Slot.own d = s2 := z
        subst z'
        exact d4 i d hg hs
    · rw [restG_out hj] at hi
      exact h i d hi (by rw [wipe_out hj]; exact hs)
  refine ⟨fun i m H => m = ds.length - i ∧ i ≤ ds.length ∧ ∃ gi Hfi ai vi, Ex Hf Hfi ∧ Co F (wipe σ vs) gi Hfi H ∧ H Dl = some (.lst vi) ∧ Rps F.R Hfi vi ai ∧ Hfi Dl = none ∧ (∀ (i : Nat) d, gi[i]? = some (.own d) → (wipe σ vs)[i]? ≠ some (some (.ref Dl))) ∧ lcL t tt me vs cal (ds.drop i) gi ai = .ok acc gE,
    ⟨ds.length, by simp, Nat.zero_le _, wipeG g vs, Hf, [], [], Ex.refl _, (co.newOwn hD _).wiped hio, upd_same, .nil, d1, fun i d hi hs => ?_, by rw [List.drop_zero]; exact hr⟩, ?_⟩
  · by_cases hj : i ∈ vs
    · have z := wipeG_in hj hi
      cases z
    · rw [wipeG_out hj] at hi
      rw [wipe_out hj] at hs
      exact d4 i d hi hs
  rintro i m H ⟨rfl, hi, gi, Hfi, ai, vi, ei, ci, hDl, ri, hn, hfr, hlc⟩
  obtain ⟨k1, k2⟩ := it i Hfi H (e0.trans ei) ci.ex
  by_cases hlt : i < ds.length
  · obtain ⟨go, step⟩ := k1 ds[i] (List.getElem?_eq_getElem hlt)
    refine .inr ⟨go, fun H' => ∃ gj Hfj aj vj, Ex Hf Hfj ∧ Co F (wipe σ vs) gj Hfj H' ∧ H' Dl = some (.lst vj) ∧ Rps F.R Hfj vj aj ∧ Hfj Dl = none ∧ (∀ (i : Nat) d, gj[i]? = some (.own d) → (wipe σ vs)[i]? ≠ some (some (.ref Dl))) ∧ lcL t tt me vs cal (ds.drop (i + 1)) gj aj = .ok acc gE,
      fun H' h => ⟨ds.length - (i + 1), by omega, rfl, hlt, h⟩, fun x H' hy s0 H0 C cl fp => ?_⟩
    rw [List.drop_eq_getElem_cons hlt, lcL] at hlc
    cases ha : asg t ds[i] gi with
    | none => rw [ha] at hlc; cases hlc
    | some g1 =>
      rw [ha] at hlc
      dsimp only at hlc
      -- with the list aside
      have ca := ci.aside hDl hn d3 hfr
      obtain ⟨Hf2, e2, c2, r2⟩ := yield_co ca (step x H' hy)
      refine B.hg { F with aw := (Dl, HO.lst vi) :: F.aw } ⟨rfl, rfl⟩ s0 H0 C cl fp (wipe σ vs) gi Hf2 H' x ds[i] g1 c2 r2 ha _ fun σ2 c3 hl3 hj3 => ?_
      have hw3 : wipe σ2 vs = wipe σ vs := by
        have h1 : wipe σ2 vs = wipe (wipe σ vs) vs := wipe_same hl3 fun j hj => hj3 j fun z => hj (hsl j z)
        rw [h1]
        exact wipe_same (wipe_length _ _) fun j hj => wipe_out hj
      refine ⟨hw3, fun s0 H0 C cl fp => ?_⟩
      have kt := B.ht { F with aw := (Dl, HO.lst vi) :: F.aw } ⟨rfl, rfl⟩ s0 H0 C cl fp σ2 g1 Hf2 H' c3
      cases hm : tt cal g1 with
      | ok b g2 =>
        rw [hm] at kt hlc
        refine kt _ fun b' Hf3 H3 e3 c4 rb => ?_
        cases rb
        cases b with
        | false =>
          dsimp only at hlc
          refine iteF ⟨wipeG g2 vs, Hf3, ai, vi, (ei.trans e2).trans e3, ?_, (c4.awy _ List.mem_cons_self).1, ri.mono (e2.trans e3), (c4.awy _ List.mem_cons_self).2.1, fun j d hj hs => ?_, hlc⟩
          · have z := (c4.back).wiped (vs := vs) hio
            rw [hw3] at z
            exact z
          · by_cases hv : j ∈ vs
            · have z := wipeG_in hv hj
              cases z
            · rw [wipeG_out hv] at hj
              rw [wipe_out hv] at hs
              have z : σ2[j]? = σ[j]? := by
                rw [hj3 j fun z => hv (hsl j z), wipe_out hv]
              exact (c4.awy _ List.mem_cons_self).2.2.2 j d hj (by rw [z]; exact hs)
        | true =>
          dsimp only at hlc
          refine iteT fun s0 H0 C cl fp => ?_
          have ke := B.he { F with aw := (Dl, HO.lst vi) :: F.aw } ⟨rfl, rfl⟩ s0 H0 C cl fp σ2 g2 Hf3 H3 c4
          cases hm2 : me cal g2 with
          | ok y g3 =>
            rw [hm2] at ke hlc
            dsimp only at hlc
            by_cases hz : ai.length < lim
            · rw [if_pos hz] at hlc
              refine ke _ fun v Hf4 H4 e4 c5 r5 => ?_
              obtain ⟨a1, a2, a3, a4⟩ := c5.awy _ List.mem_cons_self
              refine ⟨vi, a1, by rw [lim_eq, ri.length]; exact hz, wipeG g3 vs, Hf4, ai ++ [y], vi ++ [v], ((ei.trans e2).trans e3).trans e4, ?_, upd_same, (ri.mono ((e2.trans e3).trans e4)).append (.cons r5 .nil), a2, fun j d hj hs => ?_, hlc⟩
              · have z := (c5.back.updAside (o := .lst (vi ++ [v])) a2 d3 a4 d2 d5).wiped (vs := vs) hio
                rw [hw3] at z
                exact z
              · by_cases hv : j ∈ vs
                · have z := wipeG_in hv hj
                  cases z
                · rw [wipeG_out hv] at hj
                  rw [wipe_out hv] at hs
                  have z : σ2[j]? = σ[j]? := by
                    rw [hj3 j fun z => hv (hsl j z), wipe_out hv]
                  exact a4 j d hj (by rw [z]; exact hs)
            · rw [if_neg hz] at hlc
              cases hlc
          | exc y g3 => rw [hm2] at hlc; cases hlc
          | bad => rw [hm2] at hlc; cases hlc
      | exc y g2 => rw [hm] at hlc; cases hlc
      | bad => rw [hm] at hlc; cases hlc
  · have hd : ds.drop i = [] := List.drop_of_length_le (by omega)
    rw [hd, lcL] at hlc
    cases hlc
    refine .inl ⟨k2 (by omega), q Hfi H ei (co.restd ow hio ei ci) ⟨Dl, rfl, hn, d2, d3, fr hfr, d5, vi, hDl, ri⟩⟩
theorem lc_post {σ : L2.St} {g : Env'} {Hf H : Hp} {w : VK → Prop} (hi : DI X F rx cal tg iter mi) (B : BlkD X F rx cal scope tg ifs elt t tt me) (hsl : ∀ j ∈ t.sl, j ∈ own.map (·.2)) (hio : F.io = none ∨ 0 ∉ own.map (·.2)) (co : Co F σ g Hf H)
    (hw : ∀ Q, tLc (wI X tg iter) (bG X scope tg) (bT X scope ifs) (bE X scope elt) (own.map (·.2)) σ H Q → w Q) : Post X F rx σ Hf (relE F σ) (mLc mi t tt me (own.map (·.2)) cal g) w := by
  refine Post.bind (w2 := fun (J : It) H1 (Q : VK) => ∀ D, H1 D = none → ∃ W : Nat → Nat → Hp → Prop, (∃ m, W 0 m (upd H1 D (.lst []))) ∧ ∀ i m H, W i m H →
      (J.stop i H ∧ Q (.ref D) H) ∨ (J.go i H ∧ ∃ Nx : Hp → Prop, (∀ H', Nx H' → ∃ m', m' < m ∧ W (i + 1) m' H') ∧ ∀ x H', J.yld i H x H' → bG X scope tg x (wipe σ (own.map (·.2))) H' fun σ2 H2 => wipe σ2 (own.map (·.2)) = wipe σ (own.map (·.2)) ∧ bT X scope ifs σ2 H2 fun b H3 =>
        if b = true then bE X scope elt σ2 H3 fun y H4 => ∃ acc, H4 D = some (.lst acc) ∧ acc.length < sizeLine ∧ Nx (upd H4 D (.lst (acc ++ [y]))) else Nx H3))
    (hi σ g Hf H co) (fun ds g1 J Hf1 H1 _ e1 co1 it => ?_) fun Q q => hw Q q
  show Post X F rx σ Hf1 (relE F σ) (if okW (own.map (·.2)) g1 then (match lcL t tt me (own.map (·.2)) cal ds (wipeG g1 (own.map (·.2))) [] with
    | .ok acc g' => .ok (.own (.lst acc)) (restG g1 g' (own.map (·.2)))
    | _ => .bad) else .bad) _
  by_cases ow : okW (own.map (·.2)) g1 = true
  · rw [if_pos ow]
    cases hr : lcL t tt me (own.map (·.2)) cal ds (wipeG g1 (own.map (·.2))) [] with
    | ok acc gE => exact fun Q q D hD => lc_rest B hsl hio it (Ex.refl _) co1 ow hD hr Q fun Hf' H' e co' r => q _ Hf' H' e co' r
    | exc x gE => trivial
    | bad => trivial
  · rw [if_neg ow]
    trivial
theorem blk_pg (B : True) : ∀ (s : Shared) (H : Hp) (C : Addr) (cl : List (Str × Addr)) (fp : List Addr), PG (X.blk s H scope (compEnvC scope cl C X.env) fp) tg (bG X scope tg) := fun s H C cl fp => ⟨fun pins s' σ H' v u Q I r h => h s H C cl fp pins s' u I r⟩
theorem blk_pt (B : True) : ∀ (s : Shared) (H : Hp) (C : Addr) (cl : List (Str × Addr)) (fp : List Addr), PTs (X.blk s H scope (compEnvC scope cl C X.env) fp) ifs (bT X scope ifs) := fun s H C cl fp => ⟨fun pins s' σ H' Q I h => h s H C cl fp pins s' I⟩
theorem blk_pe (B : True) : ∀ (s : Shared) (H : Hp) (C : Addr) (cl : List (Str × Addr)) (fp : List Addr), PE (X.blk s H scope (compEnvC scope cl C X.env) fp) elt (bE X scope elt) := fun s H C cl fp => ⟨fun pins s' σ H' Q I h => h s H C cl fp pins s' I⟩
theorem de_lc (hc : X.calm = true) (hN : X.N.Nodup) (ok : BlkOk X.N X.env.scope scope own) (hs : ∀ x, foldedSetIterable iter X.env x = pure x) (hi : DI X F rx cal tg iter mi) (B : BlkD X F rx cal scope tg ifs elt t tt me) (hsl : ∀ j ∈ t.sl, j ∈ own.map (·.2)) (hio : F.io = none ∨ 0 ∉ own.map (·.2)) :
    DE X F rx cal (.ListComp elt [⟨tg, iter, ifs, 0⟩] scope pos) (mLc mi t tt me (own.map (·.2))) := fun σ g Hf H co =>
  lc_post hi B hsl hio co fun Q q => wE_of (pe_lc hc hN pi_w ok (blk_pg trivial) (blk_pt trivial) (blk_pe trivial) hs) q
theorem ds_setLc {i : Nat} {y : Str} {py spos : Pos} (hc : X.calm = true) (hN : X.N.Nodup) (hy : X.N[i]? = some y) (hyl : X.env.scope.names.lookup y = some .local) (hio0 : F.io = none ∨ i ≠ 0)
    (hsw : swapsWith (.ListComp elt [⟨tg, iter, ifs, 0⟩] scope pos) (some (.Name y py)) spos.line X.env = pure true) (ok : BlkOk X.N X.env.scope scope own) (hs : ∀ x, foldedSetIterable iter X.env x = pure x) (hi : DI X F rx cal tg iter mi) (B : BlkD X F rx cal scope tg ifs elt t tt me) (hsl : ∀ j ∈ t.sl, j ∈ own.map (·.2)) (hio : F.io = none ∨ 0 ∉ own.map (·.2)) :
    DS X F rx cal (.Assign [.Name y py] (.ListComp elt [⟨tg, iter, ifs, 0⟩] scope pos) spos) (sSet i (mLc mi t tt me (own.map (·.2)))) := fun σ g Hf H co => by
  refine PostS.bind (w1 := fun (Q : VK) => tLc (wI X tg iter) (bG X scope tg) (bT X scope ifs) (bE X scope elt) (own.map fun (p : Str × Nat) => p.2) σ H Q) (w2 := fun v H1 D => D.nx (σ.set i (some v)) H1) (lc_post hi B hsl hio co fun Q q => q) (fun en g1 v Hf1 H1 _ e1 co1 r1 => set_post co1 r1 hio0 fun D q => q)
    fun D q => wS_of (ps_setLc hc hN hy hyl hsw pi_w ok (blk_pg trivial) (blk_pt trivial) (blk_pe trivial) hs) q
end
end Wb

set_option Elab.async false
set_option linter.all false
set_option maxRecDepth 100000
set_option maxHeartbeats 4000000
/-! Wb: what a def promises where no guard stands around it (repr of a container asks for it), and the end by such a promise. -/
namespace Wb
open PySem PySem.Spec PyProof.Rows L2

structure FnG (P : Program) (w : World) (K : PySem.W.Frag) (mg : Str → Option Value) (base : Heap) (CX : CXT) (k : Nat) (f : Addr) (fd : FuncData) (ps : List Str) (sp : Sp) : Prop where
  len : ∀ vs H Q E, sp vs H Q E → vs.length = ps.length
  run : ∀ (A : Around) (outer : List PySem.Env) (s : Shared) (H : Hp) (args : Args) (us : List Value) (vs : List V) (Q : VK) (E : XK), Room k A → A.guards = some [] → Env0 P w K mg base A outer s H → BindsTo s fd args (ps.zip us) → Vals vs us → sp vs H Q E →
    codeAny (model P w) A (.call (.ref f) args) (CR CX outer P w H s Q E) s
section
variable {P : Program} {w : World} {K : PySem.W.Frag} {mg : Str → Option Value} {base : Heap} {CX : CXT} {k : Nat}
theorem FnG.mono {j : Nat} {f : Addr} {fd : FuncData} {ps : List Str} {sp : Sp} (F : FnG P w K mg base CX j f fd ps sp) (h : j ≤ k) : FnG P w K mg base CX k f fd ps sp :=
  ⟨F.len, fun A outer s H args us vs Q E hr => F.run A outer s H args us vs Q E (hr.mono h)⟩
/-- a def's promise by its body's term -/
theorem fnG {x qual : Str} {st : Stmt} {f : Addr} {fd : FuncData} {N ps : List Str} {sp : Sp} (F : Fun K x qual st f fd) (S : FnScope N ps (defScope st)) (len : ∀ vs H Q E, sp vs H Q E → vs.length = ps.length)
    (hbody : ∀ (cdv : Value) (A : Around) (outer : List PySem.Env) (s : Shared) (H : Hp) (vs : List V) (Q : VK) (E : XK), Room k (A.deeper (envOfC qual (defScope st) s.heap.objs.size f cdv)) → A.guards = some [] → sp vs H Q E →
      ∃ t, PSs (cxOf CX P w K mg base N qual (defScope st) f cdv A outer s H E) (defBody st) t ∧ t { nx := fun _ H' => Q .non H', rt := Q } (start N vs) H) : FnG P w K mg base CX (k + 1) f fd ps sp := by
  obtain ⟨oc, od, kV, doc, pm, an, cdv, ct, osl, rfl, lk, hcd⟩ := F.ex
  refine ⟨len, fun A outer s H args us vs Q E hr hgd e0 hb r hsp => ?_⟩
  have hkind : ∀ y ∈ ps.zip us, (defScope st).names.lookup y.1 = some .local ∨ ((defScope st).names.lookup y.1 = some .cell ∧ ((cellsFrom (s.heap.objs.size + 1) (defScope st).names []).lookup y.1).isSome = true) := fun ⟨n, v⟩ hy => by
    rcases S.par n (List.of_mem_zip hy).1 with q | q
    · exact .inl q
    · exact .inr ⟨q, PySem.W.cellsFrom_some _ _ _ (.inl q)⟩
  have KX : K.In s.heap := e0.mod.kin.keeps fun b o e => (e0.bs b o e).1
  refine codeAny_call_function hr.depth (KX _ _ lk) rfl S.co S.gen rfl (PySem.W.codeRec_of KX hcd) (hb _ _ _ _ ?_)
  refine wpAny_newFunctionEnv_cells S.kind hkind fun env he s1 x => ?_
  subst he
  refine ⟨(e0.mod.nolimit.keeps fun b o e => (e0.bs b o e).1).keeps x.toInCall.keep, codeAny_func ?_⟩
  obtain ⟨t, ht, hq⟩ := hbody cdv A outer s H vs Q E (hr.deeper _) hgd hsp
  have I : Inv (cxOf CX P w K mg base N qual (defScope st) f cdv A outer s H E) [] (start N vs) H s1 := inv_start S hr.hd e0 (len _ _ _ _ hsp) r x
  refine wpAny_mono (ht.run [] s1 (start N vs) H _ I hq) (fun fl s' hs => ?_) fun e s' hs => hs
  cases fl with
  | ret u =>
    obtain ⟨v, σ', H', J, rv, q⟩ := hs
    exact ⟨v, H', J.os, J.bare, J.base, J.hok, rv, q⟩
  | next =>
    obtain ⟨σ', H', J, q⟩ := hs
    exact ⟨V.non, H', J.os, J.bare, J.base, J.hok, rfl, q⟩
  | brk => obtain ⟨_, _, _, q⟩ := hs; exact q.elim
  | cont => obtain ⟨_, _, _, q⟩ := hs; exact q.elim
end
section
variable {X : Cx} {CX : CXT} {k : Nat} {f : Addr} {fd : FuncData} {ps : List Str} {sp : Sp} {E : L2.St → XK}
theorem run_fnG {pins : List (Addr × Obj)} {σ : L2.St} {H : Hp} {s : Shared} {Q : VK} {us : List Value} {vs : List V} (F : FnG X.prog X.w X.K X.mg X.base CX k f fd ps sp) (hr : Room k X.A) (hgd : X.A.guards = some []) (hb : Binds X.K fd ps []) (hx : PassesAt CX X σ (E σ))
    (I : Inv X pins σ H s) (r : Vals vs us) (h : sp vs H Q (E σ)) : wpAny (model X.prog X.w) X.A (call (.ref f) us) (EP X pins σ Q) X.xe s := by
  have b := hb s us I.kIn (by rw [List.append_nil, ← r.length]; exact F.len _ _ _ _ h)
  rw [List.append_nil] at b
  refine wpAny_call (codeAny_mono (F.run X.A X.stack s H ⟨us, []⟩ us vs Q (E σ) hr hgd I.env0 b r h) fun c s' hq => ?_)
  rcases c with e | fl
  · exact hx pins H s e s' I hq
  · cases fl with
    | ret u => exact I.after hq
    | _ => exact False.elim hq
end
theorem law_callG {P : Program} {w : World} {K : PySem.W.Frag} {mg mb : Str → Option Value} {CX : CXT} {k : Nat} {fa a : Addr} {fd : FuncData} {x : Str} {sp : Sp} {s₁ : Shared} {vs : List Value} {ns : List Int}
    (KX : K.In s₁.heap) (hns : s₁.heap.Ns mainGlobals mg) (hb : s₁.heap.Ns builtinsNs mb) (hbb : ∀ x : Str, x ≠ "__name__" → mb x = bootBuiltins x) (hlim : s₁.heap.NoLimit) (hg : s₁.gens = #[])
    (ha : s₁.heap.get? a = some { cls := .type "list", data := .seq vs.toArray }) (hi : IntsAre vs ns) (hl : ns.length ≤ sizeLine) (hr : Room k callerA)
    (F : ∀ base : Heap, K.In base → base.Ns mainGlobals mg → FnG P w K mg base CX k fa fd [x] sp) (hbind : ∀ (s : Shared) (u : Value), BindsTo s fd ⟨[u], []⟩ [(x, u)])
    (hsp : ∀ H : Hp, Only H → SqL K H a (ns.map V.int) → sp [.ref a] H (fun v _ => v = .bl true) fun _ _ _ => False)
    (hCX : ∀ H e s', CX [] H s₁ (fun _ _ _ => False) e s' → False) :
    codeAny (model P w) callerA (.call (.ref fa) ⟨[.ref a], []⟩) (fun r s' => r = .ok (.ret (.bool true)) ∧ OldK s₁.heap s'.heap ∧ s'.os = s₁.os ∧ AllBare s'.gens) s₁ := by
  have rv := vals_ints hi
  have lenV := hi.length
  -- the heap in which the script alone may be tracked
  have core : ∀ H : Hp, Only H → SqL K H a (ns.map V.int) → HOk P w H s₁.heap → (∀ b, H b ≠ none → b = a) → (H a ≠ none → K.lookup a = none) →
      codeAny (model P w) callerA (.call (.ref fa) ⟨[.ref a], []⟩) (fun r s' => r = .ok (.ret (.bool true)) ∧ OldK s₁.heap s'.heap ∧ s'.os = s₁.os ∧ AllBare s'.gens) s₁ := by
    intro H hO hS hok hA hK
    have notA : ∀ {b : Addr} {o : Obj}, s₁.heap.get? b = some o → (b = a → False) → (hidT s₁.heap H).get? b = some o := fun {b o} e n => hidT_get e (by
      cases q : H b with
      | none => rfl
      | some u => exact (n (hA b (by rw [q]; simp))).elim)
    have nsK : ∀ {b : Addr} {m : Str → Option Value}, s₁.heap.Ns b m → (hidT s₁.heap H).Ns b m := fun {b m} ⟨o, es, ep, e, d, r⟩ => ⟨o, es, ep, notA e (fun z => by
      subst z
      rw [ha] at e; cases e
      have d' : Data.seq vs.toArray _ = Data.dict es ep := d
      cases d'), d, r⟩
    have hKb : K.In (hidT s₁.heap H) := fun b o e => by
      by_cases z : b = a
      · subst z
        refine hidT_get (KX b o e) ?_
        cases q : H b with
        | none => rfl
        | some u => rw [hK (by rw [q]; simp)] at e; cases e
      · exact notA (KX b o e) z
    have hM : Mod K mg (hidT s₁.heap H) := ⟨hKb, nsK hns, ⟨mb, nsK hb, hbb⟩, let ⟨mc, h1, h2⟩ := hlim; ⟨mc, nsK h1, h2⟩⟩
    have e0 : Env0 P w K mg (hidT s₁.heap H) callerA [] s₁ H := ⟨rfl, hM, fun b o e => of_hidT e, Nat.le_of_eq (hidT_size _ _), trivial, fun b hb => absurd (show b ∈ ([] : List Addr) from hb) (by simp), hok, .of_eq hg⟩
    refine codeAny_mono ((F _ hKb (nsK hns)).run callerA [] s₁ H ⟨[.ref a], []⟩ [.ref a] [.ref a] _ _ hr rfl e0 (hbind s₁ (.ref a)) (.cons rfl .nil) (hsp H hO hS)) fun r s' h => ?_
    rcases r with e | fl
    · exact (hCX H e s' h).elim
    · cases fl with
      | ret u =>
        obtain ⟨v, H', os, bare, un, hok', r', q⟩ := h
        obtain rfl : v = .bl true := q
        obtain rfl : u = Value.bool true := r'
        refine ⟨rfl, OldK.of_keep fun b o e => ?_, os, bare⟩
        cases q : H b with
        | none => exact un.keep b o e q (by intro z; exact absurd (show b ∈ ([] : List Addr) from z) (by simp)) (by simp)
        | some u =>
          rcases hO b with z | ⟨ob, xs, z⟩
          · rw [q] at z; cases z
          · obtain ⟨e1, _⟩ := hok b _ z
            obtain ⟨e2, _⟩ := hok' b _ (un.frzs b ob _ z)
            rw [e] at e1; cases e1
            exact e2
      | _ => exact False.elim h
  cases hk : K.lookup a with
  | some o =>
    have e := KX a o hk
    rw [ha] at e
    cases e
    exact core (fun _ => none) (fun _ => .inl rfl) (.inr ⟨_, vs.toArray, _, hk, rfl, rfl, rfl, by rw [List.size_toArray, lenV]; exact hl, by simpa using rv⟩) (fun b u z => nomatch (show (none : Option HO) = some u from z)) (fun b z => absurd rfl z) fun z => absurd rfl z
  | none =>
    have at' : ∀ b u, (if b = a then some (HO.frz { cls := .type "list", data := .seq vs.toArray } (.lst (ns.map V.int))) else none) = some u → b = a ∧ u = .frz { cls := .type "list", data := .seq vs.toArray } (.lst (ns.map V.int)) := fun b u z => by
      split at z
      · cases z; exact ⟨‹_›, rfl⟩
      · cases z
    refine core (fun b => if b = a then some (.frz { cls := .type "list", data := .seq vs.toArray } (.lst (ns.map V.int))) else none) (fun b => ?_) (.inl (.inr ⟨{ cls := .type "list", data := .seq vs.toArray }, if_pos rfl⟩)) (fun b u z => ?_) (fun b z => ?_) fun _ => hk
    · by_cases hb : b = a
      · exact .inr ⟨_, _, if_pos hb⟩
      · exact .inl (if_neg hb)
    · obtain ⟨rfl, rfl⟩ := at' b u z
      exact ⟨ha, by rw [List.length_map]; exact hl, vs, _, rv, ha⟩
    · cases q : (if b = a then some (HO.frz { cls := .type "list", data := .seq vs.toArray } (.lst (ns.map V.int))) else none) with
      | none => exact absurd q z
      | some u => exact (at' b u q).1
theorem walkG {l : PySem.W.OpenLaw} {n k : Nat} {q : Program} {loose : List Str} {XP : (Str → Option Value) → Heap → Prop} {YP : World → Heap → Prop} {d : DefRec} {K : Params → PySem.W.Frag} {CX : World → CXT} {sp : World → Sp} {x : Str}
    (hn : l.most = some n) (hn2 : n ≤ sizeLine) (hdf : d.params.defaults = []) (hr : Room k callerA)
    (hY : ∀ (w : World) (h : Heap), YP w h → (K w.params).In h)
    (F : ∀ (w : World) (mg : Str → Option Value) (fa : Addr) (h : Heap), (K w.params).In h → h.Ns mainGlobals mg → mg d.name = some (.ref fa) →
      ∃ fd : FuncData, (∀ (s : Shared) (u : Value), BindsTo s fd ⟨[u], []⟩ [(x, u)]) ∧
        ∀ base : Heap, (K w.params).In base → base.Ns mainGlobals mg → FnG l.prog w (K w.params) mg base (CX w) k fa fd [x] (sp w))
    (hsp : ∀ (w : World) (H : Hp) (a : Addr) (ns : List Int), ns.length ≤ n → (∀ z ∈ ns, Builtin.Int.intBits z ≤ 1048576) → Only H → SqL (K w.params) H a (ns.map V.int) → sp w [.ref a] H (fun v _ => v = .bl true) fun _ _ _ => False)
    (hCX : ∀ (w : World) (H : Hp) (s : Shared) (e : Value) (s' : Shared), CX w [] H s (fun _ _ _ => False) e s' → False) :
    PySem.W.WalkO q loose XP YP l.row.toRowW d [] (fun f vs => PySem.call f vs) := by
  refine Att.attach_callB hn hdf fun w s₀ s₁ mg mb fa o pm cd doc a vs ns G Y ho hd hcd hmg hobj hints hlen hbits hg => ?_
  have KX := hY w _ Y
  obtain ⟨fd, hb, hF⟩ := F w mg fa _ KX G.T.g hmg
  exact law_callG KX G.T.g G.T.b G.T.builtins G.T.nolimit hg hobj hints (Nat.le_trans hlen hn2) hr hF hb (fun H hO hS => hsp w H a ns hlen hbits hO hS) fun H e s' => hCX w H s₁ e s'
end Wb

set_option Elab.async false
set_option linter.all false
set_option maxRecDepth 100000
set_option maxHeartbeats 4000000
/-! Wb: calls of defs, raise, try. -/
namespace Wb
open PySem PySem.Spec PyProof.Rows L2

/-! ### what a def promises -/
/-- the frame conditions of a call; io: the object that it may change -/
structure Fr' (R : Rt) (io : Option Addr) (Hf H Hf' H' : Hp) (io' : D) : Prop where
  exf : Ex Hf Hf'
  ex : Ex Hf' H'
  frz : ∀ a, Hf' a ≠ none → Hf a ≠ none ∨ H a = none
  pres : ∀ a o, H a = some o → some a ≠ io → H' a = some o
  io : ∀ p, io = some p → Hf' p = none ∧ Top R Hf' H' p io'
def ResP (R : Rt) (io : Option Addr) (H Hf' H' : Hp) (v : V) : Ent → Prop
  | .val d => Rp R Hf' v d
  | .own d => ∃ q, v = .ref q ∧ Hf' q = none ∧ H q = none ∧ some q ≠ io ∧ Top R Hf' H' q d
def PostC (R : Rt) (rx : RX) (io : Option Addr) (Hf H : Hp) (r : CRes) (Q : VK) (E : XK) : Prop :=
  match r with
  | .ret e io' => ∀ v Hf' H', Fr' R io Hf H Hf' H' io' → ResP R io H Hf' H' v e → Q v H'
  | .exc x io' => ∀ c dx Hf' H', Fr' R io Hf H Hf' H' io' → rx x c dx H' → E c dx H'
  | .bad => False
def CallSp (R : Rt) (rx : RX) (io : Bool) (n : Nat) (sem : List D → CRes) : Sp := fun vs H Q E => vs.length = n ∧ ∃ (ds : List D) (Hf : Hp), Ex Hf H ∧
  (match io with
  | false => Rps R Hf vs ds ∧ PostC R rx none Hf H (sem ds) Q E
  | true => ∃ p vs' d0 ds', vs = .ref p :: vs' ∧ ds = d0 :: ds' ∧ Rps R Hf vs' ds' ∧ Hf p = none ∧ Top R Hf H p d0 ∧ PostC R rx (some p) Hf H (sem ds) Q E)
/-- a def that may be called here -/
def CalAt (X : Cx) (R : Rt) (rx : RX) (io : Bool) (n : Nat) (f : Addr) (sem : List D → CRes) : Prop :=
  ∃ (lvl : Nat) (fd : FuncData) (ps : List Str), (∀ ds, sem ds ≠ .bad → ds.length = n) ∧ Room lvl X.A ∧ X.A.guards = some [] ∧ PySem.W.keepIn X.K (.ref f) = true ∧ Binds X.K fd ps [] ∧ FnG X.prog X.w X.K X.mg X.base (L2.CX X.prog X.w) lvl f fd ps (CallSp R rx io n sem)
section
variable {F : Fx} {σ : L2.St} {g : Env'} {Hf H Hf' H' : Hp}
theorem Co.there {a : Addr} (co : Co F σ g Hf H) (h : H a = none) : F.H0 a = none := (co.away h).2.1
theorem Co.called {io' : D} (co : Co F σ g Hf H) (fr : Fr' F.R none Hf H Hf' H' io') : Co F σ g Hf' H' := by
  have keep : ∀ {p : Addr} {o : HO}, H p = some o → H' p = some o := fun {p o} h => fr.pres p o h (by simp)
  have nf : ∀ {p : Addr} {o : HO}, H p = some o → Hf p = none → Hf' p = none := fun {p o} h n => by
    cases e : Hf' p with
    | none => rfl
    | some u =>
      rcases fr.frz p (by rw [e]; simp) with z | z
      · exact absurd n z
      · rw [h] at z; cases z
  refine ⟨co.len, co.ex0.trans fr.exf, fr.ex, fun a ha => ?_, fun a o h n => keep (co.pres a o h n), fun i d hg => ?_, fun i d hg => ?_, co.dist, fun q hq => ?_, co.ios⟩
  · rcases fr.frz a ha with z | z
    · exact co.frz a z
    · exact .inr (co.there z)
  · obtain ⟨v, h1, h2⟩ := co.val i d hg
    exact ⟨v, h1, h2.mono fr.exf⟩
  · obtain ⟨p, h1, h2, h3, h4⟩ := co.own i d hg
    obtain ⟨o, ho⟩ := h4.some
    exact ⟨p, h1, nf ho h2, h3, h4.mono fr.exf fun u hu => keep hu⟩
  · obtain ⟨k1, k2, k3, k4⟩ := co.awy q hq
    exact ⟨keep k1, nf k1 k2, k3, k4⟩
theorem Co.calledIo {i : Nat} {p : Addr} {d0 io' : D} (co : Co F σ g Hf H) (hg : g[i]? = some (.own d0)) (hσ : σ[i]? = some (some (.ref p))) (fr : Fr' F.R (some p) Hf H Hf' H' io') : Co F σ (g.set i (.own io')) Hf' H' := by
  have hlt : i < g.length := (List.getElem?_eq_some_iff.mp hg).1
  have keep : ∀ {a : Addr} {o : HO}, H a = some o → a ≠ p → H' a = some o := fun {a o} h n => fr.pres a o h (fun z => n (Option.some.inj z))
  have nf : ∀ {a : Addr} {o : HO}, H a = some o → Hf a = none → Hf' a = none := fun {a o} h n => by
    cases e : Hf' a with
    | none => rfl
    | some u =>
      rcases fr.frz a (by rw [e]; simp) with z | z
      · exact absurd n z
      · rw [h] at z; cases z
  obtain ⟨pp, hp1, hp2, hp3, hp4⟩ := co.own i d0 hg
  rw [hσ] at hp1
  cases hp1
  have back : ∀ (j : Nat) d, (g.set i (.own io'))[j]? = some (.own d) → j ≠ i → g[j]? = some (.own d) := fun j d h hj => by
    rw [List.getElem?_set_ne (Ne.symm hj)] at h
    exact h
  have any : ∀ (j : Nat) d, (g.set i (.own io'))[j]? = some (.own d) → ∃ d2, g[j]? = some (.own d2) := fun j d h => by
    by_cases hj : j = i
    · exact ⟨d0, by rw [hj]; exact hg⟩
    · exact ⟨d, back j d h hj⟩
  refine ⟨by rw [List.length_set]; exact co.len, co.ex0.trans fr.exf, fr.ex, fun a ha => ?_, fun a o h n => ?_, fun j d hj => ?_, fun j d hj => ?_, fun j k d d' q hj hk h1 h2 => ?_, fun q hq => ?_, fun q hq => ?_⟩
  · rcases fr.frz a ha with z | z
    · exact co.frz a z
    · exact .inr (co.there z)
  · by_cases hap : a = p
    · subst hap
      rcases hp3 with z | z
      · exact absurd z n
      · rw [h] at z; cases z
    · exact keep (co.pres a o h n) hap
  · have hij : i ≠ j := fun z => by
      subst z
      rw [List.getElem?_set_self hlt] at hj
      cases hj
    rw [List.getElem?_set_ne hij] at hj
    obtain ⟨v, h1, h2⟩ := co.val j d hj
    exact ⟨v, h1, h2.mono fr.exf⟩
  · by_cases hij : j = i
    · subst hij
      rw [List.getElem?_set_self hlt] at hj
      cases hj
      obtain ⟨k1, k2⟩ := fr.io p rfl
      exact ⟨p, hσ, k1, hp3, k2⟩
    · obtain ⟨q, h1, h2, h3, h4⟩ := co.own j d (back j d hj hij)
      obtain ⟨o, ho⟩ := h4.some
      have hqp : q ≠ p := fun z => by
        subst z
        exact hij (co.dist j i _ _ _ (back j d hj hij) hg h1 hσ)
      exact ⟨q, h1, nf ho h2, h3, h4.mono fr.exf fun u hu => keep hu hqp⟩
  · obtain ⟨d2, e2⟩ := any j d hj
    obtain ⟨d3, e3⟩ := any k d' hk
    exact co.dist j k d2 d3 q e2 e3 h1 h2
  · obtain ⟨k1, k2, k3, k4⟩ := co.awy q hq
    have hqp : q.1 ≠ p := fun z => k4 i d0 hg (by rw [z]; exact hσ)
    refine ⟨keep k1 hqp, nf k1 k2, k3, fun j d hj => ?_⟩
    obtain ⟨d2, e2⟩ := any j d hj
    exact k4 j d2 e2
  · obtain ⟨k1, d, k2⟩ := co.ios q hq
    refine ⟨k1, ?_⟩
    by_cases h0 : i = 0
    · subst h0
      exact ⟨io', by rw [List.getElem?_set_self hlt]⟩
    · exact ⟨d, by rw [List.getElem?_set_ne h0]; exact k2⟩
end
theorem passN {X : Cx} {σ : L2.St} : PassesAt (L2.CX X.prog X.w) X σ (fun _ _ _ => False) := fun _ _ _ _ _ _ h => by
  obtain ⟨_, _, _, _, _, _, _, _, _, _, _, _, z⟩ := h
  exact z.elim
def mCall (k : Nat) (ms : M (List D)) : M Ent := bnd ms fun ds => fun c g => match c k ds with
  | .ret e _ => .ok e g
  | .exc x _ => .exc x g
  | .bad => .bad
def mCallIo (k i : Nat) (ms : M (List D)) : M Ent := fun c g => match (g[i]?).bind slotD with
  | none => .bad
  | some _ => (ms c g).bnd fun ds g => match g[i]? with
    | some (.own d0) => (match c k (d0 :: ds) with
      | .ret e io => .ok e (g.set i (.own io))
      | .exc x io => .exc x (g.set i (.own io))
      | .bad => .bad)
    | _ => .bad
section
variable {X : Cx} {F : Fx} {rx : RX} {cal : Cal} {k n : Nat} {f : Addr} {x : Str} {e : Expr} {es : List Expr} {ms : M (List D)} {p pos : Pos}
/-- a call of the def at f with arguments -/
def wCal (X : Cx) (f : Addr) (vs : List V) (σ : L2.St) : Hp → VK → Prop := fun H Q => ∀ (pins : List (Addr × Obj)) (s : Shared) (us : List Value), Inv X pins σ H s → Vals vs us → wpAny (model X.prog X.w) X.A (call (.ref f) us) (EP X pins σ Q) X.xe s
theorem call_post {σ : L2.St} {g : Env'} {Hf H : Hp} {vs : List V} {ds : List D} (c : CalAt X F.R rx false n f (cal k)) (co : Co F σ g Hf H) (r : Rps F.R Hf vs ds) :
    Post X F rx σ Hf (relE F σ) (match cal k ds with | .ret e _ => .ok e g | .exc x _ => .exc x g | .bad => .bad) (wCal X f vs σ H) := by
  obtain ⟨lvl, fd, ps, hbad, hr, hgd, hk, hb, F1⟩ := c
  have hn : cal k ds ≠ .bad → vs.length = n := fun z => by rw [r.length]; exact hbad ds z
  cases hc : cal k ds with
  | ret e io' =>
    refine fun Q q pins s us I rv => run_fnG (E := fun _ _ _ _ => False) F1 hr hgd hb passN I rv ⟨hn (by rw [hc]; simp), ds, Hf, co.ex, r, ?_⟩
    rw [hc]
    refine fun v Hf' H' fr rp => q v Hf' H' fr.exf (co.called fr) ?_
    cases e with
    | val d => exact rp
    | own d =>
      obtain ⟨a, h1, h2, h3, _, h5⟩ := rp
      obtain ⟨k1, k2, k3, k4, k5⟩ := co.away h3
      exact ⟨a, h1, h2, k2, k3, k4, k5, h5⟩
  | exc y io' =>
    refine fun W Q tk q pins s us I rv => run_fnG (E := WE W) F1 hr hgd hb (passAt tk σ) I rv ⟨hn (by rw [hc]; simp), ds, Hf, co.ex, r, ?_⟩
    rw [hc]
    exact fun c dx Hf' H' fr rp => q c dx Hf' H' fr.exf (co.called fr) rp
  | bad => trivial
theorem callIo_post {σ : L2.St} {g : Env'} {Hf H : Hp} {i : Nat} {v0 : V} {d0 : D} {vs : List V} {ds : List D} (c : CalAt X F.R rx true n f (cal k)) (co : Co F σ g Hf H) (hg : g[i]? = some (.own d0)) (hσ : σ[i]? = some (some v0)) (r : Rps F.R Hf vs ds) :
    Post X F rx σ Hf (relE F σ) (match cal k (d0 :: ds) with | .ret e io => .ok e (g.set i (.own io)) | .exc x io => .exc x (g.set i (.own io)) | .bad => .bad) (wCal X f (v0 :: vs) σ H) := by
  obtain ⟨lvl, fd, ps, hbad, hr, hgd, hk, hb, F1⟩ := c
  have hn : cal k (d0 :: ds) ≠ .bad → (v0 :: vs).length = n := fun z => by
    rw [List.length_cons, r.length]
    exact hbad _ z
  obtain ⟨a, k1, k2, k3, k4⟩ := co.own i d0 hg
  rw [hσ] at k1
  cases k1
  cases hc : cal k (d0 :: ds) with
  | ret e io' =>
    refine fun Q q pins s us I rv => run_fnG (E := fun _ _ _ _ => False) F1 hr hgd hb passN I rv ⟨hn (by rw [hc]; simp), d0 :: ds, Hf, co.ex, a, vs, d0, ds, rfl, rfl, r, k2, k4, ?_⟩
    rw [hc]
    have hlt : i < g.length := (List.getElem?_eq_some_iff.mp hg).1
    refine fun v Hf' H' fr rp => q v Hf' H' fr.exf (co.calledIo hg hσ fr) ?_
    cases e with
    | val d => exact rp
    | own d =>
      obtain ⟨b, h1, h2, h3, h4, h5⟩ := rp
      obtain ⟨j1, j2, j3, j4, j5⟩ := co.away h3
      refine ⟨b, h1, h2, j2, j3, fun j d' hj hs => ?_, j5, h5⟩
      by_cases hij : j = i
      · subst hij
        rw [hσ] at hs
        cases hs
        exact h4 rfl
      · rw [List.getElem?_set_ne (Ne.symm hij)] at hj
        exact j4 j d' hj hs
  | exc y io' =>
    refine fun W Q tk q pins s us I rv => run_fnG (E := WE W) F1 hr hgd hb (passAt tk σ) I rv ⟨hn (by rw [hc]; simp), d0 :: ds, Hf, co.ex, a, vs, d0, ds, rfl, rfl, r, k2, k4, ?_⟩
    rw [hc]
    exact fun c dx Hf' H' fr rp => q c dx Hf' H' fr.exf (co.calledIo hg hσ fr) rp
  | bad => trivial
theorem wcal_eval {f : Addr} {σ : L2.St} {H : Hp} {Q : VK} (hg : Gl X x) (hm : X.mg x = some (.ref f)) (hk : PySem.W.keepIn X.K (.ref f) = true) (hdb : (x == ("__debug__" : Str)) = false) (hs : noStars (e :: es) = true) (h : wA X (e :: es) σ H fun vs H1 => wCal X f vs σ H1 Q) :
    wE X (.Call (.Name x p) (e :: es) [] pos) σ H Q := fun pins s I => by
  have h0 := hs
  unfold noStars at h0
  rw [List.all_cons, Bool.and_eq_true] at h0
  refine wpAny_Call_Name_kw (ld_glob I hg hm ?_ hdb)
  exact PySem.W.callWith_K (h₀ := X.base) I.ok.mod.kin hk (thn (h pos pins s I) fun us s1 ⟨vs, H1, I1, r, q⟩ => ⟨I1.kIn, q pins s1 us I1 r⟩) (star_cons h0.1) (plain_args h0.2)
theorem wcal_eval0 {f : Addr} {σ : L2.St} {H : Hp} {Q : VK} (hg : Gl X x) (hm : X.mg x = some (.ref f)) (hk : PySem.W.keepIn X.K (.ref f) = true) (hdb : (x == ("__debug__" : Str)) = false) (h : wCal X f [] σ H Q) :
    wE X (.Call (.Name x p) [] [] pos) σ H Q := fun pins s I => by
  refine wpAny_Call_Name_kw (ld_glob I hg hm ?_ hdb)
  exact PySem.W.callWith_K0 I.kIn hk (h pins s [] I .nil)
theorem de_call (c : CalAt X F.R rx false n f (cal k)) (hg : Gl X x) (hm : X.mg x = some (.ref f)) (hdb : (x == ("__debug__" : Str)) = false) (hs : noStars (e :: es) = true) (h : DA X F rx cal (e :: es) ms) : DE X F rx cal (.Call (.Name x p) (e :: es) [] pos) (mCall k ms) := fun σ g Hf H co => by
  obtain ⟨lvl, fd, ps, hbad, hr, hgd, hk, hb, F1⟩ := id c
  exact Post.bind (w2 := fun vs H1 Q => wCal X f vs σ H1 Q) (h σ g Hf H co) (fun ds g1 vs Hf1 H1 _ e1 co1 r1 => call_post c co1 r1) fun Q q => wcal_eval hg hm hk hdb hs q
theorem de_call0 (c : CalAt X F.R rx false n f (cal k)) (hg : Gl X x) (hm : X.mg x = some (.ref f)) (hdb : (x == ("__debug__" : Str)) = false) : DE X F rx cal (.Call (.Name x p) [] [] pos) (mCall k mNil) := fun σ g Hf H co => by
  obtain ⟨lvl, fd, ps, hbad, hr, hgd, hk, hb, F1⟩ := id c
  exact (call_post c co .nil).imp fun Q q => wcal_eval0 hg hm hk hdb q
theorem de_callIo {i : Nat} {y : Str} {py : Pos} (c : CalAt X F.R rx true n f (cal k)) (hg : Gl X x) (hm : X.mg x = some (.ref f)) (hdb : (x == ("__debug__" : Str)) = false) (hN : X.N[i]? = some y) (hv : Vis X.env.scope y) (hd : (y == ("__debug__" : Str)) = false) (hcd : (y == ("__classdict__" : Str)) = false)
    (hs : noStars es = true) (h : DA X F rx cal es ms) : DE X F rx cal (.Call (.Name x p) (.Name y py :: es) [] pos) (mCallIo k i ms) := fun σ g Hf H co => by
  obtain ⟨lvl, fd, ps, hbad, hr, hgd, hk, hb, F1⟩ := id c
  unfold mCallIo
  cases h0 : (g[i]?).bind slotD with
  | none => trivial
  | some d =>
    obtain ⟨v, hv1⟩ := co.at h0
    show Post X F rx σ Hf (relE F σ) ((ms cal g).bnd _) _
    refine Post.bind (w2 := fun vs H1 Q => wCal X f (v :: vs) σ H1 Q) (h σ g Hf H co) (fun ds g1 vs Hf1 H1 _ e1 co1 r1 => ?_) fun Q q => wcal_eval hg hm hk hdb (by unfold noStars at hs ⊢; rw [List.all_cons, hs]; rfl) (wA_of (pa_cons (pe_var hN hv hd hcd) pa_w (star_cons rfl)) ⟨v, hv1, q⟩)
    cases hg1 : g1[i]? with
    | none => trivial
    | some sl =>
      cases sl with
      | own d0 => exact callIo_post c co1 hg1 hv1 r1
      | _ => trivial
/-- the def is a value -/
def mCallV (mf : M D) (ms : M (List D)) : M Ent := bnd mf fun d => match d with
  | .fn k => mCall k ms
  | _ => fun _ _ => .bad
theorem de_callV {fe : Expr} {mf : M D} (hc : ∀ k f, F.R.fa k = some f → ∃ n, CalAt X F.R rx false n f (cal k)) (hs : noStars (e :: es) = true) (hf : DD X F rx cal fe mf) (h : DA X F rx cal (e :: es) ms)
    (he : eval (.Call fe (e :: es) [] pos) X.env = (do callWith pos (← eval fe X.env) [] (backTo pos (starEach (e :: es) X.env)) (backToKw pos (keywordEach [] X.env)))) : DE X F rx cal (.Call fe (e :: es) [] pos) (mCallV mf ms) := fun σ g Hf H co => by
  refine Post.bind (w2 := fun (v : V) H1 (Q : VK) => ∃ f, v = .ref f ∧ PySem.W.keepIn X.K (.ref f) = true ∧ wA X (e :: es) σ H1 fun vs H2 => wCal X f vs σ H2 Q) (hf σ g Hf H co) (fun d g1 v Hf1 H1 _ e1 co1 r1 => ?_) fun Q q pins s I => ?_
  · cases d with
    | fn k =>
      cases r1 with
      | fn hfa =>
        obtain ⟨n, c⟩ := hc _ _ hfa
        obtain ⟨lvl, fd, ps, hbad, hr, hgd, hk, hb, F1⟩ := id c
        exact Post.bind (w2 := fun vs H2 Q => wCal X _ vs σ H2 Q) (h σ g1 Hf1 H1 co1) (fun ds g2 vs Hf2 H2 _ e2 co2 r2 => call_post c co2 r2) fun Q q => ⟨_, rfl, hk, q⟩
    | _ => trivial
  · have h0 := hs
    unfold noStars at h0
    rw [List.all_cons, Bool.and_eq_true] at h0
    refine Call_ (thn (q pins s I) fun u s1 ⟨v, H1, I1, r1, f, ev, hk, qa⟩ => ?_) he
    subst ev
    cases r1
    exact PySem.W.callWith_K (h₀ := X.base) I1.ok.mod.kin hk (thn (qa pos pins s1 I1) fun us s2 ⟨vs, H2, I2, r, q2⟩ => ⟨I2.kIn, q2 pins s2 us I2 r⟩) (star_cons h0.1) (plain_args h0.2)
end

/-! ### raise, try -/
def sRaise (x : Err) : MS := fun _ g => .exc x g
section
variable {X : Cx} {F : Fx} {rx : RX} {cal : Cal}
/-- raise X('..') of an own class without an __init__ -/
theorem ds_raise {x m : Str} {j c : Nat} {C : Addr} {p p2 pos pos' : Pos} (hc : X.calm = true) (q : PySem.W.excIn X.K C [.type "ValueError", .type "Exception", .type "BaseException", .type "object"] "ValueError.__new__" = true) (gC : X.mg x = some (.ref C)) (kC : PySem.W.keepIn X.K (.ref C) = true) (r : Raises X (.ref C)) (hg : Gl X x)
    (hdb : (x == ("__debug__" : Str)) = false) (hr : ∀ H, rx ⟨c, .non⟩ (.ref C) none H) : DS X F rx cal (.Raise (some (.Call (.Name x p) [.Constant (.str m) j p2] [] pos)) none pos') (sRaise ⟨c, .non⟩) := fun σ g Hf H co W D tk hW =>
  wS_of (ps_raise hc tk (pmk_own PySem.F.excBase_ValueError q gC kC r hg hdb)) (hW _ _ σ Hf H (Ex.refl _) co (hr H))
/-- try: body except C: suite -/
def sTry (sub : Nat → Bool) (m suite : MS) : MS := fun c g => match m c g with
  | .exc x g' => if sub x.c then (match suite c g' with
    | .exc _ _ => .bad
    | r => r) else .exc x g'
  | r => r
theorem ds_try {x : Str} {c : Value} {body suite : List Stmt} {b0 : Stmt} {np pos pos' : Pos} {m n : MS} {sub : Nat → Bool} (hs : X.stack = X.env :: X.outer) (hf : X.env.frame = some X.env.locals) (hc : Names X x c)
    (hx : ∀ y cls dx H, rx y cls dx H → PySem.W.exmOne X.K cls c = some (sub y.c))
    (hb : ∀ (pn : List (Addr × Obj)) (xe : Value → Shared → Prop), PassesOwn (model X.prog X.w) X.A X.env xe → DSs (X.tr pn xe) F rx cal body m)
    (hsu : ∀ (a : Addr) (pn : List (Addr × Obj)), DSs (X.suite a pn) F rx cal (b0 :: suite) n) : DS X F rx cal (.Try body [.ExceptHandler (some (.Name x np)) none (b0 :: suite) pos'] [] [] pos) (sTry sub m n) := fun σ g Hf H co => by
  -- the body's wish for each end
  have go : ∀ (D : Ends) (Wout : WX), Takes X Wout → (∀ (W : WX) (pn : List (Addr × Obj)) (xe : Value → Shared → Prop), Takes (X.tr pn xe) W → PassesOwn (model X.prog X.w) X.A X.env xe → (∀ cls d σ' H', wOnly X.K c (fun a cls d D' σ2 H2 => ∀ pn, wSs (X.suite a pn) (b0 :: suite) D' σ2 H2) Wout D cls d σ' H' → W cls d σ' H') → wSs (X.tr pn xe) body D σ H) →
      wS X (.Try body [.ExceptHandler (some (.Name x np)) none (b0 :: suite) pos'] [] [] pos) D σ H := by
    intro D Wout tk hbody
    refine wS_of (ps_try_only (tb := fun W D' σ' H' => ∀ (pn : List (Addr × Obj)) (xe : Value → Shared → Prop), Takes (X.tr pn xe) W → PassesOwn (model X.prog X.w) X.A X.env xe → wSs (X.tr pn xe) body D' σ' H')
      (ts := fun a cls d D' σ2 H2 => ∀ pn, wSs (X.suite a pn) (b0 :: suite) D' σ2 H2) hs hf hc tk (fun W pn xe t p => ⟨fun pins s σ' H' D' I h => h pn xe t p pins s I⟩) (fun a oe cls d pn _ _ => ⟨fun pins s σ' H' D' I h => h _ pins s I⟩)) ?_
    exact fun pn xe t p => hbody _ pn xe t p fun _ _ _ _ h => h
  have kb := fun pn xe p => hb pn xe p σ g Hf H co
  have kb0 := fun p => kb [] X.xe p
  unfold sTry
  cases hm : m cal g with
  | nx g' =>
    rw [hm] at kb
    exact fun D q => go D _ takes0 fun W pn xe t p _ => kb pn xe p D q
  | bk g' =>
    rw [hm] at kb
    exact fun D q => go D _ takes0 fun W pn xe t p _ => kb pn xe p D q
  | ct g' =>
    rw [hm] at kb
    exact fun D q => go D _ takes0 fun W pn xe t p _ => kb pn xe p D q
  | rt en g' =>
    rw [hm] at kb
    exact fun D q => go D _ takes0 fun W pn xe t p _ => kb pn xe p D q
  | bad => trivial
  | exc y g' =>
    rw [hm] at kb
    dsimp only
    by_cases hy : sub y.c = true
    · rw [if_pos hy]
      have ks := fun a pn σ' Hf' H' co' => hsu a pn σ' g' Hf' H' co'
      cases hn : n cal g' with
      | nx g2 =>
        rw [hn] at ks
        exact fun D q => go D _ takes0 fun W pn xe t p hW => kb pn xe p W D t fun cls d σ' Hf' H' e' co' r' => hW _ _ _ _ ⟨true, by rw [hx y cls d H' r', hy], fun _ a _ pn => ks a pn σ' Hf' H' co' D fun σ2 Hf2 H2 e2 co2 => q σ2 Hf2 H2 (e'.trans e2) co2, fun z => nomatch z⟩
      | bk g2 =>
        rw [hn] at ks
        exact fun D q => go D _ takes0 fun W pn xe t p hW => kb pn xe p W D t fun cls d σ' Hf' H' e' co' r' => hW _ _ _ _ ⟨true, by rw [hx y cls d H' r', hy], fun _ a _ pn => ks a pn σ' Hf' H' co' D fun σ2 Hf2 H2 e2 co2 => q σ2 Hf2 H2 (e'.trans e2) co2, fun z => nomatch z⟩
      | ct g2 =>
        rw [hn] at ks
        exact fun D q => go D _ takes0 fun W pn xe t p hW => kb pn xe p W D t fun cls d σ' Hf' H' e' co' r' => hW _ _ _ _ ⟨true, by rw [hx y cls d H' r', hy], fun _ a _ pn => ks a pn σ' Hf' H' co' D fun σ2 Hf2 H2 e2 co2 => q σ2 Hf2 H2 (e'.trans e2) co2, fun z => nomatch z⟩
      | rt en g2 =>
        rw [hn] at ks
        exact fun D q => go D _ takes0 fun W pn xe t p hW => kb pn xe p W D t fun cls d σ' Hf' H' e' co' r' => hW _ _ _ _ ⟨true, by rw [hx y cls d H' r', hy], fun _ a _ pn => ks a pn σ' Hf' H' co' D fun v σ2 Hf2 H2 e2 co2 r2 => q v σ2 Hf2 H2 (e'.trans e2) co2 r2, fun z => nomatch z⟩
      | exc z g2 => trivial
      | bad => trivial
    · rw [if_neg hy]
      exact fun W0 D tk0 q => go D W0 tk0 fun W pn xe t p hW => kb pn xe p W D t fun cls d σ' Hf' H' e' co' r' => hW _ _ _ _ ⟨false, by rw [hx y cls d H' r']; cases h : sub y.c <;> first | rfl | exact absurd h hy, (fun z => nomatch z), fun _ => q cls d σ' Hf' H' e' co' r'⟩
end
end Wb

set_option Elab.async false
set_option linter.all false
set_option maxRecDepth 100000
set_option maxHeartbeats 4000000
/-! Wb: owned lists and dicts changed. -/
namespace Wb
open PySem PySem.Spec PyProof.Rows L2
section
variable {F : Fx} {σ : L2.St} {g : Env'} {Hf H : Hp}
theorem Co.updSlot {i : Nat} {p : Addr} {d0 d' : D} {o : HO} (co : Co F σ g Hf H) (hg : g[i]? = some (.own d0)) (hσ : σ[i]? = some (some (.ref p))) (t : Top F.R Hf (upd H p o) p d') : Co F σ (g.set i (.own d')) Hf (upd H p o) := by
  have hlt : i < g.length := (List.getElem?_eq_some_iff.mp hg).1
  obtain ⟨pp, hp1, hp2, hp3, hp4⟩ := co.own i d0 hg
  rw [hσ] at hp1
  cases hp1
  have back : ∀ (j : Nat) d, (g.set i (.own d'))[j]? = some (.own d) → j ≠ i → g[j]? = some (.own d) := fun j d h hj => by
    rw [List.getElem?_set_ne (Ne.symm hj)] at h
    exact h
  have any : ∀ (j : Nat) d, (g.set i (.own d'))[j]? = some (.own d) → ∃ d2, g[j]? = some (.own d2) := fun j d h => by
    by_cases hj : j = i
    · exact ⟨d0, by rw [hj]; exact hg⟩
    · exact ⟨d, back j d h hj⟩
  refine ⟨by rw [List.length_set]; exact co.len, co.ex0, Ex.mut co.ex hp2, co.frz, fun a u h n => ?_, fun j d hj => ?_, fun j d hj => ?_, fun j k d dd q hj hk h1 h2 => ?_, fun q hq => ?_, fun q hq => ?_⟩
  · have hap : a ≠ p := fun z => by
      subst z
      rcases hp3 with z | z
      · exact n z
      · rw [h] at z; cases z
    rw [upd_ne hap]
    exact co.pres a u h n
  · have hij : i ≠ j := fun z => by
      subst z
      rw [List.getElem?_set_self hlt] at hj
      cases hj
    rw [List.getElem?_set_ne hij] at hj
    exact co.val j d hj
  · by_cases hij : j = i
    · subst hij
      rw [List.getElem?_set_self hlt] at hj
      cases hj
      exact ⟨p, hσ, hp2, hp3, t⟩
    · obtain ⟨q, h1, h2, h3, h4⟩ := co.own j d (back j d hj hij)
      have hqp : q ≠ p := fun z => by
        subst z
        exact hij (co.dist j i _ _ _ (back j d hj hij) hg h1 hσ)
      exact ⟨q, h1, h2, h3, h4.mono (Ex.refl _) fun u hu => by rw [upd_ne hqp]; exact hu⟩
  · obtain ⟨d2, e2⟩ := any j d hj
    obtain ⟨d3, e3⟩ := any k dd hk
    exact co.dist j k d2 d3 q e2 e3 h1 h2
  · obtain ⟨k1, k2, k3, k4⟩ := co.awy q hq
    have hqp : q.1 ≠ p := fun z => k4 i d0 hg (by rw [z]; exact hσ)
    refine ⟨by rw [upd_ne hqp]; exact k1, k2, k3, fun j d hj => ?_⟩
    obtain ⟨d2, e2⟩ := any j d hj
    exact k4 j d2 e2
  · obtain ⟨k1, d, k2⟩ := co.ios q hq
    refine ⟨k1, ?_⟩
    by_cases h0 : i = 0
    · subst h0
      exact ⟨d', by rw [List.getElem?_set_self hlt]⟩
    · exact ⟨d, by rw [List.getElem?_set_ne h0]; exact k2⟩
end
/-! ### found.append(e), found.extend(e), found.pop() -/
def appD (d x : D) : Option D := match d with
  | .lst xs => if xs.length < lim then some (.lst (xs ++ [x])) else none
  | _ => none
def extD (d x : D) : Option D := match d, x with
  | .lst xs, .lst ys => if xs.length + ys.length ≤ lim then some (.lst (xs ++ ys)) else none
  | _, _ => none
def isLst : D → Bool
  | .lst _ => true
  | _ => false
def isDic : D → Bool
  | .dic _ => true
  | _ => false
/-- a slot's object is changed by a value that is evaluated behind its name -/
def sUpd (i : Nat) (chk : D → Bool) (m : M D) (f : D → D → Option D) : MS := fun c g => match g[i]? with
  | some (.own d0) => if chk d0 then (match m c g with
    | .ok x g1 => (match g1[i]? with
      | some (.own d) => (match f d x with
        | some d' => .nx (g1.set i (.own d'))
        | none => .bad)
      | _ => .bad)
    | .exc x g1 => .exc x g1
    | .bad => .bad) else .bad
  | _ => .bad
theorem few_ok {env : PySem.Env} {cpos : Pos} : ∀ {es : List Expr}, noStars es = true → es.length < 29 → ((backTo cpos (starEach es env)).all (fun x => !x.1) && (backToKw cpos (keywordEach [] env)).all (fun x => x.1.isSome)
      && decide (es.length + ([] : List Keyword).length + (if ([] : List Keyword).isEmpty then 0 else 1) < 30)) = true := fun {es} h hl => by
  have h1 : (backTo cpos (starEach es env)).all (fun x => !x.1) = true := by
    have h2 := plain_args (env := env) (pos := cpos) h
    rw [List.all_eq_true]
    intro x hx
    have h3 : ¬ (backTo cpos (starEach es env)).any (·.1) = true := by rw [h2]; decide
    rw [List.any_eq_true] at h3
    cases hb : x.1 with
    | false => rfl
    | true => exact absurd ⟨x, hx, hb⟩ h3
  rw [h1]
  have h4 : decide (es.length + ([] : List Keyword).length + (if ([] : List Keyword).isEmpty then 0 else 1) < 30) = true := decide_eq_true (by simp; omega)
  rw [h4]
  rfl
theorem base_ok {o : Expr} {name : Str} {env : PySem.Env} {whole : Sem Value} (h : (match o with | .Call _ _ _ _ => false | _ => true) = true) : attributeBase o name env whole = whole := by
  cases o <;> first | rfl | cases h
section
variable {X : Cx} {F : Fx} {rx : RX} {cal : Cal} {e : Expr} {m : M D} {i : Nat} {x : Str} {px apos cpos pos : Pos}
theorem upd_post {σ : L2.St} {g : Env'} {Hf H : Hp} {f : D → D → Option D} {chk : D → Bool} {st : Stmt} {wk : V → V → Hp → (Hp → Prop) → Prop} {pre : V → Hp → Prop} (h : DD X F rx cal e m) (co : Co F σ g Hf H)
    (hpre : ∀ p d0, Top F.R Hf H p d0 → chk d0 = true → pre (.ref p) H)
    (hf : ∀ p y d dx d' Hf' H', Top F.R Hf' H' p d → Ex Hf' H' → Hf' p = none → Rp F.R Hf' y dx → f d dx = some d' → ∃ o, Top F.R Hf' (upd H' p o) p d' ∧ ∀ Q : Hp → Prop, Q (upd H' p o) → wk (.ref p) y H' Q)
    (hw : ∀ (v : V) (D : Ends), σ[i]? = some (some v) → pre v H → wE X e σ H (fun y H2 => wk v y H2 fun H3 => D.nx σ H3) → wS X st D σ H) : PostS X F rx Hf (sUpd i chk m f cal g) fun D => wS X st D σ H := by
  unfold sUpd
  cases hg : g[i]? with
  | none => trivial
  | some sl =>
    cases sl with
    | no => trivial
    | val d => trivial
    | own d0 =>
      dsimp only
      by_cases hc : chk d0 = true
      · rw [if_pos hc]
        obtain ⟨p, hp1, hp2, hp3, hp4⟩ := co.own i d0 hg
        have pr := hpre p d0 hp4 hc
        have k := h σ g Hf H co
        cases hm : m cal g with
        | ok y g1 =>
          rw [hm] at k
          dsimp only
          cases hg1 : g1[i]? with
          | none => trivial
          | some sl1 =>
            cases sl1 with
            | no => trivial
            | val d => trivial
            | own d =>
              dsimp only
              cases hd : f d y with
              | none => trivial
              | some d' =>
                refine fun D q => hw _ D hp1 pr (k _ fun v Hf1 H1 e1 co1 r1 => ?_)
                obtain ⟨p2, j1, j2, j3, j4⟩ := co1.own i d hg1
                rw [hp1] at j1
                cases j1
                obtain ⟨o, t, hk⟩ := hf p v d y d' Hf1 H1 j4 co1.ex j2 r1 hd
                exact hk _ (q σ Hf1 _ e1 (co1.updSlot hg1 hp1 t))
        | exc y g1 =>
          rw [hm] at k
          exact fun W D t q => hw _ D hp1 pr (k W _ t fun c dx Hf' H' e' co' r' => q c dx σ Hf' H' e' co' r')
        | bad => trivial
      · rw [if_neg hc]
        trivial
theorem top_tyL {R : Rt} {Hf H : Hp} {p : Addr} {d : D} {K : PySem.W.Frag} (t : Top R Hf H p d) (h : isLst d = true) : tyV K "list" (.ref p) H := by
  cases d with
  | lst ds => obtain ⟨vs, h1, _⟩ := t; exact .inl ⟨rfl, vs, .inl (.inl h1)⟩
  | _ => cases h
theorem ds_app (hN : X.N[i]? = some x) (hv : Vis X.env.scope x) (hd : (x == ("__debug__" : Str)) = false) (hcd : (x == ("__classdict__" : Str)) = false) (hs : noStar e = true) (hline : (apos.endLine == cpos.line) = true) (h : DD X F rx cal e m) :
    DS X F rx cal (.Expr (.Call (.Attribute (.Name x px) "append" apos) [e] [] cpos) pos) (sUpd i isLst m appD) := fun σ g Hf H co => by
  have hs1 : noStars [e] = true := by unfold noStars; rw [List.all_cons, hs]; rfl
  refine upd_post (pre := fun v H => tyV X.K "list" v H) (wk := fun v y H2 Q => rAppend v [y] H2 fun _ H3 => Q H3) h co (fun _ _ t c => top_tyL t c) (fun p y d dx d' Hf' H' t ex hn r hf => ?_) fun v D hσ pr q => ?_
  · unfold appD at hf
    split at hf
    · split at hf
      · rename_i hz
        cases hf
        obtain ⟨vs, t1, t2⟩ := t
        exact ⟨.lst (vs ++ [y]), ⟨_, upd_same, t2.append (.cons r .nil)⟩, fun Q q => ⟨p, vs, y, rfl, rfl, t1, by rw [lim_eq, t2.length]; exact hz, q⟩⟩
      · cases hf
    · cases hf
  · exact wS_of (ps_expr (pe_bm PySem.F.plainAttrs_list PySem.F.slot_list_append PySem.F.type_list_append mt_append (pe_var hN hv hd hcd) (pa_cons pe_w pa_nil (star_cons hs)) (base_ok rfl) (few_ok hs1 (by show 1 < 29; decide)) hline (star_cons hs) rfl) rfl) ⟨v, hσ, pr, q⟩
theorem ds_ext (hN : X.N[i]? = some x) (hv : Vis X.env.scope x) (hd : (x == ("__debug__" : Str)) = false) (hcd : (x == ("__classdict__" : Str)) = false) (hs : noStar e = true) (hline : (apos.endLine == cpos.line) = true) (h : DD X F rx cal e m) :
    DS X F rx cal (.Expr (.Call (.Attribute (.Name x px) "extend" apos) [e] [] cpos) pos) (sUpd i isLst m extD) := fun σ g Hf H co => by
  have hs1 : noStars [e] = true := by unfold noStars; rw [List.all_cons, hs]; rfl
  refine upd_post (pre := fun v H => tyV X.K "list" v H) (wk := fun v y H2 Q => rExtend v [y] H2 fun _ H3 => Q H3) h co (fun _ _ t c => top_tyL t c) (fun p y d dx d' Hf' H' t ex hn r hf => ?_) fun v D hσ pr q => ?_
  · unfold extD at hf
    split at hf
    · split at hf
      · rename_i hz
        cases hf
        obtain ⟨vs, t1, t2⟩ := t
        cases r with
        | lst a b =>
          exact ⟨.lst (vs ++ _), ⟨_, upd_same, t2.append b⟩, fun Q q => ⟨p, _, vs, _, rfl, rfl, t1, ex _ _ a, by rw [lim_eq, t2.length, b.length]; exact hz, q⟩⟩
      · cases hf
    · cases hf
  · exact wS_of (ps_expr (pe_bm PySem.F.plainAttrs_list PySem.F.slot_list_extend PySem.F.type_list_extend mt_extend (pe_var hN hv hd hcd) (pa_cons pe_w pa_nil (star_cons hs)) (base_ok rfl) (few_ok hs1 (by show 1 < 29; decide)) hline (star_cons hs) rfl) rfl) ⟨v, hσ, pr, q⟩
end
/-! ### found[i] = e -/
def keyOf? : D → Option Key
  | .int i => some (.inl i)
  | .str s => some (.inr ⟨s.toArray⟩)
  | _ => none
theorem keyOf_keyD (k : Key) : keyOf? (keyD k) = some k := by
  cases k with
  | inl i => rfl
  | inr x => show some (Sum.inr ⟨x.cps.toList.toArray⟩) = some (Sum.inr x); rw [Array.toArray_toList]
theorem keyD_keyOf {d : D} {k : Key} (h : keyOf? d = some k) : d = keyD k := by
  cases d with
  | int i => cases h; rfl
  | str s => cases h; rfl
  | _ => cases h
theorem rp_key {R : Rt} {H : Hp} {v : V} {d : D} {k : Key} (r : Rp R H v d) (h : keyOf? d = some k) : v = kV k := by
  cases d with
  | int i => cases h; cases r; rfl
  | str s => cases h; cases r; rfl
  | _ => cases h
/-- d is the key x -/
def isK (x : Key) (d : D) : Bool := decide (keyOf? d = some x)
theorem isK_keyD (x k : Key) : isK x (keyD k) = decide (k = x) := by
  unfold isK
  rw [keyOf_keyD]
  by_cases h : k = x
  · rw [decide_eq_true h, decide_eq_true (congrArg some h)]
  · rw [decide_eq_false h, decide_eq_false fun z => h (Option.some.inj z)]
/-- the value under a key -/
def getK (kvs : List (D × D)) (x : Key) : Option D := (kvs.find? fun p => isK x p.1).map (·.2)
def putKD (kvs : List (D × D)) (x : Key) (v : D) : List (D × D) :=
  if (kvs.any fun p => isK x p.1) = true then kvs.map (fun p => if isK x p.1 = true then (p.1, v) else p) else kvs ++ [(keyD x, v)]
section
variable {R : Rt} {Hf : Hp}
theorem keys_any (x : Key) : ∀ {ks : List (Key × V)} {kvs : List (D × D)}, ks.map (fun q => keyD q.1) = kvs.map (·.1) → (ks.any fun q => decide (q.1 = x)) = kvs.any fun p => isK x p.1
  | [], [], _ => rfl
  | [], _ :: _, e => by cases e
  | _ :: _, [], e => by cases e
  | q :: ks, p :: kvs, e => by
    rw [List.map_cons, List.map_cons] at e
    injection e with e1 e2
    have e1' : keyD q.1 = p.1 := e1
    rw [List.any_cons, List.any_cons, keys_any x e2, ← e1', isK_keyD]
theorem key_get (x : Key) : ∀ {ks : List (Key × V)} {kvs : List (D × D)}, ks.map (fun q => keyD q.1) = kvs.map (·.1) → Rps R Hf (ks.map (·.2)) (kvs.map (·.2)) →
    (∃ v d, valV ks x = some v ∧ getK kvs x = some d ∧ Rp R Hf v d) ∨ (valV ks x = none ∧ getK kvs x = none)
  | [], [], _, _ => .inr ⟨rfl, rfl⟩
  | [], _ :: _, e, _ => by cases e
  | _ :: _, [], e, _ => by cases e
  | q :: ks, p :: kvs, e, r => by
    rw [List.map_cons, List.map_cons] at e
    injection e with e1 e2
    have e1' : keyD q.1 = p.1 := e1
    rw [List.map_cons, List.map_cons] at r
    cases r with
    | cons r1 r2 =>
      by_cases hx : q.1 = x
      · refine .inl ⟨q.2, p.2, valV_pos hx, ?_, r1⟩
        unfold getK
        rw [List.find?_cons, ← e1', isK_keyD, decide_eq_true hx]
        rfl
      · have g2 : getK (p :: kvs) x = getK kvs x := by
          unfold getK
          rw [List.find?_cons, ← e1', isK_keyD, decide_eq_false hx]
        rw [valV_neg hx, g2]
        exact key_get x e2 r2
theorem key_put {x : Key} {v : V} {d : D} (r : Rp R Hf v d) {ks : List (Key × V)} {kvs : List (D × D)} (e : ks.map (fun q => keyD q.1) = kvs.map (·.1)) (rs : Rps R Hf (ks.map (·.2)) (kvs.map (·.2))) :
    (putK ks x v).map (fun q => keyD q.1) = (putKD kvs x d).map (·.1) ∧ Rps R Hf ((putK ks x v).map (·.2)) ((putKD kvs x d).map (·.2)) := by
  have ha := keys_any x e
  unfold putK putKD
  rw [← ha]
  by_cases h : (ks.any fun q => decide (q.1 = x)) = true
  · rw [if_pos h, if_pos h]
    have m1 : ∀ (l : List (Key × V)), (l.map fun q => if q.1 = x then (q.1, v) else q).map (fun q => keyD q.1) = l.map fun q => keyD q.1 := fun l => by
      rw [List.map_map]
      refine List.map_congr_left fun q _ => ?_
      show keyD (if q.1 = x then (q.1, v) else q).1 = keyD q.1
      split <;> rfl
    have m2 : ∀ (l : List (D × D)), (l.map fun p => if isK x p.1 = true then (p.1, d) else p).map (·.1) = l.map (·.1) := fun l => by
      rw [List.map_map]
      refine List.map_congr_left fun p _ => ?_
      show (if isK x p.1 = true then (p.1, d) else p).1 = p.1
      split <;> rfl
    refine ⟨by rw [m1, m2]; exact e, ?_⟩
    clear h ha
    induction ks generalizing kvs with
    | nil => cases kvs with
      | nil => exact .nil
      | cons p kvs => cases e
    | cons q ks ih =>
      cases kvs with
      | nil => cases e
      | cons p kvs =>
        rw [List.map_cons, List.map_cons] at e
        injection e with e1 e2
        have e1' : keyD q.1 = p.1 := e1
        rw [List.map_cons, List.map_cons] at rs
        cases rs with
        | cons r1 r2 =>
          have z := ih e2 r2
          rw [List.map_cons, List.map_cons, List.map_cons, List.map_cons]
          refine .cons ?_ z
          rw [← e1', isK_keyD]
          by_cases hx : q.1 = x
          · rw [decide_eq_true hx, if_pos hx, if_pos rfl]
            exact r
          · rw [decide_eq_false hx, if_neg hx, if_neg Bool.false_ne_true]
            exact r1
  · rw [if_neg h, if_neg h]
    refine ⟨by rw [List.map_append, List.map_append, e]; rfl, ?_⟩
    rw [List.map_append, List.map_append]
    exact rs.append (.cons r .nil)
end
def setAt (d : D) (iv v : D) : Option D := match d with
  | .lst xs => (match iv with
    | .int i => if 0 ≤ i ∧ i < xs.length then some (.lst (xs.set i.toNat v)) else none
    | _ => none)
  | .dic kvs => (match keyOf? iv with
    | some x => if kvs.length < lim then some (.dic (putKD kvs x v)) else none
    | none => none)
  | _ => none
def sPut (i : Nat) (mv mi : M D) : MS := fun c g => match mv c g with
  | .ok v g1 => (match (g1[i]?).bind slotD with
    | none => .bad
    | some _ => (match mi c g1 with
      | .ok k g2 => (match g2[i]? with
        | some (.own d) => (match setAt d k v with
          | some d' => .nx (g2.set i (.own d'))
          | none => .bad)
        | _ => .bad)
      | .exc x g2 => .exc x g2
      | .bad => .bad))
  | .exc x g1 => .exc x g1
  | .bad => .bad
theorem noSl_of {b : Expr} (h : plainIx b = true) : NoSl b := fun o i => by
  cases b <;> first | rfl | cases h
section
variable {X : Cx} {F : Fx} {rx : RX} {cal : Cal} {e ix : Expr} {mv mi : M D} {i : Nat} {x : Str} {px spos pos : Pos}
theorem ds_put (hu : X.A.units + 64 < cLine) (hN : X.N[i]? = some x) (hv : Vis X.env.scope x) (hd : (x == ("__debug__" : Str)) = false) (hcd : (x == ("__classdict__" : Str)) = false) (hpl : plainIx ix = true)
    (hsw : swapsWith e (some (.Subscript (.Name x px) ix spos)) pos.line X.env = pure false)
    (he : DD X F rx cal e mv) (hi : DD X F rx cal ix mi) : DS X F rx cal (.Assign [.Subscript (.Name x px) ix spos] e pos) (sPut i mv mi) := fun σ g Hf H co => by
  unfold sPut
  have key : ∀ (D : Ends), wE X e σ H (fun v H1 => ∃ o, σ[i]? = some (some o) ∧ wE X ix σ H1 fun k H2 => (∃ p, o = .ref p ∧ rSetL o k v H2 fun H3 => D.nx σ H3) ∨ (∃ p H3, o = .ref p ∧ DPut H2 p k v H3 ∧ D.nx σ H3)) → wS X (.Assign [.Subscript (.Name x px) ix spos] e pos) D σ H := fun D q pins s I => by
    refine wpAny_Assign_Subscript (thn (q pins s I) fun r s1 ⟨v, H1, I1, rv, o, ho, q1⟩ => thn ((pe_var hN hv hd hcd).run pins s1 σ H1 (fun o H1 => wE X ix σ H1 fun k H2 => (∃ p, o = .ref p ∧ rSetL o k v H2 fun H3 => D.nx σ H3) ∨ (∃ p H3, o = .ref p ∧ DPut H2 p k v H3 ∧ D.nx σ H3)) I1 ⟨o, ho, q1⟩) fun u s2 ⟨x', H2, I2, rx', q2⟩ => thn (q2 pins s2 I2) fun iv s3 ⟨y, H3, I3, ry, q3⟩ => ?_) hsw
    rcases q3 with ⟨p, rfl, q3⟩ | ⟨p, H4, rfl, dp, q3⟩
    · exact thn (set_list pins s3 σ H3 _ _ _ _ _ _ _ I3 rx' ry rv q3) fun _ s4 ⟨H4, I4, q4⟩ => ⟨σ, H4, I4, q4⟩
    · obtain rfl : u = Value.ref p := rx'
      exact d_setItem (by omega) I3 dp ry rv fun s4 I4 => ⟨σ, H4, I4, q3⟩
  have kv := he σ g Hf H co
  cases hm : mv cal g with
  | ok v g1 =>
    rw [hm] at kv
    dsimp only
    cases h0 : (g1[i]?).bind slotD with
    | none => trivial
    | some d0 =>
      dsimp only
      have ki := fun Hf1 H1 co1 => hi σ g1 Hf1 H1 co1
      cases hm2 : mi cal g1 with
      | ok k g2 =>
        rw [hm2] at ki
        dsimp only
        cases hg2 : g2[i]? with
        | none => trivial
        | some sl =>
          cases sl with
          | no => trivial
          | val d => trivial
          | own d =>
            dsimp only
            cases hd' : setAt d k v with
            | none => trivial
            | some d' =>
              refine fun D q => key D (kv _ fun y Hf1 H1 e1 co1 r1 => ?_)
              obtain ⟨o, ho⟩ := co1.at h0
              refine ⟨o, ho, ki Hf1 H1 co1 _ fun z Hf2 H2 e2 co2 r2 => ?_⟩
              obtain ⟨p, j1, j2, j3, j4⟩ := co2.own i d hg2
              rw [ho] at j1
              cases j1
              unfold setAt at hd'
              split at hd'
              · split at hd'
                · split at hd'
                  · rename_i xs i0 hz
                    cases hd'
                    cases r2
                    obtain ⟨vs, t1, t2⟩ := j4
                    refine .inl ⟨p, rfl, p, vs, _, i0.toNat, rfl, rfl, t1, ?_, q σ Hf2 _ (e1.trans e2) (co2.updSlot hg2 ho ⟨_, upd_same, t2.set (r1.mono e2) _⟩)⟩
                    unfold ixN
                    rw [if_pos hz.1, if_pos (by rw [t2.length]; omega)]
                  · cases hd'
                · cases hd'
              · split at hd'
                · split at hd'
                  · rename_i kvs _ x0 hk hz
                    cases hd'
                    obtain rfl := rp_key r2 hk
                    obtain ⟨ks, t1, t2, t3⟩ := j4
                    obtain ⟨a1, a2⟩ := key_put (r1.mono e2) (x := x0) t2 t3
                    refine .inr ⟨p, _, rfl, DPut.k t1 ?_, q σ Hf2 _ (e1.trans e2) (co2.updSlot hg2 ho ⟨_, upd_same, a1, a2⟩)⟩
                    have hl : ks.length = kvs.length := by
                      have := congrArg List.length t2
                      rw [List.length_map, List.length_map] at this
                      exact this
                    rw [lim_eq, hl]
                    exact hz
                  · cases hd'
                · cases hd'
              · cases hd'
      | exc y g2 =>
        rw [hm2] at ki
        refine fun W D tk q => key D (kv _ fun y Hf1 H1 e1 co1 r1 => ?_)
        obtain ⟨o, ho⟩ := co1.at h0
        exact ⟨o, ho, ki Hf1 H1 co1 W _ tk fun c dx Hf2 H2 e2 co2 r2 => q c dx σ Hf2 H2 (e1.trans e2) co2 r2⟩
      | bad => trivial
  | exc y g1 =>
    rw [hm] at kv
    exact fun W D tk q => key D (kv W _ tk fun c dx Hf' H' e' co' r' => q c dx σ Hf' H' e' co' r')
  | bad => trivial
end
end Wb

set_option Elab.async false
set_option linter.all false
set_option maxRecDepth 100000
set_option maxHeartbeats 4000000
/-! Wb: calls of built-in functions and types. -/
namespace Wb
open PySem PySem.Spec PyProof.Rows L2
def BltOk (X : Cx) (F : Fx) (rx : RX) (id : Value) (f : List D → Option Ent) : Prop :=
  ∀ (σ : L2.St) (g : Env') (Hf H : Hp) (vs : List V) (ds : List D) (en : Ent), Co F σ g Hf H → Rps F.R Hf vs ds → f ds = some en → Post X F rx σ Hf (relE F σ) (.ok en g) (wC X id vs H)
def mBlt (f : List D → Option Ent) (ms : M (List D)) : M Ent := bnd ms fun ds => lift (f ds)
section
variable {X : Cx} {F : Fx} {rx : RX} {cal : Cal} {e : Expr} {es : List Expr} {ms : M (List D)} {x : Str} {p pos : Pos} {f : List D → Option Ent} {id : String}
theorem de_blt (h : BltOk X F rx (.builtin id) f) (hg : Gl X x) (hm : X.mg x = none) (hv : bootBuiltins x = some (.builtin id)) (hn : x ≠ "__name__") (hdb : (x == ("__debug__" : Str)) = false) (hs : noStars (e :: es) = true) (ha : DA X F rx cal (e :: es) ms) :
    DE X F rx cal (.Call (.Name x p) (e :: es) [] pos) (mBlt f ms) := fun σ g Hf H co => by
  have h0 := hs
  unfold noStars at h0
  rw [List.all_cons, Bool.and_eq_true] at h0
  refine Post.bind (w2 := fun vs H1 Q => wC X (.builtin id) vs H1 Q) (ha σ g Hf H co) (fun ds g1 vs Hf1 H1 _ e1 co1 r1 => ?_) fun Q q => wE_of (pe_callB cr_w hg hm hv pa_w hn hdb (star_cons h0.1) (plain_args h0.2)) q
  show Post X F rx σ Hf1 (relE F σ) (lift (f ds) cal g1) _
  unfold lift
  cases hf : f ds with
  | none => trivial
  | some en => exact h σ g1 Hf1 H1 vs ds en co1 r1 hf
theorem de_bltT (h : BltOk X F rx (.type id) f) (hg : Gl X x) (hm : X.mg x = none) (hv : bootBuiltins x = some (.type id)) (hn : x ≠ "__name__") (hdb : (x == ("__debug__" : Str)) = false) (hs : noStars (e :: es) = true) (ha : DA X F rx cal (e :: es) ms) :
    DE X F rx cal (.Call (.Name x p) (e :: es) [] pos) (mBlt f ms) := fun σ g Hf H co => by
  have h0 := hs
  unfold noStars at h0
  rw [List.all_cons, Bool.and_eq_true] at h0
  refine Post.bind (w2 := fun vs H1 Q => wC X (.type id) vs H1 Q) (ha σ g Hf H co) (fun ds g1 vs Hf1 H1 _ e1 co1 r1 => ?_) fun Q q => wE_of (pe_callTy cr_w hg hm hv pa_w hn hdb (star_cons h0.1) (plain_args h0.2)) q
  show Post X F rx σ Hf1 (relE F σ) (lift (f ds) cal g1) _
  unfold lift
  cases hf : f ds with
  | none => trivial
  | some en => exact h σ g1 Hf1 H1 vs ds en co1 r1 hf
end

/-! ### the functions -/
def bLen : List D → Option Ent
  | [.str s] => if s.length ≤ lim then some (.val (.int s.length)) else none
  | [.tup xs] => some (.val (.int xs.length))
  | [.lst xs] => some (.val (.int xs.length))
  | [.rol xs] => some (.val (.int xs.length))
  | _ => none
def blsOf : List D → Option (List Bool)
  | [] => some []
  | .bl b :: r => (blsOf r).map (b :: ·)
  | _ => none
def intsOf : List D → Option (List Int)
  | [] => some []
  | .int b :: r => (intsOf r).map (b :: ·)
  | _ => none
def strsOf : List D → Option (List (List Nat))
  | [] => some []
  | .str b :: r => (strsOf r).map (b :: ·)
  | _ => none
theorem blsOf_map : ∀ {ds : List D} {bs : List Bool}, blsOf ds = some bs → ds = bs.map .bl
  | [], bs, h => by cases h; rfl
  | d :: r, bs, h => by
    cases d with
    | bl b =>
      rw [blsOf] at h
      obtain ⟨c, h1, rfl⟩ := Option.map_eq_some_iff.mp h
      rw [blsOf_map h1]
      rfl
    | _ => cases h
theorem intsOf_map : ∀ {ds : List D} {bs : List Int}, intsOf ds = some bs → ds = bs.map .int
  | [], bs, h => by cases h; rfl
  | d :: r, bs, h => by
    cases d with
    | int b =>
      rw [intsOf] at h
      obtain ⟨c, h1, rfl⟩ := Option.map_eq_some_iff.mp h
      rw [intsOf_map h1]
      rfl
    | _ => cases h
theorem strsOf_map : ∀ {ds : List D} {bs : List (List Nat)}, strsOf ds = some bs → ds = bs.map .str
  | [], bs, h => by cases h; rfl
  | d :: r, bs, h => by
    cases d with
    | str b =>
      rw [strsOf] at h
      obtain ⟨c, h1, rfl⟩ := Option.map_eq_some_iff.mp h
      rw [strsOf_map h1]
      rfl
    | _ => cases h
theorem map_blsOf (bs : List Bool) : blsOf (bs.map .bl) = some bs := by
  induction bs with
  | nil => rfl
  | cons b bs ih => rw [List.map_cons, blsOf, ih]; rfl
theorem map_intsOf (bs : List Int) : intsOf (bs.map .int) = some bs := by
  induction bs with
  | nil => rfl
  | cons b bs ih => rw [List.map_cons, intsOf, ih]; rfl
theorem map_strsOf (bs : List (List Nat)) : strsOf (bs.map .str) = some bs := by
  induction bs with
  | nil => rfl
  | cons b bs ih => rw [List.map_cons, strsOf, ih]; rfl
def bAll : List D → Option Ent
  | [.lst xs] => (blsOf xs).map fun bs => .val (.bl (bs.all id))
  | _ => none
def bAny : List D → Option Ent
  | [.lst xs] => (blsOf xs).map fun bs => .val (.bl (bs.any id))
  | _ => none
def bSum : List D → Option Ent
  | [.lst xs] => (intsOf xs).map fun bs => .val (.int bs.sum)
  | _ => none
def maxZ : List Int → Option Int
  | [] => none
  | x :: r => some (r.foldl max x)
def minZ : List Int → Option Int
  | [] => none
  | x :: r => some (r.foldl min x)
theorem foldl_max_spec : ∀ (r : List Int) (x : Int), (r.foldl max x ∈ x :: r) ∧ ∀ y ∈ x :: r, y ≤ r.foldl max x
  | [], x => ⟨List.mem_cons_self, fun y hy => by rw [List.mem_singleton.mp hy]; exact Int.le_refl _⟩
  | z :: r, x => by
    obtain ⟨h1, h2⟩ := foldl_max_spec r (max x z)
    rw [List.foldl_cons]
    refine ⟨?_, fun y hy => ?_⟩
    · rcases List.mem_cons.mp h1 with e | e
      · rw [e]
        rcases Int.le_total x z with q | q
        · rw [Int.max_eq_right q]; exact List.mem_cons_of_mem _ List.mem_cons_self
        · rw [Int.max_eq_left q]; exact List.mem_cons_self
      · exact List.mem_cons_of_mem _ (List.mem_cons_of_mem _ e)
    · have h3 := h2 _ List.mem_cons_self
      rcases List.mem_cons.mp hy with rfl | hy
      · exact Int.le_trans (Int.le_max_left ..) h3
      · rcases List.mem_cons.mp hy with rfl | hy
        · exact Int.le_trans (Int.le_max_right ..) h3
        · exact h2 y (List.mem_cons_of_mem _ hy)
theorem foldl_min_spec : ∀ (r : List Int) (x : Int), (r.foldl min x ∈ x :: r) ∧ ∀ y ∈ x :: r, r.foldl min x ≤ y
  | [], x => ⟨List.mem_cons_self, fun y hy => by rw [List.mem_singleton.mp hy]; exact Int.le_refl _⟩
  | z :: r, x => by
    obtain ⟨h1, h2⟩ := foldl_min_spec r (min x z)
    rw [List.foldl_cons]
    refine ⟨?_, fun y hy => ?_⟩
    · rcases List.mem_cons.mp h1 with e | e
      · rw [e]
        rcases Int.le_total x z with q | q
        · rw [Int.min_eq_left q]; exact List.mem_cons_self
        · rw [Int.min_eq_right q]; exact List.mem_cons_of_mem _ List.mem_cons_self
      · exact List.mem_cons_of_mem _ (List.mem_cons_of_mem _ e)
    · have h3 := h2 _ List.mem_cons_self
      rcases List.mem_cons.mp hy with rfl | hy
      · exact Int.le_trans h3 (Int.min_le_left ..)
      · rcases List.mem_cons.mp hy with rfl | hy
        · exact Int.le_trans h3 (Int.min_le_right ..)
        · exact h2 y (List.mem_cons_of_mem _ hy)
def bMax : List D → Option Ent
  | [.lst xs] => ((intsOf xs).bind maxZ).map fun m => .val (.int m)
  | [.int a, .int b] => some (.val (.int (max a b)))
  | _ => none
def bMin : List D → Option Ent
  | [.lst xs] => ((intsOf xs).bind minZ).map fun m => .val (.int m)
  | [.int a, .int b] => some (.val (.int (min a b)))
  | _ => none
def bInt : List D → Option Ent
  | [.int i] => some (.val (.int i))
  | [.bl b] => some (.val (.int (if b then 1 else 0)))
  | _ => none
def bAbs : List D → Option Ent
  | [.int i] => some (.val (.int i.natAbs))
  | _ => none
def bTuple : List D → Option Ent
  | [.lst xs] => some (.val (.tup xs))
  | [.rol xs] => some (.val (.tup xs))
  | [.tup xs] => some (.val (.tup xs))
  | _ => none
def bList : List D → Option Ent
  | [.lst xs] => some (.own (.lst xs))
  | [.rol xs] => some (.own (.lst xs))
  | [.tup xs] => some (.own (.lst xs))
  | _ => none
section
variable {X : Cx} {F : Fx} {rx : RX} {σ : L2.St} {g : Env'} {Hf H : Hp}
theorem rps1 {R : Rt} {vs : List V} {d : D} (r : Rps R Hf vs [d]) : ∃ v, vs = [v] ∧ Rp R Hf v d := by
  cases r with
  | cons a b => cases b; exact ⟨_, rfl, a⟩
theorem rps2 {R : Rt} {vs : List V} {d e : D} (r : Rps R Hf vs [d, e]) : ∃ v u, vs = [v, u] ∧ Rp R Hf v d ∧ Rp R Hf u e := by
  cases r with
  | cons a b => cases b with
    | cons c q => cases q; exact ⟨_, _, rfl, a, c⟩
/-- where a list of data stands in the heap -/
theorem rp_seq (hK : F.R.K = X.K) (co : Co F σ g Hf H) {v : V} {xs : List D} (r : Rp F.R Hf v (.lst xs)) : ∃ p vs, v = .ref p ∧ SqL X.K H p vs ∧ Rps F.R Hf vs xs := by
  cases r with
  | lst a b => exact ⟨_, _, rfl, .inl (.inl (co.ex _ _ a)), b⟩
theorem rp_rol (hK : F.R.K = X.K) (co : Co F σ g Hf H) {v : V} {xs : List D} (r : Rp F.R Hf v (.rol xs)) : ∃ p vs, v = .ref p ∧ SqL X.K H p vs ∧ Rps F.R Hf vs xs := by
  cases r with
  | rol a b => rw [hK] at a; exact ⟨_, _, rfl, ex_l co.ex a, b⟩
theorem rp_tup (hK : F.R.K = X.K) (co : Co F σ g Hf H) {v : V} {xs : List D} (r : Rp F.R Hf v (.tup xs)) : ∃ p vs, v = .ref p ∧ SqT X.K H p vs ∧ Rps F.R Hf vs xs := by
  cases r with
  | tup a b => rw [hK] at a; exact ⟨_, _, rfl, ex_t co.ex a, b⟩
theorem blt_len (hK : F.R.K = X.K) : BltOk X F rx (.builtin "len") bLen := fun σ g Hf H vs ds en co rs h => by
  unfold bLen at h
  split at h
  · split at h
    · cases h
      rename_i hz
      obtain ⟨v, rfl, r⟩ := rps1 rs
      cases r
      exact Post.pure co (.int _) fun Q q => wC_of call_len_str ⟨_, rfl, by rw [lim_eq]; simpa [Str.length] using hz, by simpa [Str.length] using q⟩
    · cases h
  · cases h
    obtain ⟨v, rfl, r⟩ := rps1 rs
    obtain ⟨p, us, rfl, k1, k2⟩ := rp_tup hK co r
    exact Post.pure co (.int _) fun Q q => wC_of call_len_seq ⟨p, us, rfl, .inr k1, by rw [k2.length]; exact q⟩
  · cases h
    obtain ⟨v, rfl, r⟩ := rps1 rs
    obtain ⟨p, us, rfl, k1, k2⟩ := rp_seq hK co r
    exact Post.pure co (.int _) fun Q q => wC_of call_len_seq ⟨p, us, rfl, .inl k1, by rw [k2.length]; exact q⟩
  · cases h
    obtain ⟨v, rfl, r⟩ := rps1 rs
    obtain ⟨p, us, rfl, k1, k2⟩ := rp_rol hK co r
    exact Post.pure co (.int _) fun Q q => wC_of call_len_seq ⟨p, us, rfl, .inl k1, by rw [k2.length]; exact q⟩
  · cases h
theorem blt_all (hc : X.calm = true) (hK : F.R.K = X.K) : BltOk X F rx (.builtin "all") bAll := fun σ g Hf H vs ds en co rs h => by
  unfold bAll at h
  split at h
  · obtain ⟨bs, h1, rfl⟩ := Option.map_eq_some_iff.mp h
    obtain ⟨v, rfl, r⟩ := rps1 rs
    obtain ⟨p, us, rfl, k1, k2⟩ := rp_seq hK co r
    rw [blsOf_map h1] at k2
    rw [k2.bls] at k1
    exact Post.pure co (.bl _) fun Q q => wC_of (cr_all hc) ⟨p, bs, rfl, k1, q⟩
  · cases h
theorem blt_any (hc : X.calm = true) (hK : F.R.K = X.K) : BltOk X F rx (.builtin "any") bAny := fun σ g Hf H vs ds en co rs h => by
  unfold bAny at h
  split at h
  · obtain ⟨bs, h1, rfl⟩ := Option.map_eq_some_iff.mp h
    obtain ⟨v, rfl, r⟩ := rps1 rs
    obtain ⟨p, us, rfl, k1, k2⟩ := rp_seq hK co r
    rw [blsOf_map h1] at k2
    rw [k2.bls] at k1
    exact Post.pure co (.bl _) fun Q q => wC_of (cr_any hc) ⟨p, bs, rfl, k1, q⟩
  · cases h
theorem blt_sum (hc : X.calm = true) (hK : F.R.K = X.K) : BltOk X F rx (.builtin "sum") bSum := fun σ g Hf H vs ds en co rs h => by
  unfold bSum at h
  split at h
  · obtain ⟨bs, h1, rfl⟩ := Option.map_eq_some_iff.mp h
    obtain ⟨v, rfl, r⟩ := rps1 rs
    obtain ⟨p, us, rfl, k1, k2⟩ := rp_seq hK co r
    rw [intsOf_map h1] at k2
    rw [k2.ints] at k1
    exact Post.pure co (.int _) fun Q q => wC_of (cr_sum hc) ⟨p, bs, rfl, k1, q⟩
  · cases h
theorem blt_max (hc : X.calm = true) (hK : F.R.K = X.K) : BltOk X F rx (.builtin "max") bMax := fun σ g Hf H vs ds en co rs h => by
  unfold bMax at h
  split at h
  · obtain ⟨m, h0, rfl⟩ := Option.map_eq_some_iff.mp h
    obtain ⟨bs, h1, h2⟩ := Option.bind_eq_some_iff.mp h0
    obtain ⟨v, rfl, r⟩ := rps1 rs
    obtain ⟨p, us, rfl, k1, k2⟩ := rp_seq hK co r
    rw [intsOf_map h1] at k2
    rw [k2.ints] at k1
    cases bs with
    | nil => cases h2
    | cons x r =>
      cases h2
      obtain ⟨z1, z2⟩ := foldl_max_spec r x
      refine Post.pure co (.int _) fun Q q => wC_of (cr_max hc) ⟨p, _, rfl, k1, Nat.succ_pos _, fun m hm hy => ?_⟩
      rw [show m = r.foldl max x from Int.le_antisymm (z2 m hm) (hy _ z1)]
      exact q
  · cases h
    obtain ⟨v, u, rfl, r1, r2⟩ := rps2 rs
    cases r1; cases r2
    refine Post.pure co (.int _) fun Q q => wC_of (call_max2 hc) ⟨_, _, rfl, ?_⟩
    rename_i a b
    have e : (if b > a then b else a) = max a b := by
      rw [Int.max_def]
      by_cases hh : a ≤ b
      · rw [if_pos hh]
        by_cases h3 : b > a
        · rw [if_pos h3]
        · rw [if_neg h3]; omega
      · rw [if_neg hh, if_neg (by omega)]
    rw [e]
    exact q
  · cases h
theorem blt_min (hc : X.calm = true) (hK : F.R.K = X.K) : BltOk X F rx (.builtin "min") bMin := fun σ g Hf H vs ds en co rs h => by
  unfold bMin at h
  split at h
  · obtain ⟨m, h0, rfl⟩ := Option.map_eq_some_iff.mp h
    obtain ⟨bs, h1, h2⟩ := Option.bind_eq_some_iff.mp h0
    obtain ⟨v, rfl, r⟩ := rps1 rs
    obtain ⟨p, us, rfl, k1, k2⟩ := rp_seq hK co r
    rw [intsOf_map h1] at k2
    rw [k2.ints] at k1
    cases bs with
    | nil => cases h2
    | cons x r =>
      cases h2
      obtain ⟨z1, z2⟩ := foldl_min_spec r x
      refine Post.pure co (.int _) fun Q q => wC_of (cr_min hc) ⟨p, _, rfl, k1, Nat.succ_pos _, fun m hm hy => ?_⟩
      rw [show m = r.foldl min x from Int.le_antisymm (hy _ z1) (z2 m hm)]
      exact q
  · cases h
    obtain ⟨v, u, rfl, r1, r2⟩ := rps2 rs
    cases r1; cases r2
    refine Post.pure co (.int _) fun Q q => wC_of (call_min2 hc) ⟨_, _, rfl, ?_⟩
    rename_i a b
    have e : (if b < a then b else a) = min a b := by
      rw [Int.min_def]
      by_cases hh : a ≤ b
      · rw [if_pos hh, if_neg (by omega)]
      · rw [if_neg hh, if_pos (by omega)]
    rw [e]
    exact q
  · cases h
theorem blt_int : BltOk X F rx (.type "int") bInt := fun σ g Hf H vs ds en co rs h => by
  unfold bInt at h
  split at h
  · cases h
    obtain ⟨v, rfl, r⟩ := rps1 rs
    cases r
    exact Post.pure co (.int _) fun Q q => wC_of call_int1 (.inl ⟨_, rfl, q⟩)
  · cases h
    obtain ⟨v, rfl, r⟩ := rps1 rs
    cases r
    exact Post.pure co (.int _) fun Q q => wC_of call_int1 (.inr ⟨_, rfl, q⟩)
  · cases h
theorem blt_abs : BltOk X F rx (.builtin "abs") bAbs := fun σ g Hf H vs ds en co rs h => by
  unfold bAbs at h
  split at h
  · cases h
    obtain ⟨v, rfl, r⟩ := rps1 rs
    cases r
    refine Post.pure co (.int _) fun Q q => wC_of call_abs ⟨_, rfl, ?_⟩
    rename_i i
    have e : (if i < 0 then -i else i) = (i.natAbs : Int) := by
      by_cases hi : i < 0
      · rw [if_pos hi]; omega
      · rw [if_neg hi]; omega
    rw [e]
    exact q
  · cases h
theorem blt_tuple (hK : F.R.K = X.K) : BltOk X F rx (.type "tuple") bTuple := fun σ g Hf H vs ds en co rs h => by
  unfold bTuple at h
  split at h
  · cases h
    obtain ⟨v, rfl, r⟩ := rps1 rs
    obtain ⟨p, us, rfl, k1, k2⟩ := rp_seq hK co r
    exact Post.tuple co k2 fun Q q => wC_of call_tuple_of ⟨p, us, rfl, .inl ⟨k1, q⟩⟩
  · cases h
    obtain ⟨v, rfl, r⟩ := rps1 rs
    obtain ⟨p, us, rfl, k1, k2⟩ := rp_rol hK co r
    exact Post.tuple co k2 fun Q q => wC_of call_tuple_of ⟨p, us, rfl, .inl ⟨k1, q⟩⟩
  · cases h
    obtain ⟨v, rfl, r⟩ := rps1 rs
    obtain ⟨p, us, e, k1, k2⟩ := rp_tup hK co r
    exact Post.pure co r fun Q q => wC_of call_tuple_of ⟨p, us, by rw [e], .inr ⟨k1, by rw [← e]; exact q⟩⟩
  · cases h
theorem blt_list (hK : F.R.K = X.K) : BltOk X F rx (.type "list") bList := fun σ g Hf H vs ds en co rs h => by
  unfold bList at h
  split at h
  · cases h
    obtain ⟨v, rfl, r⟩ := rps1 rs
    obtain ⟨p, us, rfl, k1, k2⟩ := rp_seq hK co r
    exact Post.list co k2 fun Q q => wC_of call_list_of ⟨p, us, rfl, .inl k1, q⟩
  · cases h
    obtain ⟨v, rfl, r⟩ := rps1 rs
    obtain ⟨p, us, rfl, k1, k2⟩ := rp_rol hK co r
    exact Post.list co k2 fun Q q => wC_of call_list_of ⟨p, us, rfl, .inl k1, q⟩
  · cases h
    obtain ⟨v, rfl, r⟩ := rps1 rs
    obtain ⟨p, us, rfl, k1, k2⟩ := rp_tup hK co r
    exact Post.list co k2 fun Q q => wC_of call_list_of ⟨p, us, rfl, .inr k1, q⟩
  · cases h
end
end Wb

set_option Elab.async false
set_option linter.all false
set_option maxRecDepth 100000
set_option maxHeartbeats 4000000
/-! Wb: sorted, repr, join, isinstance. -/
namespace Wb
open PySem PySem.Spec PyProof.Rows L2
/-! ### sorted -/
def isStrD : D → Bool
  | .str _ => true
  | _ => false
def isIntD : D → Bool
  | .int _ => true
  | _ => false
def isTupD : D → Bool
  | .tup (_ :: _) => true
  | _ => false
def sortOk (ds : List D) : Bool := okDs dp ds && (ds.all isStrD || (ds.all isIntD || (ds.all isTupD && ds.all fun a => ds.all fun b => PySem.W.alike (toP a) (toP b))))
def leD (a b : D) : Bool := PySem.W.dataLe false toP a b
def sortD (ds : List D) : List D := ds.mergeSort leD
theorem toPs_map : ∀ ds : List D, toPs ds = ds.map toP
  | [] => by rw [toPs]; rfl
  | d :: ds => by rw [toPs, toPs_map ds]; rfl
theorem okDs_all : ∀ {n : Nat} {ds : List D}, okDs n ds = true → ∀ d ∈ ds, okD n d = true
  | _, [], _, _, h => by cases h
  | n, e :: ds, h, d, hd => by
    rw [okDs, Bool.and_eq_true] at h
    rcases List.mem_cons.mp hd with z | z
    · rw [z]; exact h.1
    · exact okDs_all h.2 d z
theorem sortOk_alike {ds : List D} (h : sortOk ds = true) : PySem.W.AllAlike (ds.map toP) ∧ PySem.W.Sortable (ds.map toP) := by
  unfold sortOk at h
  rw [Bool.and_eq_true, Bool.or_eq_true, Bool.or_eq_true, Bool.and_eq_true] at h
  obtain ⟨h0, h⟩ := h
  have of : ∀ {P : PyData → Prop}, (∀ d ∈ ds, P (toP d)) → ∀ z, z ∈ ds.map toP → P z := fun {P} k z hz => by
    obtain ⟨d, hd, rfl⟩ := List.mem_map.mp hz
    exact k d hd
  rcases h with h | h | ⟨h, h2⟩
  · rw [List.all_eq_true] at h
    have k : ∀ d ∈ ds, ∃ s, toP d = .str s := fun d hd => by
      have := h d hd
      cases d <;> first | (cases this; done) | exact ⟨_, rfl⟩
    refine ⟨fun a ha b hb => ?_, .inr fun a ha => ?_⟩
    · obtain ⟨s, e⟩ := of (P := fun z => ∃ s, z = .str s) k a ha
      obtain ⟨t, e2⟩ := of (P := fun z => ∃ s, z = .str s) k b hb
      rw [e, e2]; simp [PySem.W.alike]
    · obtain ⟨s, e⟩ := of (P := fun z => ∃ s, z = .str s) k a ha
      rw [e]; simp
  · rw [List.all_eq_true] at h
    have k : ∀ d ∈ ds, ∃ s, toP d = .int s := fun d hd => by
      have := h d hd
      cases d <;> first | (cases this; done) | exact ⟨_, rfl⟩
    refine ⟨fun a ha b hb => ?_, .inr fun a ha => ?_⟩
    · obtain ⟨s, e⟩ := of (P := fun z => ∃ s, z = .int s) k a ha
      obtain ⟨t, e2⟩ := of (P := fun z => ∃ s, z = .int s) k b hb
      rw [e, e2]; simp [PySem.W.alike]
    · obtain ⟨s, e⟩ := of (P := fun z => ∃ s, z = .int s) k a ha
      rw [e]; simp
  · rw [List.all_eq_true] at h h2
    have k : ∀ d ∈ ds, ∃ x r, toP d = .tuple (x :: r) := fun d hd => by
      have := h d hd
      cases d with
      | tup xs => cases xs with
        | nil => cases this
        | cons y r => exact ⟨toP y, toPs r, by rw [toP, toPs]⟩
      | _ => cases this
    refine ⟨fun a ha b hb => ?_, .inl (of k)⟩
    obtain ⟨d, hd, rfl⟩ := List.mem_map.mp ha
    obtain ⟨e, he, rfl⟩ := List.mem_map.mp hb
    have := h2 d hd
    rw [List.all_eq_true] at this
    exact this e he
def bSorted : List D → Option Ent
  | [.lst xs] => if sortOk xs && decide (xs.length ≤ lim) then some (.own (.lst (sortD xs))) else none
  | _ => none
theorem each_of {R : Rt} {Hf : Hp} {P : Value → V × D → Prop} : ∀ {vs : List V} {ds : List D} {us : List Value}, Rps R Hf vs ds → Vals vs us → (∀ v d u, d ∈ ds → Rp R Hf v d → RelV v u → P u (v, d)) → PySem.W.EachIs P us (vs.zip ds)
  | [], _, _, .nil, .nil, _ => .nil
  | v :: vs, d :: ds, u :: us, .cons r t, .cons q w, h => .cons (h v d u List.mem_cons_self r q) (each_of t w fun v' d' u' hd r' q' => h v' d' u' (List.mem_cons_of_mem _ hd) r' q')
theorem of_each {R : Rt} {Hf : Hp} : ∀ {us : List Value} {ps : List (V × D)}, PySem.W.EachIs (fun u (p : V × D) => RelV p.1 u ∧ Rp R Hf p.1 p.2) us ps → Vals (ps.map (·.1)) us ∧ Rps R Hf (ps.map (·.1)) (ps.map (·.2))
  | _, [], .nil => ⟨.nil, .nil⟩
  | _, p :: ps, .cons a t => by
    obtain ⟨h1, h2⟩ := of_each t
    exact ⟨.cons a.1 h1, .cons a.2 h2⟩
theorem zip_snd {α β : Type} : ∀ {xs : List α} {ys : List β}, xs.length = ys.length → (xs.zip ys).map (·.2) = ys
  | [], [], _ => rfl
  | [], _ :: _, h => by cases h
  | _ :: _, [], h => by cases h
  | x :: xs, y :: ys, h => by
    rw [List.zip_cons_cons, List.map_cons, zip_snd (by simpa using h)]
section
variable {X : Cx} {F : Fx} {rx : RX} {σ : L2.St} {g : Env'} {Hf H : Hp}
theorem blt_sorted (hu : X.A.units + 64 < cLine) (hK : F.R.K = X.K) : BltOk X F rx (.builtin "sorted") bSorted := fun σ g Hf H vs ds en co rs h => by
  unfold bSorted at h
  split at h
  · split at h
    · cases h
      rename_i xs hz
      rw [Bool.and_eq_true, decide_eq_true_eq] at hz
      obtain ⟨v, rfl, r⟩ := rps1 rs
      obtain ⟨a, us, rfl, k1, k2⟩ := rp_seq hK co r
      have hok : okDs dp xs = true := by
        have := hz.1
        unfold sortOk at this
        rw [Bool.and_eq_true] at this
        exact this.1
      obtain ⟨hal, hso⟩ := sortOk_alike hz.1
      have hl := k2.length
      have hm2 : (us.zip xs).map (fun p : V × D => toP p.2) = xs.map toP := by
        rw [← zip_snd hl, List.map_map, zip_snd hl]
        rfl
      -- the sorted pairs
      have hs : ((us.zip xs).mergeSort (PySem.W.dataLe false fun p : V × D => toP p.2)).map (·.2) = sortD xs := by
        have := List.map_mergeSort (r := PySem.W.dataLe false fun p : V × D => toP p.2) (s := leD) (f := fun p : V × D => p.2) (l := us.zip xs) fun a _ b _ => rfl
        rw [this, zip_snd hl]
        rfl
      have rS : Rps F.R Hf (((us.zip xs).mergeSort (PySem.W.dataLe false fun p : V × D => toP p.2)).map (·.1)) (sortD xs) := by
        rw [← hs]
        have : ∀ p ∈ (us.zip xs).mergeSort (PySem.W.dataLe false fun p : V × D => toP p.2), Rp F.R Hf p.1 p.2 := fun p hp => by
          have hp2 := (List.mergeSort_perm (us.zip xs) _).mem_iff.mp hp
          have all : ∀ {vs : List V} {ds : List D}, Rps F.R Hf vs ds → ∀ p ∈ vs.zip ds, Rp F.R Hf p.1 p.2 := by
            intro vs ds q
            induction vs generalizing ds with
            | nil => intro p hp; cases hp
            | cons v vs ih =>
              cases q with
              | cons q1 q2 =>
                intro p hp
                rw [List.zip_cons_cons] at hp
                rcases List.mem_cons.mp hp with z | z
                · rw [z]; exact q1
                · exact ih q2 p z
          exact all k2 p hp2
        generalize (us.zip xs).mergeSort (PySem.W.dataLe false fun p : V × D => toP p.2) = zs at this
        clear hs
        induction zs with
        | nil => exact .nil
        | cons p zs ih => exact .cons (this p List.mem_cons_self) (ih fun q hq => this q (List.mem_cons_of_mem _ hq))
      refine Post.list co rS fun Q q pins s σ' ws I rv => ?_
      obtain ⟨its, rits, hls, _⟩ := I.list k1
      rw [Vals.ref1 rv]
      refine PySem.W.sorted_data (R := fun u (p : V × D) => RelV p.1 u ∧ Rp F.R Hf p.1 p.2) (enc := fun p : V × D => toP p.2) (bs := us.zip xs) (vs := its) hls.isList (each_of k2 rits fun v d u _ h1 h2 => ⟨h2, h1⟩)
        (each_of k2 rits fun v d u hd h1 h2 => ?_) (by rw [hm2]; exact hal) (by rw [hm2]; exact hso) (by rw [List.length_zip, hl, Nat.min_self, lim_eq]; exact hz.2) (fun b hb => ?_) fun out ol eo => ?_
      · have d1 := Rp.dp (okDs_all hok d hd) (h1.mono co.ex)
        rw [hK] at d1
        exact Dp.reads I _ _ _ d1 h2
      · have hb2 : b.2 ∈ xs := (List.of_mem_zip hb).2
        obtain ⟨c1, c2⟩ := okD_can (okDs_all hok _ hb2)
        have : dp = 30 := rfl
        omega
      · obtain ⟨ep, he'⟩ := PyProof.Rows.sortedAll_at s.heap its (List.toArray out)
        obtain ⟨w1, w2⟩ := of_each eo
        have hlen : (((us.zip xs).mergeSort (PySem.W.dataLe false fun p : V × D => toP p.2)).map (·.1)).length ≤ sizeLine := by
          rw [List.length_map, List.length_mergeSort, List.length_zip, hl, Nat.min_self, lim_eq]; exact hz.2
        exact ⟨.ref _, upd H (s.heap.objs.size + 1) (.lst _), I.laid (t' := s.toks) (fun _ _ => PyProof.Rows.sortedAll_old) (Nat.le_succ _) ⟨hlen, out, ep, w1, he'⟩, rfl, q _ (I.hok.fresh (Nat.le_succ _))⟩
    · cases h
  · cases h
/-! ### repr -/
def shownD (d : D) : List Nat := (toP d).shown.cps.toList
def showOk (d : D) : Bool := okD dp d && ((toP d).showable && decide ((toP d).shown.length ≤ lim))
def bRepr : List D → Option Ent
  | [d] => if showOk d then some (.val (.str (shownD d))) else none
  | _ => none
theorem rp_shown (d : D) : Rp F.R Hf (.str (toP d).shown) (.str (shownD d)) := Rp.str (R := F.R) (H := Hf) (shownD d)
theorem blt_repr (hu : X.A.units + 64 < cLine) (hgd : X.A.guards = some []) (hK : F.R.K = X.K) : BltOk X F rx (.builtin "repr") bRepr := fun σ g Hf H vs ds en co rs h => by
  unfold bRepr at h
  split at h
  · split at h
    · cases h
      rename_i d hz
      unfold showOk at hz
      rw [Bool.and_eq_true, Bool.and_eq_true, decide_eq_true_eq] at hz
      obtain ⟨v, rfl, r⟩ := rps1 rs
      have hline : (toP d).shown.length ≤ sizeLine := by rw [lim_eq]; exact hz.2.2
      have hS := rp_shown (F := F) (Hf := Hf) d
      have ref : ∀ a, v = .ref a → ∀ Q : VK, Q (.str (toP d).shown) H → wC X (.builtin "repr") [v] H Q := fun a e Q q pins s σ' ws I rv => by
        subst e
        have d1 := Rp.dp hz.1 (r.mono co.ex)
        rw [hK] at d1
        obtain ⟨c1, c2⟩ := okD_can hz.1
        rw [Vals.ref1 rv]
        obtain ⟨as, rd⟩ := Dp.reads I _ _ (Value.ref a) d1 rfl
        exact repr_of_reads' rd hz.2.1 (PyData.noDict_hsm (PyData.hasDict_of_canLay _ c1)) hgd (by have : dp = 30 := rfl; omega) (fun _ _ e => e) (fun h' u tk hk => ⟨.str _, H, I.kept hk, ⟨u, rfl⟩, q⟩) hline
      cases d with
      | tup xs => cases r with
        | tup a b => exact Post.pure co hS fun Q q => ref _ rfl Q q
      | lst xs => cases r with
        | lst a b => exact Post.pure co hS fun Q q => ref _ rfl Q q
      | str xs =>
        cases r
        refine Post.pure co hS fun Q q pins s σ' ws I rv => ?_
        obtain ⟨u, rfl, t, rfl⟩ := vals1 rv
        exact PySem.P.repr_of_str ⟨.str _, H, I.tok _, ⟨_, rfl⟩, by have := q; rw [toP, PyData.shown] at this; exact this⟩ (by have := hline; rw [toP, PyData.shown] at this; exact this)
      | int i =>
        cases r
        refine Post.pure co hS fun Q q pins s σ' ws I rv => ?_
        obtain ⟨u, rfl, t, rfl⟩ := vals1 rv
        exact PySem.P.repr_of_int (by have := hz.2.1; rw [toP, PyData.showable, decide_eq_true_eq] at this; exact this) ⟨.str _, H, I.tok _, ⟨_, rfl⟩, by have := q; rw [toP, PyData.shown] at this; exact this⟩
      | bl b =>
        cases r
        refine Post.pure co hS fun Q q pins s σ' ws I rv => ?_
        obtain ⟨u, rfl, rfl⟩ := vals1 rv
        exact PySem.P.repr_of_bool ⟨.str _, H, I.tok _, ⟨_, rfl⟩, by have := q; rw [toP, PyData.shown] at this; exact this⟩
      | non =>
        cases r
        refine Post.pure co hS fun Q q pins s σ' ws I rv => ?_
        obtain ⟨u, rfl, rfl⟩ := vals1 rv
        exact PySem.P.repr_of_none ⟨.str _, H, I.tok _, ⟨_, rfl⟩, by have := q; rw [toP, PyData.shown] at this; exact this⟩
      | dic kvs => cases hz.1
      | fn k => cases hz.1
      | rol xs => cases hz.1
    · cases h
  · cases h
end
/-! ### sep.join(texts) -/
def joinD (a : List Nat) : List (List Nat) → List Nat
  | [] => []
  | [x] => x
  | x :: r => x ++ a ++ joinD a r
theorem sjoin_eq (a : List Nat) : ∀ ys : List (List Nat), Str.join (SX.S a) (ys.map SX.S) = SX.S (joinD a ys)
  | [] => rfl
  | [x] => rfl
  | x :: y :: r => by
    have ih := sjoin_eq a (y :: r)
    show SX.S x ++ SX.S a ++ Str.join (SX.S a) ((y :: r).map SX.S) = SX.S (x ++ a ++ joinD a (y :: r))
    rw [ih, SX.S_cat, SX.S_cat]
theorem joinD_eq (a : List Nat) (ys : List (List Nat)) : PySem.Txt.join (SX.S a) (ys.map SX.S) = SX.S (joinD a ys) := by
  rw [← sjoin_eq]
  unfold PySem.Txt.join
  exact PySem.StrLaws.glued_eq_join _ _
end Wb

set_option Elab.async false
set_option linter.all false
set_option maxRecDepth 100000
set_option maxHeartbeats 4000000
/-! Wb: join, isinstance, slices, len of a slot. -/
namespace Wb
open PySem PySem.Spec PyProof.Rows L2
def joinOf (a b : D) : Option D := match a, b with
  | .str s, .lst xs => (strsOf xs).bind fun ys => if (ys.map (·.length)).sum + ys.length * s.length ≤ lim then some (.str (joinD s ys)) else none
  | .str s, .tup xs => (strsOf xs).bind fun ys => if (ys.map (·.length)).sum + ys.length * s.length ≤ lim then some (.str (joinD s ys)) else none
  | _, _ => none
/-- an operand that must be a text, then another -/
def mJoin (mo me : M D) : M D := bnd mo fun a => if isStrD a then bnd me fun b => lift (joinOf a b) else fun _ _ => .bad
section
variable {X : Cx} {F : Fx} {rx : RX} {cal : Cal} {o e : Expr} {mo me : M D} {apos pos : Pos}
theorem dd_join (hK : F.R.K = X.K) (hs : noStar e = true) (hbase : attributeBase o "join" X.env (eval o X.env) = eval o X.env) (hline : (apos.endLine == pos.line) = true) (ho : DD X F rx cal o mo) (he : DD X F rx cal e me) :
    DD X F rx cal (.Call (.Attribute o "join" apos) [e] [] pos) (mJoin mo me) := fun σ g Hf H co => by
  refine Post.bind (w2 := fun (x : V) H1 (Q : VK) => (∃ a, x = .str a) ∧ wE X e σ H1 fun y H2 => ∃ a p, ∃ ys : List Str, x = .str a ∧ [y] = [.ref p] ∧ (SqL X.K H2 p (ys.map V.str) ∨ SqT X.K H2 p (ys.map V.str)) ∧ (ys.map (·.length)).sum + ys.length * a.length ≤ 16777216 ∧ Q (.str (Txt.join a ys)) H2)
    (ho σ g Hf H co) (fun da g1 x Hf1 H1 _ e1 co1 r1 => ?_) fun Q q => wE_of (pe_join pe_w pe_w (star_cons hs) hbase hline) q
  cases da with
  | str s =>
    show Post X F rx σ Hf1 (relD F) ((bnd me fun b => lift (joinOf (.str s) b)) cal g1) _
    cases r1
    have key : ∀ (Q : VK), wE X e σ H1 (fun y H2 => ∃ p, ∃ ys : List (List Nat), y = .ref p ∧ (SqL X.K H2 p ((ys.map SX.S).map V.str) ∨ SqT X.K H2 p ((ys.map SX.S).map V.str)) ∧ (ys.map (·.length)).sum + ys.length * s.length ≤ 16777216 ∧ Q (.str (SX.S (joinD s ys))) H2) →
        ((∃ a, V.str ⟨s.toArray⟩ = .str a) ∧ wE X e σ H1 fun y H2 => ∃ a p, ∃ ys : List Str, V.str ⟨s.toArray⟩ = .str a ∧ [y] = [.ref p] ∧ (SqL X.K H2 p (ys.map V.str) ∨ SqT X.K H2 p (ys.map V.str)) ∧ (ys.map (·.length)).sum + ys.length * a.length ≤ 16777216 ∧ Q (.str (Txt.join a ys)) H2) :=
      fun Q q => ⟨⟨_, rfl⟩, fun pins s0 I => thn (q pins s0 I) fun v s1 ⟨y, H2, I2, r, p, ys, ey, h1, h2, h3⟩ => ⟨y, H2, I2, r, SX.S s, p, ys.map SX.S, rfl, by rw [ey], h1, by
        rw [List.map_map, List.length_map, SX.S_len]
        have : (ys.map ((fun x : Str => x.length) ∘ SX.S)) = ys.map (·.length) := List.map_congr_left fun a _ => SX.S_len a
        rw [this]
        exact h2, by rw [joinD_eq]; exact h3⟩⟩
    refine one (wk := fun y H2 Q => ∃ p, ∃ ys : List (List Nat), y = .ref p ∧ (SqL X.K H2 p ((ys.map SX.S).map V.str) ∨ SqT X.K H2 p ((ys.map SX.S).map V.str)) ∧ (ys.map (·.length)).sum + ys.length * s.length ≤ 16777216 ∧ Q (.str (SX.S (joinD s ys))) H2) he co1 (fun y db c g2 Hf2 H2 e2 co2 r2 hc => ?_) key
    cases db with
    | lst xs =>
      obtain ⟨ys, h1, h2⟩ := Option.bind_eq_some_iff.mp (show (strsOf xs).bind _ = some c from hc)
      by_cases hz : (ys.map (·.length)).sum + ys.length * s.length ≤ lim
      · rw [if_pos hz] at h2
        cases h2
        obtain ⟨p, us, ey, k1, k2⟩ := rp_seq hK co2 r2
        rw [strsOf_map h1] at k2
        rw [k2.strs] at k1
        exact Post.ok co2 (.str _) fun Q q => ⟨p, ys, ey, .inl k1, hz, q⟩
      · rw [if_neg hz] at h2
        cases h2
    | tup xs =>
      obtain ⟨ys, h1, h2⟩ := Option.bind_eq_some_iff.mp (show (strsOf xs).bind _ = some c from hc)
      by_cases hz : (ys.map (·.length)).sum + ys.length * s.length ≤ lim
      · rw [if_pos hz] at h2
        cases h2
        obtain ⟨p, us, ey, k1, k2⟩ := rp_tup hK co2 r2
        rw [strsOf_map h1] at k2
        rw [k2.strs] at k1
        exact Post.ok co2 (.str _) fun Q q => ⟨p, ys, ey, .inr k1, hz, q⟩
      · rw [if_neg hz] at h2
        cases h2
    | _ => cases hc
  | _ => trivial
end
/-! ### isinstance -/
def tyOf : D → Option String
  | .non => some "NoneType"
  | .bl _ => some "bool"
  | .int _ => some "int"
  | .str _ => some "str"
  | .tup _ => some "tuple"
  | .lst _ => some "list"
  | _ => none
inductive TyW where
  | int | bool | str | tuple | list | dict
def TyW.s : TyW → String
  | .int => "int" | .bool => "bool" | .str => "str" | .tuple => "tuple" | .list => "list" | .dict => "dict"
def isD : TyW → D → Option Bool
  | .int, .int _ => some true
  | .int, .bl _ => some true
  | .bool, .bl _ => some true
  | .str, .str _ => some true
  | .tuple, .tup _ => some true
  | .list, .lst _ => some true
  | _, .dic _ => none
  | _, .fn _ => none
  | _, .rol _ => none
  | _, _ => some false
theorem isD_kit {T : TyW} {d : D} {b : Bool} (h : isD T d = some b) : ∃ t, tyOf d = some t ∧ kitB t T.s = some b := by
  cases T <;> cases d <;> first
    | (cases h; done)
    | (cases h; exact ⟨_, rfl, by decide +kernel⟩)
theorem Rp.ty {R : Rt} {Hf H : Hp} {v : V} {d : D} {t : String} (e : Ex Hf H) (r : Rp R Hf v d) (h : tyOf d = some t) : TyX R.K H v (.type t) := by
  cases r with
  | non => cases h; exact .base .non
  | bl b => cases h; exact .base (.bl b)
  | int i => cases h; exact .base (.int i)
  | str s => cases h; exact .base (.str _)
  | tup a b =>
    cases h
    rcases ex_t e a with a | ⟨o, _, _, h1, h2, _⟩
    · rcases a with a | ⟨o, a⟩
      · exact .base (.tup a)
      · exact .fTuple a
    · first | exact .kTuple h1 h2 | exact .kTuple h1 rfl
  | lst a b => cases h; exact .base (.lst (e _ _ a))
  | rol a b => cases h
  | fn a => cases h
def mIsi (T : TyW) (m : M D) : M D := bnd m fun d => lift ((isD T d).map D.bl)
section
variable {X : Cx} {F : Fx} {rx : RX} {cal : Cal} {e : Expr} {m : M D} {x : Str} {p pos px : Pos}
theorem dd_isi {T : TyW} (hK : F.R.K = X.K) (hg : Gl X "isinstance") (hm : X.mg "isinstance" = none) (hgT : Gl X x) (hmT : X.mg x = none) (hvT : bootBuiltins x = some (.type T.s)) (hnT : x ≠ "__name__") (hdT : (x == ("__debug__" : Str)) = false) (hs : noStar e = true)
    (h : DD X F rx cal e m) : DD X F rx cal (.Call (.Name "isinstance" p) [e, .Name x px] [] pos) (mIsi T m) := fun σ g Hf H co => by
  have hT : PE X (.Name x px) (fun _ H Q => Q (.ty T.s) H) := ⟨fun pins s σ H Q I q => ld_blt I hgT hmT hvT ⟨.ty T.s, H, I, rfl, q⟩ hnT hdT⟩
  refine one (wk := fun v H1 Q => rIsi X.K [v, .ty T.s] H1 Q) h co (fun v da c g' Hf' H' _ co' r hc => ?_) fun Q q => wE_of (pe_callB call_isi hg hm boot_isinstance (pa_cons pe_w (pa_cons hT pa_nil) (star_cons hs)) (by decide) (by decide) (star_cons hs)) q
  obtain ⟨b, h1, rfl⟩ := Option.map_eq_some_iff.mp hc
  obtain ⟨t, h2, h3⟩ := isD_kit h1
  have ty := r.ty co'.ex h2
  rw [hK] at ty
  exact Post.ok co' (.bl b) fun Q q => ⟨v, .ty T.s, .type t, .type T.s, b, rfl, .ty _, ty, kit_ty h3, q⟩
end
/-! ### slices -/
def cutD {α : Type} (xs : List α) (lo hi : Option Int) : List α := (xs.drop (HT.sIx xs.length 0 lo)).take (HT.sIx xs.length xs.length hi - HT.sIx xs.length 0 lo)
def sliceD (d : D) (lo hi : Option Int) : Option Ent := match d with
  | .str s => if s.length ≤ lim then some (.val (.str (cutD s lo hi))) else none
  | .lst xs => some (.own (.lst (cutD xs lo hi)))
  | .rol xs => some (.own (.lst (cutD xs lo hi)))
  | .tup xs => some (.val (.tup (cutD xs lo hi)))
  | _ => none
def intOf : D → Option Int
  | .int i => some i
  | _ => none
def mPart : Option (M D) → M (Option Int)
  | none => ret none
  | some m => bnd m fun d => lift ((intOf d).map some)
def mSlice (m : M D) (lo hi : Option (M D)) : M Ent := bnd m fun d => bnd (mPart lo) fun l => bnd (mPart hi) fun h => lift (sliceD d l h)
def wP (X : Cx) (e : Option Expr) : TO := fun σ H Q => ∀ (pins : List (Addr × Obj)) (s : Shared), Inv X pins σ H s → wpAny (model X.prog X.w) X.A (evalPart e X.env) (fun u s' => ∃ o H', Inv X pins σ H' s' ∧ IsPart u o ∧ Q o H') X.xe s
theorem po_w {X : Cx} {e : Option Expr} : PO X e (wP X e) := ⟨fun pins s _ _ _ I h => h pins s I⟩
theorem wP_of {X : Cx} {e : Option Expr} {t : TO} {σ : L2.St} {H : Hp} {Q : Option Int → Hp → Prop} (p : PO X e t) (h : t σ H Q) : wP X e σ H Q := fun pins s I => p.run pins s σ H Q I h
abbrev relO : Env' → Hp → Hp → Option Int → Option Int → Prop := fun _ _ _ a b => a = b
def DPa (X : Cx) (F : Fx) (rx : RX) (cal : Cal) (e : Option Expr) (m : M (Option Int)) : Prop :=
  ∀ (σ : L2.St) (g : Env') (Hf H : Hp), Co F σ g Hf H → Post X F rx σ Hf relO (m cal g) (wP X e σ H)
theorem Rps.cut {R : Rt} {H : Hp} {vs : List V} {ds : List D} (r : Rps R H vs ds) (lo hi : Option Int) : Rps R H (cutV vs lo hi) (cutD ds lo hi) := by
  unfold cutV cutD
  rw [r.length]
  exact (r.drop _).take _
theorem cutD_whole {α : Type} {xs : List α} {lo hi : Option Int} (h : HT.sIx xs.length 0 lo = 0 ∧ HT.sIx xs.length xs.length hi = xs.length) : cutD xs lo hi = xs := by
  unfold cutD
  rw [h.1, h.2, List.drop_zero, Nat.sub_zero, List.take_length]
section
variable {X : Cx} {F : Fx} {rx : RX} {cal : Cal} {e : Expr} {m : M D} {lo hi : Option Expr} {pos p2 : Pos}
theorem dpa_none : DPa X F rx cal none (mPart none) := fun σ g Hf H co => Post.ok co rfl fun Q q => wP_of po_none q
theorem dpa_some (h : DD X F rx cal e m) : DPa X F rx cal (some e) (mPart (some m)) := fun σ g Hf H co => by
  refine one (f := fun d => (intOf d).map some) (wk := fun x H1 Q => ∃ i, x = .int i ∧ Q (some i) H1) h co (fun x da c g' Hf' H' _ co' r hc => ?_) fun Q q => wP_of (po_some pe_w) q
  obtain ⟨i, h1, rfl⟩ := Option.map_eq_some_iff.mp hc
  cases da with
  | int j => cases h1; cases r; exact Post.ok co' rfl fun Q q => ⟨_, rfl, q⟩
  | _ => cases h1
def rSlD (X : Cx) : V → Option Int → Option Int → Hp → VK → Prop := fun x lo hi H Q => rSlS x lo hi H Q ∨ rSlL X.K x lo hi H Q ∨ rSlA X.K x lo hi H Q
theorem slice_ok {σ : L2.St} {g : Env'} {Hf H : Hp} {x : V} {d : D} {l h : Option Int} {en : Ent} (hK : F.R.K = X.K) (co : Co F σ g Hf H) (r : Rp F.R Hf x d) (hs : sliceD d l h = some en) : Post X F rx σ Hf (relE F σ) (.ok en g) (fun Q => rSlD X x l h H Q) := by
  unfold sliceD at hs
  split at hs
  · split at hs
    · cases hs
      rename_i s hz
      cases r
      have e0 : cutS ⟨s.toArray⟩ l h = ⟨(cutD s l h).toArray⟩ := by
        unfold cutS cutD
        simp [Str.length]
      exact Post.pure co (.str _) fun Q q => .inl ⟨_, rfl, by rw [lim_eq]; simpa [Str.length] using hz, by rw [e0]; exact q⟩
    · cases hs
  · cases hs
    obtain ⟨p, us, rfl, k1, k2⟩ := rp_seq hK co r
    exact Post.list co (k2.cut l h) fun Q q => .inr (.inl ⟨p, us, rfl, k1, q⟩)
  · cases hs
    obtain ⟨p, us, rfl, k1, k2⟩ := rp_rol hK co r
    exact Post.list co (k2.cut l h) fun Q q => .inr (.inl ⟨p, us, rfl, k1, q⟩)
  · cases hs
    rename_i xs
    obtain ⟨p, us, e0, k1, k2⟩ := rp_tup hK co r
    by_cases hw : HT.sIx us.length 0 l = 0 ∧ HT.sIx us.length us.length h = us.length
    · have e1 : cutD xs l h = xs := cutD_whole (by rw [← k2.length]; exact hw)
      rw [e1]
      exact Post.pure co r fun Q q => .inr (.inr ⟨p, us, e0, k1, fun _ => by rw [← e0]; exact q, fun z => absurd hw z⟩)
    · exact Post.tuple co (k2.cut l h) fun Q q => .inr (.inr ⟨p, us, e0, k1, fun z => absurd z hw, fun _ => q⟩)
  · cases hs
theorem de_slice {ml mh : Option (M D)} (hK : F.R.K = X.K) (he : DD X F rx cal e m) (hl : DPa X F rx cal lo (mPart ml)) (hh : DPa X F rx cal hi (mPart mh)) : DE X F rx cal (.Subscript e (.Slice lo hi none p2) pos) (mSlice m ml mh) := fun σ g Hf H co => by
  refine Post.bind (w2 := fun x H1 Q => wP X lo σ H1 fun l H2 => wP X hi σ H2 fun h H3 => rSlD X x l h H3 Q) (he σ g Hf H co) (fun d g1 x Hf1 H1 _ e1 co1 r1 => ?_) fun Q q => wE_of (pe_slice (sl_str.or (sl_list.or sl_tupA)) pe_w po_w po_w) q
  refine Post.bind (w2 := fun l H2 Q => wP X hi σ H2 fun h H3 => rSlD X x l h H3 Q) (hl σ g1 Hf1 H1 co1) (fun l g2 l' Hf2 H2 _ e2 co2 r2 => ?_) fun Q q => q
  cases r2
  refine Post.bind (w2 := fun h H3 Q => rSlD X x l h H3 Q) (hh σ g2 Hf2 H2 co2) (fun h g3 h' Hf3 H3 _ e3 co3 r3 => ?_) fun Q q => q
  cases r3
  show Post X F rx σ Hf3 (relE F σ) (lift (sliceD d l h) cal g3) _
  unfold lift
  cases hs : sliceD d l h with
  | none => trivial
  | some en => exact slice_ok hK co3 (r1.mono (e2.trans e3)) hs
/-! ### len of a slot -/
def lenD : D → Option Int
  | .str s => if s.length ≤ lim then some s.length else none
  | .tup xs => some xs.length
  | .lst xs => some xs.length
  | .rol xs => some xs.length
  | .dic kvs => some kvs.length
  | _ => none
def mLenV (i : Nat) : M D := fun _ g => match ((g[i]?).bind slotD).bind lenD with
  | some n => .ok (.int n) g
  | none => .bad
theorem dd_lenV {i : Nat} {x : Str} {p px pos : Pos} (hK : F.R.K = X.K) (hg : Gl X "len") (hm : X.mg "len" = none) (hN : X.N[i]? = some x) (hv : Vis X.env.scope x) (hd : (x == ("__debug__" : Str)) = false) (hcd : (x == ("__classdict__" : Str)) = false) :
    DD X F rx cal (.Call (.Name "len" p) [.Name x px] [] pos) (mLenV i) := fun σ g Hf H co => by
  unfold mLenV
  cases h0 : (g[i]?).bind slotD with
  | none => trivial
  | some d =>
    obtain ⟨v, hv1⟩ := co.at h0
    have a1 := co.atSlot h0 hv1
    show Post X F rx σ Hf (relD F) (match lenD d with | some n => .ok (.int n) g | none => .bad) _
    cases hl : lenD d with
    | none => trivial
    | some n =>
      have key : ∀ Q : VK, wC X (.builtin "len") [v] H Q → wE X (.Call (.Name "len" p) [.Name x px] [] pos) σ H Q := fun Q q => wE_of (pe_callB cr_w hg hm PySem.boot_len (pa_cons (pe_var hN hv hd hcd) pa_nil) (by decide) (by decide)) ⟨v, hv1, q⟩
      cases a1 with
      | val r =>
        have hb : bLen [d] = some (.val (.int n)) := by
          unfold lenD at hl
          cases d with
          | str s =>
            simp only at hl
            show (if s.length ≤ lim then some (Ent.val (D.int s.length)) else none) = _
            split at hl
            · cases hl; rw [if_pos ‹_›]
            · cases hl
          | tup xs => cases hl; rfl
          | lst xs => cases hl; rfl
          | rol xs => cases hl; rfl
          | dic xs => cases r
          | _ => cases hl
        exact (blt_len (rx := rx) hK σ g Hf H [v] [d] _ co (.cons r .nil) hb).imp key
      | lst e h r =>
        subst e
        cases hl
        exact Post.ok co (.int _) fun Q q => key Q (wC_of call_len_seq ⟨_, _, rfl, .inl (.inl (.inl h)), by rw [r.length]; exact q⟩)
      | @dic p0 kvs e h =>
        subst e
        cases hl
        obtain ⟨ks, h1, h2, h3⟩ := h
        have hlen : ks.length = kvs.length := by
          have := congrArg List.length h2
          rw [List.length_map, List.length_map] at this
          exact this
        exact Post.ok co (.int _) fun Q q => key Q (wC_of call_lenD ⟨_, _, rfl, h1, by rw [hlen]; exact q⟩)
end
end Wb

set_option Elab.async false
set_option linter.all false
set_option maxRecDepth 100000
set_option maxHeartbeats 4000000
/-! Wb: sets of ints and texts that are made from a list and sorted or counted at once. -/
namespace Wb
open PySem PySem.Spec PyProof.Rows L2
def keyV : Value → Key
  | .int k _ => .inl k
  | .str x _ => .inr x
  | _ => .inl 0
def entK (e : Int × Value) : Key := keyV e.2
section
variable {P : Program} {w : World}
def GoodK (P : Program) (w : World) (e : Int × Value) : Prop := (mixKind P w).is (entK e) e.2 = true ∧ e.1 = (mixKind P w).hash (entK e)
theorem key_of_is {k : Key} {v : Value} (h : (mixKind P w).is k v = true) : keyV v = k ∧ v.scannable = true := by
  rcases keyIs_shape h with ⟨i, t, rfl, rfl⟩ | ⟨x, t, rfl, rfl⟩ <;> exact ⟨rfl, rfl⟩
theorem goodK_elems {l : List (Int × Value)} (g : ∀ e ∈ l, GoodK P w e) : ElemsOf (mixKind P w) l := fun e he => ⟨⟨_, (g e he).1, (g e he).2⟩, (key_of_is (g e he).1).2⟩
theorem goodK_mem {l : List (Int × Value)} (g : ∀ e ∈ l, GoodK P w e) (k : Key) : k ∈ l.map entK ↔ ∃ e ∈ l, (mixKind P w).is k e.2 = true := by
  rw [List.mem_map]
  constructor
  · rintro ⟨e, he, rfl⟩
    exact ⟨e, he, (g e he).1⟩
  · rintro ⟨e, he, q⟩
    exact ⟨e, he, (key_of_is q).1⟩
/-- the set at a: S its members -/
def SetX (P : Program) (w : World) (h : Heap) (a : Addr) (S : Key → Bool) (n : Nat) : Prop :=
  ∃ o es ep t, h.get? a = some o ∧ o.ExactSet ∧ o.data = .set es ep t ∧ (∀ e ∈ es.toList, GoodK P w e) ∧ (es.toList.map entK).Nodup ∧ (∀ k, S k = true ↔ k ∈ es.toList.map entK) ∧
    es.size < scanBound ∧ t.fits es.size = true ∧ es.size = n ∧ Ris t.place.toList ∧ (w.params.followText "set-order" = true ∨ t.led = true)
variable {h h' : Heap} {a : Addr} {S : Key → Bool} {n : Nat}
theorem SetX.at (R : SetX P w h a S n) (k : ∀ o, h.get? a = some o → h'.get? a = some o) : SetX P w h' a S n := by
  obtain ⟨o, es, ep, t, ho, r⟩ := R
  exact ⟨o, es, ep, t, k o ho, r⟩
theorem SetX.congr {S' : Key → Bool} (R : SetX P w h a S n) (e : ∀ k, S' k = S k) : SetX P w h a S' n := by
  rw [show S' = S from funext e]; exact R
theorem setX_new (ho : h.get? a = some { cls := .type "set", dict := none, data := .set #[] 0 (.fresh 0 0 (!w.params.followText "set-order")) }) : SetX P w h a (fun _ => false) 0 :=
  ⟨_, #[], 0, _, ho, ⟨rfl, rfl, rfl⟩, rfl, (fun e he => by simp at he), (by simp), (fun k => by simp), (by decide), (by rfl), rfl, List.Pairwise.nil, by
    show _ ∨ (!w.params.followText "set-order") = true
    cases w.params.followText "set-order"
    · exact .inr rfl
    · exact .inl rfl⟩
end
section
variable {P : Program} {w : World} {A : Around} {E : Value → Shared → Prop} {s : Shared} {a : Addr} {S : Key → Bool} {n : Nat}
/-- the tail of an add: the table as it is, or relaid -/
theorem setX_tail {g : Bool → Sem Unit} (hg : ∀ (b : Bool) (s₁ : Shared) (Q' : Unit → Shared → Prop), Q' () s₁ → wpAny (model P w) A (g b) Q' E s₁)
    {o : Obj} {es : Array (Int × Value)} {ep : Nat} {t : SetTable} (ho : s.heap.get? a = some o) (hex : o.ExactSet) (hd : o.data = .set es ep t)
    {es1 : Array (Int × Value)} {t2 : SetTable} {S' : Key → Bool} (g1 : ∀ e ∈ es1.toList, GoodK P w e) (nd1 : (es1.toList.map entK).Nodup) (m1 : ∀ k, S' k = true ↔ k ∈ es1.toList.map entK)
    (hb1 : es1.size < scanBound) (hf2 : t2.fits es1.size = true) (hr : Ris t2.place.toList) (hl : w.params.followText "set-order" = true ∨ t2.led = true) {wasDummy : Bool} {R : Option Bool → Shared → Prop}
    (hR : ∀ h', Heap.SameBut a s.heap h' → SetX P w h' a S' es1.size → R (some true) { s with heap := h' }) :
    wpAny (model P w) A (do
        storeSet a es1 t2
        if (!wasDummy && t2.tooFull) = true then do
            g (relayAll t2 es1 (SetTable.grown es1.size)).2.2
            storeSet a (relayAll t2 es1 (SetTable.grown es1.size)).1 (relayAll t2 es1 (SetTable.grown es1.size)).2.1
            pure (some true)
          else pure (some true)) R E s := by
  refine wpAny_bind (wpAny_storeSet_of ho hd ?_ (fits_of_scanBound hb1))
  have ho1 := store_at (es' := es1) (t' := t2) ho hd
  have sb1 := Heap.SameBut.update s.heap a (Obj.putSet es1 t2)
  split
  · have pm := relayAll_perm t2 es1 (SetTable.grown es1.size)
    have hf3 := relayAll_fits t2 es1 (SetTable.grown es1.size)
    have hr3 := relayAll_ris t2 es1 (SetTable.grown es1.size)
    have hl3 := relayAll_led t2 es1 (SetTable.grown es1.size)
    generalize relayAll t2 es1 (SetTable.grown es1.size) = Z at pm hf3 hr3 hl3 ⊢
    obtain ⟨es2, t3, gave⟩ := Z
    dsimp only at pm hf3 hr3 hl3 ⊢
    have hsz : es2.size = es1.size := by rw [← Array.length_toList, pm.length_eq, Array.length_toList]
    have hb2 : es2.size < scanBound := by rw [hsz]; exact hb1
    refine wpAny_bind (hg _ _ _ (wpAny_bind (wpAny_storeSet_of ho1 rfl ?_ (fits_of_scanBound hb2))))
    exact wpAny_pure (hR _ (sb1.trans (Heap.SameBut.update _ a _)) ⟨_, es2, _, t3, store_at (es' := es2) (t' := t3) ho1 rfl, hex, rfl, fun e he => g1 e (pm.mem_iff.mp he), (pm.map entK).nodup_iff.mpr nd1, fun k => (m1 k).trans (pm.map entK).mem_iff.symm, hb2, hf3, hsz, hr3, hl.imp id fun z => by rw [hl3]; exact z⟩)
  · exact wpAny_pure (hR _ sb1 ⟨_, es1, _, t2, ho1, hex, rfl, g1, nd1, m1, hb1, hf2, rfl, hr, hl⟩)
theorem setX_add {k : Key} {v : Value} {Q : Bool → Shared → Prop} (hkey : (mixKind P w).is k v = true) (R : SetX P w s.heap a S n) (room : n + 1 < scanBound)
    (hQ : ∀ h', Heap.SameBut a s.heap h' → SetX P w h' a (fun j => S j || decide (j = k)) (if S k = true then n else n + 1) → Q (!S k) { s with heap := h' }) :
    wpAny (model P w) A (setAddHashed a v ((mixKind P w).hash k)) Q E s := by
  obtain ⟨o, es, ep, t, ho, hex, hd, g, nd, hm, hb, hf, hn, hr, hl⟩ := R
  obtain ⟨hkv, hsc⟩ := key_of_is hkey
  have hel : ElemsOf (mixKind P w) es.toList := goodK_elems g
  unfold setAddHashed setAddHashedIn
  refine wpAny_holding (wpAny_bind (wpAny_setState_of ho hd hf ?_))
  dsimp only
  rw [byScan_of hsc hb hel]
  simp only [↓reduceIte]
  unfold setAddByScan
  refine wpAny_bind (wpAny_bind (wpAny_rule (wpAny_bind (wpAny_setScan_of hkey ho hd hf hel ?_))))
  cases hfi : List.findIdx? (fun e => (mixKind P w).is k e.2) es.toList with
  | some j =>
    dsimp only
    obtain ⟨hj, pj, _⟩ := List.findIdx?_eq_some_iff_getElem.mp hfi
    have hSk : S k = true := (hm k).2 ((goodK_mem g k).2 ⟨es.toList[j], List.getElem_mem hj, pj⟩)
    refine wpAny_pure (wpAny_pure ?_)
    have q := hQ s.heap (Heap.SameBut.refl a s.heap) ⟨o, es, ep, t, ho, hex, hd, g, nd, fun i => by
      rw [Bool.or_eq_true, decide_eq_true_eq, ← hm i]
      exact ⟨fun z => z.elim id (fun e => e ▸ hSk), .inl⟩, hb, hf, by rw [if_pos hSk]; exact hn, hr, hl⟩
    rw [hSk] at q
    exact q
  | none =>
    dsimp only
    have hnk : k ∉ es.toList.map entK := fun z => by
      obtain ⟨e, he, q⟩ := (goodK_mem g k).1 z
      have c := List.findIdx?_eq_none_iff.mp hfi e he
      rw [q] at c
      cases c
    have hSk : S k = false := by
      cases q : S k with
      | false => rfl
      | true => exact absurd ((hm k).1 q) hnk
    have hgw : ∀ (b : Bool) {s₁ : Shared} {Q' : Unit → Shared → Prop}, Q' () s₁ → wpAny (model P w) A (match b with | true => rule "set.scan.the-table-gave-way" | false => pure ()) Q' E s₁ :=
      fun b s₁ Q' q => by cases b <;> first | exact wpAny_pure q | exact wpAny_rule q
    have pm := layNew_perm t es ((mixKind P w).hash k) v
    have hf1 := layNew_fits t es ((mixKind P w).hash k) v
    have hr1 := layNew_ris t es ((mixKind P w).hash k) v hr
    have hl1 := layNew_led t es ((mixKind P w).hash k) v
    generalize layNew t es ((mixKind P w).hash k) v = Z at pm hf1 hr1 hl1 ⊢
    obtain ⟨es1, t1, wasDummy, gave⟩ := Z
    dsimp only at pm hf1 hr1 hl1 ⊢
    rw [Array.toList_push] at pm
    have pc : es1.toList.Perm (((mixKind P w).hash k, v) :: es.toList) := pm.trans (List.perm_append_singleton _ _)
    have pk : (es1.toList.map entK).Perm (k :: es.toList.map entK) := by
      have z := pc.map entK
      rw [List.map_cons] at z
      rw [show entK ((mixKind P w).hash k, v) = k from hkv] at z
      exact z
    have g1 : ∀ e ∈ es1.toList, GoodK P w e := fun e he => by
      rcases List.mem_cons.mp (pc.mem_iff.mp he) with z | z
      · rw [z]
        exact ⟨by rw [show entK ((mixKind P w).hash k, v) = k from hkv]; exact hkey, by rw [show entK ((mixKind P w).hash k, v) = k from hkv]⟩
      · exact g e z
    have nd1 : (es1.toList.map entK).Nodup := pk.nodup_iff.mpr (List.nodup_cons.mpr ⟨hnk, nd⟩)
    have m1 : ∀ i, (S i || decide (i = k)) = true ↔ i ∈ es1.toList.map entK := fun i => by
      rw [Bool.or_eq_true, decide_eq_true_eq, hm i, pk.mem_iff, List.mem_cons]
      exact Or.comm
    have hsz : es1.size = n + 1 := by rw [← Array.length_toList, pc.length_eq, List.length_cons, Array.length_toList, hn]
    have hb1 : es1.size < scanBound := by rw [hsz]; exact room
    have hled : w.params.followText "set-order" = true ∨ t1.led = true := hl.imp id fun z => by rw [hl1]; exact z
    have fin : ∀ h', Heap.SameBut a s.heap h' → SetX P w h' a (fun j => S j || decide (j = k)) es1.size → Q true { s with heap := h' } := fun h' sb r => by
      have q := hQ h' sb
      rw [hSk] at q
      rw [hsz] at r
      exact q r
    refine wpAny_bind (hgw _ ?_)
    split
    · refine wpAny_bind ?_
      rw [hashByValue_scannable 8 hsc]
      refine wpAny_pure ?_
      refine setX_tail ?_ ho hex hd g1 nd1 m1 hb1 ?_ ?_ ?_ ?_
      · intro b s₁ Q' q; cases b <;> first | exact wpAny_pure q | exact wpAny_rule q
      · first | (split <;> first | exact hf1 | exact SetTable.fits_plain_off hf1) | exact hf1
      · first | (split <;> exact hr1) | exact hr1
      · first | (split <;> exact hled) | exact hled
      · intro h' sb r; dsimp only; exact wpAny_pure (fin h' sb r)
    · refine wpAny_bind (wpAny_pure ?_)
      simp only [↓reduceIte]
      refine setX_tail ?_ ho hex hd g1 nd1 m1 hb1 hf1 hr1 hled ?_
      · intro b s₁ Q' q; cases b <;> first | exact wpAny_pure q | exact wpAny_rule q
      · intro h' sb r; dsimp only; exact wpAny_pure (fin h' sb r)
def memK (q : Key) (ks : List Key) : Bool := ks.any fun z => decide (z = q)
theorem memK_iff {q : Key} {ks : List Key} : memK q ks = true ↔ q ∈ ks := by
  unfold memK
  rw [List.any_eq_true]
  constructor
  · rintro ⟨x, hx, e⟩
    rw [← of_decide_eq_true e]; exact hx
  · intro h
    exact ⟨q, h, decide_eq_true rfl⟩
theorem memK_snoc (q z : Key) (l : List Key) : memK q (l ++ [z]) = (memK q l || decide (q = z)) := by
  unfold memK
  rw [List.any_append]
  congr 1
  rw [List.any_cons, List.any_nil, Bool.or_false]
  by_cases h : z = q
  · rw [decide_eq_true h, decide_eq_true h.symm]
  · rw [decide_eq_false h, decide_eq_false fun e => h e.symm]
theorem setX_update {I : Addr} {fp wr : List Addr} {G : Array GenState → Array GenState → Prop} {n : Nat} {Pv : Nat → Value → Prop} {St : Nat → Shared → Prop} {R : Result → Shared → Prop}
    (W : WalksS P w A.in1 I fp wr G n Pv St) (S : Addr) (hSf : S ∉ fp) (ks : List Key) (hn : n = ks.length) (hb : ks.length + 1 < scanBound) (hval : ∀ i v, Pv i v → ∃ k, ks[i]? = some k ∧ (mixKind P w).is k v = true) :
    ∀ (j i : Nat) (s : Shared), n - i = j → i ≤ n → St i s → (∃ c, c ≤ i ∧ SetX P w s.heap S (fun q => memK q (ks.take i)) c) →
      (∀ s' c, Moved (S :: wr) G s s' → c ≤ n → SetX P w s'.heap S (fun q => memK q ks) c → R (.ok (.ret .none)) s') →
      codeAny (model P w) A (.builtin "set.update.loop" ⟨[.ref S, .ref I], []⟩) R s := by
  have hSw : S ∉ wr := fun h => hSf (W.sub _ h)
  have hsub : ∀ b ∈ wr, b ∈ S :: wr := fun b hb => List.mem_cons_of_mem _ hb
  intro j
  induction j with
  | zero =>
    intro i s hk' hi hst ⟨c, hc, hS⟩ hR
    obtain rfl : i = n := by omega
    refine codeAny_builtin F.entry_set_update_loop ?_
    rw [Around.under_plainId F.plain_set_update_loop _]
    show wpAny _ A.in1 (pyNext (.ref I) >>= _) _ _ s
    refine wpAny_bind (W.done s _ _ hst fun s' hm => ?_)
    show wpAny _ A.in1 (PySem.ret Value.none) _ _ s'
    have e : ks.take i = ks := List.take_of_length_le (by omega)
    rw [e] at hS
    exact wpAny_pure (hR s' c (hm.mono hsub) hc (hS.at fun o e => hm.heap S o hSw e))
  | succ j ih =>
    intro i s hk' hi hst ⟨c, hc, hS⟩ hR
    have hlt : i < n := by omega
    refine codeAny_builtin F.entry_set_update_loop ?_
    rw [Around.under_plainId F.plain_set_update_loop _]
    show wpAny _ A.in1 (pyNext (.ref I) >>= _) _ _ s
    refine wpAny_bind (W.item i s _ _ hlt hst fun v s' hP hst' hm => ?_)
    obtain ⟨z, hz, hzv⟩ := hval i v hP
    have hS' : SetX P w s'.heap S (fun q => memK q (ks.take i)) c := hS.at fun o e => hm.heap S o hSw e
    show wpAny _ A.in1 (holding [v] (setAdd S v) >>= _) _ _ s'
    refine wpAny_bind (wpAny_holding ?_)
    unfold setAdd
    refine wpAny_holding (wpAny_bind ((mixKind P w).pyHash (k := z) hzv ?_))
    refine setX_add (s := { s' with toks := s'.toks + 1 }) hzv hS' (by omega) fun h' hsb hS2 => ?_
    have hS3 : SetX P w h' S (fun q => memK q (ks.take (i + 1))) (if memK z (ks.take i) = true then c else c + 1) := hS2.congr fun q => by
      rw [List.take_add_one, hz]
      exact memK_snoc q z _
    have hc3 : (if memK z (ks.take i) = true then c else c + 1) ≤ i + 1 := by
      split <;> omega
    refine wpAny_pure ⟨plainId_quiet F.plain_set_update_loop _, ih (i + 1) _ (by omega) hlt (W.frame _ s' _ _ hst' (Nat.le_succ _) fun b hb o e => ?_) ⟨_, hc3, hS3⟩ fun s'' c2 hm'' hc'' hS'' => ?_⟩
    · rw [hsb.2 b (fun h : b = S => hSf (by rw [← h]; exact hb))]; exact e
    · refine hR s'' c2 (Moved.trans W.gtrans ((hm.mono hsub).then_heap (Nat.le_succ _) fun b o hb e => ?_) hm'') hc'' hS''
      rw [hsb.2 b (fun h : b = S => hb (by rw [h]; exact List.mem_cons_self))]; exact e
end
end Wb

set_option Elab.async false
set_option linter.all false
set_option maxRecDepth 100000
set_option maxHeartbeats 4000000
/-! Wb: set(xs), sorted(set(xs)), len(set(xs)). -/
namespace Wb
open PySem PySem.Spec PyProof.Rows L2
section
variable {P : Program} {w : World} {A : Around} {E : Value → Shared → Prop} {s : Shared}
/-- the items of a list are the keys ks -/
def KeysAre (P : Program) (w : World) (items : Array Value) (ks : List Key) : Prop := items.size = ks.length ∧ ∀ (i : Nat) (v : Value), items[i]? = some v → ∃ k, ks[i]? = some k ∧ (mixKind P w).is k v = true
set_option maxHeartbeats 6400000 in
theorem call_setX {l : Addr} {items : Array Value} (ks : List Key) {Q : Value → Shared → Prop} (hh : A.handled = none) (hl : s.heap.IsList l items) (hit : KeysAre P w items ks) (hb : ks.length + 1 < scanBound)
    (h : ∀ (h' : Heap) (tk c : Nat), SetX P w h' s.heap.objs.size (fun j => memK j ks) c → c ≤ ks.length → (∀ b o, s.heap.get? b = some o → h'.get? b = some o) → Q (.ref s.heap.objs.size) { s with heap := h', toks := tk }) :
    wpAny (model P w) A (call (.type "set") [.ref l]) Q E s := by
  obtain ⟨hisz, hval⟩ := hit
  obtain ⟨c, tl, hmro⟩ := F.called_set.mro
  have hmade := F.called_set.made
  have hsub := F.called_set.sub
  refine wpAny_call (codeAny_of_tree ?_)
  show wpAny _ _ (callAny (.type "set") _) _ _ _
  refine wpAny_pure ⟨Code.quiet_builtin _ (by decide +kernel), codeAny_builtin F.entry_type_call ?_⟩
  rw [Around.under_plain (weight_type_call_type "set" [.ref l] []) rfl]
  have h1 := F.called_set.notType
  have h2 := F.called_set.canCreate
  have hct := F.typeCall_set_1 (.ref l)
  repeat (any_goals (first | assumption | wp_step))
  refine codeAny_mono (code_set_led1 (.ref l) (E := E) (Q₁ := fun obj s₁ => obj = .ref s.heap.objs.size ∧ s₁ = { s with heap := s.heap.push { cls := .type "set", dict := none, data := .set #[] 0 (.fresh 0 0 (!w.params.followText "set-order")) } }) ⟨rfl, rfl⟩) fun r s₁ hr => ?_
  rcases r with e | fl
  · exact hr
  cases fl with
  | ret obj =>
    obtain ⟨rfl, rfl⟩ := hr
    have hS : (s.heap.push { cls := .type "set", dict := none, data := .set #[] 0 (.fresh 0 0 (!w.params.followText "set-order")) }).get? s.heap.objs.size = some { cls := .type "set", dict := none, data := .set #[] 0 (.fresh 0 0 (!w.params.followText "set-order")) } := Heap.get?_push_size _ rfl
    have hT : Shared.TypeIs { s with heap := s.heap.push { cls := .type "set", dict := none, data := .set #[] 0 (.fresh 0 0 (!w.params.followText "set-order")) } } (.ref s.heap.objs.size) "set" := ⟨_, hS, rfl⟩
    have hli := F.called_set.init.lookup
    have hbi := F.called_set.init.bind (.ref s.heap.objs.size)
    repeat (any_goals (first | assumption | wp_step))
    refine codeAny_mono (codeAny_call_builtin (R := wants (fun r s₂ => r = .none ∧ ∃ h' tk c, s₂ = { s with heap := h', toks := tk } ∧ SetX P w h' s.heap.objs.size (fun j => memK j ks) c ∧ c ≤ ks.length ∧
        (∀ b o, s.heap.get? b = some o → h'.get? b = some o)) E) F.called_set.init.plain F.entry_set_init (check_set_init_1 hT ?_)) fun r₂ s₂ hr₂ => ?_
    · obtain ⟨ol, hol, hcl, nl, hdl⟩ := hl
      obtain ⟨ocls, odict, odata, oslots⟩ := ol
      simp only at hcl hdl
      subst hcl; subst hdl
      have hol' : (s.heap.push { cls := .type "set", dict := none, data := .set #[] 0 (.fresh 0 0 (!w.params.followText "set-order")) }).get? l = some { cls := .type "list", dict := odict, data := .seq items nl, slots := oslots } := Heap.get?_push_of_some _ hol
      have hsls := F.sub_list_set
      have hslf := F.sub_list_frozenset
      have hne : (Value.type "list" == Value.type "dict") = false := by decide
      have hl1 : (s.heap.push { cls := .type "set", dict := none, data := .set #[] 0 (.fresh 0 0 (!w.params.followText "set-order")) }).IsList l items := ⟨_, hol', rfl, nl, rfl⟩
      unfold Builtin.«set.__init__» noKeywords Builtin.Frozenset.updateFrom
      generalize hPI : pyIter = PI
      wp_walk
      subst hPI
      refine wpAny_pyIter_list hl1 ?_
      refine wpAny_bind (wpAny_runValue ?_)
      have hlS : l < s.heap.objs.size := Heap.lt_size hol
      have hh3 : A.in1.in1.in1.handled = none := by simp [hh]
      have hneI : l ≠ (s.heap.push { cls := .type "set", dict := none, data := .set #[] 0 (.fresh 0 0 (!w.params.followText "set-order")) }).objs.size := by
        rw [Heap.size_push]; exact Nat.ne_of_lt (Nat.lt_succ_of_lt hlS)
      have hSf : s.heap.objs.size ∉ [(s.heap.push { cls := .type "set", dict := none, data := .set #[] 0 (.fresh 0 0 (!w.params.followText "set-order")) }).objs.size, l] := by
        rw [Heap.size_push]; simp only [List.mem_cons, List.mem_singleton, List.not_mem_nil, or_false, not_or]
        exact ⟨Nat.ne_of_lt (Nat.lt_succ_self _), Nat.ne_of_gt hlS⟩
      refine setX_update ((Walks.list hh3 _ l hneI items).toS) s.heap.objs.size
        hSf ks hisz hb hval (items.size - 0) 0 _ (by omega) (Nat.zero_le _)
        ⟨⟨_, Heap.get?_push_size _ rfl, rfl, rfl⟩, (hl1.push _)⟩ ?hS0 ?hR
      case hS0 =>
        have hget : ((s.heap.push { cls := .type "set", dict := none, data := .set #[] 0 (.fresh 0 0 (!w.params.followText "set-order")) }).push { cls := .type "list_iterator", data := .fields #[.ref l, .int 0 0] }).get? s.heap.objs.size
            = some { cls := .type "set", dict := none, data := .set #[] 0 (.fresh 0 0 (!w.params.followText "set-order")) } := Heap.get?_push_of_some _ hS
        exact ⟨0, Nat.le_refl 0, (setX_new hget).congr fun k => by simp [memK]⟩
      case hR =>
        intro s' c' hm hc' hS'
        obtain ⟨h', g2, d', tk', os'⟩ := s'
        obtain rfl : g2 = s.gens := hm.gens
        obtain rfl : d' = s.drawn := hm.drawn
        obtain rfl : os' = s.os := hm.os
        show wpAny _ _ _ _ _ _
        refine wpAny_pure ?_
        show wpAny _ _ (PySem.ret Value.none) _ _ _
        rw [hisz] at hc'
        refine wpAny_pure ⟨rfl, h', tk', c', rfl, hS', hc', fun b o e => ?_⟩
        have hb0 : b < s.heap.objs.size := Heap.lt_size e
        have hb1 : b ≠ s.heap.objs.size := Nat.ne_of_lt hb0
        have hb2 : b ≠ (s.heap.push { cls := .type "set", dict := none, data := .set #[] 0 (.fresh 0 0 (!w.params.followText "set-order")) }).objs.size := by
          rw [Heap.size_push]; exact Nat.ne_of_lt (Nat.lt_succ_of_lt hb0)
        exact hm.heap b o (by simp only [List.mem_cons, List.mem_singleton, List.not_mem_nil, or_false, not_or]; exact ⟨hb1, hb2⟩) (Heap.get?_push_of_some _ (Heap.get?_push_of_some _ e))
    · rcases r₂ with e | fl₂
      · exact hr₂
      cases fl₂ with
      | ret r =>
        obtain ⟨rfl, h', tk, c', rfl, hS', hc', hk'⟩ := hr₂
        repeat (any_goals (first | assumption | wp_step))
        exact h _ _ _ hS' hc' hk'
      | _ => exact hr₂.elim
  | _ => exact hr.elim
end

def leK (a b : Key) : Bool := PySem.W.dataLe false (fun k => toP (keyD k)) a b
def homK (ks : List Key) : Prop := (∀ k ∈ ks, ∃ x, k = Sum.inr x) ∨ ∀ k ∈ ks, ∃ i, k = Sum.inl i
theorem relV_key {P : Program} {w : World} {k : Key} {u : Value} (h : (mixKind P w).is k u = true) : RelV (kV k) u := by
  rcases keyIs_shape h with ⟨i, t, rfl, rfl⟩ | ⟨x, t, rfl, rfl⟩
  · exact ⟨t, rfl⟩
  · exact ⟨t, rfl⟩
section
variable {P : Program} {w : World} {A : Around} {E : Value → Shared → Prop} {s : Shared}
theorem hom_alike {ks : List Key} (h : homK ks) : PySem.W.AllAlike (ks.map fun k => toP (keyD k)) ∧ PySem.W.Sortable (ks.map fun k => toP (keyD k)) := by
  have of : ∀ {Z : PyData → Prop}, (∀ k ∈ ks, Z (toP (keyD k))) → ∀ z, z ∈ (ks.map fun k => toP (keyD k)) → Z z := fun {Z} f z hz => by
    obtain ⟨k, hk, rfl⟩ := List.mem_map.mp hz
    exact f k hk
  rcases h with h | h
  · have k1 : ∀ k ∈ ks, ∃ x, toP (keyD k) = .str x := fun k hk => by
      obtain ⟨x, rfl⟩ := h k hk
      exact ⟨_, rfl⟩
    refine ⟨fun a ha b hb => ?_, .inr fun a ha => ?_⟩
    · obtain ⟨x, e⟩ := of (Z := fun z => ∃ x, z = .str x) k1 a ha
      obtain ⟨y, e2⟩ := of (Z := fun z => ∃ x, z = .str x) k1 b hb
      rw [e, e2]; simp [PySem.W.alike]
    · obtain ⟨x, e⟩ := of (Z := fun z => ∃ x, z = .str x) k1 a ha
      rw [e]; simp
  · have k1 : ∀ k ∈ ks, ∃ x, toP (keyD k) = .int x := fun k hk => by
      obtain ⟨x, rfl⟩ := h k hk
      exact ⟨_, rfl⟩
    refine ⟨fun a ha b hb => ?_, .inr fun a ha => ?_⟩
    · obtain ⟨x, e⟩ := of (Z := fun z => ∃ x, z = .int x) k1 a ha
      obtain ⟨y, e2⟩ := of (Z := fun z => ∃ x, z = .int x) k1 b hb
      rw [e, e2]; simp [PySem.W.alike]
    · obtain ⟨x, e⟩ := of (Z := fun z => ∃ x, z = .int x) k1 a ha
      rw [e]; simp
theorem sorted_setX {a : Addr} {S : Key → Bool} {n : Nat} {Q : Value → Shared → Prop} (R : SetX P w s.heap a S n) (hh : A.handled = none) (hu : A.units + 64 < cLine) (hom : ∀ ks : List Key, (∀ k ∈ ks, S k = true) → homK ks)
    (hQ : ∀ s' p (out : List Value) (c : Nat) (ks : List Key), (∀ b o, s.heap.get? b = some o → s'.heap.get? b = some o) → s'.gens = s.gens → s'.os = s.os → s.heap.objs.size ≤ p →
      s'.heap.get? p = some (seqObj "list" out.toArray c) → Vals ((ks.mergeSort leK).map kV) out → ks.Nodup → (∀ k, k ∈ ks ↔ S k = true) → ks.length = n → Q (.ref p) s') :
    wpAny (model P w) A (call (.builtin "sorted") [.ref a]) Q E s := by
  obtain ⟨o, es, ep, t, ho, hex, hd, g, nd, hm, hb, hf, hn, hr, hl⟩ := R
  refine Calls.call_function_entry kind_sorted plain_sorted entry_sorted (args_sorted1 _) ?_
  unfold Builtin.«sorted»
  refine wpAny_bind (m := checkCount "sorted" 1 1 _) (wpAny_pure ?_)
  refine wpAny_bind (collect_set (A := A.in1) hh ⟨o, ho, hex.1, hd⟩ hf hb hr hl fun s1 vs k1 hz g1 o1 pm => ?_)
  have hvl : vs.length = n := by rw [pm.length_eq, List.length_map, Array.length_toList]; exact hn
  have hvs : vs.length ≤ sizeLine := by rw [hvl, ← hn]; exact fits_of_scanBound hb
  have pk : (vs.map keyV).Perm (es.toList.map entK) := by
    have q := pm.map keyV
    rw [List.map_map] at q
    exact q
  have hmem : ∀ k, k ∈ vs.map keyV ↔ S k = true := fun k => by rw [pk.mem_iff, ← hm k]
  have good : ∀ v ∈ vs, (mixKind P w).is (keyV v) v = true := fun v hv => by
    obtain ⟨e, he, q⟩ := List.mem_map.mp (pm.mem_iff.mp hv)
    rw [← q]
    exact (g e he).1
  have hI : ∀ {Z : Value → Key → Prop} {l : List Value}, (∀ v ∈ l, Z v (keyV v)) → PySem.W.EachIs Z l (l.map keyV) := by
    intro Z l
    induction l with
    | nil => intro _; exact .nil
    | cons v l ih => intro h; exact .cons (h v List.mem_cons_self) (ih fun u hu => h u (List.mem_cons_of_mem _ hu))
  obtain ⟨hal, hso⟩ := hom_alike (hom (vs.map keyV) fun k hk => (hmem k).mp hk)
  refine wpAny_bind (wpAny_newList ?_ hvs)
  have hoL : (s1.heap.push (seqObj "list" vs.toArray 0)).get? s1.heap.objs.size = some (seqObj "list" vs.toArray 0) := Heap.get?_push_size _ rfl
  refine wpAny_bind (wpAny_holding (PySem.W.list_sort_data (s := { s1 with heap := s1.heap.push (seqObj "list" vs.toArray 0) }) (R := fun u k => (mixKind P w).is k u = true) (enc := fun k => toP (keyD k)) (bs := vs.map keyV) hoL (hI good)
    (hI fun v hv => ?_) hal hso (by rw [List.length_map]; exact hvs) (fun k hk => ?_) fun out ol eo => ?_))
  · rcases keyIs_shape (good v hv) with ⟨i, t, e1, e2⟩ | ⟨x, t, e1, e2⟩
    · refine ⟨[], ?_, by simp⟩
      rw [e1, e2]
      exact Reads.int _ _
    · refine ⟨[], ?_, by simp⟩
      rw [e1, e2]
      exact Reads.str _ _
  · have : (toP (keyD k)).depth = 0 := by cases k <;> simp [keyD, toP, PyData.depth]
    show A.units + 1 + 1 + _ < cLine
    omega
  · obtain ⟨c, hc⟩ := sortedHeap_at (vs := vs) (out := out.toArray) hoL
    refine wpAny_pure ⟨_, rfl, hQ _ s1.heap.objs.size out c (vs.map keyV) (fun b u e => ?_) g1 o1 hz hc ?_ (pk.nodup_iff.mpr nd) hmem (by rw [List.length_map]; exact hvl)⟩
    · have q := k1 b u e
      have hlt := Heap.lt_size q
      show (sortedHeap (s1.heap.push (seqObj "list" vs.toArray 0)) s1.heap.objs.size vs out.toArray).get? b = some u
      rw [sortedHeap_old (Nat.ne_of_lt hlt) (by rw [size_push']; exact Nat.lt_succ_of_lt hlt)]
      exact Heap.get?_push_of_some _ q
    · have fin : ∀ {us : List Value} {ks : List Key}, PySem.W.EachIs (fun u k => (mixKind P w).is k u = true) us ks → Vals (ks.map kV) us := by
        intro us ks e
        induction e with
        | nil => exact .nil
        | cons h _ ih => exact .cons (relV_key h) ih
      exact fin eo
end
/-! ### the members, once each -/
def ddS : List (List Nat) → List (List Nat)
  | [] => []
  | x :: r => if x ∈ r then ddS r else x :: ddS r
def ddI : List Int → List Int
  | [] => []
  | x :: r => if x ∈ r then ddI r else x :: ddI r
theorem ddS_spec : ∀ xs : List (List Nat), (ddS xs).Nodup ∧ ∀ x, x ∈ ddS xs ↔ x ∈ xs
  | [] => ⟨List.nodup_nil, fun x => Iff.rfl⟩
  | y :: r => by
    obtain ⟨h1, h2⟩ := ddS_spec r
    unfold ddS
    split
    · rename_i h
      refine ⟨h1, fun x => ⟨fun q => List.mem_cons_of_mem _ ((h2 x).mp q), fun q => ?_⟩⟩
      rcases List.mem_cons.mp q with e | q
      · rw [e]; exact (h2 y).mpr h
      · exact (h2 x).mpr q
    · rename_i h
      refine ⟨List.nodup_cons.mpr ⟨fun q => h ((h2 y).mp q), h1⟩, fun x => ?_⟩
      rw [List.mem_cons, List.mem_cons, h2 x]
theorem ddI_spec : ∀ xs : List Int, (ddI xs).Nodup ∧ ∀ x, x ∈ ddI xs ↔ x ∈ xs
  | [] => ⟨List.nodup_nil, fun x => Iff.rfl⟩
  | y :: r => by
    obtain ⟨h1, h2⟩ := ddI_spec r
    unfold ddI
    split
    · rename_i h
      refine ⟨h1, fun x => ⟨fun q => List.mem_cons_of_mem _ ((h2 x).mp q), fun q => ?_⟩⟩
      rcases List.mem_cons.mp q with e | q
      · rw [e]; exact (h2 y).mpr h
      · exact (h2 x).mpr q
    · rename_i h
      refine ⟨List.nodup_cons.mpr ⟨fun q => h ((h2 y).mp q), h1⟩, fun x => ?_⟩
      rw [List.mem_cons, List.mem_cons, h2 x]
def leS (a b : List Nat) : Bool := decide (a ≤ b)
def leI (a b : Int) : Bool := decide (a ≤ b)
theorem leS_trans (a b c : List Nat) (h1 : leS a b = true) (h2 : leS b c = true) : leS a c = true := decide_eq_true (List.le_trans (of_decide_eq_true h1) (of_decide_eq_true h2))
theorem leS_total (a b : List Nat) : (leS a b || leS b a) = true := by
  rw [Bool.or_eq_true]
  rcases List.le_total a b with h | h
  · exact .inl (decide_eq_true h)
  · exact .inr (decide_eq_true h)
theorem leI_trans (a b c : Int) (h1 : leI a b = true) (h2 : leI b c = true) : leI a c = true := decide_eq_true (Int.le_trans (of_decide_eq_true h1) (of_decide_eq_true h2))
theorem leI_total (a b : Int) : (leI a b || leI b a) = true := by
  rw [Bool.or_eq_true]
  rcases Int.le_total a b with h | h
  · exact .inl (decide_eq_true h)
  · exact .inr (decide_eq_true h)
/-- two sortings of the same members -/
theorem sortS_perm {xs ys : List (List Nat)} (h : xs.Perm ys) : xs.mergeSort leS = ys.mergeSort leS :=
  List.Perm.eq_of_pairwise (le := fun a b => leS a b = true) (fun a b _ _ h1 h2 => List.le_antisymm (of_decide_eq_true h1) (of_decide_eq_true h2)) (List.pairwise_mergeSort leS_trans leS_total xs) (List.pairwise_mergeSort leS_trans leS_total ys)
    ((List.mergeSort_perm xs leS).trans (h.trans (List.mergeSort_perm ys leS).symm))
theorem sortI_perm {xs ys : List Int} (h : xs.Perm ys) : xs.mergeSort leI = ys.mergeSort leI :=
  List.Perm.eq_of_pairwise (le := fun a b => leI a b = true) (fun a b _ _ h1 h2 => Int.le_antisymm (of_decide_eq_true h1) (of_decide_eq_true h2)) (List.pairwise_mergeSort leI_trans leI_total xs) (List.pairwise_mergeSort leI_trans leI_total ys)
    ((List.mergeSort_perm xs leI).trans (h.trans (List.mergeSort_perm ys leI).symm))
/-- sorted(set(xs)) -/
def setS (xs : List (List Nat)) : List (List Nat) := (ddS xs).mergeSort leS
def setI (xs : List Int) : List Int := (ddI xs).mergeSort leI
def kS (x : List Nat) : Key := .inr (SX.S x)
theorem kS_inj {a b : List Nat} (h : kS a = kS b) : a = b := SX.S_inj (Sum.inr.inj h)
theorem leK_S (x y : List Nat) : leK (kS x) (kS y) = leS x y := by
  show (!PySem.W.dataLt (toP (keyD (kS y))) (toP (keyD (kS x)))) = _
  have h := congrFun (congrFun (PySem.W.dataLe_str (β := List Nat) SX.S) x) y
  rw [PySem.W.dataLe_eq] at h
  exact h
theorem leK_I (x y : Int) : leK (.inl x) (.inl y) = leI x y := by
  show (!PySem.W.dataLt (toP (keyD (.inl y))) (toP (keyD (.inl x)))) = _
  have h := congrFun (congrFun (PySem.W.dataLe_int (β := Int) id) x) y
  rw [PySem.W.dataLe_eq] at h
  exact h
theorem perm_of_mem {α : Type} {xs ys : List α} (h1 : xs.Nodup) (h2 : ys.Nodup) (h : ∀ x, x ∈ xs ↔ x ∈ ys) : xs.Perm ys := (List.perm_ext_iff_of_nodup h1 h2).mpr h
theorem nodup_map {α β : Type} {f : α → β} (hf : ∀ a b, f a = f b → a = b) {l : List α} (h : l.Nodup) : (l.map f).Nodup := List.Pairwise.map f (fun a b hne e => hne (hf a b e)) h
theorem sort_of_S {ks : List Key} {xs : List (List Nat)} (nd : ks.Nodup) (hm : ∀ k, k ∈ ks ↔ memK k (xs.map kS) = true) : ks.mergeSort leK = (setS xs).map kS ∧ ks.length = (ddS xs).length := by
  obtain ⟨d1, d2⟩ := ddS_spec xs
  have hm2 : ∀ k, k ∈ ks ↔ k ∈ (ddS xs).map kS := fun k => by
    rw [hm k, memK_iff, List.mem_map, List.mem_map]
    exact ⟨fun ⟨a, h, e⟩ => ⟨a, (d2 a).mpr h, e⟩, fun ⟨a, h, e⟩ => ⟨a, (d2 a).mp h, e⟩⟩
  have hp : ks.Perm ((ddS xs).map kS) := perm_of_mem nd (nodup_map (fun a b => kS_inj) d1) hm2
  -- ks is itself an image
  have him : ∃ ys : List (List Nat), ks = ys.map kS := by
    have all : ∀ k ∈ ks, ∃ y, k = kS y := fun k hk => by
      obtain ⟨y, _, e⟩ := List.mem_map.mp ((hm2 k).mp hk)
      exact ⟨y, e.symm⟩
    clear nd hm hm2 hp
    induction ks with
    | nil => exact ⟨[], rfl⟩
    | cons k ks ih =>
      obtain ⟨y, rfl⟩ := all k List.mem_cons_self
      obtain ⟨ys, rfl⟩ := ih fun k hk => all k (List.mem_cons_of_mem _ hk)
      exact ⟨y :: ys, rfl⟩
  obtain ⟨ys, rfl⟩ := him
  refine ⟨?_, by rw [hp.length_eq, List.length_map]⟩
  have ny : ys.Nodup := List.Pairwise.of_map kS (fun a b hne e => hne (by rw [e])) nd
  have py : ys.Perm (ddS xs) := perm_of_mem ny d1 fun y => by
    have := hm2 (kS y)
    rw [List.mem_map, List.mem_map] at this
    exact ⟨fun h => by
      obtain ⟨a, h1, e⟩ := this.mp ⟨y, h, rfl⟩
      rw [← kS_inj e]; exact h1, fun h => by
      obtain ⟨a, h1, e⟩ := this.mpr ⟨y, h, rfl⟩
      rw [← kS_inj e]; exact h1⟩
  unfold setS
  rw [← sortS_perm py]
  exact (List.map_mergeSort (r := leS) (s := leK) (f := kS) (l := ys) fun a _ b _ => (leK_S a b).symm).symm
theorem sort_of_I {ks : List Key} {xs : List Int} (nd : ks.Nodup) (hm : ∀ k, k ∈ ks ↔ memK k (xs.map Sum.inl) = true) : ks.mergeSort leK = (setI xs).map Sum.inl ∧ ks.length = (ddI xs).length := by
  obtain ⟨d1, d2⟩ := ddI_spec xs
  have hm2 : ∀ k, k ∈ ks ↔ k ∈ (ddI xs).map (Sum.inl : Int → Key) := fun k => by
    rw [hm k, memK_iff, List.mem_map, List.mem_map]
    exact ⟨fun ⟨a, h, e⟩ => ⟨a, (d2 a).mpr h, e⟩, fun ⟨a, h, e⟩ => ⟨a, (d2 a).mp h, e⟩⟩
  have hp : ks.Perm ((ddI xs).map Sum.inl) := perm_of_mem nd (nodup_map (fun a b => Sum.inl.inj) d1) hm2
  have him : ∃ ys : List Int, ks = ys.map Sum.inl := by
    have all : ∀ k ∈ ks, ∃ y : Int, k = Sum.inl y := fun k hk => by
      obtain ⟨y, _, e⟩ := List.mem_map.mp ((hm2 k).mp hk)
      exact ⟨y, e.symm⟩
    clear nd hm hm2 hp
    induction ks with
    | nil => exact ⟨[], rfl⟩
    | cons k ks ih =>
      obtain ⟨y, rfl⟩ := all k List.mem_cons_self
      obtain ⟨ys, rfl⟩ := ih fun k hk => all k (List.mem_cons_of_mem _ hk)
      exact ⟨y :: ys, rfl⟩
  obtain ⟨ys, rfl⟩ := him
  refine ⟨?_, by rw [hp.length_eq, List.length_map]⟩
  have ny : ys.Nodup := List.Pairwise.of_map Sum.inl (fun a b hne e => hne (by rw [e])) nd
  have py : ys.Perm (ddI xs) := perm_of_mem ny d1 fun y => by
    have := hm2 (Sum.inl y)
    rw [List.mem_map, List.mem_map] at this
    exact ⟨fun h => by
      obtain ⟨a, h1, e⟩ := this.mp ⟨y, h, rfl⟩
      rw [← Sum.inl.inj e]; exact h1, fun h => by
      obtain ⟨a, h1, e⟩ := this.mpr ⟨y, h, rfl⟩
      rw [← Sum.inl.inj e]; exact h1⟩
  unfold setI
  rw [← sortI_perm py]
  exact (List.map_mergeSort (r := leI) (s := leK) (f := (Sum.inl : Int → Key)) (l := ys) fun a _ b _ => (leK_I a b).symm).symm
end Wb

set_option Elab.async false
set_option linter.all false
set_option maxRecDepth 100000
set_option maxHeartbeats 4000000
/-! Wb: sorted(set(xs)), len(set(xs)) as expressions. -/
namespace Wb
open PySem PySem.Spec PyProof.Rows L2
def setSortD : D → Option Ent
  | .lst xs => if xs.length < 4000 then (match strsOf xs with
    | some ys => some (.own (.lst ((setS ys).map .str)))
    | none => (intsOf xs).map fun ns => .own (.lst ((setI ns).map .int))) else none
  | _ => none
def setLenD : D → Option D
  | .lst xs => if xs.length < 4000 then (match strsOf xs with
    | some ys => some (.int (ddS ys).length)
    | none => (intsOf xs).map fun ns => .int (ddI ns).length) else none
  | _ => none
def mSortSet (m : M D) : M Ent := bnd m fun d => lift (setSortD d)
def mLenSet (m : M D) : M D := bnd m fun d => lift (setLenD d)
section
variable {X : Cx}
theorem keysAre_of {P : Program} {w : World} : ∀ {ks : List Key} {us : List Value}, Vals (ks.map kV) us → KeysAre P w us.toArray ks := fun {ks us} r => by
  have key : ∀ {ks : List Key} {us : List Value}, Vals (ks.map kV) us → us.length = ks.length ∧ ∀ (i : Nat) (v : Value), us[i]? = some v → ∃ k, ks[i]? = some k ∧ (mixKind P w).is k v = true := by
    intro ks
    induction ks with
    | nil => intro us r; cases r; exact ⟨rfl, fun i v h => by simp at h⟩
    | cons k ks ih =>
      intro us r
      cases r with
      | cons r1 r2 =>
        obtain ⟨h1, h2⟩ := ih r2
        refine ⟨congrArg (· + 1) h1, fun i v h => ?_⟩
        cases i with
        | zero =>
          rw [List.getElem?_cons_zero] at h
          cases h
          exact ⟨k, rfl, kV_is r1⟩
        | succ i =>
          rw [List.getElem?_cons_succ] at h
          obtain ⟨k2, h3, h4⟩ := h2 i v h
          exact ⟨k2, by rw [List.getElem?_cons_succ]; exact h3, h4⟩
  obtain ⟨h1, h2⟩ := key r
  exact ⟨by rw [List.size_toArray]; exact h1, fun i v h => h2 i v (by simpa using h)⟩
/-- behind set(x): what the heap has, then sorted or len of it -/
def rSetOf (K : PySem.W.Frag) (x : V) (H : Hp) (ks : List Key) : Prop := ∃ l, x = .ref l ∧ SqL K H l (ks.map kV) ∧ ks.length < 4000
theorem pe_sset {a : Expr} {ta : TE} {p p2 q pos : Pos} (hc : X.calm = true) (hu : X.A.units + 64 < cLine) (hg : Gl X "sorted") (hm : X.mg "sorted" = none) (hg2 : Gl X "set") (hm2 : X.mg "set" = none) (ha : PE X a ta)
    (na : starEach [a] X.env = [(false, eval a X.env)]) : PE X (.Call (.Name "sorted" p) [.Call (.Name "set" p2) [a] [] q] [] pos)
      (fun σ H Q => ta σ H fun x H1 => ∃ ks : List Key, rSetOf X.K x H1 ks ∧ homK ks ∧ ∀ (ks' : List Key) (p : Addr), ks'.Nodup → (∀ k, k ∈ ks' ↔ memK k ks = true) → H1 p = none → Q (.ref p) (upd H1 p (.lst ((ks'.mergeSort leK).map kV)))) := by
  refine ⟨fun pins s σ H Q I h => ?_⟩
  refine Call_ (ld_blt I hg hm boot_sorted ?_)
  refine PyProof.Rows.callWith_builtin1 (PyProof.Rows.args_cons ?_ rfl) rfl rfl
  refine Call_ (ld_blt I hg2 hm2 boot_set ?_)
  refine PyProof.Rows.callWith_type1 (PyProof.Rows.args_cons (thn (ha.run pins s σ H _ I h) fun v s1 ⟨x, H1, I1, r1, q1⟩ => PyProof.Rows.args_nil ?_) na) na rfl
  obtain ⟨ks, ⟨l, rfl, hq, hz⟩, hom, q2⟩ := q1
  cases r1
  obtain ⟨its, rv, hl, _⟩ := I1.list hq
  refine call_setX ks (I1.ok.hd hc) hl.isList (keysAre_of rv) (by unfold scanBound; omega) fun h' tk c R hcn hk => PyProof.Rows.args_nil ?_
  have I2 : Inv X pins σ H1 { s1 with heap := h', toks := tk } := I1.kept fun b o e => hk b o e
  obtain ⟨s2, e2⟩ : ∃ s2 : Shared, s2 = { s1 with heap := h', toks := tk } := ⟨_, rfl⟩
  have R2 : SetX X.prog X.w s2.heap s1.heap.objs.size (fun j => memK j ks) c := by rw [e2]; exact R
  rw [← e2] at I2 ⊢
  refine sorted_setX R2 (I2.ok.hd hc) hu (fun js hj => ?_) fun s' p out c' ks' k g o hp hg' hv nd hm' hlen => ?_
  · rcases hom with h | h
    · exact .inl fun k hk => h k (memK_iff.mp (hj k hk))
    · exact .inr fun k hk => h k (memK_iff.mp (hj k hk))
  · have hlen2 : ((ks'.mergeSort leK).map kV).length ≤ sizeLine := by rw [List.length_map, List.length_mergeSort, hlen, sizeLine_eq]; omega
    have hn : H1 p = none := I2.hok.fresh hp
    have J : Inv X pins σ (upd H1 p (.lst ((ks'.mergeSort leK).map kV))) { s2 with heap := s'.heap, gens := s'.gens, drawn := s'.drawn, toks := s'.toks } :=
      I2.call (ch := []) (Un.laid k hp hn) (I2.hok.laid k hp ⟨hlen2, out, c', hv, hg'⟩) (by rw [g]; exact I2.bare) (fun _ z => nomatch z)
    have e : s' = { s2 with heap := s'.heap, gens := s'.gens, drawn := s'.drawn, toks := s'.toks } := by
      clear hg' hv J I2 R2 e2
      cases s'
      cases s2
      cases o
      rfl
    rw [e]
    exact ⟨.ref p, _, J, rfl, q2 ks' p nd hm' hn⟩
theorem pe_lset {a : Expr} {ta : TE} {p p2 q pos : Pos} (hc : X.calm = true) (hg : Gl X "len") (hm : X.mg "len" = none) (hg2 : Gl X "set") (hm2 : X.mg "set" = none) (ha : PE X a ta)
    (na : starEach [a] X.env = [(false, eval a X.env)]) : PE X (.Call (.Name "len" p) [.Call (.Name "set" p2) [a] [] q] [] pos)
      (fun σ H Q => ta σ H fun x H1 => ∃ ks : List Key, rSetOf X.K x H1 ks ∧ ∀ ks' : List Key, ks'.Nodup → (∀ k, k ∈ ks' ↔ memK k ks = true) → Q (.int ks'.length) H1) := by
  refine ⟨fun pins s σ H Q I h => ?_⟩
  refine Call_ (ld_blt I hg hm PySem.boot_len ?_)
  refine PyProof.Rows.callWith_builtin1 (PyProof.Rows.args_cons ?_ rfl) rfl rfl
  refine Call_ (ld_blt I hg2 hm2 boot_set ?_)
  refine PyProof.Rows.callWith_type1 (PyProof.Rows.args_cons (thn (ha.run pins s σ H _ I h) fun v s1 ⟨x, H1, I1, r1, q1⟩ => PyProof.Rows.args_nil ?_) na) na rfl
  obtain ⟨ks, ⟨l, rfl, hq, hz⟩, q2⟩ := q1
  cases r1
  obtain ⟨its, rv, hl, _⟩ := I1.list hq
  refine call_setX ks (I1.ok.hd hc) hl.isList (keysAre_of rv) (by unfold scanBound; omega) fun h' tk c R hcn hk => PyProof.Rows.args_nil ?_
  have I2 : Inv X pins σ H1 { s1 with heap := h', toks := tk } := I1.kept fun b o e => hk b o e
  obtain ⟨o, es, ep, t, ho, hex, hd, g, nd, hmem, hb, hf, hn, hr, hl2⟩ := R
  refine call_len_set ho hex hd hf (by unfold scanBound at hb; omega) ⟨.int es.size, H1, I2.tok _, ⟨_, rfl⟩, ?_⟩
  have e : es.size = (es.toList.map entK).length := by rw [List.length_map, Array.length_toList]
  rw [e]
  exact q2 _ nd fun k => (hmem k).symm
end
section
variable {X : Cx} {F : Fx} {rx : RX} {cal : Cal} {a : Expr} {m : M D} {p p2 q pos : Pos}
theorem rps_kS {R : Rt} {H : Hp} {ys : List (List Nat)} {vs : List V} (r : Rps R H vs (ys.map D.str)) : vs = (ys.map kS).map kV := by
  rw [r.strs, List.map_map, List.map_map]
  rfl
theorem rps_kI {R : Rt} {H : Hp} {ns : List Int} {vs : List V} (r : Rps R H vs (ns.map D.int)) : vs = (ns.map (Sum.inl : Int → Key)).map kV := by
  rw [r.ints, List.map_map]
  rfl
theorem kS_rps {R : Rt} {H : Hp} (ys : List (List Nat)) : Rps R H ((ys.map kS).map kV) (ys.map D.str) := by
  have := Rps.of_strs (R := R) (H := H) (xs := ys)
  rw [List.map_map] at this ⊢
  exact this
theorem kI_rps {R : Rt} {H : Hp} (ns : List Int) : Rps R H ((ns.map (Sum.inl : Int → Key)).map kV) (ns.map D.int) := by
  have := Rps.of_ints (R := R) (H := H) (xs := ns)
  rw [List.map_map]
  exact this
theorem de_sset (hc : X.calm = true) (hu : X.A.units + 64 < cLine) (hK : F.R.K = X.K) (hg : Gl X "sorted") (hm : X.mg "sorted" = none) (hg2 : Gl X "set") (hm2 : X.mg "set" = none) (hs : noStar a = true) (ha : DD X F rx cal a m) :
    DE X F rx cal (.Call (.Name "sorted" p) [.Call (.Name "set" p2) [a] [] q] [] pos) (mSortSet m) := fun σ g Hf H co => by
  refine one (wk := fun x H1 (Q : VK) => ∃ ks : List Key, rSetOf X.K x H1 ks ∧ homK ks ∧ ∀ (ks' : List Key) (p : Addr), ks'.Nodup → (∀ k, k ∈ ks' ↔ memK k ks = true) → H1 p = none → Q (.ref p) (upd H1 p (.lst ((ks'.mergeSort leK).map kV))))
    ha co (fun x da c g' Hf' H' _ co' r hc => ?_) fun Q q => wE_of (pe_sset hc hu hg hm hg2 hm2 pe_w (star_cons hs)) q
  unfold setSortD at hc
  split at hc
  · split at hc
    · rename_i xs hz
      obtain ⟨l, us, rfl, k1, k2⟩ := rp_seq hK co' r
      cases h1 : strsOf xs with
      | some ys =>
        rw [h1] at hc
        cases hc
        rw [strsOf_map h1] at k2 hz
        rw [rps_kS k2] at k1
        rw [List.length_map] at hz
        refine Post.list co' (kS_rps (setS ys)) fun Q q => ⟨ys.map kS, ⟨l, rfl, k1, by rw [List.length_map]; exact hz⟩, .inl fun k hk => ?_, fun ks' p nd hm hp => ?_⟩
        · obtain ⟨y, _, e⟩ := List.mem_map.mp hk
          exact ⟨_, e.symm⟩
        · rw [(sort_of_S nd hm).1]
          exact q p hp
      | none =>
        rw [h1] at hc
        obtain ⟨ns, h2, rfl⟩ := Option.map_eq_some_iff.mp hc
        rw [intsOf_map h2] at k2 hz
        rw [rps_kI k2] at k1
        rw [List.length_map] at hz
        refine Post.list co' (kI_rps (setI ns)) fun Q q => ⟨ns.map Sum.inl, ⟨l, rfl, k1, by rw [List.length_map]; exact hz⟩, .inr fun k hk => ?_, fun ks' p nd hm hp => ?_⟩
        · obtain ⟨y, _, e⟩ := List.mem_map.mp hk
          exact ⟨_, e.symm⟩
        · rw [(sort_of_I nd hm).1]
          exact q p hp
    · cases hc
  · cases hc
theorem dd_lset (hc : X.calm = true) (hK : F.R.K = X.K) (hg : Gl X "len") (hm : X.mg "len" = none) (hg2 : Gl X "set") (hm2 : X.mg "set" = none) (hs : noStar a = true) (ha : DD X F rx cal a m) :
    DD X F rx cal (.Call (.Name "len" p) [.Call (.Name "set" p2) [a] [] q] [] pos) (mLenSet m) := fun σ g Hf H co => by
  refine one (wk := fun x H1 (Q : VK) => ∃ ks : List Key, rSetOf X.K x H1 ks ∧ ∀ ks' : List Key, ks'.Nodup → (∀ k, k ∈ ks' ↔ memK k ks = true) → Q (.int ks'.length) H1)
    ha co (fun x da c g' Hf' H' _ co' r hc => ?_) fun Q q => wE_of (pe_lset hc hg hm hg2 hm2 pe_w (star_cons hs)) q
  unfold setLenD at hc
  split at hc
  · split at hc
    · rename_i xs hz
      obtain ⟨l, us, rfl, k1, k2⟩ := rp_seq hK co' r
      cases h1 : strsOf xs with
      | some ys =>
        rw [h1] at hc
        cases hc
        rw [strsOf_map h1] at k2 hz
        rw [rps_kS k2] at k1
        rw [List.length_map] at hz
        refine Post.ok co' (.int _) fun Q q => ⟨ys.map kS, ⟨l, rfl, k1, by rw [List.length_map]; exact hz⟩, fun ks' nd hm => ?_⟩
        rw [(sort_of_S nd hm).2]
        exact q
      | none =>
        rw [h1] at hc
        obtain ⟨ns, h2, rfl⟩ := Option.map_eq_some_iff.mp hc
        rw [intsOf_map h2] at k2 hz
        rw [rps_kI k2] at k1
        rw [List.length_map] at hz
        refine Post.ok co' (.int _) fun Q q => ⟨ns.map Sum.inl, ⟨l, rfl, k1, by rw [List.length_map]; exact hz⟩, fun ks' nd hm => ?_⟩
        rw [(sort_of_I nd hm).2]
        exact q
    · cases hc
  · cases hc
end
end Wb

set_option Elab.async false
set_option linter.all false
set_option maxRecDepth 100000
set_option maxHeartbeats 4000000
/-! Wb: list comprehensions of two clauses. -/
namespace Wb
open PySem PySem.Spec PyProof.Rows L2
def lcI (t : Tg) (tt : M Bool) (me : M D) (vs1 : List Nat) (c : Cal) : List D → Env' → List D → Option (List D × Env')
  | [], g, acc => some (acc, g)
  | d :: ds, g, acc => match asg t d g with
    | none => none
    | some g1 => match tt c g1 with
      | .ok true g2 => (match me c g2 with
        | .ok y g3 => if acc.length < lim then lcI t tt me vs1 c ds (wipeG g3 vs1) (acc ++ [y]) else none
        | _ => none)
      | .ok false g2 => lcI t tt me vs1 c ds (wipeG g2 vs1) acc
      | _ => none
def lcL2 (t : Tg) (tt : M Bool) (mi1 : M (List D)) (t1 : Tg) (tt1 : M Bool) (me : M D) (vs vs1 : List Nat) (c : Cal) : List D → Env' → List D → Option (List D × Env')
  | [], g, acc => some (acc, g)
  | d :: ds, g, acc => match asg t d g with
    | none => none
    | some g1 => match tt c g1 with
      | .ok true g2 => (match mi1 c g2 with
        | .ok ds1 g3 => (match lcI t1 tt1 me vs1 c ds1 (wipeG g3 vs1) acc with
          | some (acc1, g4) => lcL2 t tt mi1 t1 tt1 me vs vs1 c ds (wipeG g4 vs) acc1
          | none => none)
        | _ => none)
      | .ok false g2 => lcL2 t tt mi1 t1 tt1 me vs vs1 c ds (wipeG g2 vs) acc
      | _ => none
def mLc2 (mi : M (List D)) (t : Tg) (tt : M Bool) (mi1 : M (List D)) (t1 : Tg) (tt1 : M Bool) (me : M D) (vs vs1 : List Nat) : M Ent := bnd mi fun ds => fun c g =>
  if okW vs g then (match lcL2 t tt mi1 t1 tt1 me vs vs1 c ds (wipeG g vs) [] with
    | some (acc, g') => .ok (.own (.lst acc)) (restG g g' vs)
    | none => .bad) else .bad
structure BlkD2 (X : Cx) (F : Fx) (rx : RX) (cal : Cal) (scope : Scope) (tg : Expr) (ifs : List Expr) (tg1 iter1 : Expr) (ifs1 : List Expr) (elt : Expr) (t : Tg) (tt : M Bool) (mi1 : M (List D)) (t1 : Tg) (tt1 : M Bool) (me : M D) : Prop where
  hg : ∀ F' : Fx, F'.like F → ∀ s H C cl fp, DG (blkOf X scope s H C cl fp) F' tg t
  ht : ∀ F' : Fx, F'.like F → ∀ s H C cl fp, DTs (blkOf X scope s H C cl fp) F' rx cal ifs tt
  hi1 : ∀ F' : Fx, F'.like F → ∀ s H C cl fp, DI (blkOf X scope s H C cl fp) F' rx cal tg1 iter1 mi1
  hg1 : ∀ F' : Fx, F'.like F → ∀ s H C cl fp, DG (blkOf X scope s H C cl fp) F' tg1 t1
  ht1 : ∀ F' : Fx, F'.like F → ∀ s H C cl fp, DTs (blkOf X scope s H C cl fp) F' rx cal ifs1 tt1
  he : ∀ F' : Fx, F'.like F → ∀ s H C cl fp, DD (blkOf X scope s H C cl fp) F' rx cal elt me
/-- the list's own place among what is held -/
def Lst (F : Fx) (τ : L2.St) (g : Env') (Hf H : Hp) (Dl : Addr) (acc : List D) : Prop :=
  Co F τ g Hf H ∧ Hf Dl = none ∧ (∀ (i : Nat) d, g[i]? = some (.own d) → τ[i]? ≠ some (some (.ref Dl))) ∧ ∃ vi, H Dl = some (.lst vi) ∧ Rps F.R Hf vi acc
theorem wipeG_own {g : Env'} {vs : List Nat} {j : Nat} {d : D} (h : (wipeG g vs)[j]? = some (.own d)) : j ∉ vs ∧ g[j]? = some (.own d) := by
  by_cases hv : j ∈ vs
  · have z := wipeG_in hv h
    cases z
  · rw [wipeG_out hv] at h
    exact ⟨hv, h⟩
section
variable {F : Fx} {τ : L2.St} {g : Env'} {Hf H : Hp} {Dl : Addr} {acc : List D}
theorem Lst.wiped {vs : List Nat} (l : Lst F τ g Hf H Dl acc) (hio : F.io = none ∨ 0 ∉ vs) : Lst F (wipe τ vs) (wipeG g vs) Hf H Dl acc := by
  obtain ⟨h1, h2, h3, h4⟩ := l
  refine ⟨h1.wiped hio, h2, fun i d hi hs => ?_, h4⟩
  obtain ⟨hv, hi⟩ := wipeG_own hi
  rw [wipe_out hv] at hs
  exact h3 i d hi hs
/-- the list set aside while something else is done -/
theorem Lst.aside (l : Lst F τ g Hf H Dl acc) (h0 : some Dl ≠ F.io) : ∃ vi, H Dl = some (.lst vi) ∧ Rps F.R Hf vi acc ∧ Co { F with aw := (Dl, HO.lst vi) :: F.aw } τ g Hf H := by
  obtain ⟨h1, h2, h3, vi, h4, h5⟩ := l
  exact ⟨vi, h4, h5, h1.aside h4 h2 h0 h3⟩
theorem Lst.of {vi : List V} (c : Co { F with aw := (Dl, HO.lst vi) :: F.aw } τ g Hf H) (r : Rps F.R Hf vi acc) : Lst F τ g Hf H Dl acc := by
  obtain ⟨k1, k2, k3, k4⟩ := c.awy _ List.mem_cons_self
  exact ⟨c.back, k2, k4, vi, k1, r⟩
end
theorem Lst.snoc {F : Fx} {τ : L2.St} {g : Env'} {Hf H : Hp} {Dl : Addr} {acc : List D} {vi : List V} {v : V} {y : D} (c : Co { F with aw := (Dl, HO.lst vi) :: F.aw } τ g Hf H) (r : Rps F.R Hf vi acc) (rv : Rp F.R Hf v y) (h0 : F.H0 Dl = none) (haw : ∀ q ∈ F.aw, q.1 ≠ Dl) :
    Lst F τ g Hf (upd H Dl (.lst (vi ++ [v]))) Dl (acc ++ [y]) := by
  obtain ⟨k1, k2, k3, k4⟩ := c.awy _ List.mem_cons_self
  exact ⟨c.back.updAside (o := .lst (vi ++ [v])) k2 k3 k4 h0 haw, k2, k4, _, upd_same, r.append (.cons rv .nil)⟩
section
variable {X : Cx} {F : Fx} {rx : RX} {cal : Cal} {scope : Scope} {tg iter tg1 iter1 elt : Expr} {ifs ifs1 : List Expr} {t t1 : Tg} {tt tt1 : M Bool} {me : M D} {own : List (Str × Nat)} {vs1 : List Nat} {mi mi1 : M (List D)} {pos : Pos}
def bI (X : Cx) (scope : Scope) (tg iter : Expr) : TI := fun σ H R => ∀ s H0 C cl fp, wI (blkOf X scope s H0 C cl fp) tg iter σ H R
/-- the inner loop -/
theorem lcI_rest {σ2 : L2.St} {g3 : Env'} {Hf H1 Hf0 : Hp} {J : It} {ds1 : List D} {Dl : Addr} {acc0 : List D} (B : BlkD2 X F rx cal scope tg ifs tg1 iter1 ifs1 elt t tt mi1 t1 tt1 me) (hsl1 : ∀ j ∈ t1.sl, j ∈ vs1) (hio1 : F.io = none ∨ 0 ∉ vs1)
    (it : ItOk F.R J Hf0 ds1) (e0 : Ex Hf0 Hf) (l : Lst F (wipe σ2 vs1) (wipeG g3 vs1) Hf H1 Dl acc0) (d2 : F.H0 Dl = none) (d3 : some Dl ≠ F.io) (d5 : ∀ q ∈ F.aw, q.1 ≠ Dl) {accE : List D} {gE : Env'} (hr : lcI t1 tt1 me vs1 cal ds1 (wipeG g3 vs1) acc0 = some (accE, gE)) (Nx : Hp → Prop)
    (q : ∀ Hf' H', Ex Hf Hf' → Lst F (wipe σ2 vs1) gE Hf' H' Dl accE → Nx H') :
    ∃ W1 : Nat → Nat → Hp → Prop, (∃ m, W1 0 m H1) ∧ ∀ j k H, W1 j k H →
      (J.stop j H ∧ Nx H) ∨ (J.go j H ∧ ∃ Nx1 : Hp → Prop, (∀ H', Nx1 H' → ∃ k', k' < k ∧ W1 (j + 1) k' H') ∧ ∀ x H', J.yld j H x H' → bG X scope tg1 x (wipe σ2 vs1) H' fun σ3 H5 => wipe σ3 vs1 = wipe σ2 vs1 ∧ bT X scope ifs1 σ3 H5 fun b H6 =>
        if b = true then bE X scope elt σ3 H6 fun y H7 => ∃ acc, H7 Dl = some (.lst acc) ∧ acc.length < sizeLine ∧ Nx1 (upd H7 Dl (.lst (acc ++ [y]))) else Nx1 H6) := by
  refine ⟨fun j k H => k = ds1.length - j ∧ j ≤ ds1.length ∧ ∃ gi Hfi ai, Ex Hf Hfi ∧ Lst F (wipe σ2 vs1) gi Hfi H Dl ai ∧ lcI t1 tt1 me vs1 cal (ds1.drop j) gi ai = some (accE, gE),
    ⟨ds1.length, by simp, Nat.zero_le _, wipeG g3 vs1, Hf, acc0, Ex.refl _, l, by rw [List.drop_zero]; exact hr⟩, ?_⟩
  rintro j k H ⟨rfl, hj, gi, Hfi, ai, ei, li, hlc⟩
  obtain ⟨k1, k2⟩ := it j Hfi H (e0.trans ei) li.1.ex
  by_cases hlt : j < ds1.length
  · obtain ⟨go, step⟩ := k1 ds1[j] (List.getElem?_eq_getElem hlt)
    refine .inr ⟨go, fun H' => ∃ gj Hfj aj, Ex Hf Hfj ∧ Lst F (wipe σ2 vs1) gj Hfj H' Dl aj ∧ lcI t1 tt1 me vs1 cal (ds1.drop (j + 1)) gj aj = some (accE, gE),
      fun H' h => ⟨ds1.length - (j + 1), by omega, rfl, hlt, h⟩, fun x H' hy s0 H0 C cl fp => ?_⟩
    rw [List.drop_eq_getElem_cons hlt, lcI] at hlc
    cases ha : asg t1 ds1[j] gi with
    | none => rw [ha] at hlc; cases hlc
    | some g1 =>
      rw [ha] at hlc
      dsimp only at hlc
      obtain ⟨vi, hDl, ri, ca⟩ := li.aside d3
      obtain ⟨Hf2, e2, c2, r2⟩ := yield_co ca (step x H' hy)
      refine B.hg1 { F with aw := (Dl, HO.lst vi) :: F.aw } ⟨rfl, rfl⟩ s0 H0 C cl fp (wipe σ2 vs1) gi Hf2 H' x ds1[j] g1 c2 r2 ha _ fun σ3 c3 hl3 hj3 => ?_
      have hw3 : wipe σ3 vs1 = wipe σ2 vs1 := by
        have h1 : wipe σ3 vs1 = wipe (wipe σ2 vs1) vs1 := wipe_same hl3 fun j hj => hj3 j fun z => hj (hsl1 j z)
        rw [h1]
        exact wipe_same (wipe_length _ _) fun j hj => wipe_out hj
      refine ⟨hw3, fun s0 H0 C cl fp => ?_⟩
      have kt := B.ht1 { F with aw := (Dl, HO.lst vi) :: F.aw } ⟨rfl, rfl⟩ s0 H0 C cl fp σ3 g1 Hf2 H' c3
      cases hm : tt1 cal g1 with
      | ok b g2 =>
        rw [hm] at kt hlc
        refine kt _ fun b' Hf3 H3 e3 c4 rb => ?_
        cases rb
        cases b with
        | false =>
          dsimp only at hlc
          refine iteF ⟨wipeG g2 vs1, Hf3, ai, (ei.trans e2).trans e3, ?_, hlc⟩
          have z := (Lst.of c4 (ri.mono (e2.trans e3))).wiped hio1
          rw [hw3] at z
          exact z
        | true =>
          dsimp only at hlc
          refine iteT fun s0 H0 C cl fp => ?_
          have ke := B.he { F with aw := (Dl, HO.lst vi) :: F.aw } ⟨rfl, rfl⟩ s0 H0 C cl fp σ3 g2 Hf3 H3 c4
          cases hm2 : me cal g2 with
          | ok y g4 =>
            rw [hm2] at ke hlc
            dsimp only at hlc
            by_cases hz : ai.length < lim
            · rw [if_pos hz] at hlc
              refine ke _ fun v Hf4 H4 e4 c5 r5 => ?_
              refine ⟨vi, (c5.awy _ List.mem_cons_self).1, by rw [lim_eq, ri.length]; exact hz, wipeG g4 vs1, Hf4, ai ++ [y], ((ei.trans e2).trans e3).trans e4, ?_, hlc⟩
              have z := (Lst.snoc c5 (ri.mono ((e2.trans e3).trans e4)) r5 d2 d5).wiped hio1
              rw [hw3] at z
              exact z
            · rw [if_neg hz] at hlc
              cases hlc
          | exc y g4 => rw [hm2] at hlc; cases hlc
          | bad => rw [hm2] at hlc; cases hlc
      | exc y g2 => rw [hm] at hlc; cases hlc
      | bad => rw [hm] at hlc; cases hlc
  · have hd : ds1.drop j = [] := List.drop_of_length_le (by omega)
    rw [hd, lcI] at hlc
    cases hlc
    exact .inl ⟨k2 (by omega), q Hfi H ei li⟩
abbrev W2 (X : Cx) (scope : Scope) (tg : Expr) (ifs : List Expr) (tg1 iter1 : Expr) (ifs1 : List Expr) (elt : Expr) (vs vs1 : List Nat) (σ : L2.St) (J : It) (H1 : Hp) (Q : VK) (D : Addr) : Prop :=
  ∃ W : Nat → Nat → Hp → Prop, (∃ m, W 0 m (upd H1 D (.lst []))) ∧ ∀ i m H, W i m H →
    (J.stop i H ∧ Q (.ref D) H) ∨ (J.go i H ∧ ∃ Nx : Hp → Prop, (∀ H', Nx H' → ∃ m', m' < m ∧ W (i + 1) m' H') ∧ ∀ x H', J.yld i H x H' → bG X scope tg x (wipe σ vs) H' fun σ2 H2 => wipe σ2 vs = wipe σ vs ∧ bT X scope ifs σ2 H2 fun b H3 =>
      if b = true then bI X scope tg1 iter1 σ2 H3 fun J1 H4 => ∃ W1 : Nat → Nat → Hp → Prop, (∃ m, W1 0 m H4) ∧ ∀ j k H, W1 j k H →
        (J1.stop j H ∧ Nx H) ∨ (J1.go j H ∧ ∃ Nx1 : Hp → Prop, (∀ H', Nx1 H' → ∃ k', k' < k ∧ W1 (j + 1) k' H') ∧ ∀ x H', J1.yld j H x H' → bG X scope tg1 x (wipe σ2 vs1) H' fun σ3 H5 => wipe σ3 vs1 = wipe σ2 vs1 ∧ bT X scope ifs1 σ3 H5 fun b H6 =>
          if b = true then bE X scope elt σ3 H6 fun y H7 => ∃ acc, H7 D = some (.lst acc) ∧ acc.length < sizeLine ∧ Nx1 (upd H7 D (.lst (acc ++ [y]))) else Nx1 H6)
      else Nx H3)
theorem wipe_wipe {σ : L2.St} {vs vs1 : List Nat} (h : ∀ i ∈ vs1, i ∈ vs) : wipe (wipe σ vs1) vs = wipe σ vs := wipe_same (wipe_length _ _) fun j hj => wipe_out fun z => hj (h j z)
theorem lc2_rest {σ : L2.St} {g : Env'} {Hf H1 Hf0 : Hp} {J : It} {ds : List D} {Dl : Addr} {vs : List Nat} (B : BlkD2 X F rx cal scope tg ifs tg1 iter1 ifs1 elt t tt mi1 t1 tt1 me) (hsl : ∀ j ∈ t.sl, j ∈ vs) (hsl1 : ∀ j ∈ t1.sl, j ∈ vs1) (hv : ∀ i ∈ vs1, i ∈ vs) (hio : F.io = none ∨ 0 ∉ vs)
    (it : ItOk F.R J Hf0 ds) (e0 : Ex Hf0 Hf) (co : Co F σ g Hf H1) (ow : okW vs g = true) (hD : H1 Dl = none) {acc : List D} {gE : Env'} (hr : lcL2 t tt mi1 t1 tt1 me vs vs1 cal ds (wipeG g vs) [] = some (acc, gE)) (Q : VK)
    (q : ∀ Hf' H', Ex Hf Hf' → Co F σ (restG g gE vs) Hf' H' → RpE F σ (restG g gE vs) Hf' H' (.ref Dl) (.own (.lst acc)) → Q (.ref Dl) H') :
    W2 X scope tg ifs tg1 iter1 ifs1 elt vs vs1 σ J H1 Q Dl := by
  obtain ⟨d1, d2, d3, d4, d5⟩ := co.away hD
  have hio1 : F.io = none ∨ 0 ∉ vs1 := hio.imp id fun h z => h (hv 0 z)
  refine ⟨fun i m H => m = ds.length - i ∧ i ≤ ds.length ∧ ∃ gi Hfi ai, Ex Hf Hfi ∧ Lst F (wipe σ vs) gi Hfi H Dl ai ∧ lcL2 t tt mi1 t1 tt1 me vs vs1 cal (ds.drop i) gi ai = some (acc, gE),
    ⟨ds.length, by simp, Nat.zero_le _, wipeG g vs, Hf, [], Ex.refl _, ⟨(co.newOwn hD _).wiped hio, d1, fun i d hi hs => ?_, [], upd_same, .nil⟩, by rw [List.drop_zero]; exact hr⟩, ?_⟩
  · obtain ⟨hj, hi⟩ := wipeG_own hi
    rw [wipe_out hj] at hs
    exact d4 i d hi hs
  rintro i m H ⟨rfl, hi, gi, Hfi, ai, ei, li, hlc⟩
  obtain ⟨k1, k2⟩ := it i Hfi H (e0.trans ei) li.1.ex
  by_cases hlt : i < ds.length
  · obtain ⟨go, step⟩ := k1 ds[i] (List.getElem?_eq_getElem hlt)
    refine .inr ⟨go, fun H' => ∃ gj Hfj aj, Ex Hf Hfj ∧ Lst F (wipe σ vs) gj Hfj H' Dl aj ∧ lcL2 t tt mi1 t1 tt1 me vs vs1 cal (ds.drop (i + 1)) gj aj = some (acc, gE),
      fun H' h => ⟨ds.length - (i + 1), by omega, rfl, hlt, h⟩, fun x H' hy s0 H0 C cl fp => ?_⟩
    rw [List.drop_eq_getElem_cons hlt, lcL2] at hlc
    cases ha : asg t ds[i] gi with
    | none => rw [ha] at hlc; cases hlc
    | some g1 =>
      rw [ha] at hlc
      dsimp only at hlc
      obtain ⟨vi, hDl, ri, ca⟩ := li.aside d3
      obtain ⟨Hf2, e2, c2, r2⟩ := yield_co ca (step x H' hy)
      refine B.hg { F with aw := (Dl, HO.lst vi) :: F.aw } ⟨rfl, rfl⟩ s0 H0 C cl fp (wipe σ vs) gi Hf2 H' x ds[i] g1 c2 r2 ha _ fun σ2 c3 hl3 hj3 => ?_
      have hw3 : wipe σ2 vs = wipe σ vs := by
        have h1 : wipe σ2 vs = wipe (wipe σ vs) vs := wipe_same hl3 fun j hj => hj3 j fun z => hj (hsl j z)
        rw [h1]
        exact wipe_same (wipe_length _ _) fun j hj => wipe_out hj
      refine ⟨hw3, fun s0 H0 C cl fp => ?_⟩
      have kt := B.ht { F with aw := (Dl, HO.lst vi) :: F.aw } ⟨rfl, rfl⟩ s0 H0 C cl fp σ2 g1 Hf2 H' c3
      cases hm : tt cal g1 with
      | ok b g2 =>
        rw [hm] at kt hlc
        refine kt _ fun b' Hf3 H3 e3 c4 rb => ?_
        cases rb
        cases b with
        | false =>
          dsimp only at hlc
          refine iteF ⟨wipeG g2 vs, Hf3, ai, (ei.trans e2).trans e3, ?_, hlc⟩
          have z := (Lst.of c4 (ri.mono (e2.trans e3))).wiped hio
          rw [hw3] at z
          exact z
        | true =>
          dsimp only at hlc
          refine iteT fun s0 H0 C cl fp => ?_
          have ki := B.hi1 { F with aw := (Dl, HO.lst vi) :: F.aw } ⟨rfl, rfl⟩ s0 H0 C cl fp σ2 g2 Hf3 H3 c4
          cases hmi : mi1 cal g2 with
          | ok ds1 g3 =>
            rw [hmi] at ki hlc
            dsimp only at hlc
            cases hl : lcI t1 tt1 me vs1 cal ds1 (wipeG g3 vs1) ai with
            | none => rw [hl] at hlc; cases hlc
            | some pr =>
              obtain ⟨acc1, g4⟩ := pr
              rw [hl] at hlc
              dsimp only at hlc
              refine ki _ fun J1 Hf4 H4 e4 c5 it1 => ?_
              refine lcI_rest B hsl1 hio1 it1 (Ex.refl _) ((Lst.of c5 (ri.mono ((e2.trans e3).trans e4))).wiped hio1) d2 d3 d5 hl _ fun Hf5 H5 e5 l5 => ⟨wipeG g4 vs, Hf5, acc1, (((ei.trans e2).trans e3).trans e4).trans e5, ?_, hlc⟩
              have z := l5.wiped hio
              rw [wipe_wipe hv, hw3] at z
              exact z
          | exc y g3 => rw [hmi] at hlc; cases hlc
          | bad => rw [hmi] at hlc; cases hlc
      | exc y g2 => rw [hm] at hlc; cases hlc
      | bad => rw [hm] at hlc; cases hlc
  · have hd : ds.drop i = [] := List.drop_of_length_le (by omega)
    rw [hd, lcL2] at hlc
    cases hlc
    obtain ⟨ci, hn, hfr, vi, hDl, ri⟩ := li
    refine .inl ⟨k2 (by omega), q Hfi H ei (co.restd ow hio ei ci) ⟨Dl, rfl, hn, d2, d3, fun j d hj hs => ?_, d5, vi, hDl, ri⟩⟩
    by_cases hjv : j ∈ vs
    · have z := restG_in hjv hj
      cases hgj : g[j]? with
      | none => rw [hgj] at z; cases z
      | some s2 =>
        rw [hgj] at z
        have z' : Slot.own d = s2 := z
        subst z'
        exact d4 j d hgj hs
    · rw [restG_out hjv] at hj
      exact hfr j d hj (by rw [wipe_out hjv]; exact hs)
theorem lc2_post {σ : L2.St} {g : Env'} {Hf H : Hp} {w : VK → Prop} {vs : List Nat} (hi : DI X F rx cal tg iter mi) (B : BlkD2 X F rx cal scope tg ifs tg1 iter1 ifs1 elt t tt mi1 t1 tt1 me) (hsl : ∀ j ∈ t.sl, j ∈ vs) (hsl1 : ∀ j ∈ t1.sl, j ∈ vs1) (hv : ∀ i ∈ vs1, i ∈ vs) (hio : F.io = none ∨ 0 ∉ vs) (co : Co F σ g Hf H)
    (hw : ∀ Q, tLc2 (wI X tg iter) (bG X scope tg) (bT X scope ifs) (bI X scope tg1 iter1) (bG X scope tg1) (bT X scope ifs1) (bE X scope elt) vs vs1 σ H Q → w Q) : Post X F rx σ Hf (relE F σ) (mLc2 mi t tt mi1 t1 tt1 me vs vs1 cal g) w := by
  refine Post.bind (w2 := fun (J : It) H1 (Q : VK) => ∀ D, H1 D = none → W2 X scope tg ifs tg1 iter1 ifs1 elt vs vs1 σ J H1 Q D) (hi σ g Hf H co) (fun ds g1 J Hf1 H1 _ e1 co1 it => ?_) fun Q q => hw Q q
  show Post X F rx σ Hf1 (relE F σ) (if okW vs g1 then (match lcL2 t tt mi1 t1 tt1 me vs vs1 cal ds (wipeG g1 vs) [] with
    | some (acc, g') => .ok (.own (.lst acc)) (restG g1 g' vs)
    | none => .bad) else .bad) _
  by_cases ow : okW vs g1 = true
  · rw [if_pos ow]
    cases hr : lcL2 t tt mi1 t1 tt1 me vs vs1 cal ds (wipeG g1 vs) [] with
    | some pr =>
      obtain ⟨acc, gE⟩ := pr
      exact fun Q q D hD => lc2_rest B hsl hsl1 hv hio it (Ex.refl _) co1 ow hD hr Q fun Hf' H' e co' r => q _ Hf' H' e co' r
    | none => trivial
  · rw [if_neg ow]
    trivial
theorem blk_pi : ∀ (s : Shared) (H : Hp) (C : Addr) (cl : List (Str × Addr)) (fp : List Addr), PI (X.blk s H scope (compEnvC scope cl C X.env) fp) tg1 iter1 (bI X scope tg1 iter1) := fun s H C cl fp => ⟨fun pins s' σ H' R I h => h s H C cl fp pins s' I⟩
theorem de_lc2 (hc : X.calm = true) (hN : X.N.Nodup) (ok : BlkOk X.N X.env.scope scope own) (hs : ∀ x, foldedSetIterable iter X.env x = pure x) (hs1 : ∀ env x, foldedSetIterable iter1 env x = pure x) (hi : DI X F rx cal tg iter mi) (B : BlkD2 X F rx cal scope tg ifs tg1 iter1 ifs1 elt t tt mi1 t1 tt1 me)
    (hsl : ∀ j ∈ t.sl, j ∈ own.map (·.2)) (hsl1 : ∀ j ∈ t1.sl, j ∈ vs1) (hv : ∀ i ∈ vs1, i ∈ own.map (·.2)) (hio : F.io = none ∨ 0 ∉ own.map (·.2)) :
    DE X F rx cal (.ListComp elt [⟨tg, iter, ifs, 0⟩, ⟨tg1, iter1, ifs1, 0⟩] scope pos) (mLc2 mi t tt mi1 t1 tt1 me (own.map (·.2)) vs1) := fun σ g Hf H co =>
  lc2_post hi B hsl hsl1 hv hio co fun Q q => wE_of (pe_lc2 hc hN pi_w ok hv (blk_pg trivial) (blk_pt trivial) blk_pi (blk_pg trivial) (blk_pt trivial) (blk_pe trivial) hs hs1) q
theorem ds_setLc2 {i : Nat} {y : Str} {py spos : Pos} (hc : X.calm = true) (hN : X.N.Nodup) (hy : X.N[i]? = some y) (hyl : X.env.scope.names.lookup y = some .local) (hio0 : F.io = none ∨ i ≠ 0)
    (hsw : swapsWith (.ListComp elt [⟨tg, iter, ifs, 0⟩, ⟨tg1, iter1, ifs1, 0⟩] scope pos) (some (.Name y py)) spos.line X.env = pure true) (ok : BlkOk X.N X.env.scope scope own) (hs : ∀ x, foldedSetIterable iter X.env x = pure x) (hs1 : ∀ env x, foldedSetIterable iter1 env x = pure x) (hi : DI X F rx cal tg iter mi) (B : BlkD2 X F rx cal scope tg ifs tg1 iter1 ifs1 elt t tt mi1 t1 tt1 me)
    (hsl : ∀ j ∈ t.sl, j ∈ own.map (·.2)) (hsl1 : ∀ j ∈ t1.sl, j ∈ vs1) (hv : ∀ i ∈ vs1, i ∈ own.map (·.2)) (hio : F.io = none ∨ 0 ∉ own.map (·.2)) :
    DS X F rx cal (.Assign [.Name y py] (.ListComp elt [⟨tg, iter, ifs, 0⟩, ⟨tg1, iter1, ifs1, 0⟩] scope pos) spos) (sSet i (mLc2 mi t tt mi1 t1 tt1 me (own.map (·.2)) vs1)) := fun σ g Hf H co => by
  refine PostS.bind (w1 := fun (Q : VK) => tLc2 (wI X tg iter) (bG X scope tg) (bT X scope ifs) (bI X scope tg1 iter1) (bG X scope tg1) (bT X scope ifs1) (bE X scope elt) (own.map fun (p : Str × Nat) => p.2) vs1 σ H Q) (w2 := fun v H1 D => D.nx (σ.set i (some v)) H1) (lc2_post hi B hsl hsl1 hv hio co fun Q q => q) (fun en g1 v Hf1 H1 _ e1 co1 r1 => set_post co1 r1 hio0 fun D q => q)
    fun D q => wS_of (ps_setLc2 hc hN hy hyl hsw pi_w ok hv (blk_pg trivial) (blk_pt trivial) blk_pi (blk_pg trivial) (blk_pt trivial) (blk_pe trivial) hs hs1) q
end
end Wb

set_option Elab.async false
set_option linter.all false
set_option maxRecDepth 100000
set_option maxHeartbeats 4000000
/-! Wb: several things at once, things of ours among them; a, b = x, y; x += e. -/
namespace Wb
open PySem PySem.Spec PyProof.Rows L2
inductive RpEs (F : Fx) (σ : L2.St) (g : Env') (Hf H : Hp) : List V → List Ent → Prop
  | nil : RpEs F σ g Hf H [] []
  | cons {v : V} {e : Ent} {vs : List V} {es : List Ent} (h : RpE F σ g Hf H v e) (t : RpEs F σ g Hf H vs es) (n : ∀ p d d', v = .ref p → e = .own d → (V.ref p, Ent.own d') ∉ vs.zip es) : RpEs F σ g Hf H (v :: vs) (e :: es)
abbrev relEs (F : Fx) (σ : L2.St) : Env' → Hp → Hp → List V → List Ent → Prop := fun g Hf H vs es => RpEs F σ g Hf H vs es
def DAE (X : Cx) (F : Fx) (rx : RX) (cal : Cal) (es : List Expr) (m : M (List Ent)) : Prop :=
  ∀ (σ : L2.St) (g : Env') (Hf H : Hp), Co F σ g Hf H → Post X F rx σ Hf (relEs F σ) (m cal g) (wA X es σ H)
def mNilE : M (List Ent) := ret []
def mConsE (m : M Ent) (ms : M (List Ent)) : M (List Ent) := bnd m fun d => bnd ms fun ds => ret (d :: ds)
section
variable {F : Fx} {σ : L2.St} {g : Env'} {Hf H : Hp}
/-- where a thing of ours lies that is at hand -/
theorem RpE.at {v : V} {d : D} (r : RpE F σ g Hf H v (.own d)) : ∃ p o, v = .ref p ∧ H p = some o ∧ (Co F σ g Hf H → Co { F with aw := (p, o) :: F.aw } σ g Hf H) := by
  obtain ⟨p, rfl, h1, h2, h3, h4, h5, h6⟩ := r
  obtain ⟨o, ho⟩ := h6.some
  exact ⟨p, o, rfl, ho, fun co => co.aside ho h1 h3 h4⟩
theorem RpE.later {v : V} {e : Ent} {g' : Env'} {Hf' H' : Hp} (r : RpE F σ g Hf H v e) (ex : Ex Hf Hf') (h : ∀ p d, v = .ref p → e = .own d → ∃ o, H p = some o ∧ H' p = some o ∧ Hf' p = none ∧ ∀ (i : Nat) d', g'[i]? = some (.own d') → σ[i]? ≠ some (some (.ref p))) : RpE F σ g' Hf' H' v e := by
  cases e with
  | val d => exact Rp.mono ex r
  | own d =>
    obtain ⟨p, rfl, h1, h2, h3, h4, h5, h6⟩ := r
    obtain ⟨o, k1, k2, k3, k4⟩ := h p d rfl rfl
    exact ⟨p, rfl, k3, h2, h3, k4, h5, h6.mono ex fun u hu => by rw [k1] at hu; cases hu; exact k2⟩
theorem RpEs.weak {p : Addr} {o : HO} {vs : List V} {es : List Ent} (r : RpEs { F with aw := (p, o) :: F.aw } σ g Hf H vs es) : RpEs F σ g Hf H vs es ∧ ∀ d', (V.ref p, Ent.own d') ∉ vs.zip es := by
  induction r with
  | nil => exact ⟨.nil, fun d' h => by cases h⟩
  | @cons v e vs es h t n ih =>
    obtain ⟨i1, i2⟩ := ih
    cases e with
    | val d => exact ⟨.cons (show RpE F σ g Hf H v (.val d) from h) i1 n, fun d' h => by
        rw [List.zip_cons_cons] at h
        rcases List.mem_cons.mp h with z | z
        · cases z
        · exact i2 d' z⟩
    | own d =>
      obtain ⟨q, rfl, h1, h2, h3, h4, h5, h6⟩ := h
      have hne : p ≠ q := h5 (p, o) List.mem_cons_self
      exact ⟨.cons ⟨q, rfl, h1, h2, h3, h4, fun z hz => h5 z (List.mem_cons_of_mem _ hz), h6⟩ i1 n, fun d' h => by
        rw [List.zip_cons_cons] at h
        rcases List.mem_cons.mp h with z | z
        · cases z; exact hne rfl
        · exact i2 d' z⟩
end
section
variable {X : Cx} {F : Fx} {rx : RX} {cal : Cal} {e : Expr} {es : List Expr} {m : M Ent} {ms : M (List Ent)}
theorem dae_nil : DAE X F rx cal [] mNilE := fun σ g Hf H co => Post.ok co .nil fun Q q => wA_of pa_nil q
theorem dae_cons (hs : noStar e = true) (h : DE X F rx cal e m) (h2 : ∀ F' : Fx, F'.R = F.R → F'.io = F.io → DAE X F' rx cal es ms) : DAE X F rx cal (e :: es) (mConsE m ms) := fun σ g Hf H co => by
  refine Post.bind (h σ g Hf H co) (w2 := fun x H1 Q => wA X es σ H1 fun xs H2 => Q (x :: xs) H2) (fun en g1 x Hf1 H1 _ e1 co1 r1 => ?_) fun Q q => wA_of (pa_cons pe_w pa_w (star_cons hs)) q
  cases en with
  | val d => exact Post.map (k := fun xs => x :: xs) (h2 F rfl rfl σ g1 Hf1 H1 co1) (fun ds g2 xs Hf2 H2 _ e2 _ r2 => .cons (Rp.mono e2 r1) r2 fun _ _ _ _ z => by cases z) fun Q q => q
  | own d =>
    obtain ⟨p, o, rfl, ho, asd⟩ := r1.at
    have k := h2 { F with aw := (p, o) :: F.aw } rfl rfl σ g1 Hf1 H1 (asd co1)
    show Post X F rx σ Hf1 (relEs F σ) ((ms cal g1).bnd fun ds g2 => .ok (Ent.own d :: ds) g2) _
    cases hm : ms cal g1 with
    | ok ds g2 =>
      rw [hm] at k
      refine fun Q q => k _ fun xs Hf2 H2 e2 c2 r2 => ?_
      obtain ⟨k1, k2, k3, k4⟩ := c2.awy _ List.mem_cons_self
      obtain ⟨r3, r4⟩ := r2.weak
      refine q _ Hf2 H2 e2 c2.back (.cons (r1.later e2 fun p' d' e' _ => ?_) r3 fun p' d1 d' e' _ => ?_)
      · cases e'; exact ⟨o, ho, k1, k2, k4⟩
      · cases e'; exact r4 d'
    | exc y g2 =>
      rw [hm] at k
      exact fun W Q tk q => k W _ tk fun c dx Hf2 H2 e2 c2 r2 => q c dx Hf2 H2 e2 c2.back r2
    | bad => trivial
end
/-! ### stored one behind another -/
def stoG : Env' → List Nat → List Ent → Option Env'
  | g, [], [] => some g
  | g, i :: is, e :: es => if i < g.length then stoG (g.set i e.slot) is es else none
  | _, _, _ => none
def stoS : L2.St → List Nat → List V → L2.St
  | σ, i :: is, v :: vs => stoS (σ.set i (some v)) is vs
  | σ, _, _ => σ
theorem RpEs.stored {F : Fx} {σ : L2.St} {g : Env'} {Hf H : Hp} {i : Nat} {v : V} {e : Ent} {vs : List V} {es : List Ent} (hi : i < g.length) (hn : ∀ p d d', v = .ref p → e = .own d → (V.ref p, Ent.own d') ∉ vs.zip es) (co : Co F σ g Hf H) (h0 : RpE F σ g Hf H v e) (r : RpEs F σ g Hf H vs es) : RpEs F (σ.set i (some v)) (g.set i e.slot) Hf H vs es := by
  have hσ : i < σ.length := by rw [← co.len]; exact hi
  induction r with
  | nil => exact .nil
  | @cons u en us ens h t n ih =>
    refine .cons ?_ (ih fun p d d' e1 e2 z => hn p d d' e1 e2 (by rw [List.zip_cons_cons]; exact List.mem_cons_of_mem _ z)) n
    cases en with
    | val d => exact h
    | own d =>
      obtain ⟨q, rfl, h1, h2, h3, h4, h5, h6⟩ := h
      refine ⟨q, rfl, h1, h2, h3, fun j d' hj hs => ?_, h5, h6⟩
      by_cases hij : j = i
      · subst hij
        rw [List.getElem?_set_self hi] at hj
        rw [List.getElem?_set_self hσ] at hs
        cases hs
        cases e with
        | val d2 => cases hj
        | own d2 => exact hn q d2 d rfl rfl (by rw [List.zip_cons_cons]; exact List.mem_cons_self)
      · rw [List.getElem?_set_ne (Ne.symm hij)] at hj hs
        exact h4 j d' hj hs
theorem Co.stores {F : Fx} {Hf H : Hp} : ∀ {is : List Nat} {σ : L2.St} {g g' : Env'} {vs : List V} {es : List Ent}, (F.io = none ∨ 0 ∉ is) → Co F σ g Hf H → RpEs F σ g Hf H vs es → stoG g is es = some g' → Co F (stoS σ is vs) g' Hf H
  | [], σ, g, g', _, _, _, co, .nil, h => by cases h; exact co
  | i :: is, σ, g, g', _, _, hio, co, .cons (v := v) (e := e) h t n, hs => by
    rw [stoG] at hs
    split at hs
    · rename_i hi
      have hio1 : F.io = none ∨ i ≠ 0 := hio.imp id fun h z => h (by rw [z]; exact List.mem_cons_self)
      show Co F (stoS (σ.set i (some v)) is _) g' Hf H
      exact Co.stores (hio.imp id fun h z => h (List.mem_cons_of_mem _ z)) (co.store h hi hio1) (RpEs.stored hi n co h t) hs
    · cases hs
  | [], _, _, _, _, _, _, _, .cons _ _ _, h => by cases h
  | _ :: _, _, _, _, _, _, _, _, .nil, h => by cases h
def sPar (is : List Nat) (ms : M (List Ent)) : MS := sBnd ms fun es => fun _ g => match stoG g is es with
  | some g' => .nx g'
  | none => .bad
section
variable {X : Cx} {F : Fx} {rx : RX} {cal : Cal} {a b c : Expr} {ms : M (List Ent)} {i j l : Nat} {x y z : Str} {px py pz pt pt2 pos : Pos} {kt k2 : Nat}
theorem par_post {σ : L2.St} {g : Env'} {Hf H : Hp} {is : List Nat} {es : List Expr} {w : Ends → Prop} (hio : F.io = none ∨ 0 ∉ is) (co : Co F σ g Hf H) (h : DAE X F rx cal es ms) (hw : ∀ D : Ends, wA X es σ H (fun vs H1 => vs.length = is.length ∧ D.nx (stoS σ is vs) H1) → w D) : PostS X F rx Hf (sPar is ms cal g) w := by
  refine PostS.bind (w2 := fun vs H1 D => vs.length = is.length ∧ D.nx (stoS σ is vs) H1) (h σ g Hf H co) (fun en g1 vs Hf1 H1 _ e1 co1 r1 => ?_) hw
  cases hs : stoG g1 is en with
  | none => trivial
  | some g2 =>
    have len : ∀ {is : List Nat} {g g' : Env'} {en : List Ent} {vs : List V}, RpEs F σ g1 Hf1 H1 vs en → stoG g is en = some g' → vs.length = is.length := by
      intro is
      induction is with
      | nil =>
        intro g g' en vs r hs
        cases r with
        | nil => rfl
        | cons _ _ _ => cases hs
      | cons i is ih =>
        intro g g' en vs r hs
        cases r with
        | nil => cases hs
        | cons _ t _ =>
          rw [stoG] at hs
          split at hs
          · exact congrArg (· + 1) (ih t hs)
          · cases hs
    exact fun D q => ⟨len r1 hs, q _ Hf1 H1 (Ex.refl _) (co1.stores hio r1 hs)⟩
theorem ds_par (hc : X.calm = true) (hN : X.N.Nodup) (hi : X.N[i]? = some x) (hj : X.N[j]? = some y) (hij : i ≠ j) (hx : X.env.scope.names.lookup x = some .local) (hy : X.env.scope.names.lookup y = some .local) (hio : F.io = none ∨ 0 ∉ [i, j])
    (hw : swappedStores [.Tuple [.Name x px, .Name y py] kt pt] (.Tuple [a, b] k2 pt2) X.env = pure (some [x, y])) (hs : swapsWithSole [.Tuple [.Name x px, .Name y py] kt pt] (.Tuple [a, b] k2 pt2) pos.line X.env = pure false)
    (h : DAE X F rx cal [a, b] ms) : DS X F rx cal (.Assign [.Tuple [.Name x px, .Name y py] kt pt] (.Tuple [a, b] k2 pt2) pos) (sPar [i, j] ms) := fun σ g Hf H co =>
  par_post hio co h fun D q => wS_of (ps_par hc hN hi hj hij hx hy pa_w hw hs) fun p pins s I => thn (q p pins s I) fun us s1 ⟨vs, H1, I1, r, hl, q1⟩ => by
    match vs, hl, q1, r with
    | [u, v], _, q1, r => exact ⟨[u, v], H1, I1, r, u, v, rfl, q1⟩
theorem ds_par3 (hc : X.calm = true) (hN : X.N.Nodup) (hi : X.N[i]? = some x) (hj : X.N[j]? = some y) (hl : X.N[l]? = some z) (hij : i ≠ j) (hil : i ≠ l) (hjl : j ≠ l) (hx : X.env.scope.names.lookup x = some .local) (hy : X.env.scope.names.lookup y = some .local) (hz : X.env.scope.names.lookup z = some .local) (hio : F.io = none ∨ 0 ∉ [i, j, l])
    (hw : swappedStores [.Tuple [.Name x px, .Name y py, .Name z pz] kt pt] (.Tuple [a, b, c] k2 pt2) X.env = pure (some [x, y, z])) (hs : swapsWithSole [.Tuple [.Name x px, .Name y py, .Name z pz] kt pt] (.Tuple [a, b, c] k2 pt2) pos.line X.env = pure false)
    (h : DAE X F rx cal [a, b, c] ms) : DS X F rx cal (.Assign [.Tuple [.Name x px, .Name y py, .Name z pz] kt pt] (.Tuple [a, b, c] k2 pt2) pos) (sPar [i, j, l] ms) := fun σ g Hf H co =>
  par_post hio co h fun D q => wS_of (ps_par3 hc hN hi hj hl hij hil hjl hx hy hz pa_w hw hs) fun p pins s I => thn (q p pins s I) fun us s1 ⟨vs, H1, I1, r, hl, q1⟩ => by
    match vs, hl, q1, r with
    | [u, v, w], _, q1, r => exact ⟨[u, v, w], H1, I1, r, u, v, w, rfl, q1⟩
/-! ### x += e, x -= e -/
def augD (op : Operator) (a b : D) : Option D := match op, a, b with
  | .Add, .int i, .int j => some (.int (i + j))
  | .Sub, .int i, .int j => some (.int (i - j))
  | _, _, _ => none
def sAug (op : Operator) (i : Nat) (m : M D) : MS := fun c g => match g[i]? with
  | some (.val d) => (match m c g with
    | .ok y g1 => (match augD op d y with
      | some z => if i < g1.length then .nx (g1.set i (.val z)) else .bad
      | none => .bad)
    | .exc x g1 => .exc x g1
    | .bad => .bad)
  | _ => .bad
theorem ds_aug {op : Operator} {e : Expr} {m : M D} (hN : X.N.Nodup) (hi : X.N[i]? = some x) (hx : Loc X.env.scope x) (hf : X.fn x = true ∨ X.env.scope.names.lookup x = some .local) (hio : F.io = none ∨ i ≠ 0) (h : DD X F rx cal e m) :
    DS X F rx cal (.AugAssign (.Name x px) op e pos) (sAug op i m) := fun σ g Hf H co => by
  unfold sAug
  cases hg : g[i]? with
  | none => trivial
  | some sl =>
    cases sl with
    | no => trivial
    | own d => trivial
    | val d =>
      dsimp only
      obtain ⟨v, hv, rv⟩ := co.val i d hg
      have k := h σ g Hf H co
      cases hm : m cal g with
      | bad => trivial
      | exc y g1 =>
        rw [hm] at k
        intro W D tk q
        have key : wE X e σ H (fun y H1 => D.nx (σ.set i (some y)) H1) → True := fun _ => trivial
        cases d with
        | int a =>
          cases rv
          cases op with
          | Add => exact wS_of (ps_aug hN hi hx pe_w ip_add hf) ⟨_, hv, k W _ tk fun c dx Hf' H' e' co' r' => q c dx σ Hf' H' e' co' r'⟩
          | _ => exact wS_of (ps_aug (ti := fun _ _ _ _ => False) hN hi hx pe_w (fun _ _ _ _ _ _ _ _ _ _ _ _ z => z.elim) hf) ⟨_, hv, k W _ tk fun c dx Hf' H' e' co' r' => q c dx σ Hf' H' e' co' r'⟩
        | _ => exact wS_of (ps_aug (ti := fun _ _ _ _ => False) hN hi hx pe_w (fun _ _ _ _ _ _ _ _ _ _ _ _ z => z.elim) hf) ⟨_, hv, k W _ tk fun c dx Hf' H' e' co' r' => q c dx σ Hf' H' e' co' r'⟩
      | ok y g1 =>
        rw [hm] at k
        dsimp only
        cases ha : augD op d y with
        | none => trivial
        | some z =>
          dsimp only
          by_cases hlt : i < g1.length
          · rw [if_pos hlt]
            intro D q
            unfold augD at ha
            split at ha
            · cases ha; cases rv
              refine wS_of (ps_aug hN hi hx pe_w ip_add hf) ⟨_, hv, k _ fun u Hf' H' e' co' r' => ?_⟩
              cases r'
              exact ⟨_, _, rfl, rfl, q _ Hf' H' e' (co'.store (en := .val (.int _)) (.int _) hlt hio)⟩
            · cases ha; cases rv
              refine wS_of (ps_aug hN hi hx pe_w ip_sub hf) ⟨_, hv, k _ fun u Hf' H' e' co' r' => ?_⟩
              cases r'
              exact ⟨_, _, rfl, rfl, q _ Hf' H' e' (co'.store (en := .val (.int _)) (.int _) hlt hio)⟩
            · cases ha
          · rw [if_neg hlt]
            trivial
end
end Wb

set_option Elab.async false
set_option linter.all false
set_option maxRecDepth 100000
set_option maxHeartbeats 4000000
/-! Wb: negative numbers, new dicts, names of the module, subscripts and tests at a name of ours. -/
namespace Wb
open PySem PySem.Spec PyProof.Rows L2
def negD : D → Option D
  | .int i => some (.int (-i))
  | _ => none
def mNeg (m : M D) : M D := bnd m fun d => lift (negD d)
def mDic0 : M Ent := ret (.own (.dic []))
section
variable {X : Cx} {F : Fx} {rx : RX} {cal : Cal} {a b : Expr} {m ma mb : M D} {pos px : Pos} {x : Str}
theorem dd_neg (h : DD X F rx cal a m) : DD X F rx cal (.UnaryOp .USub a pos) (mNeg m) := fun σ g Hf H co => by
  refine one (wk := fun x H1 Q => ∃ i, x = .int i ∧ Q (.int (-i)) H1) h co (fun x da c g' Hf' H' _ co' r hc => ?_) fun Q q => wE_of (pe_un un_neg pe_w) q
  cases da with
  | int i => cases hc; cases r; exact Post.ok co' (.int _) fun Q q => ⟨_, rfl, q⟩
  | _ => cases hc
theorem de_dnew : DE X F rx cal (.Dict [] [] pos) mDic0 := fun σ g Hf H co Q q => wE_of pe_dnewK fun p hp => by
  obtain ⟨d1, d2, d3, d4, d5⟩ := co.away hp
  exact q _ Hf _ (Ex.refl _) (co.newOwn hp _) ⟨p, rfl, d1, d2, d3, d4, d5, [], upd_same, rfl, .nil⟩
theorem dd_glob {u : Value} {v : V} {d : D} (hg : Gl X x) (hm : X.mg x = some u) (r : RelV v u) (hd : (x == ("__debug__" : Str)) = false) (rp : ∀ Hf, Rp F.R Hf v d) : DD X F rx cal (.Name x pos) (mK d) := fun σ g Hf H co =>
  Post.ok co (rp Hf) fun Q q => wE_of (pe_glob hg hm r hd) q
/-! ### a subscript of a name's dict -/
theorem wX_dict {b : Expr} {a0 : Addr} {y v : V} {H : Hp} {Q : VK} (hu : X.A.units + 64 < cLine) (hp : NoSl b) (g : DGet H a0 y (some v)) (q : Q v H) : wX X b (.ref a0) y H Q := fun value pins s σ w u I rx ry => by
  obtain rfl : w = Value.ref a0 := rx
  have hT := dict_typeIs I g
  unfold subscriptTail
  refine wpAny_bind ?_
  rw [getitemInPython_of_ne hT.not_modules]
  refine wpAny_bind (wpAny_specialOf hT PySem.F.slot_dict_getitem.lookup ?_)
  have fin : wpAny (model X.prog X.w) X.A (subscripted b false (.ref a0) u) (fun r s₃ => wpAny (model X.prog X.w) X.A (letTemporaryGo value (.ref a0) r >>= fun _ => pure r) (EP X pins σ Q) X.xe s₃) X.xe s := by
    rw [hp (.ref a0) u]
    refine wpAny_operating (d_getItem (by omega) I g ry fun w' s3 I3 rw' => wpAny_bind (wpAny_letTemporaryGo (wpAny_pure ⟨v, H, I3, rw', q⟩)))
  first
    | exact wpAny_pure (wpAny_bind fin)
    | exact wpAny_bind (wpAny_pure (wpAny_bind fin))
    | exact wpAny_bind fin
def subW (d k : D) : Option D := match d with
  | .dic kvs => (keyOf? k).bind (getK kvs)
  | _ => subD' d k
def mSubW (i : Nat) (mb : M D) : M D := mSlot i mb subW
theorem keys_len {ks : List (Key × V)} {kvs : List (D × D)} (h : ks.map (fun q => keyD q.1) = kvs.map (·.1)) : ks.length = kvs.length := by
  have := congrArg List.length h
  rw [List.length_map, List.length_map] at this
  exact this
theorem dd_subW {i : Nat} (hu : X.A.units + 64 < cLine) (hK : F.R.K = X.K) (hp : plainIx b = true) (hN : X.N[i]? = some x) (hv : Vis X.env.scope x) (hd : (x == ("__debug__" : Str)) = false) (hcd : (x == ("__classdict__" : Str)) = false) (hb : DD X F rx cal b mb) :
    DD X F rx cal (.Subscript (.Name x px) b pos) (mSubW i mb) := fun σ g Hf H co => by
  refine slot_two (wk := fun v y H2 Q => wX X b v y H2 Q) hb co (fun x y da db c g' Hf' H' _ co' a1 r2 hc => ?_) fun v Q hσ q => wE_of pe_wx (wE_of (pe_var hN hv hd hcd) ⟨v, hσ, q⟩)
  cases a1 with
  | val r1 =>
    cases da with
    | dic kvs => cases r1
    | _ => exact sub_ok' hK (plainIx_ok hp) co' r1 r2 hc
  | lst e h r =>
    subst e
    cases db with
    | int j =>
      obtain ⟨v, k7, k8⟩ := atI_rps r (show atZ _ j = some c from hc)
      cases r2
      exact Post.ok co' k8 fun Q q => wX_of ix_list (plainIx_ok hp) ⟨_, _, _, v, rfl, rfl, .inl (.inl h), k7, q⟩
    | _ => cases hc
  | dic e h =>
    subst e
    obtain ⟨ks, h1, h2, h3⟩ := h
    obtain ⟨k, e1, e2⟩ := Option.bind_eq_some_iff.mp hc
    obtain rfl := rp_key r2 e1
    rcases key_get k h2 h3 with ⟨v, d, e3, e4, e5⟩ | ⟨_, e4⟩
    · rw [e2] at e4
      cases e4
      exact Post.ok co' e5 fun Q q => wX_dict hu (noSl_of hp) (by rw [← e3]; exact DGet.k h1) q
    · rw [e2] at e4
      cases e4
/-! ### tests at a name of ours -/
/-- what a thing reads as, owned or not -/
theorem At.dp {F : Fx} {σ : L2.St} {g : Env'} {Hf H : Hp} {n : Nat} {v : V} {d : D} (co : Co F σ g Hf H) (h : okD n d = true) (a : At F Hf H v d) : Dp F.R.K H v (toP d) := by
  cases a with
  | val r => exact Rp.dp h (r.mono co.ex)
  | @lst p vs ds e hp r =>
    subst e
    cases n with
    | zero => simp [okD] at h
    | succ n =>
      rw [okD] at h
      rw [toP]
      exact Dp.lst (show SqL F.R.K H p vs from .inl (.inl hp)) (Rps.dp h (r.mono co.ex))
  | dic e hp => cases n <;> simp [okD] at h
def inW (x y : D) : Option Bool := match y with
  | .dic kvs => (keyOf? x).map fun k => (getK kvs k).isSome
  | .lst ys => if okD dp x && okDs dp ys then some (memD x ys) else none
  | d => inD x d
/-- x in name, x not in name -/
def mInV (neg : Bool) (i : Nat) (ma : M D) : M Bool := bnd ma fun x => fun _ g => match ((g[i]?).bind slotD).bind (inW x) with
  | some k => .ok (if neg then !k else k) g
  | none => .bad
theorem inW_ok {σ : L2.St} {g : Env'} {Hf H : Hp} {x y : V} {da db : D} {k : Bool} (neg : Bool) (hu : X.A.units + 64 < cLine) (hK : F.R.K = X.K) (co : Co F σ g Hf H) (r1 : Rp F.R Hf x da) (r2 : At F Hf H y db) (h : inW da db = some k) : ∀ Q : VK, Q (.bl (if neg then !k else k)) H → wO X (compareOp (if neg then .NotIn else .In)) x y H Q := by
  intro Q q
  unfold inW at h
  split at h
  · rename_i kvs
    obtain ⟨key, e1, e2⟩ := Option.map_eq_some_iff.mp h
    obtain rfl := rp_key r1 e1
    cases r2 with
    | val r => cases r
    | dic e hp =>
      subst e
      obtain ⟨ks, h1, h2, h3⟩ := hp
      have hg : (valV ks key).isSome = k := by
        rw [← e2]
        rcases key_get key h2 h3 with ⟨v, d, e3, e4, _⟩ | ⟨e3, e4⟩ <;> rw [e3, e4] <;> rfl
      intro pins s σ' v u I rx ry
      obtain rfl : u = Value.ref _ := ry
      cases neg with
      | true => exact d_notIn (by omega) I (DGet.k h1) rx fun s' I' => ⟨.bl _, H, I', rfl, by rw [hg]; exact q⟩
      | false => exact d_in (by omega) I (DGet.k h1) rx fun s' I' => ⟨.bl _, H, I', rfl, by rw [hg]; exact q⟩
  · rename_i ys
    split at h
    · cases h
      rename_i hc
      rw [Bool.and_eq_true] at hc
      rw [← any_toPs _ _ hc.1 _ _ hc.2] at q
      have e1 := Rp.dp hc.1 (r1.mono co.ex)
      have e2 := r2.dp (n := dp + 1) co (by rw [okD]; exact hc.2)
      rw [hK] at e1 e2
      rw [toP] at e2
      intro pins s σ' v u I rx ry
      obtain ⟨as, q1⟩ := Dp.reads I _ x v e1 rx
      obtain ⟨bs, q2⟩ := Dp.reads I _ y u e2 ry
      obtain ⟨c1, c2⟩ := okD_can hc.1
      obtain ⟨c3, c4⟩ := okDs_can hc.2
      cases neg with
      | true => exact SeqAt.notIn_list_reads q2 q1 c3 c1 (by have : dp = 30 := rfl; omega) ⟨.bl _, H, I, rfl, q⟩
      | false => exact SeqAt.in_list_reads q2 q1 c3 c1 (by have : dp = 30 := rfl; omega) ⟨.bl _, H, I, rfl, q⟩
    · cases h
  · rename_i n1 n2
    cases r2 with
    | val r =>
      cases neg with
      | true => exact notin_ok hu hK co r1 r h Q q
      | false => exact in_ok hu hK co r1 r h Q q
    | lst e hp r => exact absurd rfl (n2 _)
    | dic e hp => exact absurd rfl (n1 _)
theorem dc_inV {i : Nat} {neg : Bool} (hu : X.A.units + 64 < cLine) (hK : F.R.K = X.K) (hm : behindInMarks (if neg then CmpOp.NotIn else .In) (.Name x px) = false) (hN : X.N[i]? = some x) (hv : Vis X.env.scope x) (hd : (x == ("__debug__" : Str)) = false) (hcd : (x == ("__classdict__" : Str)) = false) (ha : DD X F rx cal a ma) :
    DC X F rx cal (.Compare a [if neg then .NotIn else .In] [.Name x px] pos) (mInV neg i ma) := by
  have core : ∀ {σ : L2.St} {g : Env'} {Hf H : Hp} (co : Co F σ g Hf H), Post X F rx σ Hf relB (mInV neg i ma cal g) (fun Q => wE X a σ H (fun x H1 => ∃ v, σ[i]? = some (some v) ∧ wO X (compareOp (if neg then CmpOp.NotIn else .In)) x v H1 fun z H3 => ∃ k, z = .bl k ∧ Q k H3)) := by
    intro σ g Hf H co
    refine Post.bind (w2 := fun x H1 Q => ∃ v, σ[i]? = some (some v) ∧ wO X (compareOp (if neg then CmpOp.NotIn else .In)) x v H1 fun z H3 => ∃ k, z = .bl k ∧ Q k H3) (ha σ g Hf H co) (fun da g1 x Hf1 H1 _ e1 co1 r1 => ?_) fun Q q => q
    show Post X F rx σ Hf1 relB (match ((g1[i]?).bind slotD).bind (inW da) with | some k => .ok (if neg then !k else k) g1 | none => .bad) _
    cases h0 : (g1[i]?).bind slotD with
    | none => trivial
    | some db =>
      obtain ⟨v, hv1⟩ := co1.at h0
      have a1 := co1.atSlot h0 hv1
      rw [Option.bind_some]
      cases hk : inW da db with
      | none => trivial
      | some k =>
        exact Post.ok co1 rfl fun Q q => ⟨v, hv1, inW_ok neg hu hK co1 r1 a1 hk _ ⟨_, rfl, q⟩⟩
  refine ⟨fun σ g Hf H co => ?_, fun σ g Hf H co => ?_⟩
  · refine bl_map (g := g) (core co) fun Q q => wE_of (pe_cmpR or_w pe_w (pe_var hN hv hd hcd) hm) ?_
    intro pins s I
    refine thn (q pins s I) fun v s1 ⟨x, H1, I1, r1, u, hu1, q1⟩ => ⟨x, H1, I1, r1, u, hu1, fun pins s σ' v u I rx ry => ?_⟩
    exact thn (q1 pins s σ' v u I rx ry) fun v s1 ⟨x, H1, I1, r1, k, e, q1⟩ => ⟨x, H1, I1, r1, by rw [e]; exact q1⟩
  · exact (core co).imp fun Q q => wT_of (pt_cmpR or_w pe_w (pe_var hN hv hd hcd) hm) q
/-- name == b, name != b with a thing of ours -/
def eqW (neg : Bool) (x y : D) : Option Bool := if okD dp x && okD dp y then some (if neg then !eqv x y else eqv x y) else none
def mEqV (neg : Bool) (i : Nat) (mb : M D) : M Bool := mSlot i mb (eqW neg)
theorem dc_eqV {i : Nat} {neg : Bool} (hu : X.A.units + 64 < cLine) (hK : F.R.K = X.K) (hm : behindInMarks (if neg then CmpOp.NotEq else .Eq) b = false) (hN : X.N[i]? = some x) (hv : Vis X.env.scope x) (hd : (x == ("__debug__" : Str)) = false) (hcd : (x == ("__classdict__" : Str)) = false) (hb : DD X F rx cal b mb) :
    DC X F rx cal (.Compare (.Name x px) [if neg then .NotEq else .Eq] [b] pos) (mEqV neg i mb) := by
  have core : ∀ {σ : L2.St} {g : Env'} {Hf H : Hp} (co : Co F σ g Hf H), Post X F rx σ Hf relB (mEqV neg i mb cal g) (fun Q => ∃ v, σ[i]? = some (some v) ∧ wE X b σ H (fun y H1 => wO X (compareOp (if neg then CmpOp.NotEq else .Eq)) v y H1 fun z H3 => ∃ k, z = .bl k ∧ Q k H3)) := by
    intro σ g Hf H co
    refine slot_two (wk := fun v y H1 Q => wO X (compareOp (if neg then CmpOp.NotEq else .Eq)) v y H1 fun z H3 => ∃ k, z = .bl k ∧ Q k H3) hb co (fun x y da db c g' Hf' H' _ co' a1 r2 hc => ?_) fun v Q hσ q => ⟨v, hσ, q⟩
    unfold eqW at hc
    split at hc
    · cases hc
      rename_i hc
      rw [Bool.and_eq_true] at hc
      have e1 := a1.dp co' hc.1
      have e2 := Rp.dp hc.2 (r2.mono co'.ex)
      rw [hK] at e1 e2
      cases neg with
      | true => exact Post.ok co' rfl fun Q q => wO_of (op_neD hu) ⟨_, _, e1, e2, okD_shaped hc.1 (by decide), okD_shaped hc.2 (by decide), by rw [eqv_toP hc.1 hc.2]; exact ⟨_, rfl, q⟩⟩
      | false => exact Post.ok co' rfl fun Q q => wO_of (op_eqD hu) ⟨_, _, e1, e2, okD_shaped hc.1 (by decide), okD_shaped hc.2 (by decide), by rw [eqv_toP hc.1 hc.2]; exact ⟨_, rfl, q⟩⟩
    · cases hc
  refine ⟨fun σ g Hf H co => ?_, fun σ g Hf H co => ?_⟩
  · refine bl_map (g := g) (core co) fun Q ⟨v0, hv0, q⟩ => wE_of (pe_cmpR or_w (pe_var hN hv hd hcd) pe_w hm) ⟨v0, hv0, ?_⟩
    intro pins s I
    refine thn (q pins s I) fun v s1 ⟨x, H1, I1, r1, q1⟩ => ⟨x, H1, I1, r1, fun pins s σ' v u I rx ry => ?_⟩
    exact thn (q1 pins s σ' v u I rx ry) fun v s1 ⟨x, H1, I1, r1, k, e, q1⟩ => ⟨x, H1, I1, r1, by rw [e]; exact q1⟩
  · exact (core co).imp fun Q ⟨v0, hv0, q⟩ => wT_of (pt_cmpR or_w (pe_var hN hv hd hcd) pe_w hm) ⟨v0, hv0, q⟩
end
end Wb

set_option Elab.async false
set_option linter.all false
set_option maxRecDepth 100000
set_option maxHeartbeats 4000000
/-! Wb: what a text is translated in. -/
namespace Wb
open PySem PySem.Spec PyProof.Rows L2
inductive GK where
  | fn (k n : Nat) | fio (k n : Nat) | cls (c : Nat) | dat (d : D)
structure Cc where
  N : List Str
  sc : Scope
  io : Bool
  calm : Bool
  top : Bool
  fnl : Option Scope
  glob : List (Str × GK)
  sub : Nat → Nat → Bool
def fnB (C : Cc) (x : Str) : Bool := match C.fnl with
  | none => true
  | some s => s.names.lookup x == some .cell
def bltNames : List Str := ["len", "isinstance", "all", "any", "sum", "max", "min", "int", "abs", "tuple", "list", "sorted", "set", "repr", "range", "zip", "enumerate", "bool", "str", "dict"]
def GlobOk (C : Cc) (X : Cx) (F : Fx) (rx : RX) (cal : Cal) (x : Str) : GK → Prop
  | .fn k n => ∃ f, X.mg x = some (.ref f) ∧ F.R.fa k = some f ∧ (C.calm = true → CalAt X F.R rx false n f (cal k))
  | .fio k n => ∃ f, X.mg x = some (.ref f) ∧ (C.calm = true → CalAt X F.R rx true n f (cal k))
  | .cls c => ∃ A, X.mg x = some (.ref A) ∧ PySem.W.excIn X.K A [.type "ValueError", .type "Exception", .type "BaseException", .type "object"] "ValueError.__new__" = true ∧ PySem.W.keepIn X.K (.ref A) = true ∧ Raises X (.ref A) ∧ (∀ H, rx ⟨c, .non⟩ (.ref A) none H) ∧
      ∀ y cls dx H, rx y cls dx H → PySem.W.exmOne X.K cls (.ref A) = some (C.sub y.c c)
  | .dat d => ∃ u v, X.mg x = some u ∧ RelV v u ∧ ∀ Hf, Rp F.R Hf v d
structure Ctx (C : Cc) (X : Cx) (F : Fx) (rx : RX) (cal : Cal) : Prop where
  N : X.N = C.N
  nd : X.N.Nodup
  sc : X.env.scope = C.sc
  fn : ∀ x, fnB C x = true → X.fn x = true
  io : C.io = false → F.io = none
  K : F.R.K = X.K
  calm : C.calm = true → X.calm = true
  hu : X.A.units + 64 < cLine
  gd : X.A.guards = some []
  glob : ∀ x g, C.glob.lookup x = some g → GlobOk C X F rx cal x g
  blt : ∀ x ∈ bltNames, X.mg x = none
  fv : C.calm = true → ∀ k f, F.R.fa k = some f → ∃ n, CalAt X F.R rx false n f (cal k)
  po : PassesOwn (model X.prog X.w) X.A X.env X.xe
  tr : C.top = true → X.stack = X.env :: X.outer ∧ X.env.frame = some X.env.locals
  knd : C.top = true → X.env.scope.kind = .function
/-! ### other places of the same text -/
def relS (scope sc : Scope) : Scope :=
  { scope with names := scope.names.map fun (n, k) => if (k == .free && sc.kind == .function && sc.names.lookup n == some .cell) then (n, .cell) else (n, k) }
def Cc.blk (C : Cc) (scope : Scope) : Cc := { C with sc := relS scope C.sc, fnl := some scope, top := false }
def Cc.suite (C : Cc) : Cc := { C with calm := false, top := false }
section
variable {C : Cc} {X : Cx} {F F' : Fx} {rx : RX} {cal : Cal}
theorem GlobOk.blk {scope : Scope} {x : Str} {g : GK} (hl : F'.like F) (s : Shared) (H : Hp) (c : Addr) (cl : List (Str × Addr)) (fp : List Addr) (h : GlobOk C X F rx cal x g) : GlobOk (C.blk scope) (blkOf X scope s H c cl fp) F' rx cal x g := by
  obtain ⟨h1, h2⟩ := hl
  cases g with
  | fn k n =>
    obtain ⟨f, a, b, d⟩ := h
    exact ⟨f, a, by rw [h1]; exact b, fun z => by rw [h1]; exact d z⟩
  | fio k n =>
    obtain ⟨f, a, d⟩ := h
    exact ⟨f, a, fun z => by rw [h1]; exact d z⟩
  | cls c' => exact h
  | dat d =>
    obtain ⟨u, v, a, b, d⟩ := h
    exact ⟨u, v, a, b, fun Hf => by rw [h1]; exact d Hf⟩
theorem Ctx.blk {scope : Scope} (c : Ctx C X F rx cal) (hl : F'.like F) (s : Shared) (H : Hp) (cc : Addr) (cl : List (Str × Addr)) (fp : List Addr) : Ctx (C.blk scope) (blkOf X scope s H cc cl fp) F' rx cal where
  N := c.N
  nd := c.nd
  sc := by
    show relabel scope X.env = relS scope C.sc
    rw [← c.sc]
    rfl
  fn := fun x h => h
  io := fun z => by rw [hl.2]; exact c.io z
  K := by rw [hl.1]; exact c.K
  calm := c.calm
  hu := c.hu
  gd := c.gd
  glob := fun x g h => (c.glob x g h).blk hl s H cc cl fp
  blt := c.blt
  fv := fun z k f h => by rw [hl.1] at h ⊢; exact c.fv z k f h
  po := PassesOwn.never
  tr := fun z => nomatch z
  knd := fun z => nomatch z
theorem Ctx.fx (c : Ctx C X F rx cal) (h1 : F'.R = F.R) (h2 : F'.io = F.io) : Ctx C X F' rx cal where
  N := c.N
  nd := c.nd
  sc := c.sc
  fn := c.fn
  io := fun z => by rw [h2]; exact c.io z
  K := by rw [h1]; exact c.K
  calm := c.calm
  hu := c.hu
  gd := c.gd
  glob := fun x g h => by
    have q := c.glob x g h
    cases g with
    | fn k n =>
      obtain ⟨f, a, b, d⟩ := q
      exact ⟨f, a, by rw [h1]; exact b, fun z => by rw [h1]; exact d z⟩
    | fio k n =>
      obtain ⟨f, a, d⟩ := q
      exact ⟨f, a, fun z => by rw [h1]; exact d z⟩
    | cls c' => exact q
    | dat d =>
      obtain ⟨u, v, a, b, d⟩ := q
      exact ⟨u, v, a, b, fun Hf => by rw [h1]; exact d Hf⟩
  blt := c.blt
  fv := fun z k f h => by rw [h1] at h ⊢; exact c.fv z k f h
  po := c.po
  tr := c.tr
  knd := c.knd
theorem Ctx.try' (c : Ctx C X F rx cal) (pn : List (Addr × Obj)) (xe : Value → Shared → Prop) (po : PassesOwn (model X.prog X.w) X.A X.env xe) : Ctx C (X.tr pn xe) F rx cal where
  N := c.N
  nd := c.nd
  sc := c.sc
  fn := c.fn
  io := c.io
  K := c.K
  calm := c.calm
  hu := c.hu
  gd := c.gd
  glob := fun x g h => by
    have q := c.glob x g h
    cases g <;> exact q
  blt := c.blt
  fv := c.fv
  po := po
  tr := c.tr
  knd := c.knd
theorem Ctx.suite' (c : Ctx C X F rx cal) (a : Addr) (pn : List (Addr × Obj)) : Ctx C.suite (X.suite a pn) F rx cal where
  N := c.N
  nd := c.nd
  sc := c.sc
  fn := c.fn
  io := c.io
  K := c.K
  calm := fun z => nomatch z
  hu := c.hu
  gd := c.gd
  glob := fun x g h => by
    have q := c.glob x g h
    cases g with
    | fn k n => obtain ⟨f, a, b, d⟩ := q; exact ⟨f, a, b, fun z => nomatch z⟩
    | fio k n => obtain ⟨f, a, d⟩ := q; exact ⟨f, a, fun z => nomatch z⟩
    | cls c' => exact q
    | dat d => exact q
  blt := c.blt
  fv := fun z => nomatch z
  po := PassesOwn.never
  tr := fun z => nomatch z
  knd := fun z => nomatch z
end
/-! ### checks -/
def sDebug : Str := "__debug__"
def sClassdict : Str := "__classdict__"
def chk (b : Bool) : Option (PLift (b = true)) := if h : b = true then some ⟨h⟩ else none
def isVis (sc : Scope) (x : Str) : Bool := match sc.names.lookup x with
  | some .local => true
  | some .cell => true
  | some .free => true
  | _ => false
def isLoc (sc : Scope) (x : Str) : Bool := match sc.names.lookup x with
  | some .local => true
  | some .cell => true
  | _ => false
def isGl (sc : Scope) (x : Str) : Bool := match sc.names.lookup x with
  | some .globalImplicit => true
  | _ => false
def isL (sc : Scope) (x : Str) : Bool := match sc.names.lookup x with
  | some .local => true
  | _ => false
theorem isVis_ok {sc : Scope} {x : Str} (h : isVis sc x = true) : Vis sc x := by
  unfold isVis at h
  unfold Vis
  split at h
  · exact .inl ‹_›
  · exact .inr (.inl ‹_›)
  · exact .inr (.inr ‹_›)
  · cases h
theorem isLoc_ok {sc : Scope} {x : Str} (h : isLoc sc x = true) : Loc sc x := by
  unfold isLoc at h
  split at h
  · exact .inl ‹_›
  · exact .inr ‹_›
  · cases h
theorem isGl_ok {sc : Scope} {x : Str} (h : isGl sc x = true) : sc.names.lookup x = some .globalImplicit := by
  unfold isGl at h
  split at h
  · assumption
  · cases h
theorem isL_ok {sc : Scope} {x : Str} (h : isL sc x = true) : sc.names.lookup x = some .local := by
  unfold isL at h
  split at h
  · assumption
  · cases h
def ixOf : List Str → Str → Option Nat
  | [], _ => none
  | y :: r, x => if (y == x) = true then some 0 else (ixOf r x).map (· + 1)
theorem ixOf_ok : ∀ {N : List Str} {x : Str} {i : Nat}, ixOf N x = some i → N[i]? = some x
  | y :: r, x, i, h => by
    rw [ixOf] at h
    split at h
    · cases h
      rename_i e
      rw [List.getElem?_cons_zero, eq_of_beq e]
    · obtain ⟨j, h1, rfl⟩ := Option.map_eq_some_iff.mp h
      rw [List.getElem?_cons_succ]
      exact ixOf_ok h1
/-- a name that is read at its slot -/
structure VarAt (C : Cc) (x : Str) (i : Nat) : Prop where
  ix : C.N[i]? = some x
  vis : Vis C.sc x
  d : (x == sDebug) = false
  cd : (x == sClassdict) = false
def varAt (C : Cc) (x : Str) : Option { i : Nat // VarAt C x i } := match h : ixOf C.N x with
  | some i => if h2 : isVis C.sc x = true ∧ (x == sDebug) = false ∧ (x == sClassdict) = false then some ⟨i, ixOf_ok h, isVis_ok h2.1, h2.2.1, h2.2.2⟩ else none
  | none => none
/-- a name that is stored at its slot -/
structure StoAt (C : Cc) (x : Str) (i : Nat) : Prop where
  ix : C.N[i]? = some x
  loc : Loc C.sc x
  fn : fnB C x = true ∨ C.sc.names.lookup x = some .local
  io : C.io = false ∨ i ≠ 0
def stoAt (C : Cc) (x : Str) : Option { i : Nat // StoAt C x i } := match h : ixOf C.N x with
  | some i => if h2 : isLoc C.sc x = true ∧ (fnB C x = true ∨ isL C.sc x = true) ∧ (C.io = false ∨ i ≠ 0) then some ⟨i, ixOf_ok h, isLoc_ok h2.1, h2.2.1.imp id isL_ok, h2.2.2⟩ else none
  | none => none
structure GlAt (C : Cc) (x : Str) : Prop where
  gl : C.sc.names.lookup x = some .globalImplicit
  d : (x == sDebug) = false
def glAt (C : Cc) (x : Str) : Option (PLift (GlAt C x)) := if h : isGl C.sc x = true ∧ (x == sDebug) = false then some ⟨isGl_ok h.1, h.2⟩ else none
section
variable {C : Cc} {X : Cx} {F : Fx} {rx : RX} {cal : Cal} {x : Str} {i : Nat}
theorem Ctx.v (c : Ctx C X F rx cal) (v : VarAt C x i) : X.N[i]? = some x ∧ Vis X.env.scope x := ⟨by rw [c.N]; exact v.ix, by rw [c.sc]; exact v.vis⟩
theorem Ctx.s (c : Ctx C X F rx cal) (v : StoAt C x i) : X.N[i]? = some x ∧ Loc X.env.scope x ∧ (X.fn x = true ∨ X.env.scope.names.lookup x = some .local) ∧ (F.io = none ∨ i ≠ 0) :=
  ⟨by rw [c.N]; exact v.ix, by rw [c.sc]; exact v.loc, v.fn.imp (c.fn x) fun z => by rw [c.sc]; exact z, v.io.imp c.io id⟩
theorem Ctx.g (c : Ctx C X F rx cal) (v : GlAt C x) : Gl X x := by
  show X.env.scope.names.lookup x = _
  rw [c.sc]
  exact v.gl
end
end Wb

set_option Elab.async false
set_option linter.all false
set_option maxRecDepth 100000
set_option maxHeartbeats 4000000
/-! Wb: expressions of the text as terms, each with its word. -/
namespace Wb
open PySem PySem.Spec PyProof.Rows L2
def QD (C : Cc) (e : Expr) := { m : M D // ∀ {X F rx cal}, Ctx C X F rx cal → DD X F rx cal e m }
def QO (C : Cc) (e : Expr) := { m : M Ent // ∀ {X F rx cal}, Ctx C X F rx cal → DE X F rx cal e m }
def QT (C : Cc) (e : Expr) := { m : M Bool // ∀ {X F rx cal}, Ctx C X F rx cal → DT X F rx cal e m }
def QB (C : Cc) (e : Expr) := { m : M Bool // ∀ {X F rx cal}, Ctx C X F rx cal → DD X F rx cal e (mBl m) }
def QA (C : Cc) (es : List Expr) := { m : M (List D) // noStars es = true ∧ ∀ {X F rx cal}, Ctx C X F rx cal → DA X F rx cal es m }
def QI (C : Cc) (tg e : Expr) := { m : M (List D) // ∀ {X F rx cal}, Ctx C X F rx cal → DI X F rx cal tg e m }
def QG (C : Cc) (e : Expr) := { t : Tg // ∀ {X F rx cal}, Ctx C X F rx cal → DG X F e t }
def QS (C : Cc) (s : Stmt) := { m : MS // ∀ {X F rx cal}, Ctx C X F rx cal → DS X F rx cal s m }
def QSs (C : Cc) (s : List Stmt) := { m : MS // ∀ {X F rx cal}, Ctx C X F rx cal → DSs X F rx cal s m }
structure Rec where
  E : ∀ C e, Option (QD C e)
  O : ∀ C e, Option (QO C e)
  T : ∀ C e, Option (QT C e)
  B : ∀ C e, Option (QB C e)
  I : ∀ C tg e, Option (QI C tg e)
  G : ∀ C e, Option (QG C e)
  S : ∀ C s, Option (QS C s)
  Ss : ∀ C s, Option (QSs C s)
def Rec.none : Rec := ⟨fun _ _ => .none, fun _ _ => .none, fun _ _ => .none, fun _ _ => .none, fun _ _ _ => .none, fun _ _ => .none, fun _ _ => .none, fun _ _ => .none⟩
section
variable (r : Rec) (C : Cc)
def argsQ : ∀ es : List Expr, Option (QA C es)
  | [] => some ⟨mNil, rfl, fun _ => da_nil⟩
  | e :: es => if hs : noStar e = true then (match r.E C e, argsQ es with
    | some ⟨m, h⟩, some ⟨ms, hn, hh⟩ => some ⟨mCons m ms, by unfold noStars at hn ⊢; rw [List.all_cons, hs, hn]; rfl, fun c => da_cons hs (h c) (hh c)⟩
    | _, _ => none) else none
def nameQ (x : Str) (pos : Pos) : Option (QD C (.Name x pos)) := match varAt C x with
  | some ⟨i, v⟩ => if hio : C.io = false ∨ i ≠ 0 then some ⟨mV i, fun c => dd_var (c.v v).1 (c.v v).2 (hio.imp c.io id) v.d v.cd⟩ else none
  | none => match glAt C x with
    | some ⟨g⟩ => (match h : C.glob.lookup x with
      | some (.dat d) => some ⟨mK d, fun c => by obtain ⟨u, v, a, b, e⟩ := c.glob x _ h; exact dd_glob (c.g g) a b g.d e⟩
      | some (.fn k n) => some ⟨mK (.fn k), fun c => by obtain ⟨f, a, b, _⟩ := c.glob x _ h; exact dd_glob (v := .ref f) (c.g g) a rfl g.d fun Hf => .fn b⟩
      | _ => none)
    | none => none
def constQ (k : Const) (j : Nat) (pos : Pos) : Option (QD C (.Constant k j pos)) := match k with
  | .int i => some ⟨mK (.int i), fun _ => dd_int⟩
  | .bool b => some ⟨mK (.bl b), fun _ => dd_bl⟩
  | .none => some ⟨mK .non, fun _ => dd_non⟩
  | .str s => some ⟨mK (.str s.cps.toList), fun _ => dd_str⟩
  | _ => none
def viaO (e : Expr) : Option (QD C e) := (r.O C e).map fun ⟨m, h⟩ => ⟨mD m, fun c => (h c).toD⟩
def viaB (e : Expr) : Option (QD C e) := (r.B C e).map fun ⟨m, h⟩ => ⟨mBl m, fun c => h c⟩
def subQ (a b : Expr) (pos : Pos) : Option (QD C (.Subscript a b pos)) := if hp : plainIx b = true then
    (match a with
    | .Name x px => (match varAt C x with
      | some ⟨i, v⟩ => (r.E C b).map fun ⟨m, h⟩ => ⟨mSubW i m, fun c => dd_subW c.hu c.K hp (c.v v).1 (c.v v).2 v.d v.cd (h c)⟩
      | none => match r.E C (.Name x px), r.E C b with
        | some ⟨ma, ha⟩, some ⟨mb, hb⟩ => some ⟨mSub ma mb, fun c => dd_sub c.K hp (ha c) (hb c)⟩
        | _, _ => none)
    | a => match r.E C a, r.E C b with
      | some ⟨ma, ha⟩, some ⟨mb, hb⟩ => some ⟨mSub ma mb, fun c => dd_sub c.K hp (ha c) (hb c)⟩
      | _, _ => none)
  else viaO r C _
/-- the names of built-in types -/
def tyQ (x : Str) : Option { T : TyW // bootBuiltins x = some (.type T.s) ∧ x ≠ "__name__" ∧ x ∈ bltNames } :=
  if h : (x == "int") = true then some ⟨.int, by rw [eq_of_beq h]; exact ⟨PyProof.Rows.boot_int, by decide, by decide⟩⟩
  else if h : (x == "bool") = true then some ⟨.bool, by rw [eq_of_beq h]; exact ⟨PyProof.Rows.boot_bool, by decide, by decide⟩⟩
  else if h : (x == "str") = true then some ⟨.str, by rw [eq_of_beq h]; exact ⟨PyProof.Rows.boot_str, by decide, by decide⟩⟩
  else if h : (x == "tuple") = true then some ⟨.tuple, by rw [eq_of_beq h]; exact ⟨PyProof.Rows.boot_tuple, by decide, by decide⟩⟩
  else if h : (x == "list") = true then some ⟨.list, by rw [eq_of_beq h]; exact ⟨PyProof.Rows.boot_list, by decide, by decide⟩⟩
  else if h : (x == "dict") = true then some ⟨.dict, by rw [eq_of_beq h]; exact ⟨PyProof.Rows.boot_dict, by decide, by decide⟩⟩
  else none
def isiQ (p : Pos) (e t : Expr) (pos : Pos) : Option (QD C (.Call (.Name "isinstance" p) [e, t] [] pos)) := match t with
  | .Name x px => match glAt C "isinstance", glAt C x, tyQ x, r.E C e with
    | some ⟨g⟩, some ⟨gx⟩, some ⟨T, hT⟩, some ⟨m, h⟩ => if hs : noStar e = true then
        some ⟨mIsi T m, fun c => dd_isi c.K (c.g g) (c.blt _ (by decide)) (c.g gx) (c.blt _ hT.2.2) hT.1 hT.2.1 gx.d hs (h c)⟩ else none
    | _, _, _, _ => none
  | _ => none
def lenQ (p : Pos) (e : Expr) (pos : Pos) : Option (QD C (.Call (.Name "len" p) [e] [] pos)) := match glAt C "len" with
  | some ⟨g⟩ => (match e with
    | .Name x px => (match varAt C x with
      | some ⟨i, v⟩ => some ⟨mLenV i, fun c => dd_lenV c.K (c.g g) (c.blt _ (by decide)) (c.v v).1 (c.v v).2 v.d v.cd⟩
      | none => viaO r C _)
    | .Call (.Name s p2) [a] [] q => if hs : (s == "set") = true then (match glAt C "set", r.E C a with
        | some ⟨g2⟩, some ⟨m, h⟩ => if hh : C.calm = true ∧ noStar a = true then some ⟨mLenSet m, fun c => by rw [eq_of_beq hs]; exact dd_lset (c.calm hh.1) c.K (c.g g) (c.blt _ (by decide)) (c.g g2) (c.blt _ (by decide)) hh.2 (h c)⟩ else none
        | _, _ => none) else viaO r C _
    | _ => viaO r C _)
  | none => none
def notSuper : Expr → Bool
  | .Call _ _ _ _ => false
  | _ => true
theorem notSuper_ok {o : Expr} {name : Str} {env : PySem.Env} {whole : Sem Value} (h : notSuper o = true) : attributeBase o name env whole = whole := by
  cases o <;> first | rfl | cases h
def callE (f : Expr) (es : List Expr) (pos : Pos) : Option (QD C (.Call f es [] pos)) := match f, es with
  | .Name n p, [e] => if h : (n == "len") = true then (lenQ r C p e pos).map fun ⟨m, k⟩ => ⟨m, fun c => by rw [eq_of_beq h]; exact k c⟩ else viaO r C _
  | .Name n p, [e, t] => if h : (n == "isinstance") = true then (isiQ r C p e t pos).map fun ⟨m, k⟩ => ⟨m, fun c => by rw [eq_of_beq h]; exact k c⟩ else viaO r C _
  | .Attribute o n apos, [e] => if h : (n == "join") = true then (match r.E C o, r.E C e with
      | some ⟨mo, ho⟩, some ⟨me, he⟩ => if hh : notSuper o = true ∧ noStar e = true ∧ (apos.endLine == pos.line) = true then
          some ⟨mJoin mo me, fun c => by rw [eq_of_beq h]; exact dd_join c.K hh.2.1 (notSuper_ok hh.1) hh.2.2 (ho c) (he c)⟩ else none
      | _, _ => none) else viaO r C _
  | f, es => viaO r C _
def stepE (e : Expr) : Option (QD C e) := match e with
  | .Constant k j pos => constQ C k j pos
  | .Name x pos => nameQ C x pos
  | .UnaryOp .USub a pos => (r.E C a).map fun ⟨m, h⟩ => ⟨mNeg m, fun c => dd_neg (h c)⟩
  | .UnaryOp .Not a pos => viaB r C _
  | .Compare a ops bs pos => viaB r C _
  | .BoolOp op vs pos => viaB r C _
  | .Subscript a b pos => subQ r C a b pos
  | .Call f es [] pos => callE r C f es pos
  | e => viaO r C e
/-! ### truths -/
def viaT (e : Expr) : Option (QB C e) := (r.E C e).map fun ⟨m, h⟩ => ⟨mTr m, fun c => dd_trbl (h c)⟩
/-- a comparison of two -/
def QC (C : Cc) (e : Expr) := { m : M Bool // ∀ {X F rx cal}, Ctx C X F rx cal → DC X F rx cal e m }
def cmp1 (a : Expr) (op : CmpOp) (b : Expr) (pos : Pos) : Option (QC C (.Compare a [op] [b] pos)) := match r.E C a, r.E C b with
  | some ⟨ma, ha⟩, some ⟨mb, hb⟩ => if hm : behindInMarks op b = false then some ⟨mCmp op ma mb, fun c => dc_cmp c.hu c.K hm (ha c) (hb c)⟩ else none
  | _, _ => none
def cmpIn (neg : Bool) (a b : Expr) (pos : Pos) : Option (QC C (.Compare a [if neg then .NotIn else .In] [b] pos)) := match b with
  | .Name x px => (match varAt C x, r.E C a with
    | some ⟨i, v⟩, some ⟨ma, ha⟩ => some ⟨mInV neg i ma, fun c => dc_inV c.hu c.K (by cases neg <;> rfl) (c.v v).1 (c.v v).2 v.d v.cd (ha c)⟩
    | _, _ => cmp1 r C a _ _ pos)
  | b => cmp1 r C a _ b pos
def cmpEq (neg : Bool) (a b : Expr) (pos : Pos) : Option (QC C (.Compare a [if neg then .NotEq else .Eq] [b] pos)) := match a with
  | .Name x px => (match varAt C x, r.E C b with
    | some ⟨i, v⟩, some ⟨mb, hb⟩ => if hm : behindInMarks (if neg then CmpOp.NotEq else .Eq) b = false then some ⟨mEqV neg i mb, fun c => dc_eqV c.hu c.K hm (c.v v).1 (c.v v).2 v.d v.cd (hb c)⟩ else none
    | _, _ => cmp1 r C _ _ b pos)
  | a => cmp1 r C a _ b pos
def cmpQ (a : Expr) (ops : List CmpOp) (bs : List Expr) (pos : Pos) : Option (QC C (.Compare a ops bs pos)) := match ops, bs with
  | [.In], [b] => cmpIn r C false a b pos
  | [.NotIn], [b] => cmpIn r C true a b pos
  | [.Eq], [b] => cmpEq r C false a b pos
  | [.NotEq], [b] => cmpEq r C true a b pos
  | [op], [b] => cmp1 r C a op b pos
  | [op, op'], [b, d] => (match r.E C a, r.E C b, r.E C d with
    | some ⟨ma, ha⟩, some ⟨mb, hb⟩, some ⟨md, hd⟩ => if hm : lastMarks [op, op'] [b, d] = false then some ⟨mChain op op' ma mb md, fun c => dc_chain c.hu c.K hm (ha c) (hb c) (hd c)⟩ else none
    | _, _, _ => none)
  | _, _ => none
def boolsB (op : BoolOp) (pos : Pos) : ∀ vs : List Expr, Option (QB C (.BoolOp op vs pos))
  | [] => none
  | [a] => (r.B C a).map fun ⟨m, h⟩ => ⟨m, fun c => dd_one (h c)⟩
  | a :: b :: rest => match r.B C a, boolsB op pos (b :: rest) with
    | some ⟨m, h⟩, some ⟨m2, h2⟩ => (match op with
      | .And => some ⟨mAnd m m2, fun c => dd_and (h c) (h2 c)⟩
      | .Or => some ⟨mOr m m2, fun c => dd_or (h c) (h2 c)⟩)
    | _, _ => none
def stepB (e : Expr) : Option (QB C e) := match e with
  | .Compare a ops bs pos => (cmpQ r C a ops bs pos).map fun ⟨m, h⟩ => ⟨m, fun c => (h c).1⟩
  | .UnaryOp .Not a pos => (r.B C a).map fun ⟨m, h⟩ => ⟨mNot m, fun c => dd_not (h c)⟩
  | .BoolOp op vs pos => boolsB r C op pos vs
  | e => viaT r C e
def QW (C : Cc) (e : Expr) := { m : M Bool // ∀ {X F rx cal}, Ctx C X F rx cal → DW X F rx cal e m }
def boolsW (op : BoolOp) (pos : Pos) : ∀ vs : List Expr, Option (QW C (.BoolOp op vs pos))
  | [] => none
  | [a] => (r.T C a).map fun ⟨m, h⟩ => ⟨m, fun c => (match op with
    | .And => dw_and1 (h c)
    | .Or => dw_or1 (h c))⟩
  | a :: b :: rest => match r.T C a, boolsW op pos (b :: rest) with
    | some ⟨m, h⟩, some ⟨m2, h2⟩ => (match op with
      | .And => some ⟨mAnd m m2, fun c => dw_and (h c) (h2 c)⟩
      | .Or => some ⟨mOr m m2, fun c => dw_or (h c) (h2 c)⟩)
    | _, _ => none
def plainTest : Expr → Bool
  | .UnaryOp .Not _ _ => false
  | .BoolOp _ _ _ => false
  | .IfExp _ _ _ _ => false
  | .Compare _ _ _ _ => false
  | _ => true
theorem plainTest_ok {e : Expr} {env : PySem.Env} (h : plainTest e = true) : ∀ whole, isTrue e env whole = (do let v ← whole; standAt e.pos; holding [v] (truthy v)) := fun whole => by
  cases e <;> first | rfl | (cases h; done) | skip
  case UnaryOp op a pos => cases op <;> first | rfl | cases h
def stepT (e : Expr) : Option (QT C e) := match e with
  | .Compare a ops bs pos => (cmpQ r C a ops bs pos).map fun ⟨m, h⟩ => ⟨m, fun c => (h c).2⟩
  | .UnaryOp .Not a pos => (r.T C a).map fun ⟨m, h⟩ => ⟨mNot m, fun c => dt_not (h c)⟩
  | .BoolOp op vs pos => (boolsW r C op pos vs).map fun ⟨m, h⟩ => ⟨m, fun c => dt_w (h c)⟩
  | e => if hp : plainTest e = true then (r.E C e).map fun ⟨m, h⟩ => ⟨mTr m, fun c => dt_val (h c) (plainTest_ok hp)⟩ else none
end
end Wb

set_option Elab.async false
set_option linter.all false
set_option maxRecDepth 100000
set_option maxHeartbeats 4000000
/-! Wb: what is walked, targets, comprehensions, values of ours. -/
namespace Wb
open PySem PySem.Spec PyProof.Rows L2
section
variable (r : Rec) (C : Cc)
/-! ### targets -/
def QGs (C : Cc) (es : List Expr) := { ts : List Tg // noStars es = true ∧ es.length = ts.length ∧ ∀ {X F rx cal}, Ctx C X F rx cal → DGs X F es ts }
def tgsQ : ∀ es : List Expr, Option (QGs C es)
  | [] => some ⟨[], rfl, rfl, fun _ => dgs_nil⟩
  | e :: es => if hs : noStar e = true then (match r.G C e, tgsQ es with
    | some ⟨t, h⟩, some ⟨ts, hn, hl, hh⟩ => some ⟨t :: ts, by unfold noStars at hn ⊢; rw [List.all_cons, hs, hn]; rfl, congrArg (· + 1) hl, fun c => dgs_cons hs (h c) (hh c)⟩
    | _, _ => none) else none
def stepG (e : Expr) : Option (QG C e) := match e with
  | .Name x px => (match stoAt C x with
    | some ⟨i, v⟩ => some ⟨.nm i, fun c => dg_name c.nd (c.s v).1 (c.s v).2.1 (c.s v).2.2.1 (c.s v).2.2.2⟩
    | none => none)
  | .Tuple es k pos => if hc : C.calm = true then (match tgsQ r C es with
    | some ⟨ts, hn, hl, h⟩ => some ⟨.tp ts, fun c => dg_tup (c.calm hc) c.K hn hl (h c)⟩
    | none => none) else none
  | _ => none
/-! ### what is walked -/
def rngQ (p : Pos) (es : List Expr) (tg : Expr) (pos : Pos) : Option (QI C tg (.Call (.Name "range" p) es [] pos)) := match glAt C "range" with
  | some ⟨g⟩ => (match es with
    | [a] => (match argsQ r C [a] with
      | some ⟨ms, hn, h⟩ => some ⟨mRng1 ms, fun c => di_rng1 (c.g g) (c.blt _ (by decide)) (by unfold noStars at hn; rw [List.all_cons, Bool.and_eq_true] at hn; exact hn.1) (h c)⟩
      | none => none)
    | [a, b] => (match argsQ r C [a, b] with
      | some ⟨ms, hn, h⟩ => some ⟨mRng2 ms, fun c => di_rng2 (c.g g) (c.blt _ (by decide)) (by unfold noStars at hn; rw [List.all_cons, Bool.and_eq_true] at hn; exact hn.1) (by unfold noStars at hn; rw [List.all_cons, List.all_cons, Bool.and_eq_true, Bool.and_eq_true] at hn; exact hn.2.1) (h c)⟩
      | none => none)
    | _ => none)
  | none => none
def viaI (tg e : Expr) : Option (QI C tg e) := (r.E C e).map fun ⟨m, h⟩ => ⟨mIter m, fun c => di_val c.K (h c)⟩
def stepI (tg e : Expr) : Option (QI C tg e) := match e with
  | .Call (.Name n p) es [] pos => if h : (n == "range") = true then (rngQ r C p es tg pos).map fun ⟨m, k⟩ => ⟨m, fun c => by rw [eq_of_beq h]; exact k c⟩ else viaI r C tg _
  | e => viaI r C tg e
/-! ### comprehensions -/
def ownOf (N : List Str) (scope : Scope) : List (Str × Nat) := scope.names.filterMap fun y => match y.2 with
  | .local => (ixOf N y.1).map fun i => (y.1, i)
  | .cell => (ixOf N y.1).map fun i => (y.1, i)
  | _ => none
def blkB (N : List Str) (sc scope : Scope) (own : List (Str × Nat)) : Bool :=
  decide (scope.kind = .function) && (scope.names.all (fun y => decide (scope.names.lookup y.1 = some y.2)) && (own.all (fun p => decide (N[p.2]? = some p.1)) &&
    (scope.names.all (fun y => match y.2 with
      | .free => decide (sc.names.lookup y.1 = some .cell) || decide (sc.names.lookup y.1 = some .free)
      | _ => true) &&
    scope.names.all (fun y => match y.2 with
      | .local => (own.any fun p => p.1 == y.1) || !(N.any fun z => z == y.1)
      | .cell => (own.any fun p => p.1 == y.1) || !(N.any fun z => z == y.1)
      | _ => true))))
theorem blkB_ok {N : List Str} {sc scope : Scope} {own : List (Str × Nat)} (h : blkB N sc scope own = true) : BlkOk N sc scope own := by
  unfold blkB at h
  rw [Bool.and_eq_true, Bool.and_eq_true, Bool.and_eq_true, Bool.and_eq_true, decide_eq_true_eq, List.all_eq_true, List.all_eq_true, List.all_eq_true, List.all_eq_true] at h
  obtain ⟨h1, h2, h3, h4, h5⟩ := h
  refine ⟨h1, fun y hy => of_decide_eq_true (h2 y hy), fun p hp => of_decide_eq_true (h3 p hp), fun y hy e => ?_, fun y hy e => ?_⟩
  · have q := h4 y hy
    rw [e] at q
    rw [Bool.or_eq_true, decide_eq_true_eq, decide_eq_true_eq] at q
    exact q
  · have q := h5 y hy
    have q2 : ((own.any fun p => p.1 == y.1) || !(N.any fun z => z == y.1)) = true := by
      rcases e with e | e <;> (rw [e] at q; exact q)
    rw [Bool.or_eq_true, List.any_eq_true, Bool.not_eq_true'] at q2
    rcases q2 with ⟨p, hp, hq⟩ | hn
    · exact .inl (List.mem_map.mpr ⟨p, hp, eq_of_beq hq⟩)
    · refine .inr fun hm => ?_
      have : (N.any fun z => z == y.1) = true := List.any_eq_true.mpr ⟨_, hm, beq_self_eq_true _⟩
      rw [hn] at this
      cases this
def notSet : Expr → Bool
  | .Set _ _ _ => false
  | _ => true
theorem notSet_ok {e : Expr} (h : notSet e = true) : ∀ env x, foldedSetIterable e env x = pure x := fun env x => by
  cases e <;> first | rfl | cases h
structure LC1 (C : Cc) (elt tg iter : Expr) (ifs : List Expr) (scope : Scope) where
  own : List (Str × Nat)
  t : Tg
  tt : M Bool
  me : M D
  mi : M (List D)
  cm : C.calm = true
  ok : BlkOk C.N C.sc scope own
  fs : ∀ env x, foldedSetIterable iter env x = pure x
  hi : ∀ {X F rx cal}, Ctx C X F rx cal → DI X F rx cal tg iter mi
  B : ∀ {X F rx cal}, Ctx C X F rx cal → BlkD X F rx cal scope tg ifs elt t tt me
  sl : ∀ j ∈ t.sl, j ∈ own.map (·.2)
  io : C.io = false ∨ 0 ∉ own.map (·.2)
def QTs (C : Cc) (ifs : List Expr) := { m : M Bool // ∀ {X F rx cal}, Ctx C X F rx cal → DTs X F rx cal ifs m }
def ifsQ (ifs : List Expr) : Option (QTs C ifs) := match ifs with
  | [] => some ⟨ret true, fun _ => dts_nil⟩
  | [c] => (r.T C c).map fun ⟨m, h⟩ => ⟨m, fun c => dts_one (h c)⟩
  | _ => none
def lc1 (elt tg iter : Expr) (ifs : List Expr) (scope : Scope) : Option (LC1 C elt tg iter ifs scope) :=
  match r.G (C.blk scope) tg, ifsQ r (C.blk scope) ifs, r.E (C.blk scope) elt, r.I C tg iter with
  | some ⟨t, ht⟩, some ⟨tt, htt⟩, some ⟨me, he⟩, some ⟨mi, hi⟩ =>
    if h : C.calm = true ∧ blkB C.N C.sc scope (ownOf C.N scope) = true ∧ notSet iter = true ∧ (∀ j ∈ t.sl, j ∈ (ownOf C.N scope).map (·.2)) ∧ (C.io = false ∨ 0 ∉ (ownOf C.N scope).map (·.2)) then
      some ⟨ownOf C.N scope, t, tt, me, mi, h.1, blkB_ok h.2.1, notSet_ok h.2.2.1, fun c => hi c, fun c => ⟨fun F' hl s H cc cl fp => ht (c.blk hl s H cc cl fp), fun F' hl s H cc cl fp => htt (c.blk hl s H cc cl fp), fun F' hl s H cc cl fp => he (c.blk hl s H cc cl fp)⟩, h.2.2.2.1, h.2.2.2.2⟩
    else none
  | _, _, _, _ => none
structure LC2 (C : Cc) (elt tg iter : Expr) (ifs : List Expr) (tg1 iter1 : Expr) (ifs1 : List Expr) (scope : Scope) where
  own : List (Str × Nat)
  vs1 : List Nat
  t : Tg
  tt : M Bool
  mi1 : M (List D)
  t1 : Tg
  tt1 : M Bool
  me : M D
  mi : M (List D)
  cm : C.calm = true
  ok : BlkOk C.N C.sc scope own
  fs : ∀ env x, foldedSetIterable iter env x = pure x
  fs1 : ∀ env x, foldedSetIterable iter1 env x = pure x
  hi : ∀ {X F rx cal}, Ctx C X F rx cal → DI X F rx cal tg iter mi
  B : ∀ {X F rx cal}, Ctx C X F rx cal → BlkD2 X F rx cal scope tg ifs tg1 iter1 ifs1 elt t tt mi1 t1 tt1 me
  sl : ∀ j ∈ t.sl, j ∈ own.map (·.2)
  sl1 : ∀ j ∈ t1.sl, j ∈ vs1
  hv : ∀ i ∈ vs1, i ∈ own.map (·.2)
  io : C.io = false ∨ 0 ∉ own.map (·.2)
def lc2 (elt tg iter : Expr) (ifs : List Expr) (tg1 iter1 : Expr) (ifs1 : List Expr) (scope : Scope) : Option (LC2 C elt tg iter ifs tg1 iter1 ifs1 scope) :=
  match r.G (C.blk scope) tg, ifsQ r (C.blk scope) ifs, r.I (C.blk scope) tg1 iter1, r.G (C.blk scope) tg1, ifsQ r (C.blk scope) ifs1, r.E (C.blk scope) elt, r.I C tg iter with
  | some ⟨t, ht⟩, some ⟨tt, htt⟩, some ⟨mi1, hi1⟩, some ⟨t1, ht1⟩, some ⟨tt1, htt1⟩, some ⟨me, he⟩, some ⟨mi, hi⟩ =>
    if h : C.calm = true ∧ blkB C.N C.sc scope (ownOf C.N scope) = true ∧ notSet iter = true ∧ notSet iter1 = true ∧ (∀ j ∈ t.sl, j ∈ (ownOf C.N scope).map (·.2)) ∧ (∀ j ∈ t1.sl, j ∈ (ownOf C.N scope).map (·.2)) ∧ (C.io = false ∨ 0 ∉ (ownOf C.N scope).map (·.2)) then
      some ⟨ownOf C.N scope, t1.sl, t, tt, mi1, t1, tt1, me, mi, h.1, blkB_ok h.2.1, notSet_ok h.2.2.1, notSet_ok h.2.2.2.1, fun c => hi c,
        fun c => ⟨fun F' hl s H cc cl fp => ht (c.blk hl s H cc cl fp), fun F' hl s H cc cl fp => htt (c.blk hl s H cc cl fp), fun F' hl s H cc cl fp => hi1 (c.blk hl s H cc cl fp), fun F' hl s H cc cl fp => ht1 (c.blk hl s H cc cl fp), fun F' hl s H cc cl fp => htt1 (c.blk hl s H cc cl fp), fun F' hl s H cc cl fp => he (c.blk hl s H cc cl fp)⟩,
        h.2.2.2.2.1, fun j hj => hj, h.2.2.2.2.2.1, h.2.2.2.2.2.2⟩
    else none
  | _, _, _, _, _, _, _ => none
def compO (elt : Expr) (gens : List Comprehension) (scope : Scope) (pos : Pos) : Option (QO C (.ListComp elt gens scope pos)) := match gens with
  | [⟨tg, iter, ifs, a⟩] => if ha : a = 0 then (lc1 r C elt tg iter ifs scope).map fun L => ⟨mLc L.mi L.t L.tt L.me (L.own.map (·.2)), fun {X F rx cal} c => by
      subst ha
      exact de_lc (c.calm L.cm) c.nd (by rw [c.N, c.sc]; exact L.ok) (fun x => L.fs _ x) (L.hi c) (L.B c) L.sl (L.io.imp c.io id)⟩ else none
  | [⟨tg, iter, ifs, a⟩, ⟨tg1, iter1, ifs1, b⟩] => if ha : a = 0 ∧ b = 0 then (lc2 r C elt tg iter ifs tg1 iter1 ifs1 scope).map fun L => ⟨mLc2 L.mi L.t L.tt L.mi1 L.t1 L.tt1 L.me (L.own.map (·.2)) L.vs1, fun {X F rx cal} c => by
      obtain ⟨ha, hb⟩ := ha
      subst ha
      subst hb
      exact de_lc2 (c.calm L.cm) c.nd (by rw [c.N, c.sc]; exact L.ok) (fun x => L.fs _ x) L.fs1 (L.hi c) (L.B c) L.sl L.sl1 L.hv (L.io.imp c.io id)⟩ else none
  | _ => none
/-! ### calls -/
structure BF (C : Cc) where
  nm : Str
  v : Value
  f : List D → Option Ent
  kind : (∃ id, v = .builtin id) ∨ ∃ T, v = .type T
  ok : C.calm = true → ∀ {X F rx cal}, Ctx C X F rx cal → BltOk X F rx v f
  boot : bootBuiltins nm = some v
  nn : nm ≠ "__name__"
  mem : nm ∈ bltNames
def bfs : List (BF C) :=
  [⟨"all", .builtin "all", bAll, .inl ⟨_, rfl⟩, fun h _ _ _ _ c => blt_all (c.calm h) c.K, PyProof.Rows.boot_all, by decide, by decide⟩,
   ⟨"any", .builtin "any", bAny, .inl ⟨_, rfl⟩, fun h _ _ _ _ c => blt_any (c.calm h) c.K, PyProof.Rows.boot_any, by decide, by decide⟩,
   ⟨"tuple", .type "tuple", bTuple, .inr ⟨_, rfl⟩, fun h _ _ _ _ c => blt_tuple c.K, PyProof.Rows.boot_tuple, by decide, by decide⟩,
   ⟨"len", .builtin "len", bLen, .inl ⟨_, rfl⟩, fun h _ _ _ _ c => blt_len c.K, PySem.boot_len, by decide, by decide⟩,
   ⟨"int", .type "int", bInt, .inr ⟨_, rfl⟩, fun h _ _ _ _ c => blt_int, PyProof.Rows.boot_int, by decide, by decide⟩,
   ⟨"abs", .builtin "abs", bAbs, .inl ⟨_, rfl⟩, fun h _ _ _ _ c => blt_abs, PyProof.Rows.boot_abs, by decide, by decide⟩,
   ⟨"sum", .builtin "sum", bSum, .inl ⟨_, rfl⟩, fun h _ _ _ _ c => blt_sum (c.calm h) c.K, PyProof.Rows.boot_sum, by decide, by decide⟩,
   ⟨"max", .builtin "max", bMax, .inl ⟨_, rfl⟩, fun h _ _ _ _ c => blt_max (c.calm h) c.K, PyProof.Rows.boot_max, by decide, by decide⟩,
   ⟨"min", .builtin "min", bMin, .inl ⟨_, rfl⟩, fun h _ _ _ _ c => blt_min (c.calm h) c.K, PyProof.Rows.boot_min, by decide, by decide⟩,
   ⟨"list", .type "list", bList, .inr ⟨_, rfl⟩, fun h _ _ _ _ c => blt_list c.K, PyProof.Rows.boot_list, by decide, by decide⟩,
   ⟨"sorted", .builtin "sorted", bSorted, .inl ⟨_, rfl⟩, fun h _ _ _ _ c => blt_sorted c.hu c.K, PyProof.Rows.boot_sorted, by decide, by decide⟩,
   ⟨"repr", .builtin "repr", bRepr, .inl ⟨_, rfl⟩, fun h _ _ _ _ c => blt_repr c.hu c.gd c.K, PyProof.Rows.boot_repr, by decide, by decide⟩]
def findB : List (BF C) → (x : Str) → Option { b : BF C // b.nm = x }
  | [], _ => none
  | b :: l, x => if h : (b.nm == x) = true then some ⟨b, eq_of_beq h⟩ else findB l x
def setArg : List Expr → Option Expr
  | [.Call (.Name s _) [a] [] _] => if (s == "set") = true then some a else none
  | _ => none
def bltO (f : Str) (p : Pos) (es : List Expr) (pos : Pos) : Option (QO C (.Call (.Name f p) es [] pos)) := match es with
  | [] => none
  | e :: es => match findB C (bfs C) f, glAt C f, argsQ r C (e :: es) with
    | some ⟨b, hb⟩, some ⟨g⟩, some ⟨ms, hn, h⟩ => if hc : C.calm = true then some ⟨mBlt b.f ms, fun {X F rx cal} c => by
        subst hb
        have k := b.ok hc c
        have bt := b.boot
        rcases b.kind with ⟨id, e0⟩ | ⟨T, e0⟩
        · rw [e0] at k bt
          exact de_blt k (c.g g) (c.blt _ b.mem) bt b.nn g.d hn (h c)
        · rw [e0] at k bt
          exact de_bltT k (c.g g) (c.blt _ b.mem) bt b.nn g.d hn (h c)⟩ else none
    | _, _, _ => none
def ssetO (p : Pos) (a : Expr) (s : Str) (p2 q pos : Pos) : Option (QO C (.Call (.Name "sorted" p) [.Call (.Name s p2) [a] [] q] [] pos)) := if hs : (s == "set") = true then
    (match glAt C "sorted", glAt C "set", r.E C a with
    | some ⟨g⟩, some ⟨g2⟩, some ⟨m, h⟩ => if hh : C.calm = true ∧ noStar a = true then some ⟨mSortSet m, fun c => by rw [eq_of_beq hs]; exact de_sset (c.calm hh.1) c.hu c.K (c.g g) (c.blt _ (by decide)) (c.g g2) (c.blt _ (by decide)) hh.2 (h c)⟩ else none
    | _, _, _ => none) else bltO r C _ _ _ _
def callN (f : Str) (p : Pos) (es : List Expr) (pos : Pos) : Option (QO C (.Call (.Name f p) es [] pos)) := match glAt C f with
  | some ⟨g⟩ => (match h : C.glob.lookup f with
    | some (.fn k n) => if hc : C.calm = true then (match es with
      | [] => some ⟨mCall k mNil, fun {X F rx cal} c => by obtain ⟨a, hm, _, ca⟩ := c.glob f _ h; exact de_call0 (ca hc) (c.g g) hm g.d⟩
      | e :: es => (match argsQ r C (e :: es) with
        | some ⟨ms, hn, hh⟩ => some ⟨mCall k ms, fun {X F rx cal} c => by obtain ⟨a, hm, _, ca⟩ := c.glob f _ h; exact de_call (ca hc) (c.g g) hm g.d hn (hh c)⟩
        | none => none)) else none
    | some (.fio k n) => if hc : C.calm = true then (match es with
      | .Name y py :: es => (match varAt C y, argsQ r C es with
        | some ⟨i, v⟩, some ⟨ms, hn, hh⟩ => some ⟨mCallIo k i ms, fun {X F rx cal} c => by obtain ⟨a, hm, ca⟩ := c.glob f _ h; exact de_callIo (ca hc) (c.g g) hm g.d (c.v v).1 (c.v v).2 v.d v.cd hn (hh c)⟩
        | _, _ => none)
      | _ => none) else none
    | none => (match es with
      | [.Call (.Name s p2) [a] [] q] => if hf : (f == "sorted") = true then (ssetO r C p a s p2 q pos).map fun ⟨m, k⟩ => ⟨m, fun c => by rw [eq_of_beq hf]; exact k c⟩ else bltO r C f p _ pos
      | es => bltO r C f p es pos)
    | _ => none)
  | none => none
def callO (f : Expr) (es : List Expr) (pos : Pos) : Option (QO C (.Call f es [] pos)) := match f with
  | .Name f p => callN r C f p es pos
  | .Subscript a b p => (match es with
    | [] => none
    | e :: es => if hc : C.calm = true then (match r.E C (.Subscript a b p), argsQ r C (e :: es) with
      | some ⟨mf, hf⟩, some ⟨ms, hn, h⟩ => some ⟨mCallV mf ms, fun {X F rx cal} c => de_callV (c.fv hc) hn (hf c) (h c) rfl⟩
      | _, _ => none) else none)
  | _ => none
def toE (e : Expr) : Option (QO C e) := (r.E C e).map fun ⟨m, h⟩ => ⟨bnd m fun d => ret (.val d), fun c => (h c).toE⟩
def partQ (e : Option Expr) : Option { m : Option (M D) // ∀ {X F rx cal}, Ctx C X F rx cal → DPa X F rx cal e (mPart m) } := match e with
  | none => some ⟨none, fun _ => dpa_none⟩
  | some e => (r.E C e).map fun ⟨m, h⟩ => ⟨some m, fun c => dpa_some (h c)⟩
def sliceO (a : Expr) (lo hi : Option Expr) (p2 pos : Pos) : Option (QO C (.Subscript a (.Slice lo hi none p2) pos)) := match r.E C a, partQ r C lo, partQ r C hi with
  | some ⟨m, h⟩, some ⟨l, hl⟩, some ⟨u, hu⟩ => some ⟨mSlice m l u, fun c => de_slice c.K (h c) (hl c) (hu c)⟩
  | _, _, _ => none
def stepO (e : Expr) : Option (QO C e) := match e with
  | .BinOp a op b pos => (match r.E C a, r.E C b with
    | some ⟨ma, ha⟩, some ⟨mb, hb⟩ => some ⟨mBin op ma mb, fun c => de_bin c.K (ha c) (hb c)⟩
    | _, _ => none)
  | .Tuple es k pos => (argsQ r C es).map fun ⟨ms, _, h⟩ => ⟨mTup ms, fun c => de_tup (h c)⟩
  | .List es pos => (argsQ r C es).map fun ⟨ms, _, h⟩ => ⟨mLst ms, fun c => de_lst (h c)⟩
  | .Subscript a (.Slice lo hi none p2) pos => sliceO r C a lo hi p2 pos
  | .IfExp t a b pos => (match r.T C t, r.O C a, r.O C b with
    | some ⟨mt, ht⟩, some ⟨ma, ha⟩, some ⟨mb, hb⟩ => some ⟨mIf mt ma mb, fun c => de_if (ht c) (ha c) (hb c)⟩
    | _, _, _ => none)
  | .Dict [] [] pos => some ⟨mDic0, fun _ => de_dnew⟩
  | .ListComp elt gens scope pos => compO r C elt gens scope pos
  | .Call f es [] pos => (match callO r C f es pos with
    | some q => some q
    | none => toE r C _)
  | e => toE r C e
end
end Wb

set_option Elab.async false
set_option linter.all false
set_option maxRecDepth 100000
set_option maxHeartbeats 4000000
/-! Wb: statements of the text. -/
namespace Wb
open PySem PySem.Spec PyProof.Rows L2
def notComp : Expr → Bool
  | .ListComp _ _ _ _ => false
  | .SetComp _ _ _ _ => false
  | .DictComp _ _ _ _ _ => false
  | _ => true
theorem sw_none {e : Expr} {t : Option Expr} {line : Nat} {env : PySem.Env} (h : notComp e = true) : swapsWith e t line env = pure false := by
  cases e <;> first | rfl | cases h
def notName : Expr → Bool
  | .Name _ _ => false
  | _ => true
theorem sw_tgt {e t : Expr} {line : Nat} {env : PySem.Env} (h : notComp e = true ∨ notName t = true) : swapsWith e (some t) line env = pure false := by
  rcases h with h | h
  · exact sw_none h
  · cases e <;> first | rfl | (cases t <;> first | rfl | cases h)
def swB (sc : Scope) (x : Str) (xp : Pos) (cs : Scope) (cp : Pos) : Bool :=
  (if sc.kind.isAnnotationScope then ScopeKind.function else sc.kind) == .function && sc.names.lookup x == some .local && xp.line == cp.line && !(cs.names.any fun (n, k) => n == x && (k == .local || k == .cell))
theorem sw_lc {elt : Expr} {gens : List Comprehension} {cs : Scope} {cp xp : Pos} {x : Str} {line : Nat} {env : PySem.Env} : swapsWith (.ListComp elt gens cs cp) (some (.Name x xp)) line env = pure (swB env.scope x xp cs cp) := rfl
def blkK (sc : Scope) : ScopeKind := if sc.kind.isAnnotationScope then ScopeKind.function else sc.kind
def swA (sc : Scope) (ts vs : List Expr) : Bool := !(ts.length == 2 || ts.length == 3) || vs.length != ts.length || blkK sc != .function
def swSt (vs : List Expr) : Bool := vs.any fun | .Starred .. => true | _ => false
def swNm (sc : Scope) (ts : List Expr) : List Str := ts.filterMap fun
  | .Name id pos => if sc.names.lookup id == some .local && pos.line == (ts.head?.map (·.pos.line)).getD 0 then some id else none
  | _ => none
def swLn (ts : List Expr) (names : List Str) : Bool := names.length != ts.length || names.eraseDups.length != names.length
/-- which pairs of names are stored at once -/
def swOk (sc : Scope) (ts vs : List Expr) : Option (List Str) :=
  if !swA sc ts vs && (!swSt vs && (!swLn ts (swNm sc ts) && (!vs.all (foldedForSure 8) && !vs.all (constantsAlone 8)))) then some (swNm sc ts) else none
theorem not_tt {b : Bool} (h : (!b) = true) : ¬ b = true := by cases b <;> simp_all
theorem swOk_ok {ts vs : List Expr} {k k2 : Nat} {p p2 : Pos} {env : PySem.Env} {names : List Str} (h : swOk env.scope ts vs = some names) : swappedStores [.Tuple ts k p] (.Tuple vs k2 p2) env = pure (some names) := by
  unfold swOk at h
  by_cases hh : (!swA env.scope ts vs && (!swSt vs && (!swLn ts (swNm env.scope ts) && (!vs.all (foldedForSure 8) && !vs.all (constantsAlone 8))))) = true
  · rw [if_pos hh] at h
    cases h
    rw [Bool.and_eq_true, Bool.and_eq_true, Bool.and_eq_true, Bool.and_eq_true] at hh
    obtain ⟨h1, h2, h3, h4, h5⟩ := hh
    unfold swappedStores
    dsimp only
    refine (if_neg (show ¬ _ from not_tt h1)).trans ?_
    refine (if_neg (show ¬ _ from not_tt h2)).trans ?_
    refine (if_neg (show ¬ _ from not_tt h3)).trans ?_
    refine (if_neg (show ¬ _ from not_tt h4)).trans ?_
    exact (if_neg (show ¬ _ from not_tt h5)).trans rfl
  · rw [if_neg hh] at h
    cases h
/-- stored one behind another by the plain road -/
def swNo (sc : Scope) (t e : Expr) : Bool := match t, e with
  | .Tuple ts _ _, .Tuple vs _ _ => swA sc ts vs || (!swSt vs && (swLn ts (swNm sc ts) || vs.all (foldedForSure 8)))
  | .Tuple _ _ _, .Call _ _ _ _ => true
  | .Tuple _ _ _, .Name _ _ => true
  | .Tuple _ _ _, .Subscript _ _ _ => true
  | .Tuple _ _ _, .IfExp _ _ _ _ => true
  | .Name _ _, _ => true
  | _, _ => false
theorem swNo_ok {t e : Expr} {env : PySem.Env} (h : swNo env.scope t e = true) : swappedStores [t] e env = pure none := by
  unfold swNo at h
  split at h
  · rename_i ts _ _ vs _ _
    unfold swappedStores
    dsimp only
    by_cases h1 : swA env.scope ts vs = true
    · exact (if_pos h1).trans rfl
    · rw [Bool.or_eq_true, Bool.and_eq_true, Bool.or_eq_true] at h
      obtain ⟨h2, h3⟩ := h.resolve_left h1
      refine (if_neg h1).trans ?_
      refine (if_neg (show ¬ _ from not_tt h2)).trans ?_
      by_cases h4 : swLn ts (swNm env.scope ts) = true
      · exact (if_pos h4).trans rfl
      · refine (if_neg h4).trans ?_
        exact (if_pos (h3.resolve_left h4)).trans rfl
  · rfl
  · rfl
  · rfl
  · rfl
  · cases e <;> rfl
  · cases h
section
variable (r : Rec) (C : Cc)
def stmtsQ : ∀ ss : List Stmt, Option (QSs C ss)
  | [] => some ⟨sNil, fun _ => dss_nil⟩
  | s :: ss => match r.S C s, stmtsQ ss with
    | some ⟨m, h⟩, some ⟨n, k⟩ => some ⟨sSeq m n, fun c => dss_cons (h c) (k c)⟩
    | _, _ => none
def methS (x : Str) (px : Pos) (n : Str) (apos : Pos) (e : Expr) (cpos pos : Pos) : Option (QS C (.Expr (.Call (.Attribute (.Name x px) n apos) [e] [] cpos) pos)) := match varAt C x, r.E C e with
  | some ⟨i, v⟩, some ⟨m, h⟩ => if hh : noStar e = true ∧ (apos.endLine == cpos.line) = true then
      (if h1 : (n == "append") = true then some ⟨sUpd i isLst m appD, fun c => by rw [eq_of_beq h1]; exact ds_app (c.v v).1 (c.v v).2 v.d v.cd hh.1 hh.2 (h c)⟩
      else if h1 : (n == "extend") = true then some ⟨sUpd i isLst m extD, fun c => by rw [eq_of_beq h1]; exact ds_ext (c.v v).1 (c.v v).2 v.d v.cd hh.1 hh.2 (h c)⟩
      else none) else none
  | _, _ => none
def exprS (e : Expr) (pos : Pos) : Option (QS C (.Expr e pos)) := if hn : notComp e = true then (r.E C e).map fun ⟨m, h⟩ => ⟨sExpr m, fun c => ds_expr (sw_none hn) (h c)⟩ else none
/-- what a def hands out -/
def retQ : ∀ e : Expr, Option (QO C e)
  | .Name x pos => (match varAt C x with
    | some ⟨i, v⟩ => if hio : C.io = false ∨ i ≠ 0 then some ⟨mMove i, fun c => de_move (c.v v).1 (c.v v).2 (hio.imp c.io id) v.d v.cd⟩ else none
    | none => r.O C _)
  | .IfExp t a b pos => (match r.T C t, retQ a, retQ b with
    | some ⟨mt, ht⟩, some ⟨ma, ha⟩, some ⟨mb, hb⟩ => some ⟨mIf mt ma mb, fun c => de_if (ht c) (ha c) (hb c)⟩
    | _, _, _ => none)
  | e => r.O C e
def setSt (x : Str) (px : Pos) (e : Expr) (pos : Pos) : Option (QS C (.Assign [.Name x px] e pos)) := match stoAt C x with
  | none => none
  | some ⟨i, v⟩ => if hn : notComp e = true then (r.O C e).map fun ⟨m, h⟩ => ⟨sSet i m, fun c => ds_set c.nd (c.s v).1 (c.s v).2.1 (c.s v).2.2.1 (c.s v).2.2.2 (sw_none hn) (h c)⟩
    else (match e with
      | .ListComp elt gens scope cp => if hs : swB C.sc x px scope cp = true then
          (match gens with
          | [⟨tg, iter, ifs, a⟩] => if ha : a = 0 ∧ isL C.sc x = true then (lc1 r C elt tg iter ifs scope).map fun L => ⟨sSet i (mLc L.mi L.t L.tt L.me (L.own.map (·.2))), fun {X F rx cal} c => by
              obtain ⟨ha, hl⟩ := ha
              subst ha
              exact ds_setLc (c.calm L.cm) c.nd (c.s v).1 (by rw [c.sc]; exact isL_ok hl) (c.s v).2.2.2 (by rw [sw_lc, c.sc, hs]) (by rw [c.N, c.sc]; exact L.ok) (fun x => L.fs _ x) (L.hi c) (L.B c) L.sl (L.io.imp c.io id)⟩ else none
          | [⟨tg, iter, ifs, a⟩, ⟨tg1, iter1, ifs1, b⟩] => if ha : a = 0 ∧ b = 0 ∧ isL C.sc x = true then (lc2 r C elt tg iter ifs tg1 iter1 ifs1 scope).map fun L => ⟨sSet i (mLc2 L.mi L.t L.tt L.mi1 L.t1 L.tt1 L.me (L.own.map (·.2)) L.vs1), fun {X F rx cal} c => by
              obtain ⟨ha, hb, hl⟩ := ha
              subst ha
              subst hb
              exact ds_setLc2 (c.calm L.cm) c.nd (c.s v).1 (by rw [c.sc]; exact isL_ok hl) (c.s v).2.2.2 (by rw [sw_lc, c.sc, hs]) (by rw [c.N, c.sc]; exact L.ok) (fun x => L.fs _ x) L.fs1 (L.hi c) (L.B c) L.sl L.sl1 L.hv (L.io.imp c.io id)⟩ else none
          | _ => none)
        else if hs2 : swB C.sc x px scope cp = false then (r.O C (.ListComp elt gens scope cp)).map fun ⟨m, h⟩ => ⟨sSet i m, fun c => ds_set c.nd (c.s v).1 (c.s v).2.1 (c.s v).2.2.1 (c.s v).2.2.2 (by rw [sw_lc, c.sc, hs2]) (h c)⟩ else none
      | _ => none)
def QE (C : Cc) (es : List Expr) := { m : M (List Ent) // ∀ {X F rx cal}, Ctx C X F rx cal → DAE X F rx cal es m }
def entsQ : ∀ es : List Expr, Option (QE C es)
  | [] => some ⟨mNilE, fun _ => dae_nil⟩
  | e :: es => if hs : noStar e = true then (match r.O C e, entsQ es with
    | some ⟨m, h⟩, some ⟨ms, hh⟩ => some ⟨mConsE m ms, fun c => dae_cons hs (h c) fun F' h1 h2 => hh (c.fx h1 h2)⟩
    | _, _ => none) else none
def parS (ts vs : List Expr) (kt : Nat) (pt : Pos) (k2 : Nat) (pt2 pos : Pos) : Option (QS C (.Assign [.Tuple ts kt pt] (.Tuple vs k2 pt2) pos)) := match ts, vs with
  | [.Name x px, .Name y py], [a, b] => (match stoAt C x, stoAt C y, entsQ r C [a, b] with
    | some ⟨i, v⟩, some ⟨j, w⟩, some ⟨ms, h⟩ => if hh : C.calm = true ∧ i ≠ j ∧ isL C.sc x = true ∧ isL C.sc y = true ∧ (C.io = false ∨ 0 ∉ [i, j]) ∧ swOk C.sc [.Name x px, .Name y py] [a, b] = some [x, y] then
        some ⟨sPar [i, j] ms, fun {X F rx cal} c => ds_par (c.calm hh.1) c.nd (c.s v).1 (c.s w).1 hh.2.1 (by rw [c.sc]; exact isL_ok hh.2.2.1) (by rw [c.sc]; exact isL_ok hh.2.2.2.1) (hh.2.2.2.2.1.imp c.io id) (swOk_ok (by rw [c.sc]; exact hh.2.2.2.2.2)) rfl (h c)⟩ else none
    | _, _, _ => none)
  | [.Name x px, .Name y py, .Name z pz], [a, b, d] => (match stoAt C x, stoAt C y, stoAt C z, entsQ r C [a, b, d] with
    | some ⟨i, v⟩, some ⟨j, w⟩, some ⟨l, u⟩, some ⟨ms, h⟩ => if hh : C.calm = true ∧ i ≠ j ∧ i ≠ l ∧ j ≠ l ∧ isL C.sc x = true ∧ isL C.sc y = true ∧ isL C.sc z = true ∧ (C.io = false ∨ 0 ∉ [i, j, l]) ∧ swOk C.sc [.Name x px, .Name y py, .Name z pz] [a, b, d] = some [x, y, z] then
        some ⟨sPar [i, j, l] ms, fun {X F rx cal} c => ds_par3 (c.calm hh.1) c.nd (c.s v).1 (c.s w).1 (c.s u).1 hh.2.1 hh.2.2.1 hh.2.2.2.1 (by rw [c.sc]; exact isL_ok hh.2.2.2.2.1) (by rw [c.sc]; exact isL_ok hh.2.2.2.2.2.1) (by rw [c.sc]; exact isL_ok hh.2.2.2.2.2.2.1) (hh.2.2.2.2.2.2.2.1.imp c.io id) (swOk_ok (by rw [c.sc]; exact hh.2.2.2.2.2.2.2.2)) rfl (h c)⟩ else none
    | _, _, _, _ => none)
  | _, _ => none
def asgS (t e : Expr) (pos : Pos) : Option (QS C (.Assign [t] e pos)) := match r.G C t, r.E C e with
  | some ⟨tg, ht⟩, some ⟨m, h⟩ => if hh : (notComp e = true ∨ notName t = true) ∧ swNo C.sc t e = true ∧ noStar t = true then
      some ⟨sAsg tg m, fun {X F rx cal} c => ds_asg (ht c) (by show swapsWith e (some t) pos.line X.env = _; exact sw_tgt hh.1) (swNo_ok (by rw [c.sc]; exact hh.2.1)) hh.2.2 (h c)⟩ else none
  | _, _ => none
def putS (x : Str) (px : Pos) (ix : Expr) (sp : Pos) (e : Expr) (pos : Pos) : Option (QS C (.Assign [.Subscript (.Name x px) ix sp] e pos)) := match varAt C x, r.E C e, r.E C ix with
  | some ⟨i, v⟩, some ⟨mv, hv⟩, some ⟨mi, hi⟩ => if hp : plainIx ix = true then some ⟨sPut i mv mi, fun {X F rx cal} c => ds_put c.hu (c.v v).1 (c.v v).2 v.d v.cd hp (sw_tgt (.inr rfl)) (hv c) (hi c)⟩ else none
  | _, _, _ => none
def assignS (ts : List Expr) (e : Expr) (pos : Pos) : Option (QS C (.Assign ts e pos)) := match ts with
  | [.Name x px] => setSt r C x px e pos
  | [.Subscript (.Name x px) ix sp] => putS r C x px ix sp e pos
  | [.Tuple ts kt pt] => (match e with
    | .Tuple vs k2 pt2 => (match parS r C ts vs kt pt k2 pt2 pos with
      | some q => some q
      | none => asgS r C _ _ pos)
    | e => asgS r C _ e pos)
  | _ => none
def augS (x : Str) (px : Pos) (op : Operator) (e : Expr) (pos : Pos) : Option (QS C (.AugAssign (.Name x px) op e pos)) := match stoAt C x, r.E C e with
  | some ⟨i, v⟩, some ⟨m, h⟩ => some ⟨sAug op i m, fun c => ds_aug c.nd (c.s v).1 (c.s v).2.1 (c.s v).2.2.1 (c.s v).2.2.2 (h c)⟩
  | _, _ => none
def forS (tg iter : Expr) (body : List Stmt) (pos : Pos) : Option (QS C (.For tg iter body [] pos)) := match r.I C tg iter, r.G C tg, r.Ss C body with
  | some ⟨mi, hi⟩, some ⟨t, ht⟩, some ⟨mb, hb⟩ => if hh : C.calm = true ∧ notSet iter = true then some ⟨sFor mi t mb, fun {X F rx cal} c => ds_for c.po (c.calm hh.1) (notSet_ok hh.2 _) (hi c) (ht c) (hb c)⟩ else none
  | _, _, _ => none
/-- turns of a while loop at most -/
def turns : Nat := 1000000
def whileS (t : Expr) (body : List Stmt) (pos : Pos) : Option (QS C (.While t body [] pos)) := match r.T C t, r.Ss C body with
  | some ⟨mt, ht⟩, some ⟨mb, hb⟩ => some ⟨sWh turns mt mb, fun c => ds_while turns c.po (ht c) (hb c)⟩
  | _, _ => none
def ifS (t : Expr) (a b : List Stmt) (pos : Pos) : Option (QS C (.If t a b pos)) := match r.T C t, r.Ss C a, r.Ss C b with
  | some ⟨mt, ht⟩, some ⟨ma, ha⟩, some ⟨mb, hb⟩ => some ⟨sIf mt ma mb, fun c => ds_if (ht c) (ha c) (hb c)⟩
  | _, _, _ => none
def raiseS (e : Option Expr) (pos' : Pos) : Option (QS C (.Raise e none pos')) := match e with
  | some (.Call (.Name x p) [.Constant (.str m) j p2] [] pos) => (match glAt C x with
    | some ⟨g⟩ => (match h : C.glob.lookup x with
      | some (.cls k) => if hc : C.calm = true then some ⟨sRaise ⟨k, .non⟩, fun {X F rx cal} c => by obtain ⟨A, h1, h2, h3, h4, h5, _⟩ := c.glob x _ h; exact ds_raise (c.calm hc) h2 h1 h3 h4 (c.g g) g.d h5⟩ else none
      | _ => none)
    | none => none)
  | _ => none
def tryS (body : List Stmt) (hs : List ExceptHandler) (pos : Pos) : Option (QS C (.Try body hs [] [] pos)) := match hs with
  | [.ExceptHandler (some (.Name x np)) none (b0 :: su) pos'] => (match glAt C x, r.Ss C body, r.Ss C.suite (b0 :: su) with
    | some ⟨g⟩, some ⟨m, hm⟩, some ⟨n, hn⟩ => (match h : C.glob.lookup x with
      | some (.cls k) => if ht : C.top = true then some ⟨sTry (fun y => C.sub y k) m n, fun {X F rx cal} c => by
          obtain ⟨A, h1, h2, h3, h4, h5, h6⟩ := c.glob x _ h
          exact ds_try (c.tr ht).1 (c.tr ht).2 (c := .ref A) ⟨c.g g, g.d, .inl h1⟩ h6 (fun pn xe po => hm (c.try' pn xe po)) fun a pn => hn (c.suite' a pn)⟩ else none
      | _ => none)
    | _, _, _ => none)
  | _ => none
def stepS (s : Stmt) : Option (QS C s) := match s with
  | .Expr e pos => (match e with
    | .Call (.Attribute (.Name x px) n apos) [a] [] cpos => (match methS r C x px n apos a cpos pos with
      | some q => some q
      | none => exprS r C _ pos)
    | e => exprS r C e pos)
  | .Assign ts e pos => assignS r C ts e pos
  | .AugAssign (.Name x px) op e pos => augS r C x px op e pos
  | .Return none pos => some ⟨sRetN, fun _ => ds_retN⟩
  | .Return (some e) pos => (retQ r C e).map fun ⟨m, h⟩ => ⟨sRet m, fun c => ds_ret (h c)⟩
  | .Pass pos => some ⟨sNil, fun _ => ds_pass⟩
  | .Break pos => some ⟨sBrk, fun _ => ds_brk⟩
  | .Continue pos => some ⟨sCnt, fun _ => ds_cnt⟩
  | .If t a b pos => ifS r C t a b pos
  | .For tg iter body [] pos => forS r C tg iter body pos
  | .While t body [] pos => whileS r C t body pos
  | .Raise e none pos => raiseS C e pos
  | .Try body hs [] [] pos => tryS r C body hs pos
  | _ => none
end
def step (r : Rec) : Rec where
  E := stepE r
  O := stepO r
  T := stepT r
  B := stepB r
  I := stepI r
  G := stepG r
  S := stepS r
  Ss := fun C ss => stmtsQ r C ss
def rec : Nat → Rec
  | 0 => Rec.none
  | n + 1 => step (rec n)
/-- a def's body -/
def tr (n : Nat) (C : Cc) (body : List Stmt) : Option (QSs C body) := (rec n).Ss C body
end Wb

set_option Elab.async false
set_option linter.all false
set_option maxRecDepth 100000
set_option maxHeartbeats 4000000
/-! Wb: the whole text: what its defs compute, level by level, is what the model's calls give. -/
namespace Wb
open PySem PySem.Spec PyProof.Rows L2
structure PDef where
  body : MS
  n : Nat
  len : Nat
  io : Bool
def startG (d : PDef) (ds : List D) : Env' := (match d.io, ds with
  | true, x :: r => .own x :: r.map .val
  | _, ds => ds.map .val) ++ List.replicate (d.len - d.n) .no
def ioOf (io : Bool) (g : Env') : Option D := if io then (match (g[0]? : Option Slot) with
  | some (Slot.own d) => some d
  | _ => none) else some .non
def finC (io : Bool) : SRes → CRes
  | .nx g => match ioOf io g with
    | some d => .ret (.val .non) d
    | none => .bad
  | .rt e g => match ioOf io g with
    | some d => .ret e d
    | none => .bad
  | .exc x g => match ioOf io g with
    | some d => .exc x d
    | none => .bad
  | _ => .bad
abbrev Tab := Nat → Option PDef
def run (T : Tab) : Nat → Cal
  | 0 => fun _ _ => .bad
  | l + 1 => fun k ds => match T k with
    | none => .bad
    | some d => if ds.length = d.n then finC d.io (d.body (run T l) (startG d ds)) else .bad
/-- the slots at a def's entry -/
theorem start_len {N : List Str} {vs : List V} (h : vs.length ≤ N.length) : (start N vs).length = N.length := by
  unfold L2.start
  rw [List.length_append, List.length_map, List.length_replicate]
  omega
theorem start_at {N : List Str} {vs : List V} {i : Nat} {v : V} (h : vs[i]? = some v) : (start N vs)[i]? = some (some v) := by
  unfold L2.start
  have hi := (List.getElem?_eq_some_iff.mp h).1
  rw [List.getElem?_append_left (by rw [List.length_map]; exact hi), List.getElem?_map, h]
  rfl
theorem app_at {xs : List Slot} {n i : Nat} {sl : Slot} (h : (xs ++ List.replicate n .no)[i]? = some sl) (hn : sl ≠ .no) : xs[i]? = some sl := by
  by_cases hi : i < xs.length
  · rw [List.getElem?_append_left hi] at h
    exact h
  · rw [List.getElem?_append_right (by omega), List.getElem?_replicate] at h
    split at h
    · cases h; exact absurd rfl hn
    · cases h
theorem co_start {R : Rt} {H Hf : Hp} {N : List Str} {vs : List V} {ds : List D} {d : PDef} (hio : d.io = false) (hl : vs.length ≤ N.length) (hn : ds.length = d.n) (hN : d.len = N.length) (ex : Ex Hf H) (r : Rps R Hf vs ds) : Co ⟨R, H, Hf, none, []⟩ (start N vs) (startG d ds) Hf H := by
  have hs : startG d ds = ds.map .val ++ List.replicate (d.len - d.n) .no := by
    unfold startG
    rw [hio]
  rw [hs]
  have hvd := r.length
  refine ⟨?_, Ex.refl _, ex, fun a ha => .inl ha, fun a o h _ => h, fun i e hi => ?_, fun i e hi => ?_, fun i j e e' p hi _ _ _ => ?_, fun q hq => (nomatch hq), fun p hp => (nomatch hp)⟩
  · rw [start_len hl, List.length_append, List.length_map, List.length_replicate]
    omega
  · have h1 := app_at hi (by simp)
    rw [List.getElem?_map] at h1
    obtain ⟨e2, h2, h3⟩ := Option.map_eq_some_iff.mp h1
    cases h3
    obtain ⟨v, h4, h5⟩ := r.get h2
    exact ⟨v, start_at h4, h5⟩
  · have h1 := app_at hi (by simp)
    rw [List.getElem?_map] at h1
    obtain ⟨e2, h2, h3⟩ := Option.map_eq_some_iff.mp h1
    cases h3
  · have h1 := app_at hi (by simp)
    rw [List.getElem?_map] at h1
    obtain ⟨e2, h2, h3⟩ := Option.map_eq_some_iff.mp h1
    cases h3
theorem co_startIo {R : Rt} {H Hf : Hp} {N : List Str} {p : Addr} {vs : List V} {d0 : D} {ds : List D} {d : PDef} (hio : d.io = true) (hl : (V.ref p :: vs).length ≤ N.length) (hn : (d0 :: ds).length = d.n) (hN : d.len = N.length) (ex : Ex Hf H) (r : Rps R Hf vs ds) (hp : Hf p = none) (t : Top R Hf H p d0) :
    Co ⟨R, H, Hf, some p, []⟩ (start N (.ref p :: vs)) (startG d (d0 :: ds)) Hf H := by
  have hs : startG d (d0 :: ds) = (.own d0 :: ds.map .val) ++ List.replicate (d.len - d.n) .no := by
    unfold startG
    rw [hio]
  rw [hs]
  have hvd := r.length
  have z0 : ∀ {i : Nat} {e : D}, (Slot.own d0 :: ds.map Slot.val ++ List.replicate (d.len - d.n) .no)[i]? = some (.own e) → i = 0 ∧ e = d0 := fun {i e} hi => by
    have h1 := app_at hi (by simp)
    cases i with
    | zero => rw [List.getElem?_cons_zero] at h1; cases h1; exact ⟨rfl, rfl⟩
    | succ i =>
      rw [List.getElem?_cons_succ, List.getElem?_map] at h1
      obtain ⟨e2, h2, h3⟩ := Option.map_eq_some_iff.mp h1
      cases h3
  refine ⟨?_, Ex.refl _, ex, fun a ha => .inl ha, fun a o h _ => h, fun i e hi => ?_, fun i e hi => ?_, fun i j e e' p hi hj _ _ => ?_, fun q hq => (nomatch hq), fun q hq => ?_⟩
  · rw [start_len hl, List.length_append, List.length_cons, List.length_map, List.length_replicate]
    rw [List.length_cons] at hl hn
    omega
  · have h1 := app_at hi (by simp)
    cases i with
    | zero => rw [List.getElem?_cons_zero] at h1; cases h1
    | succ i =>
      rw [List.getElem?_cons_succ, List.getElem?_map] at h1
      obtain ⟨e2, h2, h3⟩ := Option.map_eq_some_iff.mp h1
      cases h3
      obtain ⟨v, h4, h5⟩ := r.get h2
      exact ⟨v, start_at (by rw [List.getElem?_cons_succ]; exact h4), h5⟩
  · obtain ⟨rfl, rfl⟩ := z0 hi
    exact ⟨p, start_at rfl, hp, .inl rfl, t⟩
  · obtain ⟨rfl, _⟩ := z0 hi
    obtain ⟨rfl, _⟩ := z0 hj
    rfl
  · cases hq
    exact ⟨start_at rfl, d0, rfl⟩
/-! ### a def's promise from its body's word -/
section
variable {P : Program} {w : World} {K : PySem.W.Frag} {mg : Str → Option Value} {base : Heap} {R : Rt} {rx : RX} {l : Nat} {f : Addr} {fd : FuncData} {x : Str} {st : Stmt} {N ps : List Str} {d : PDef} {cal : Cal}
theorem ends_of {X : Cx} {io : Option Addr} {Hf H : Hp} {m : MS} {body : List Stmt} {σ : L2.St} {g : Env'} {b : Bool} {Q : VK} {E : XK} (hb : b = io.isSome) (co : Co ⟨R, H, Hf, io, []⟩ σ g Hf H) (h : DSs X ⟨R, H, Hf, io, []⟩ rx cal body m) (tk : Takes X (fun cls d _ H => E cls d H))
    (hp : PostC R rx io Hf H (finC b (m cal g)) Q E) : wSs X body { nx := fun _ H' => Q .non H', rt := Q } σ H := by
  have k := h σ g Hf H co
  -- the frame at an end
  have fr : ∀ {σ' : L2.St} {g' : Env'} {Hf' H' : Hp} {dio : D}, Co ⟨R, H, Hf, io, []⟩ σ' g' Hf' H' → ioOf b g' = some dio → Fr' R io Hf H Hf' H' dio := fun {σ' g' Hf' H' dio} c e => by
    refine ⟨c.ex0, c.ex, c.frz, c.pres, fun p hp => ?_⟩
    obtain ⟨h1, d0, h2⟩ := c.ios p hp
    have hbt : b = true := by
      have hp' : io = some p := hp
      rw [hb, hp']; rfl
    unfold ioOf at e
    rw [if_pos hbt, h2] at e
    cases e
    obtain ⟨q, k1, k2, k3, k4⟩ := c.own 0 _ h2
    rw [h1] at k1
    cases k1
    exact ⟨k2, k4⟩
  cases hm : m cal g with
  | nx g' =>
    rw [hm] at k hp
    refine k _ fun σ' Hf' H' e c => ?_
    unfold finC at hp
    dsimp only at hp
    cases hi : ioOf b g' with
    | none => rw [hi] at hp; exact hp.elim
    | some dio => rw [hi] at hp; exact hp .non Hf' H' (fr c hi) .non
  | rt en g' =>
    rw [hm] at k hp
    refine k _ fun v σ' Hf' H' e c rv => ?_
    unfold finC at hp
    dsimp only at hp
    cases hi : ioOf b g' with
    | none => rw [hi] at hp; exact hp.elim
    | some dio =>
      rw [hi] at hp
      refine hp v Hf' H' (fr c hi) ?_
      cases en with
      | val d => exact rv
      | own d =>
        obtain ⟨p, h1, h2, h3, h4, _, _, h7⟩ := rv
        exact ⟨p, h1, h2, h3, h4, h7⟩
  | exc y g' =>
    rw [hm] at k hp
    refine k _ _ tk fun c dx σ' Hf' H' e co' r => ?_
    unfold finC at hp
    dsimp only at hp
    cases hi : ioOf b g' with
    | none => rw [hi] at hp; exact hp.elim
    | some dio => rw [hi] at hp; exact hp c dx Hf' H' (fr co' hi) r
  | bk g' => rw [hm] at hp; exact hp.elim
  | ct g' => rw [hm] at hp; exact hp.elim
  | bad => rw [hm] at hp; exact hp.elim
theorem fn_ok (Fn : Fun K x x st f fd) (S : FnScope N ps (defScope st)) (hn : d.n = ps.length) (hN : d.len = N.length) {sem : List D → CRes} (hsem : ∀ ds, ds.length = d.n → sem ds = finC d.io (d.body cal (startG d ds)))
    (hbody : ∀ (cdv : Value) (A : Around) (outer : List PySem.Env) (s : Shared) (H Hf : Hp) (io : Option Addr) (E : XK), Room l (A.deeper (envOfC x (defScope st) s.heap.objs.size f cdv)) → A.guards = some [] → d.io = io.isSome → DSs (cxOf (L2.CX P w) P w K mg base N x (defScope st) f cdv A outer s H E) ⟨R, H, Hf, io, []⟩ rx cal (defBody st) d.body) :
    FnG P w K mg base (L2.CX P w) (l + 1) f fd ps (CallSp R rx d.io d.n sem) := by
  have hNps : ps.length ≤ N.length := by
    have := congrArg List.length S.pre
    rw [List.length_take] at this
    omega
  refine fnG Fn S (fun vs H Q E h => by rw [h.1, hn]) fun cdv A outer s H vs Q E hr hgd h => ?_
  obtain ⟨hl, ds, Hf, ex, h⟩ := h
  have tk : Takes (cxOf (L2.CX P w) P w K mg base N x (defScope st) f cdv A outer s H E) (fun cls d _ H => E cls d H) := takes_of rfl rfl rfl rfl
  refine ⟨_, pss_w, ?_⟩
  cases hio : d.io with
  | false =>
    rw [hio] at h
    obtain ⟨r, hp⟩ := h
    have hdl : ds.length = d.n := by rw [← r.length, hl]
    rw [hsem ds hdl, hio] at hp
    exact ends_of (io := none) rfl (co_start hio (by rw [hl, hn]; exact hNps) hdl hN ex r) (hbody cdv A outer s H Hf none E hr hgd hio) tk hp
  | true =>
    rw [hio] at h
    obtain ⟨p, vs', d0, ds', rfl, rfl, r, h1, h2, hp⟩ := h
    have hdl : (d0 :: ds').length = d.n := by rw [List.length_cons, ← r.length, ← hl, List.length_cons]
    rw [hsem _ hdl, hio] at hp
    exact ends_of (io := some p) rfl (co_startIo hio (by rw [hl, hn]; exact hNps) hdl hN ex r h1 h2) (hbody cdv A outer s H Hf (some p) E hr hgd hio) tk hp
end
/-! ### all defs, level by level -/
structure PEnt where
  x : Str
  st : Stmt
  N : List Str
  ps : List Str
  d : PDef
def tabOf (es : List PEnt) : Tab := fun k => (es[k]?).map (·.d)
structure EntOk (K : PySem.W.Frag) (mg : Str → Option Value) (glob : List (Str × GK)) (sub : Nat → Nat → Bool) (e : PEnt) (f : Addr) (fd : FuncData) : Prop where
  F : Fun K e.x e.x e.st f fd
  B : Binds K fd e.ps []
  S : FnScope e.N e.ps (defScope e.st)
  hn : e.d.n = e.ps.length
  hN : e.d.len = e.N.length
  mg : mg e.x = some (.ref f)
  body : ∀ {X F rx cal}, Ctx ⟨e.N, defScope e.st, e.d.io, true, true, none, glob, sub⟩ X F rx cal → DSs X F rx cal (defBody e.st) e.d.body
/-- what the names of the module stand for -/
def NameOk (P : Program) (w : World) (K : PySem.W.Frag) (mg : Str → Option Value) (R : Rt) (rx : RX) (sub : Nat → Nat → Bool) (es : List PEnt) (x : Str) : GK → Prop
  | .fn k n => ∃ e, es[k]? = some e ∧ e.x = x ∧ e.d.io = false ∧ e.d.n = n
  | .fio k n => ∃ e, es[k]? = some e ∧ e.x = x ∧ e.d.io = true ∧ e.d.n = n
  | .cls c => ∃ A, mg x = some (.ref A) ∧ PySem.W.excIn K A [.type "ValueError", .type "Exception", .type "BaseException", .type "object"] "ValueError.__new__" = true ∧ PySem.W.keepIn K (.ref A) = true ∧
      PySem.W.subIn K (.ref A) (.type "BaseException") = some true ∧ PySem.W.typeIn K (.ref A) = some (.type "type") ∧ (∀ H, rx ⟨c, .non⟩ (.ref A) none H) ∧ ∀ y cls dx H, rx y cls dx H → PySem.W.exmOne K cls (.ref A) = some (sub y.c c)
  | .dat d => ∃ u v, mg x = some u ∧ RelV v u ∧ ∀ Hf, Rp R Hf v d
theorem levels {P : Program} {w : World} {K : PySem.W.Frag} {mg : Str → Option Value} {base : Heap} {R : Rt} {rx : RX} {glob : List (Str × GK)} {sub : Nat → Nat → Bool} {es : List PEnt} (hK : R.K = K)
    (hE : ∀ k e, es[k]? = some e → ∃ f fd, EntOk K mg glob sub e f fd ∧ (e.d.io = false → R.fa k = some f)) (hR : ∀ k f, R.fa k = some f → ∃ e fd, es[k]? = some e ∧ EntOk K mg glob sub e f fd ∧ e.d.io = false)
    (hG : ∀ x g, glob.lookup x = some g → NameOk P w K mg R rx sub es x g) (hB : ∀ x ∈ bltNames, mg x = none) :
    ∀ (l k : Nat) (e : PEnt) (f : Addr) (fd : FuncData), es[k]? = some e → EntOk K mg glob sub e f fd → FnG P w K mg base (L2.CX P w) l f fd e.ps (CallSp R rx e.d.io e.d.n (run (tabOf es) l k)) := by
  intro l
  induction l with
  | zero =>
    intro k e f fd he ok
    have no : ∀ vs H Q E, CallSp R rx e.d.io e.d.n (run (tabOf es) 0 k) vs H Q E → False := fun vs H Q E h => by
      obtain ⟨_, ds, Hf, _, h⟩ := h
      cases hio : e.d.io with
      | false => rw [hio] at h; exact h.2
      | true => rw [hio] at h; obtain ⟨_, _, _, _, _, _, _, _, _, h⟩ := h; exact h
    exact ⟨fun vs H Q E h => (no vs H Q E h).elim, fun A outer s H args us vs Q E _ _ _ _ _ h => (no vs H Q E h).elim⟩
  | succ l ih =>
    intro k e f fd he ok
    have hT : tabOf es k = some e.d := by
      unfold tabOf
      rw [he]
      rfl
    refine fn_ok (cal := run (tabOf es) l) ok.F ok.S ok.hn ok.hN (fun ds hl => ?_) fun cdv A outer s H Hf io E hr hgd hio => ok.body ?_
    · rw [run]
      dsimp only
      rw [hT]
      dsimp only
      rw [if_pos hl]
    · have cal : ∀ (k' : Nat) (e' : PEnt) (f' : Addr) (fd' : FuncData), es[k']? = some e' → EntOk K mg glob sub e' f' fd' → CalAt (cxOf (L2.CX P w) P w K mg base e.N e.x (defScope e.st) f cdv A outer s H E) R rx e'.d.io e'.d.n f' (run (tabOf es) l k') := fun k' e' f' fd' h1 h2 => by
        refine ⟨l, fd', e'.ps, fun ds hb => ?_, hr, hgd, h2.F.kp, h2.B, ih k' e' f' fd' h1 h2⟩
        cases l with
        | zero => exact absurd rfl hb
        | succ l =>
          have hT' : tabOf es k' = some e'.d := by
            unfold tabOf
            rw [h1]
            rfl
          rw [run] at hb
          dsimp only at hb
          rw [hT'] at hb
          dsimp only at hb
          by_cases hl : ds.length = e'.d.n
          · exact hl
          · rw [if_neg hl] at hb
            exact absurd rfl hb
      exact {
        N := rfl
        nd := ok.S.nd
        sc := rfl
        fn := fun _ _ => rfl
        io := fun z => by
          have z' : e.d.io = false := z
          rw [z'] at hio
          cases io with
          | none => rfl
          | some p => cases hio
        K := hK
        calm := fun _ => rfl
        hu := hr.units
        gd := hgd
        glob := fun x g hx => by
          have q := hG x g hx
          cases g with
          | fn k' n =>
            obtain ⟨e', h1, rfl, h3, rfl⟩ := q
            obtain ⟨f', fd', h4, h5⟩ := hE k' e' h1
            have c := cal k' e' f' fd' h1 h4
            rw [h3] at c
            exact ⟨f', h4.mg, h5 h3, fun _ => c⟩
          | fio k' n =>
            obtain ⟨e', h1, rfl, h3, rfl⟩ := q
            obtain ⟨f', fd', h4, h5⟩ := hE k' e' h1
            have c := cal k' e' f' fd' h1 h4
            rw [h3] at c
            exact ⟨f', h4.mg, fun _ => c⟩
          | cls c =>
            obtain ⟨A', h1, h2, h3, h4, h5, h6, h7⟩ := q
            exact ⟨A', h1, h2, h3, raises_own h4 h5, h6, h7⟩
          | dat d => exact q
        blt := hB
        fv := fun _ k' f' hk => by
          obtain ⟨e', fd', h1, h2, h3⟩ := hR k' f' hk
          have c := cal k' e' f' fd' h1 h2
          rw [h3] at c
          exact ⟨_, c⟩
        po := passes_of (X := cxOf (L2.CX P w) P w K mg base e.N e.x (defScope e.st) f cdv A outer s H E) (K := fun e s'' => L2.CX P w outer H s E e s'') (E₁ := fun e' s'' => L2.CX P w outer H s E e' s'') rfl
        tr := fun _ => ⟨rfl, rfl⟩
        knd := fun _ => ok.S.kind }
end Wb

set_option Elab.async false
set_option linter.all false
set_option maxRecDepth 100000
set_option maxHeartbeats 4000000
/-! Wb: a law's end, from what its text computes. -/
namespace Wb
open PySem PySem.Spec PyProof.Rows L2
def AllL {α : Type} (P : α → Prop) : List α → Prop
  | [] => True
  | e :: r => P e ∧ AllL P r
theorem AllL.get {α : Type} {P : α → Prop} : ∀ {l : List α} {k : Nat} {e : α}, AllL P l → l[k]? = some e → P e
  | _ :: _, 0, _, h, q => by rw [List.getElem?_cons_zero] at q; cases q; exact h.1
  | _ :: r, k + 1, _, h, q => by rw [List.getElem?_cons_succ] at q; exact AllL.get h.2 q
  | [], _, _, _, q => by simp at q
theorem AllL.mem {α : Type} {P : α → Prop} : ∀ {l : List α} {e : α}, AllL P l → e ∈ l → P e
  | _ :: r, e, h, q => by
    rcases List.mem_cons.mp q with z | z
    · rw [z]; exact h.1
    · exact AllL.mem h.2 z
theorem lookup_mem {α : Type} : ∀ {l : List (Str × α)} {x : Str} {a : α}, l.lookup x = some a → (x, a) ∈ l
  | (y, b) :: r, x, a, h => by
    rw [List.lookup_cons] at h
    by_cases e : (x == y) = true
    · rw [e] at h
      cases h
      rw [eq_of_beq e]
      exact List.mem_cons_self
    · rw [show (x == y) = false by simpa using e] at h
      exact List.mem_cons_of_mem _ (lookup_mem h)
/-- how far the translation goes down -/
def deep : Nat := 60
def ccOf (glob : List (Str × GK)) (sub : Nat → Nat → Bool) (st : Stmt) (N : List Str) (io : Bool) : Cc := ⟨N, defScope st, io, true, true, none, glob, sub⟩
def codeOf (glob : List (Str × GK)) (sub : Nat → Nat → Bool) (st : Stmt) (N : List Str) (io : Bool) : MS := match tr deep (ccOf glob sub st N io) (defBody st) with
  | some q => q.val
  | none => fun _ _ => .bad
/-- a def of the text -/
def ent (glob : List (Str × GK)) (sub : Nat → Nat → Bool) (x : Str) (st : Stmt) (ps more : List Str) (io : Bool) : PEnt := ⟨x, st, ps ++ more, ps, ⟨codeOf glob sub st (ps ++ more) io, ps.length, (ps ++ more).length, io⟩⟩
def scB (N P : List Str) (sc : Scope) : Bool :=
  decide (sc.kind = .function) && (!sc.isCoroutine && (!sc.isGenerator && (decide N.Nodup && (decide (N.take P.length = P) && (P.all (fun x => decide (sc.names.lookup x = some .local) || decide (sc.names.lookup x = some .cell)) && sc.names.all (fun y => decide (y.2 ≠ .free)))))))
theorem scB_ok {N P : List Str} {sc : Scope} (h : scB N P sc = true) : FnScope N P sc := by
  unfold scB at h
  rw [Bool.and_eq_true, Bool.and_eq_true, Bool.and_eq_true, Bool.and_eq_true, Bool.and_eq_true, Bool.and_eq_true, decide_eq_true_eq, decide_eq_true_eq, decide_eq_true_eq, List.all_eq_true, List.all_eq_true] at h
  obtain ⟨h1, h2, h3, h4, h5, h6, h7⟩ := h
  refine ⟨h1, by simpa using h2, by simpa using h3, h4, h5, fun x hx => ?_, fun y hy => of_decide_eq_true (h7 y hy)⟩
  have := h6 x hx
  rw [Bool.or_eq_true, decide_eq_true_eq, decide_eq_true_eq] at this
  exact this
def okEnt (glob : List (Str × GK)) (sub : Nat → Nat → Bool) (e : PEnt) : Bool := (tr deep (ccOf glob sub e.st e.N e.d.io) (defBody e.st)).isSome && scB e.N e.ps (defScope e.st)
/-- how the arguments of a def bind -/
def BindEq (e : PEnt) : Prop := ∀ (kV doc pm : Value) (an : Option Addr) (cdv ct : Value) (us : List Value), us.length = e.ps.length → bindArgs (PySem.W.fnOf e.x e.x (defArgs e.st) (defBody e.st) (defScope e.st) .none kV doc pm an cdv ct) ⟨us, []⟩ = pure (e.ps.zip us)
/-- a def in the written part -/
def DefIn (K : PySem.W.Frag) (x : Str) (st : Stmt) : Prop := ∃ f fd, PySem.W.nsIn K mainGlobals x = some (some (.ref f)) ∧ Fun K x x st f fd
theorem def_mk {K : PySem.W.Frag} {h : Heap} (X : K.In h) {x : Str} {st : Stmt} {f : Addr} {oc : Value} {od an : Option Addr} {osl : Array (Option Value)} {kV doc pm cdv ct : Value} (a : PySem.W.nsIn K mainGlobals x = some (some (.ref f)))
    (l : K.lookup f = some ⟨oc, od, .func (PySem.W.fnOf x x (defArgs st) (defBody st) (defScope st) .none kV doc pm an cdv ct), osl⟩) (c : PySem.W.codeIn K cdv x = true) (k : PySem.W.keepIn K (.ref f) = true) : DefIn (KOf X) x st := ⟨f, _, a, fun_mk l c k⟩
/-- whether «except S» takes an error of the class at A -/
theorem exm_to {K : PySem.W.Frag} {A S : Addr} {b : Bool} (h1 : PySem.W.subIn K (.ref S) (.type "BaseException") = some true) (h2 : PySem.W.isClsIn K S = true) (h3 : PySem.W.typeIn K (.ref S) = some (.type "type")) (h4 : PySem.W.subIn K (.ref A) (.ref S) = some b) (hb : b = b) :
    PySem.W.exmOne K (.ref A) (.ref S) = some b := by
  have e1 : (PySem.W.subIn K (.ref S) (.type "BaseException") == some true) = true := by rw [h1]; rfl
  have e2 : ((PySem.W.clsIn K S).isSome && PySem.W.typeIn K (.ref S) == some (.type "type")) = true := by
    rw [show (PySem.W.clsIn K S).isSome = true from h2, h3]
    rfl
  unfold PySem.W.exmOne
  rw [if_pos e1]
  show (if ((PySem.W.clsIn K S).isSome && PySem.W.typeIn K (.ref S) == some (.type "type")) = true then PySem.W.subIn K (.ref A) (.ref S) else none) = some b
  rw [if_pos e2]
  exact h4
/-- an own class that stands over ValueError, without an __init__ -/
def ClsIn (K : PySem.W.Frag) (x : Str) : Prop := ∃ A, PySem.W.nsIn K mainGlobals x = some (some (.ref A)) ∧ PySem.W.excIn K A [.type "ValueError", .type "Exception", .type "BaseException", .type "object"] "ValueError.__new__" = true ∧ PySem.W.keepIn K (.ref A) = true ∧
  PySem.W.subIn K (.ref A) (.type "BaseException") = some true ∧ PySem.W.typeIn K (.ref A) = some (.type "type") ∧ PySem.W.exmOne K (.ref A) (.ref A) = some true
theorem cls_mk {K : PySem.W.Frag} {h : Heap} (X : K.In h) {x : Str} {A : Addr} (a : PySem.W.nsIn K mainGlobals x = some (some (.ref A))) (b : PySem.W.excIn K A [.type "ValueError", .type "Exception", .type "BaseException", .type "object"] "ValueError.__new__" = true) (c : PySem.W.keepIn K (.ref A) = true)
    (d : PySem.W.subIn K (.ref A) (.type "BaseException") = some true) (e : PySem.W.typeIn K (.ref A) = some (.type "type")) (f : PySem.W.isClsIn K A = true) (g : PySem.W.subIn K (.ref A) (.ref A) = some true) : ClsIn (KOf X) x := ⟨A, a, b, c, d, e, exm_to d f e g (by rfl)⟩
theorem blt_mk {K : PySem.W.Frag} {h : Heap} (X : K.In h) {x : Str} (a : PySem.W.nsIn K mainGlobals x = some none) : PySem.W.nsIn (KOf X) mainGlobals x = some none := a
/-- a constant of the module -/
inductive DatIs : Value → D → Prop
  | int (i : Int) (t : Tok) : DatIs (.int i t) (.int i)
  | str (s : List Nat) (t : Tok) : DatIs (.str ⟨s.toArray⟩ t) (.str s)
  | bl (b : Bool) : DatIs (.bool b) (.bl b)
  | non : DatIs .none .non
def DatIn (K : PySem.W.Frag) (x : Str) (d : D) : Prop := ∃ u, PySem.W.nsIn K mainGlobals x = some (some u) ∧ DatIs u d
theorem dat_int {K : PySem.W.Frag} {h : Heap} (X : K.In h) {x : Str} {i : Int} {t : Tok} (a : PySem.W.nsIn K mainGlobals x = some (some (.int i t))) : DatIn (KOf X) x (.int i) := ⟨_, a, .int i t⟩
theorem dat_str {K : PySem.W.Frag} {h : Heap} (X : K.In h) {x : Str} {s : List Nat} {z : Str} {t : Tok} (a : PySem.W.nsIn K mainGlobals x = some (some (.str z t))) (e : z = ⟨s.toArray⟩) : DatIn (KOf X) x (.str s) := ⟨_, a, by rw [e]; exact .str s t⟩
theorem DatIs.rel {u : Value} {d : D} (h : DatIs u d) (R : Rt) : ∃ v, RelV v u ∧ ∀ Hf, Rp R Hf v d := by
  cases h with
  | int i t => exact ⟨.int i, ⟨t, rfl⟩, fun _ => .int i⟩
  | str s t => exact ⟨.str _, ⟨t, rfl⟩, fun _ => .str s⟩
  | bl b => exact ⟨.bl b, rfl, fun _ => .bl b⟩
  | non => exact ⟨.non, rfl, fun _ => .non⟩
def globB (es : List PEnt) (glob : List (Str × GK)) : Bool := glob.all fun p => match p.2 with
  | .fn k n => (match es[k]? with
    | some e => e.x == p.1 && (!e.d.io && e.d.n == n)
    | none => false)
  | .fio k n => (match es[k]? with
    | some e => e.x == p.1 && (e.d.io && e.d.n == n)
    | none => false)
  | _ => true
/-- the other names -/
def GlobIn (K : PySem.W.Frag) (p : Str × GK) : Prop := match p.2 with
  | .fn _ _ => True
  | .fio _ _ => True
  | .cls c => ClsIn K p.1 ∧ c = 0
  | .dat d => DatIn K p.1 d
def rtOf (K : PySem.W.Frag) (mg : Str → Option Value) (es : List PEnt) : Rt := ⟨K, fun k => match es[k]? with
  | some e => if e.d.io then none else (match mg e.x with
    | some (.ref f) => some f
    | _ => none)
  | none => none⟩
/-- an exception in the air is one of the class Malformed -/
def rxOf (mg : Str → Option Value) (m : Str) : RX := fun y c dx _ => y.c = 0 ∧ ∃ A, mg m = some (.ref A) ∧ c = .ref A
def sub0 (a b : Nat) : Bool := a == b
theorem walkW {l : PySem.W.OpenLaw} {L kl : Nat} {q : Program} {loose : List Str} {XP : (Str → Option Value) → Heap → Prop} {YP : World → Heap → Prop} {d : DefRec} {K : Params → PySem.W.Frag} {x : Str} (es : List PEnt) (glob : List (Str × GK)) (m : Str) (el : PEnt)
    (hn : l.most = some 63) (hdf : d.params.defaults = []) (hr : Room L callerA) (hY : ∀ (w : World) (h : Heap), YP w h → (K w.params).In h)
    (hok : es.all (okEnt glob sub0) = true) (hgB : globB es glob = true) (hb : AllL BindEq es) (hme : ∀ e ∈ es, ∃ x st ps more io, e = ent glob sub0 x st ps more io)
    (hcls : ∀ x c, (x, GK.cls c) ∈ glob → x = m) (hel : es[kl]? = some el) (hx : el.x = d.name) (hps : el.ps = [x]) (hio : el.d.io = false)
    (F : ∀ (w : World) (h : Heap), (K w.params).In h → AllL (fun e => DefIn (K w.params) e.x e.st) es ∧ AllL (GlobIn (K w.params)) glob ∧ AllL (fun x => PySem.W.nsIn (K w.params) mainGlobals x = some none) bltNames)
    (hlaw : ∀ ns : List Int, ns.length ≤ 63 → (∀ z ∈ ns, Builtin.Int.intBits z ≤ 1048576) → ∃ io, run (tabOf es) L kl [.rol (ns.map .int)] = .ret (.val (.bl true)) io) :
    PySem.W.WalkO q loose XP YP l.row.toRowW d [] (fun f vs => PySem.call f vs) := by
  refine walkG (n := 63) (k := L) (x := x) (CX := fun w => L2.CX l.prog w) (K := K) (sp := fun w => fun vs H Q E => ∃ (a : Addr) (ns : List Int), vs = [.ref a] ∧ ns.length ≤ 63 ∧ (∀ z ∈ ns, Builtin.Int.intBits z ≤ 1048576) ∧ SqL (K w.params) H a (ns.map V.int) ∧ ∀ H', Q (.bl true) H')
    hn (by decide) hdf hr hY (fun w mg fa h KX G hmg => ?_) (fun w H a ns h1 h2 _ h3 => ⟨a, ns, rfl, h1, h2, h3, fun _ => rfl⟩) fun w H s e s' h => by obtain ⟨_, _, _, _, _, _, _, _, _, _, _, _, z⟩ := h; exact z
  obtain ⟨hD, hGl, hBl⟩ := F w h KX
  -- each def
  have hE0 : ∀ k e, es[k]? = some e → ∃ f fd, EntOk (K w.params) mg glob sub0 e f fd ∧ (∀ (s : Shared) (us : List Value), us.length = e.ps.length → BindsTo s fd ⟨us, []⟩ (e.ps.zip us)) := fun k e he => by
    obtain ⟨f, fd, h1, h2⟩ := hD.get he
    have hmem : e ∈ es := List.mem_of_getElem? he
    obtain ⟨x', st, ps, more, io, rfl⟩ := hme e hmem
    have ok := List.all_eq_true.mp hok _ hmem
    unfold okEnt at ok
    rw [Bool.and_eq_true] at ok
    obtain ⟨ok1, ok2⟩ := ok
    have bq := hb.get he
    have bt : ∀ (s : Shared) (us : List Value), us.length = ps.length → BindsTo s fd ⟨us, []⟩ (ps.zip us) := fun s us hl => by
      obtain ⟨oc, od, kV, doc, pm, an, cdv, ct, osl, rfl, _, _⟩ := h2.ex
      exact .of_eq (bq kV doc pm an cdv ct us hl)
    refine ⟨f, fd, ⟨h2, fun s us _ hl => ?_, scB_ok ok2, rfl, rfl, PySem.W.mg_of KX G h1, fun {X F rx cal} c => ?_⟩, bt⟩
    · rw [List.append_nil] at hl ⊢
      exact bt s us hl
    · have e0 : ∃ q, tr deep (ccOf glob sub0 st (ps ++ more) io) (defBody st) = some q := Option.isSome_iff_exists.mp ok1
      obtain ⟨q0, e0⟩ := e0
      have e1 : codeOf glob sub0 st (ps ++ more) io = q0.val := by
        unfold codeOf
        rw [e0]
      show DSs X F rx cal (defBody st) (codeOf glob sub0 st (ps ++ more) io)
      rw [e1]
      exact q0.property c
  have hfa : ∀ k e, es[k]? = some e → e.d.io = false → ∀ f, mg e.x = some (.ref f) → (rtOf (K w.params) mg es).fa k = some f := fun k e he hi f hf => by
    unfold rtOf
    dsimp only
    rw [he]
    dsimp only
    rw [hi, if_neg Bool.false_ne_true, hf]
  have hE : ∀ k e, es[k]? = some e → ∃ f fd, EntOk (K w.params) mg glob sub0 e f fd ∧ (e.d.io = false → (rtOf (K w.params) mg es).fa k = some f) := fun k e he => by
    obtain ⟨f, fd, h1, _⟩ := hE0 k e he
    exact ⟨f, fd, h1, fun hi => hfa k e he hi f h1.mg⟩
  have hR : ∀ k f, (rtOf (K w.params) mg es).fa k = some f → ∃ e fd, es[k]? = some e ∧ EntOk (K w.params) mg glob sub0 e f fd ∧ e.d.io = false := fun k f hk => by
    unfold rtOf at hk
    dsimp only at hk
    cases he : es[k]? with
    | none => rw [he] at hk; cases hk
    | some e =>
      rw [he] at hk
      dsimp only at hk
      cases hi : e.d.io with
      | true => rw [hi] at hk; cases hk
      | false =>
        rw [hi, if_neg Bool.false_ne_true] at hk
        obtain ⟨f', fd, h1, _⟩ := hE0 k e he
        rw [h1.mg] at hk
        cases hk
        exact ⟨e, fd, rfl, h1, hi⟩
  have hG : ∀ x g, glob.lookup x = some g → NameOk l.prog w (K w.params) mg (rtOf (K w.params) mg es) (rxOf mg m) sub0 es x g := fun x g hx => by
    have hm := lookup_mem hx
    have hb1 := List.all_eq_true.mp hgB _ hm
    have hg1 := hGl.mem hm
    cases g with
    | fn k n =>
      dsimp only at hb1
      cases he : es[k]? with
      | none => rw [he] at hb1; cases hb1
      | some e =>
        rw [he] at hb1
        dsimp only at hb1
        rw [Bool.and_eq_true, Bool.and_eq_true] at hb1
        exact ⟨e, he, eq_of_beq hb1.1, by simpa using hb1.2.1, by simpa using hb1.2.2⟩
    | fio k n =>
      dsimp only at hb1
      cases he : es[k]? with
      | none => rw [he] at hb1; cases hb1
      | some e =>
        rw [he] at hb1
        dsimp only at hb1
        rw [Bool.and_eq_true, Bool.and_eq_true] at hb1
        exact ⟨e, he, eq_of_beq hb1.1, by simpa using hb1.2.1, by simpa using hb1.2.2⟩
    | cls c =>
      obtain ⟨⟨A, k1, k2, k3, k4, k5, k6⟩, rfl⟩ := hg1
      obtain rfl := hcls x 0 hm
      have hA := PySem.W.mg_of KX G k1
      refine ⟨A, hA, k2, k3, k4, k5, fun _ => ⟨rfl, A, hA, rfl⟩, fun y cls dx H hy => ?_⟩
      obtain ⟨hy0, A', h1, rfl⟩ := hy
      rw [hA] at h1
      cases h1
      rw [hy0]
      exact k6
    | dat dd =>
      obtain ⟨u, k1, k2⟩ := hg1
      obtain ⟨v, k3, k4⟩ := k2.rel (rtOf (K w.params) mg es)
      exact ⟨u, v, PySem.W.mg_of KX G k1, k3, k4⟩
  have hB : ∀ x ∈ bltNames, mg x = none := fun x hx => PySem.W.mg_none_of KX G (hBl.mem hx)
  obtain ⟨f, fd, hok1, hbt⟩ := hE0 kl el hel
  have hf : f = fa := by
    have := hok1.mg
    rw [hx, hmg] at this
    cases this
    rfl
  subst hf
  refine ⟨fd, fun s u => ?_, fun base hKb hNs => ?_⟩
  · have := hbt s [u] (by rw [hps]; rfl)
    rw [hps] at this
    exact this
  · have lv := levels (P := l.prog) (w := w) (base := base) (R := rtOf (K w.params) mg es) (rx := rxOf mg m) rfl hE hR hG hB L kl el f fd hel hok1
    rw [hio, hps] at lv
    have hn1 : el.d.n = 1 := by rw [hok1.hn, hps]; rfl
    refine ⟨fun vs H Q E h => ?_, fun A outer s H args us vs Q E hr hgd e0 hb r h => ?_⟩
    · obtain ⟨a, ns, rfl, _⟩ := h
      rfl
    · obtain ⟨a, ns, rfl, h1, h2, h3, hq⟩ := h
      obtain ⟨io, hl⟩ := hlaw ns h1 h2
      refine lv.run A outer s H args us _ Q E hr hgd e0 hb r ⟨by rw [hn1]; rfl, [.rol (ns.map .int)], H, Ex.refl _, .cons (.rol h3 Rps.of_ints) .nil, ?_⟩
      rw [hl]
      intro v Hf' H' fr rp
      cases rp
      exact hq H'
end Wb

set_option Elab.async false
set_option linter.all false
set_option maxRecDepth 100000
set_option maxHeartbeats 4000000
/-! Wb: reckoning with terms of the monad. -/
namespace Wb
open PySem PySem.Spec PyProof.Rows L2
variable {α β : Type} {c : Cal} {g g' : Env'}
/-! ### each construct at a state -/
@[simp] theorem ev_ret (a : α) : (ret a : M α) c g = .ok a g := rfl
@[simp] theorem ev_K (d : D) : mK d c g = .ok d g := rfl
@[simp] theorem ev_lift (o : Option α) : (lift o : M α) c g = match o with | some a => .ok a g | none => .bad := rfl
@[simp] theorem ev_bnd (m : M α) (f : α → M β) : bnd m f c g = match m c g with
  | .ok a g' => f a c g'
  | .exc x g' => .exc x g'
  | .bad => .bad := by
  unfold bnd Res.bnd
  cases m c g <;> (first | rfl | (dsimp only; rw [ev_lift]; done) | (dsimp only; rw [ev_lift]; split <;> simp_all))
@[simp] theorem ev_V (i : Nat) : mV i c g = match g[i]? with
  | some (.val d) => .ok d g
  | some (.own (.lst ds)) => .ok (.lst ds) (g.set i (.val (.lst ds)))
  | _ => .bad := rfl
@[simp] theorem ev_D (m : M Ent) : mD m c g = match m c g with
  | .ok e g' => (match frz e with | some d => .ok d g' | none => .bad)
  | .exc x g' => .exc x g'
  | .bad => .bad := by
  unfold mD
  rw [ev_bnd]
  cases m c g <;> (first | rfl | (dsimp only; rw [ev_lift]; done) | (dsimp only; rw [ev_lift]; split <;> simp_all))
@[simp] theorem ev_Bl (m : M Bool) : mBl m c g = match m c g with
  | .ok k g' => .ok (.bl k) g'
  | .exc x g' => .exc x g'
  | .bad => .bad := by unfold mBl; rw [ev_bnd]; cases m c g <;> (first | rfl | (dsimp only; rw [ev_lift]; done) | (dsimp only; rw [ev_lift]; split <;> simp_all))
@[simp] theorem ev_Tr (m : M D) : mTr m c g = match m c g with
  | .ok d g' => (match truD d with | some k => .ok k g' | none => .bad)
  | .exc x g' => .exc x g'
  | .bad => .bad := by unfold mTr; rw [ev_bnd]; cases m c g <;> (first | rfl | (dsimp only; rw [ev_lift]; done) | (dsimp only; rw [ev_lift]; split <;> simp_all))
@[simp] theorem ev_Not (m : M Bool) : mNot m c g = match m c g with
  | .ok k g' => .ok (!k) g'
  | .exc x g' => .exc x g'
  | .bad => .bad := by unfold mNot; rw [ev_bnd]; cases m c g <;> (first | rfl | (dsimp only; rw [ev_lift]; done) | (dsimp only; rw [ev_lift]; split <;> simp_all))
@[simp] theorem ev_And (m n : M Bool) : mAnd m n c g = match m c g with
  | .ok k g' => if k then n c g' else .ok false g'
  | .exc x g' => .exc x g'
  | .bad => .bad := by
  unfold mAnd
  rw [ev_bnd]
  cases m c g with
  | ok k g' => cases k <;> rfl
  | _ => rfl
@[simp] theorem ev_Or (m n : M Bool) : mOr m n c g = match m c g with
  | .ok k g' => if k then .ok true g' else n c g'
  | .exc x g' => .exc x g'
  | .bad => .bad := by
  unfold mOr
  rw [ev_bnd]
  cases m c g with
  | ok k g' => cases k <;> rfl
  | _ => rfl
@[simp] theorem ev_If (t : M Bool) (m n : M α) : mIf t m n c g = match t c g with
  | .ok k g' => if k then m c g' else n c g'
  | .exc x g' => .exc x g'
  | .bad => .bad := by
  unfold mIf
  rw [ev_bnd]
  cases t c g with
  | ok k g' => cases k <;> rfl
  | _ => rfl
@[simp] theorem ev_Bin (op : Operator) (a b : M D) : mBin op a b c g = match a c g with
  | .ok x g1 => (match b c g1 with
    | .ok y g2 => (match binD op x y with | some e => .ok e g2 | none => .bad)
    | .exc x g' => .exc x g'
    | .bad => .bad)
  | .exc x g' => .exc x g'
  | .bad => .bad := by
  unfold mBin
  rw [ev_bnd]
  cases a c g with
  | ok x g1 => dsimp only; rw [ev_bnd]; cases b c g1 <;> (first | rfl | (dsimp only; rw [ev_lift]; done) | (dsimp only; rw [ev_lift]; split <;> simp_all))
  | _ => rfl
@[simp] theorem ev_Cmp (op : CmpOp) (a b : M D) : mCmp op a b c g = match a c g with
  | .ok x g1 => (match b c g1 with
    | .ok y g2 => (match cmpD op x y with | some e => .ok e g2 | none => .bad)
    | .exc x g' => .exc x g'
    | .bad => .bad)
  | .exc x g' => .exc x g'
  | .bad => .bad := by
  unfold mCmp
  rw [ev_bnd]
  cases a c g with
  | ok x g1 => dsimp only; rw [ev_bnd]; cases b c g1 <;> (first | rfl | (dsimp only; rw [ev_lift]; done) | (dsimp only; rw [ev_lift]; split <;> simp_all))
  | _ => rfl
@[simp] theorem ev_Chain (op op' : CmpOp) (a b d : M D) : mChain op op' a b d c g = match a c g with
  | .ok x g1 => (match b c g1 with
    | .ok y g2 => (match cmpD op x y with
      | some k => if k then (match d c g2 with
        | .ok z g3 => (match cmpD op' y z with | some e => .ok e g3 | none => .bad)
        | .exc x g' => .exc x g'
        | .bad => .bad) else .ok false g2
      | none => .bad)
    | .exc x g' => .exc x g'
    | .bad => .bad)
  | .exc x g' => .exc x g'
  | .bad => .bad := by
  unfold mChain
  rw [ev_bnd]
  cases a c g with
  | ok x g1 =>
    dsimp only
    rw [ev_bnd]
    cases b c g1 with
    | ok y g2 =>
      dsimp only
      rw [ev_bnd, ev_lift]
      cases cmpD op x y with
      | none => rfl
      | some k =>
        cases k with
        | false => rfl
        | true =>
          show (bnd d fun z => lift (cmpD op' y z)) c g2 = _
          rw [ev_bnd]
          cases d c g2 <;> (first | rfl | (dsimp only; rw [ev_lift]; done) | (dsimp only; rw [ev_lift]; split <;> simp_all))
    | _ => rfl
  | _ => rfl
@[simp] theorem ev_nil : mNil c g = .ok [] g := rfl
@[simp] theorem ev_cons (m : M D) (ms : M (List D)) : mCons m ms c g = match m c g with
  | .ok d g1 => (match ms c g1 with
    | .ok ds g2 => .ok (d :: ds) g2
    | .exc x g' => .exc x g'
    | .bad => .bad)
  | .exc x g' => .exc x g'
  | .bad => .bad := by
  unfold mCons
  rw [ev_bnd]
  cases m c g with
  | ok x g1 => dsimp only; rw [ev_bnd]; cases ms c g1 <;> (first | rfl | (dsimp only; rw [ev_lift]; done) | (dsimp only; rw [ev_lift]; split <;> simp_all))
  | _ => rfl
@[simp] theorem ev_Tup (ms : M (List D)) : mTup ms c g = match ms c g with
  | .ok ds g' => if ds.length ≤ lim then .ok (.val (.tup ds)) g' else .bad
  | .exc x g' => .exc x g'
  | .bad => .bad := by
  unfold mTup
  rw [ev_bnd]
  cases ms c g with
  | ok ds g' => dsimp only; rw [ev_lift]; split <;> simp_all
  | _ => rfl
@[simp] theorem ev_Lst (ms : M (List D)) : mLst ms c g = match ms c g with
  | .ok ds g' => if ds.length ≤ lim then .ok (.own (.lst ds)) g' else .bad
  | .exc x g' => .exc x g'
  | .bad => .bad := by
  unfold mLst
  rw [ev_bnd]
  cases ms c g with
  | ok ds g' => dsimp only; rw [ev_lift]; split <;> simp_all
  | _ => rfl
@[simp] theorem ev_Sub (a b : M D) : mSub a b c g = match a c g with
  | .ok x g1 => (match b c g1 with
    | .ok y g2 => (match subD' x y with | some e => .ok e g2 | none => .bad)
    | .exc x g' => .exc x g'
    | .bad => .bad)
  | .exc x g' => .exc x g'
  | .bad => .bad := by
  unfold mSub
  rw [ev_bnd]
  cases a c g with
  | ok x g1 => dsimp only; rw [ev_bnd]; cases b c g1 <;> (first | rfl | (dsimp only; rw [ev_lift]; done) | (dsimp only; rw [ev_lift]; split <;> simp_all))
  | _ => rfl
@[simp] theorem ev_Slot {γ : Type} (i : Nat) (b : M D) (f : D → D → Option γ) : mSlot i b f c g = match (g[i]?).bind slotD with
  | some _ => (match b c g with
    | .ok y g' => (match (g'[i]?).bind slotD with
      | some a => (match f a y with | some d => .ok d g' | none => .bad)
      | none => .bad)
    | .exc x g' => .exc x g'
    | .bad => .bad)
  | none => .bad := by
  unfold mSlot
  cases (g[i]?).bind slotD with
  | none => rfl
  | some d => cases b c g <;> (first | rfl | (dsimp only; rw [ev_lift]; done) | (dsimp only; rw [ev_lift]; split <;> simp_all))
@[simp] theorem ev_SubW (i : Nat) (b : M D) : mSubW i b c g = mSlot i b subW c g := rfl
@[simp] theorem ev_EqV (n : Bool) (i : Nat) (b : M D) : mEqV n i b c g = mSlot i b (eqW n) c g := rfl
@[simp] theorem ev_InV (n : Bool) (i : Nat) (a : M D) : mInV n i a c g = match a c g with
  | .ok x g1 => (match ((g1[i]?).bind slotD).bind (inW x) with
    | some k => .ok (if n then !k else k) g1
    | none => .bad)
  | .exc x g' => .exc x g'
  | .bad => .bad := by
  unfold mInV
  rw [ev_bnd]
  cases a c g <;> (first | rfl | (dsimp only; rw [ev_lift]; done) | (dsimp only; rw [ev_lift]; split <;> simp_all))
@[simp] theorem ev_LenV (i : Nat) : mLenV i c g = match ((g[i]?).bind slotD).bind lenD with
  | some n => .ok (.int n) g
  | none => .bad := rfl
@[simp] theorem ev_Neg (m : M D) : mNeg m c g = match m c g with
  | .ok x g' => (match negD x with | some d => .ok d g' | none => .bad)
  | .exc x g' => .exc x g'
  | .bad => .bad := by unfold mNeg; rw [ev_bnd]; cases m c g <;> (first | rfl | (dsimp only; rw [ev_lift]; done) | (dsimp only; rw [ev_lift]; split <;> simp_all))
@[simp] theorem ev_Isi (T : TyW) (m : M D) : mIsi T m c g = match m c g with
  | .ok x g' => (match isD T x with | some b => .ok (.bl b) g' | none => .bad)
  | .exc x g' => .exc x g'
  | .bad => .bad := by
  unfold mIsi
  rw [ev_bnd]
  cases m c g with
  | ok x g' => dsimp only; rw [ev_lift]; cases isD T x <;> rfl
  | _ => rfl
@[simp] theorem ev_Join (a b : M D) : mJoin a b c g = match a c g with
  | .ok x g1 => if isStrD x then (match b c g1 with
    | .ok y g2 => (match joinOf x y with | some e => .ok e g2 | none => .bad)
    | .exc x g' => .exc x g'
    | .bad => .bad) else .bad
  | .exc x g' => .exc x g'
  | .bad => .bad := by
  unfold mJoin
  rw [ev_bnd]
  cases a c g with
  | ok x g1 =>
    dsimp only
    split
    · rw [ev_bnd]; cases b c g1 <;> (first | rfl | (dsimp only; rw [ev_lift]; done) | (dsimp only; rw [ev_lift]; split <;> simp_all))
    · rfl
  | _ => rfl
@[simp] theorem ev_Blt (f : List D → Option Ent) (ms : M (List D)) : mBlt f ms c g = match ms c g with
  | .ok ds g' => (match f ds with | some e => .ok e g' | none => .bad)
  | .exc x g' => .exc x g'
  | .bad => .bad := by unfold mBlt; rw [ev_bnd]; cases ms c g <;> (first | rfl | (dsimp only; rw [ev_lift]; done) | (dsimp only; rw [ev_lift]; split <;> simp_all))
@[simp] theorem ev_SortSet (m : M D) : mSortSet m c g = match m c g with
  | .ok d g' => (match setSortD d with | some e => .ok e g' | none => .bad)
  | .exc x g' => .exc x g'
  | .bad => .bad := by unfold mSortSet; rw [ev_bnd]; cases m c g <;> (first | rfl | (dsimp only; rw [ev_lift]; done) | (dsimp only; rw [ev_lift]; split <;> simp_all))
@[simp] theorem ev_LenSet (m : M D) : mLenSet m c g = match m c g with
  | .ok d g' => (match setLenD d with | some e => .ok e g' | none => .bad)
  | .exc x g' => .exc x g'
  | .bad => .bad := by unfold mLenSet; rw [ev_bnd]; cases m c g <;> (first | rfl | (dsimp only; rw [ev_lift]; done) | (dsimp only; rw [ev_lift]; split <;> simp_all))
@[simp] theorem ev_PartN : mPart none c g = .ok none g := rfl
@[simp] theorem ev_PartS (m : M D) : mPart (some m) c g = match m c g with
  | .ok d g' => (match intOf d with | some i => .ok (some i) g' | none => .bad)
  | .exc x g' => .exc x g'
  | .bad => .bad := by
  show (bnd m fun d => lift ((intOf d).map some)) c g = _
  rw [ev_bnd]
  cases m c g with
  | ok d g' => dsimp only; rw [ev_lift]; cases intOf d <;> rfl
  | _ => rfl
@[simp] theorem ev_Slice (m : M D) (lo hi : Option (M D)) : mSlice m lo hi c g = match m c g with
  | .ok d g1 => (match mPart lo c g1 with
    | .ok l g2 => (match mPart hi c g2 with
      | .ok h g3 => (match sliceD d l h with | some e => .ok e g3 | none => .bad)
      | .exc x g' => .exc x g'
      | .bad => .bad)
    | .exc x g' => .exc x g'
    | .bad => .bad)
  | .exc x g' => .exc x g'
  | .bad => .bad := by
  unfold mSlice
  rw [ev_bnd]
  cases m c g with
  | ok x g1 =>
    dsimp only
    rw [ev_bnd]
    cases mPart lo c g1 with
    | ok l g2 => dsimp only; rw [ev_bnd]; cases mPart hi c g2 <;> (first | rfl | (dsimp only; rw [ev_lift]; done) | (dsimp only; rw [ev_lift]; split <;> simp_all))
    | _ => rfl
  | _ => rfl
@[simp] theorem ev_Call (k : Nat) (ms : M (List D)) : mCall k ms c g = match ms c g with
  | .ok ds g' => (match c k ds with
    | .ret e _ => .ok e g'
    | .exc x _ => .exc x g'
    | .bad => .bad)
  | .exc x g' => .exc x g'
  | .bad => .bad := by unfold mCall; rw [ev_bnd]; cases ms c g <;> (first | rfl | (dsimp only; rw [ev_lift]; done) | (dsimp only; rw [ev_lift]; split <;> simp_all))
@[simp] theorem ev_CallIo (k i : Nat) (ms : M (List D)) : mCallIo k i ms c g = match (g[i]?).bind slotD with
  | none => .bad
  | some _ => (match ms c g with
    | .ok ds g => (match g[i]? with
      | some (.own d0) => (match c k (d0 :: ds) with
        | .ret e io => .ok e (g.set i (.own io))
        | .exc x io => .exc x (g.set i (.own io))
        | .bad => .bad)
      | _ => .bad)
    | .exc x g' => .exc x g'
    | .bad => .bad) := by
  unfold mCallIo
  cases (g[i]?).bind slotD with
  | none => rfl
  | some d => cases ms c g <;> (first | rfl | (dsimp only; rw [ev_lift]; done) | (dsimp only; rw [ev_lift]; split <;> simp_all))
@[simp] theorem ev_CallV (mf : M D) (ms : M (List D)) : mCallV mf ms c g = match mf c g with
  | .ok d g' => (match d with
    | .fn k => mCall k ms c g'
    | _ => .bad)
  | .exc x g' => .exc x g'
  | .bad => .bad := by
  unfold mCallV
  rw [ev_bnd]
  cases mf c g with
  | ok d g' => cases d <;> rfl
  | _ => rfl
@[simp] theorem ev_Dic0 : mDic0 c g = .ok (.own (.dic [])) g := rfl
@[simp] theorem ev_Move (i : Nat) : mMove i c g = match g[i]? with
  | some (.val d) => .ok (.val d) g
  | some (.own d) => .ok (.own d) (g.set i .no)
  | _ => .bad := rfl
@[simp] theorem ev_Iter (m : M D) : mIter m c g = match m c g with
  | .ok d g' => (match itemsD d with | some xs => .ok xs g' | none => .bad)
  | .exc x g' => .exc x g'
  | .bad => .bad := by unfold mIter; rw [ev_bnd]; cases m c g <;> (first | rfl | (dsimp only; rw [ev_lift]; done) | (dsimp only; rw [ev_lift]; split <;> simp_all))
@[simp] theorem ev_Rng1 (m : M (List D)) : mRng1 m c g = match m c g with
  | .ok d g' => (match rng1 d with | some xs => .ok xs g' | none => .bad)
  | .exc x g' => .exc x g'
  | .bad => .bad := by unfold mRng1; rw [ev_bnd]; cases m c g <;> (first | rfl | (dsimp only; rw [ev_lift]; done) | (dsimp only; rw [ev_lift]; split <;> simp_all))
@[simp] theorem ev_Rng2 (m : M (List D)) : mRng2 m c g = match m c g with
  | .ok d g' => (match rng2 d with | some xs => .ok xs g' | none => .bad)
  | .exc x g' => .exc x g'
  | .bad => .bad := by unfold mRng2; rw [ev_bnd]; cases m c g <;> (first | rfl | (dsimp only; rw [ev_lift]; done) | (dsimp only; rw [ev_lift]; split <;> simp_all))
@[simp] theorem ev_NilE : mNilE c g = .ok [] g := rfl
@[simp] theorem ev_ConsE (m : M Ent) (ms : M (List Ent)) : mConsE m ms c g = match m c g with
  | .ok d g1 => (match ms c g1 with
    | .ok ds g2 => .ok (d :: ds) g2
    | .exc x g' => .exc x g'
    | .bad => .bad)
  | .exc x g' => .exc x g'
  | .bad => .bad := by
  unfold mConsE
  rw [ev_bnd]
  cases m c g with
  | ok x g1 => dsimp only; rw [ev_bnd]; cases ms c g1 <;> (first | rfl | (dsimp only; rw [ev_lift]; done) | (dsimp only; rw [ev_lift]; split <;> simp_all))
  | _ => rfl
/-! ### statements -/
@[simp] theorem ev_sNil : sNil c g = .nx g := rfl
@[simp] theorem ev_sSeq (m n : MS) : sSeq m n c g = match m c g with
  | .nx g' => n c g'
  | r => r := rfl
@[simp] theorem ev_sSet (i : Nat) (m : M Ent) : sSet i m c g = match m c g with
  | .ok e g' => if i < g'.length then .nx (g'.set i e.slot) else .bad
  | .exc x g' => .exc x g'
  | .bad => .bad := by
  unfold sSet sBnd
  cases m c g <;> rfl
@[simp] theorem ev_sExpr (m : M D) : sExpr m c g = match m c g with
  | .ok _ g' => .nx g'
  | .exc x g' => .exc x g'
  | .bad => .bad := by
  unfold sExpr sBnd
  cases m c g <;> rfl
@[simp] theorem ev_sRet (m : M Ent) : sRet m c g = match m c g with
  | .ok e g' => .rt e g'
  | .exc x g' => .exc x g'
  | .bad => .bad := by
  unfold sRet sBnd
  cases m c g <;> rfl
@[simp] theorem ev_sRetN : sRetN c g = .rt (.val .non) g := rfl
@[simp] theorem ev_sBrk : sBrk c g = .bk g := rfl
@[simp] theorem ev_sCnt : sCnt c g = .ct g := rfl
@[simp] theorem ev_sIf (t : M Bool) (m n : MS) : sIf t m n c g = match t c g with
  | .ok k g' => if k then m c g' else n c g'
  | .exc x g' => .exc x g'
  | .bad => .bad := by
  unfold sIf sBnd
  cases t c g with
  | ok k g' => cases k <;> rfl
  | _ => rfl
@[simp] theorem ev_sRaise (x : Err) : sRaise x c g = .exc x g := rfl
@[simp] theorem ev_sTry (sub : Nat → Bool) (m s : MS) : sTry sub m s c g = match m c g with
  | .exc x g' => if sub x.c then (match s c g' with
    | .exc _ _ => .bad
    | r => r) else .exc x g'
  | r => r := rfl
@[simp] theorem ev_sAsg (t : Tg) (m : M D) : sAsg t m c g = match m c g with
  | .ok d g' => (match asg t d g' with | some g2 => .nx g2 | none => .bad)
  | .exc x g' => .exc x g'
  | .bad => .bad := by
  unfold sAsg sBnd
  cases m c g <;> rfl
@[simp] theorem ev_sPar (is : List Nat) (m : M (List Ent)) : sPar is m c g = match m c g with
  | .ok es g' => (match stoG g' is es with | some g2 => .nx g2 | none => .bad)
  | .exc x g' => .exc x g'
  | .bad => .bad := by
  unfold sPar sBnd
  cases m c g <;> rfl
@[simp] theorem ev_sFor (mi : M (List D)) (t : Tg) (b : MS) : sFor mi t b c g = match mi c g with
  | .ok ds g' => forL t b c ds g'
  | .exc x g' => .exc x g'
  | .bad => .bad := by
  unfold sFor sBnd
  cases mi c g <;> rfl
@[simp] theorem ev_sAug (op : Operator) (i : Nat) (m : M D) : sAug op i m c g = match g[i]? with
  | some (.val d) => (match m c g with
    | .ok y g1 => (match augD op d y with
      | some z => if i < g1.length then .nx (g1.set i (.val z)) else .bad
      | none => .bad)
    | .exc x g1 => .exc x g1
    | .bad => .bad)
  | _ => .bad := rfl
@[simp] theorem ev_sUpd (i : Nat) (chk : D → Bool) (m : M D) (f : D → D → Option D) : sUpd i chk m f c g = match g[i]? with
  | some (.own d0) => if chk d0 then (match m c g with
    | .ok x g1 => (match g1[i]? with
      | some (.own d) => (match f d x with
        | some d' => .nx (g1.set i (.own d'))
        | none => .bad)
      | _ => .bad)
    | .exc x g1 => .exc x g1
    | .bad => .bad) else .bad
  | _ => .bad := rfl
@[simp] theorem ev_sPut (i : Nat) (mv mi : M D) : sPut i mv mi c g = match mv c g with
  | .ok v g1 => (match (g1[i]?).bind slotD with
    | none => .bad
    | some _ => (match mi c g1 with
      | .ok k g2 => (match g2[i]? with
        | some (.own d) => (match setAt d k v with
          | some d' => .nx (g2.set i (.own d'))
          | none => .bad)
        | _ => .bad)
      | .exc x g2 => .exc x g2
      | .bad => .bad))
  | .exc x g1 => .exc x g1
  | .bad => .bad := rfl
@[simp] theorem slotD_val (d : D) : slotD (.val d) = some d := rfl
@[simp] theorem slotD_own (d : D) : slotD (.own d) = some d := rfl
@[simp] theorem slotD_no : slotD .no = none := rfl
@[simp] theorem frz_val (d : D) : frz (.val d) = some d := rfl
@[simp] theorem frz_lst (ds : List D) : frz (.own (.lst ds)) = some (.lst ds) := rfl
@[simp] theorem slot_val (d : D) : (Ent.val d).slot = .val d := rfl
@[simp] theorem slot_own (d : D) : (Ent.own d).slot = .own d := rfl
@[simp] theorem truD_bl (b : Bool) : truD (.bl b) = some b := rfl
@[simp] theorem finC_rt (e : Ent) (g : Env') : finC false (.rt e g) = .ret e .non := rfl
@[simp] theorem finC_nx (g : Env') : finC false (.nx g) = .ret (.val .non) .non := rfl
@[simp] theorem finC_exc (x : Err) (g : Env') : finC false (.exc x g) = .exc x .non := rfl
@[simp] theorem finC_rtI (e : Ent) (d : D) (g : Env') : finC true (.rt e (.own d :: g)) = .ret e d := rfl
@[simp] theorem finC_nxI (d : D) (g : Env') : finC true (.nx (.own d :: g)) = .ret (.val .non) d := rfl
@[simp] theorem finC_excI (x : Err) (d : D) (g : Env') : finC true (.exc x (.own d :: g)) = .exc x d := rfl
theorem run_eq {T : Tab} {l k : Nat} {ds : List D} {d : PDef} (h : T k = some d) (hl : ds.length = d.n) : run T (l + 1) k ds = finC d.io (d.body (run T l) (startG d ds)) := by
  rw [run]
  dsimp only
  rw [h]
  dsimp only
  rw [if_pos hl]
/-! ### comprehensions -/
theorem set_set (g : Env') (i : Nat) (a b : Slot) : (g.set i a).set i b = g.set i b := by simp
theorem lcL_map {i : Nat} {tt : M Bool} {me : M D} {xs : List α} {enc : α → D} {f : α → Bool} {y : α → D} (hi : i < g.length) (h0 : g[i]? = some .no) :
    ∀ {acc : List D}, acc.length + xs.length ≤ lim → (∀ x ∈ xs, tt c (g.set i (.val (enc x))) = .ok (f x) (g.set i (.val (enc x))) ∧ (f x = true → me c (g.set i (.val (enc x))) = .ok (y x) (g.set i (.val (enc x))))) →
    lcL (.nm i) tt me [i] c (xs.map enc) g acc = .ok (acc ++ (xs.filter f).map y) g := by
  have hw : ∀ d, wipeG (g.set i (.val d)) [i] = g := fun d => by
    show (wipeG (g.set i (.val d)) []).set i .no = g
    rw [wipeG, set_set]
    exact List.ext_getElem? fun j => by
      by_cases hj : i = j
      · subst hj; rw [List.getElem?_set_self hi, h0]
      · rw [List.getElem?_set_ne hj]
  induction xs with
  | nil => intro acc _ _; simp [lcL]
  | cons x xs ih =>
    intro acc hl h
    obtain ⟨h1, h2⟩ := h x List.mem_cons_self
    rw [List.map_cons, lcL, asg, if_pos hi]
    dsimp only
    rw [h1]
    rw [List.length_cons] at hl
    cases hf : f x with
    | false =>
      dsimp only
      rw [hw, ih (by omega) fun z hz => h z (List.mem_cons_of_mem _ hz), List.filter_cons, hf]
      simp
    | true =>
      dsimp only
      rw [h2 hf]
      dsimp only
      rw [if_pos (by omega), hw, ih (by rw [List.length_append, List.length_singleton]; omega) fun z hz => h z (List.mem_cons_of_mem _ hz), List.filter_cons, hf]
      simp
/-- a comprehension over one list, nothing changed by it -/
theorem ev_Lc {i : Nat} {mi : M (List D)} {tt : M Bool} {me : M D} (xs : List α) (enc : α → D) (f : α → Bool) (y : α → D) (g1 : Env') (hm : mi c g = .ok (xs.map enc) g1) (hi : notOwn g1[i]? = true) (hlen : xs.length ≤ lim)
    (h : ∀ x ∈ xs, tt c (g1.set i (.val (enc x))) = .ok (f x) (g1.set i (.val (enc x))) ∧ (f x = true → me c (g1.set i (.val (enc x))) = .ok (y x) (g1.set i (.val (enc x))))) :
    mLc mi (.nm i) tt me [i] c g = .ok (.own (.lst ((xs.filter f).map y))) g1 := by
  have hil : i < g1.length := by
    cases hg : g1[i]? with
    | none => rw [hg] at hi; cases hi
    | some sl => exact (List.getElem?_eq_some_iff.mp hg).1
  have e1 : wipeG g1 [i] = g1.set i .no := rfl
  have e2 : okW [i] g1 = true := by unfold okW; simp [hi]
  unfold mLc
  rw [ev_bnd, hm]
  dsimp only
  rw [if_pos e2, e1, lcL_map (enc := enc) (f := f) (y := y) (by rw [List.length_set]; exact hil) (List.getElem?_set_self hil) (by simpa using hlen) fun x hx => by rw [set_set]; exact h x hx]
  dsimp only
  rw [List.nil_append]
  congr 1
  show (restG g1 (g1.set i .no) []).set i ((g1[i]?).getD .no) = g1
  rw [restG, set_set]
  exact List.ext_getElem? fun j => by
    by_cases hj : i = j
    · subst hj
      rw [List.getElem?_set_self hil]
      cases hg : g1[i]? with
      | none => rw [List.getElem?_eq_none_iff] at hg; omega
      | some sl => rfl
    · rw [List.getElem?_set_ne hj]
@[simp] theorem blsOf_of (f : α → Bool) (l : List α) : blsOf (l.map fun a => D.bl (f a)) = some (l.map f) := by
  have := map_blsOf (l.map f)
  rw [List.map_map] at this
  exact this
@[simp] theorem intsOf_of (f : α → Int) (l : List α) : intsOf (l.map fun a => D.int (f a)) = some (l.map f) := by
  have := map_intsOf (l.map f)
  rw [List.map_map] at this
  exact this
@[simp] theorem strsOf_of (f : α → List Nat) (l : List α) : strsOf (l.map fun a => D.str (f a)) = some (l.map f) := by
  have := map_strsOf (l.map f)
  rw [List.map_map] at this
  exact this
theorem lim_le {n : Nat} (h : n ≤ 1000000) : n ≤ lim := by unfold lim; omega
@[simp] theorem cut_from (xs : List α) (k : Nat) : cutD xs (some (k : Int)) none = xs.drop k := by
  unfold cutD
  rw [HT.sIx_nat, HT.sIx_none]
  by_cases h : k ≤ xs.length
  · rw [Nat.min_eq_left h]
    exact List.take_of_length_le (by rw [List.length_drop]; exact Nat.le_refl _)
  · rw [Nat.min_eq_right (by omega), List.drop_of_length_le (Nat.le_refl _), List.drop_of_length_le (by omega)]
    simp
@[simp] theorem cut_to (xs : List α) (k : Nat) : cutD xs none (some (k : Int)) = xs.take k := by
  unfold cutD
  rw [HT.sIx_nat, HT.sIx_none, List.drop_zero, Nat.sub_zero]
  by_cases h : k ≤ xs.length
  · rw [Nat.min_eq_left h]
  · rw [Nat.min_eq_right (by omega), List.take_of_length_le (by omega), List.take_of_length_le (by omega)]
@[simp] theorem cut_one (xs : List α) : cutD xs (some 1) none = xs.drop 1 := cut_from xs 1
@[simp] theorem cut_both (xs : List α) (j k : Nat) : cutD xs (some (j : Int)) (some (k : Int)) = (xs.drop j).take (k - j) := by
  unfold cutD
  rw [HT.sIx_nat, HT.sIx_nat]
  rcases Nat.le_total j xs.length with h | h
  · rw [Nat.min_eq_left h]
    rcases Nat.le_total k xs.length with h2 | h2
    · rw [Nat.min_eq_left h2]
    · rw [Nat.min_eq_right h2, List.take_of_length_le (by rw [List.length_drop]; exact Nat.le_refl _), List.take_of_length_le (by rw [List.length_drop]; omega)]
  · rw [Nat.min_eq_right h, List.drop_of_length_le (Nat.le_refl _), List.drop_of_length_le h]
    simp
theorem rng_nat (n : Nat) (h : n ≤ 1000000) : rng1 [.int (n : Int)] = some ((List.range n).map fun (k : Nat) => D.int (k : Int)) := by
  show rngD 0 n = _
  unfold rngD
  rw [if_pos (okZ_of (by omega)), Int.sub_zero, Int.toNat_natCast]
  simp
theorem rng_two (n : Nat) (h : n ≤ 1000000) : rng2 [.int 1, .int ((n : Int) + 1)] = some ((List.range n).map fun (k : Nat) => D.int ((k + 1 : Nat) : Int)) := by
  show rngD 1 (n + 1) = _
  unfold rngD
  rw [if_pos (okZ_of (by omega)), show ((n : Int) + 1 - 1) = n by omega, Int.toNat_natCast]
  congr 1
  refine List.map_congr_left fun k _ => ?_
  congr 1
  omega
/-- what is equal to itself -/
theorem eqv_refl_all : ∀ n, (∀ d, okD n d = true → eqv d d = true) ∧ ∀ ds, okDs n ds = true → eqvs ds ds = true := by
  have all : ∀ n, (∀ d, okD n d = true → eqv d d = true) → ∀ ds, okDs n ds = true → eqvs ds ds = true := fun n h ds => by
    induction ds with
    | nil => intro _; rfl
    | cons d ds ih =>
      intro q
      rw [okDs, Bool.and_eq_true] at q
      rw [eqvs, h d q.1, ih q.2]
      rfl
  intro n
  induction n with
  | zero =>
    have h0 : ∀ d, okD 0 d = true → eqv d d = true := fun d h => by
      cases d <;> simp [okD] at h <;> simp [eqv]
    exact ⟨h0, all 0 h0⟩
  | succ n ih =>
    have h1 : ∀ d, okD (n + 1) d = true → eqv d d = true := fun d h => by
      cases d with
      | tup xs => rw [okD] at h; rw [eqv]; exact ih.2 xs h
      | lst xs => rw [okD] at h; rw [eqv]; exact ih.2 xs h
      | _ => first | (simp [okD] at h; done) | simp [eqv]
    exact ⟨h1, all (n + 1) h1⟩
theorem eqv_refl {n : Nat} {d : D} (h : okD n d = true) : eqv d d = true := (eqv_refl_all n).1 d h
theorem okDs_map {n : Nat} {f : α → D} : ∀ {l : List α}, (∀ x ∈ l, okD n (f x) = true) → okDs n (l.map f) = true
  | [], _ => by rw [List.map_nil, okDs]
  | x :: l, h => by
    rw [List.map_cons, okDs, h x List.mem_cons_self, okDs_map fun y hy => h y (List.mem_cons_of_mem _ hy)]
    rfl
/-- a while loop by what holds before each turn, and a number that falls -/
theorem whL_ind {t : M Bool} {body : MS} (I : Nat → Env' → Prop) (Dn : Env' → Prop)
    (h : ∀ m g, I m g → (∃ g', t c g = .ok false g' ∧ Dn g') ∨ ∃ g1 g2 m', t c g = .ok true g1 ∧ (body c g1 = .nx g2 ∨ body c g1 = .ct g2) ∧ m' < m ∧ I m' g2) :
    ∀ (n m : Nat) (g : Env'), m < n → I m g → ∃ g', whL t body c n g = .nx g' ∧ Dn g'
  | 0, m, g, hn, _ => absurd hn (Nat.not_lt_zero _)
  | n + 1, m, g, hn, hi => by
    rcases h m g hi with ⟨g', h1, h2⟩ | ⟨g1, g2, m', h1, h2, h3, h4⟩
    · exact ⟨g', by rw [whL, h1], h2⟩
    · obtain ⟨g', h5, h6⟩ := whL_ind I Dn h n m' g2 (by omega) h4
      refine ⟨g', ?_, h6⟩
      rw [whL, h1]
      dsimp only
      rcases h2 with h2 | h2 <;> (rw [h2]; exact h5)
@[simp] theorem ev_sWh (n : Nat) (t : M Bool) (b : MS) : sWh n t b c g = whL t b c n g := rfl
end Wb

set_option Elab.async false
set_option linter.all false
set_option maxRecDepth 100000
set_option maxHeartbeats 4000000
/-! Wb: what the laws draw. -/
namespace Wb
open PySem PySem.Spec PyProof.Rows L2
variable {c : Cal} {g g' : Env'}
/-- the code of _law_take, of _law_draw -/
def takeC : MS := (sSeq (sIf (mCmp .Eq (mSubW 0 (mK (.int 2))) (mK (.int 0))) (sSeq (sPut 0 (mD (mBin .Add (mSubW 0 (mK (.int 1))) (mK (.int 1)))) (mK (.int 1)))
    (sSeq (sIf (mCmp .Lt (mSubW 0 (mK (.int 1))) (mD (mBlt bLen (mCons (mSubW 0 (mK (.int 0))) mNil)))) (sSeq (sPut 0 (mSub (mSubW 0 (mK (.int 0))) (mSubW 0 (mK (.int 1)))) (mK (.int 2)))
    sNil) sNil)
    (sSeq (sIf (mCmp .Eq (mSubW 0 (mK (.int 2))) (mK (.int 0))) (sSeq (sPut 0 (mD (mBin .Mod (mD (mBlt bInt (mCons (mD (mBin .Add (mD (mBin .Mult (mSubW 0 (mK (.int 3))) (mK (.int 48271)))) (mK (.int 11)))) mNil))) (mK (.int 2147483647)))) (mK (.int 3)))
    (sSeq (sPut 0 (mSubW 0 (mK (.int 3))) (mK (.int 2)))
    sNil)) sNil)
    sNil))) sNil)
    (sSeq (sSet 2 (mBin .Mod (mD (mBlt bInt (mCons (mSubW 0 (mK (.int 2))) mNil))) (mV 1)))
    (sSeq (sPut 0 (mD (mBin .FloorDiv (mSubW 0 (mK (.int 2))) (mV 1))) (mK (.int 2)))
    (sSeq (sRet (mMove 2))
    sNil))))
def drawC : MS := (sSeq (sSet 1 (bnd (mK (.int 7)) fun d => ret (.val d)))
    (sSeq (sFor (mIter (mV 0)) (.nm 2) (sSeq (sSet 1 (mBin .Mod (mD (mBlt bInt (mCons (mD (mBin .Add (mD (mBin .Add (mD (mBin .Mult (mV 1) (mK (.int 48271)))) (mD (mBin .Mod (mD (mBlt bAbs (mCons (mD (mBlt bInt (mCons (mV 2) mNil))) mNil))) (mK (.int 65521)))))) (mK (.int 1)))) mNil))) (mK (.int 2147483647))))
    sNil))
    (sSeq (sRet (mLst (mCons (mD (mLc (mIter (mV 0)) (.nm 2) (ret true) (mD (mBlt bAbs (mCons (mD (mBlt bInt (mCons (mV 2) mNil))) mNil))) [2])) (mCons (mNeg (mK (.int 1))) (mCons (mK (.int 0)) (mCons (mV 1) mNil))))))
    sNil)))
def drw (cells : List Int) (a n s : Int) : D := .lst [.lst (cells.map .int), .int a, .int n, .int s]
def DrawOk (d : D) : Prop := ∃ cells a n s, d = drw cells a n s ∧ (∀ z ∈ cells, 0 ≤ z) ∧ -1 ≤ a ∧ 0 ≤ n ∧ 0 ≤ s ∧ s < 2147483647
theorem mul_seed (s k : Int) (h0 : 0 ≤ s) (h1 : s < 2147483647) : mulD (.int s) (.int k) = some (.val (.int (s * k))) := by
  unfold mulD
  exact if_pos (.inl ⟨by omega, by omega⟩)
/-- the tail of _law_take: the number in hand is told and shortened -/
theorem take_tail {cells : List Int} {a n s many : Int} (h0 : 0 ≤ n) (hm : 1 ≤ many) (hm2 : many < 1073741824) :
    (sSeq (sSet 2 (mBin .Mod (mD (mBlt bInt (mCons (mSubW 0 (mK (.int 2))) mNil))) (mV 1)))
    (sSeq (sPut 0 (mD (mBin .FloorDiv (mSubW 0 (mK (.int 2))) (mV 1))) (mK (.int 2)))
    (sSeq (sRet (mMove 2))
    sNil))) c [.own (drw cells a n s), .val (.int many), .no] = .rt (.val (.int (n % many))) [.own (drw cells a (n / many) s), .val (.int many), .val (.int (n % many))] := by
  have h1 : (0 : Int) < many := by omega
  simp [drw, subW, subD', atZ, binD, modD, divD, bInt, h1, hm2, setAt]
theorem take_ok {d0 : D} {many : Int} (h : DrawOk d0) (hm : 1 ≤ many) (hm2 : many < 1073741824) : ∃ (v : Int) (d1 : D) (z : Slot), takeC c [.own d0, .val (.int many), .no] = .rt (.val (.int v)) [.own d1, .val (.int many), z] ∧ 0 ≤ v ∧ v < many ∧ DrawOk d1 := by
  obtain ⟨cells, a, n, s, rfl, hc, ha, hn, hs0, hs1⟩ := h
  -- with a number n in hand
  have tail : ∀ (a n s : Int), -1 ≤ a → 0 ≤ n → 0 ≤ s → s < 2147483647 → ∃ (v : Int) (d1 : D) (z : Slot), (sSeq (sSet 2 (mBin .Mod (mD (mBlt bInt (mCons (mSubW 0 (mK (.int 2))) mNil))) (mV 1)))
      (sSeq (sPut 0 (mD (mBin .FloorDiv (mSubW 0 (mK (.int 2))) (mV 1))) (mK (.int 2))) (sSeq (sRet (mMove 2)) sNil))) c [.own (drw cells a n s), .val (.int many), .no] = .rt (.val (.int v)) [.own d1, .val (.int many), z] ∧ 0 ≤ v ∧ v < many ∧ DrawOk d1 := fun a n s ha hn h0 h1 =>
    ⟨_, _, _, take_tail hn hm hm2, Int.emod_nonneg _ (by omega), Int.emod_lt_of_pos _ (by omega), cells, a, n / many, s, rfl, hc, ha, Int.ediv_nonneg hn (by omega), h0, h1⟩
  unfold takeC
  by_cases hz : n = 0
  · subst hz
    -- the number under the next place
    have e2 : (0 : Int) ≤ a + 1 := by omega
    by_cases hl : a + 1 < cells.length
    · have hlt : (a + 1).toNat < cells.length := by omega
      have hget : cells[(a + 1).toNat]? = some cells[(a + 1).toNat] := List.getElem?_eq_getElem hlt
      have hp : 0 ≤ cells[(a + 1).toNat] := hc _ (List.getElem_mem hlt)
      by_cases hq : cells[(a + 1).toNat] = 0
      · obtain ⟨v, d1, z, t1, t2, t3, t4⟩ := tail (a + 1) ((s * 48271 + 11) % 2147483647) ((s * 48271 + 11) % 2147483647) (by omega) (by omega) (by omega) (by omega)
        refine ⟨v, d1, z, ?_, t2, t3, t4⟩
        rw [← t1]
        simp [drw, subW, subD', atZ, cmpD, okD, okDs, eqv, setAt, binD, addD, modD, bLen, bInt, hl, e2, hget, hq, mul_seed s _ hs0 hs1]
      · obtain ⟨v, d1, z, t1, t2, t3, t4⟩ := tail (a + 1) cells[(a + 1).toNat] s (by omega) hp hs0 hs1
        refine ⟨v, d1, z, ?_, t2, t3, t4⟩
        rw [← t1]
        simp [drw, subW, subD', atZ, cmpD, okD, okDs, eqv, setAt, binD, addD, modD, bLen, bInt, hl, e2, hget, hq]
    · obtain ⟨v, d1, z, t1, t2, t3, t4⟩ := tail (a + 1) ((s * 48271 + 11) % 2147483647) ((s * 48271 + 11) % 2147483647) (by omega) (by omega) (by omega) (by omega)
      refine ⟨v, d1, z, ?_, t2, t3, t4⟩
      rw [← t1]
      simp [drw, subW, subD', atZ, cmpD, okD, okDs, eqv, setAt, binD, addD, modD, bLen, bInt, hl, e2, mul_seed s _ hs0 hs1]
  · obtain ⟨v, d1, z, t1, t2, t3, t4⟩ := tail a n s ha hn hs0 hs1
    refine ⟨v, d1, z, ?_, t2, t3, t4⟩
    rw [← t1]
    simp [drw, subW, subD', atZ, cmpD, okD, okDs, eqv, hz]

/-- a for loop by what holds before each turn -/
theorem forL_ind {α : Type} {t : Tg} {body : MS} {enc : α → D} (I : List α → Env' → Prop) (h : ∀ x xs g, I (x :: xs) g → ∃ g1 g2, asg t (enc x) g = some g1 ∧ (body c g1 = .nx g2 ∨ body c g1 = .ct g2) ∧ I xs g2) :
    ∀ (xs : List α) (g : Env'), I xs g → ∃ g', forL t body c (xs.map enc) g = .nx g' ∧ I [] g'
  | [], g, hi => ⟨g, rfl, hi⟩
  | x :: xs, g, hi => by
    obtain ⟨g1, g2, h1, h2, h3⟩ := h x xs g hi
    obtain ⟨g', h4, h5⟩ := forL_ind I h xs g2 h3
    refine ⟨g', ?_, h5⟩
    rw [List.map_cons, forL, h1]
    dsimp only
    rcases h2 with h2 | h2 <;> (rw [h2]; exact h4)
theorem draw_ok {ns : List Int} (hlen : ns.length ≤ 1000) : ∃ (d : D) (g' : Env'), drawC c [.val (.rol (ns.map .int)), .no, .no] = .rt (.own d) g' ∧ DrawOk d := by
  obtain ⟨g', h1, s, z, h2, h3, h4, hz⟩ := forL_ind (c := c) (t := .nm 2) (enc := D.int) (body := (sSeq (sSet 1 (mBin .Mod (mD (mBlt bInt (mCons (mD (mBin .Add (mD (mBin .Add (mD (mBin .Mult (mV 1) (mK (.int 48271)))) (mD (mBin .Mod (mD (mBlt bAbs (mCons (mD (mBlt bInt (mCons (mV 2) mNil))) mNil))) (mK (.int 65521)))))) (mK (.int 1)))) mNil))) (mK (.int 2147483647)))) sNil))
    (fun _ g => ∃ s z, g = [Slot.val (.rol (ns.map .int)), Slot.val (.int s), z] ∧ 0 ≤ s ∧ s < 2147483647 ∧ notOwn (some z) = true) (fun x xs g hg => by
      obtain ⟨s, z, rfl, h0, h1, _⟩ := hg
      exact ⟨[.val (.rol (ns.map .int)), .val (.int s), .val (.int x)], [.val (.rol (ns.map .int)), .val (.int ((s * 48271 + (x.natAbs : Int) % 65521 + 1) % 2147483647)), .val (.int x)], by simp [asg], .inl (by simp [binD, addD, modD, bInt, bAbs, mul_seed s _ h0 h1]), _, _, rfl, Int.emod_nonneg _ (by omega), Int.emod_lt_of_pos _ (by omega), rfl⟩) ns [.val (.rol (ns.map .int)), .val (.int 7), .no] ⟨7, .no, rfl, by omega, by omega, rfl⟩
  subst h2
  have hc := ev_Lc (c := c) (i := 2) (mi := mIter (mV 0)) (tt := ret true) (me := mD (mBlt bAbs (mCons (mD (mBlt bInt (mCons (mV 2) mNil))) mNil))) (g := [Slot.val (.rol (ns.map .int)), Slot.val (.int s), z]) ns D.int (fun _ => true) (fun x => .int (x.natAbs : Int)) [Slot.val (.rol (ns.map .int)), Slot.val (.int s), z] (by simp [itemsD]) hz (lim_le (by omega)) fun x _ => by simp [bInt, bAbs]
  refine ⟨drw ((ns.filter fun _ => true).map fun z => (z.natAbs : Int)) (-1) 0 s, [Slot.val (.rol (ns.map .int)), Slot.val (.int s), z], ?_, _, _, _, _, rfl, fun z hz => ?_, by omega, by omega, h3, h4⟩
  · unfold drawC
    simp [h1, hc, itemsD, negD, drw, lim]
  · obtain ⟨x, _, rfl⟩ := List.mem_map.mp hz
    omega
/-! ### drawn things in a row -/
theorem lcL_draw {i j : Nat} {me : M D} (Inv P : D → Prop) (hij : i ≠ j) (hi : i < g.length) (hj : j < g.length) (h0 : g[i]? = some .no) :
    ∀ (ds : List D) {acc : List D} (d0 : D), acc.length + ds.length ≤ lim → Inv d0 → (∀ x ∈ ds, ∀ d, Inv d → ∃ y d', me c ((g.set j (.own d)).set i (.val x)) = .ok y ((g.set j (.own d')).set i (.val x)) ∧ Inv d' ∧ P y) →
    ∃ ys d', lcL (.nm i) (ret true) me [i] c ds (g.set j (.own d0)) acc = .ok (acc ++ ys) (g.set j (.own d')) ∧ Inv d' ∧ ys.length = ds.length ∧ ∀ y ∈ ys, P y
  | [], acc, d0, _, hd, _ => ⟨[], d0, by simp [lcL], hd, rfl, fun y hy => (nomatch hy)⟩
  | x :: ds, acc, d0, hl, hd, h => by
    obtain ⟨y, d1, k1, k2, k3⟩ := h x List.mem_cons_self d0 hd
    rw [List.length_cons] at hl
    obtain ⟨ys, d', k4, k5, k6, k7⟩ := lcL_draw Inv P hij hi hj h0 ds (acc := acc ++ [y]) d1 (by rw [List.length_append, List.length_singleton]; omega) k2 fun z hz => h z (List.mem_cons_of_mem _ hz)
    refine ⟨y :: ys, d', ?_, k5, by rw [List.length_cons, List.length_cons, k6], fun z hz => ?_⟩
    · have hw : wipeG ((g.set j (.own d1)).set i (.val x)) [i] = g.set j (.own d1) := by
        show (((g.set j (.own d1)).set i (.val x))).set i .no = _
        rw [set_set]
        refine List.ext_getElem? fun n => ?_
        by_cases hn : i = n
        · subst hn
          rw [List.getElem?_set_self (by rw [List.length_set]; exact hi), List.getElem?_set_ne (Ne.symm hij), h0]
        · rw [List.getElem?_set_ne hn]
      rw [lcL, asg, if_pos (by rw [List.length_set]; exact hi)]
      dsimp only
      rw [ev_ret]
      dsimp only
      rw [k1]
      dsimp only
      rw [if_pos (by omega), hw, k4, List.append_assoc]
      rfl
    · rcases List.mem_cons.mp hz with e | e
      · rw [e]; exact k3
      · exact k7 z e
theorem ev_LcDraw {i j : Nat} {mi : M (List D)} {me : M D} (Inv P : D → Prop) (ds : List D) (g1 : Env') (d0 : D) (hm : mi c g = .ok ds g1) (hj : g1[j]? = some (.own d0)) (hd : Inv d0) (hij : i ≠ j) (hi : notOwn g1[i]? = true) (hlen : ds.length ≤ lim)
    (h : ∀ x ∈ ds, ∀ d, Inv d → ∃ y d', me c ((g1.set j (.own d)).set i (.val x)) = .ok y ((g1.set j (.own d')).set i (.val x)) ∧ Inv d' ∧ P y) :
    ∃ ys d', mLc mi (.nm i) (ret true) me [i] c g = .ok (.own (.lst ys)) (g1.set j (.own d')) ∧ Inv d' ∧ ys.length = ds.length ∧ ∀ y ∈ ys, P y := by
  have hil : i < g1.length := by
    cases hg : g1[i]? with
    | none => rw [hg] at hi; cases hi
    | some sl => exact (List.getElem?_eq_some_iff.mp hg).1
  have hjl : j < g1.length := (List.getElem?_eq_some_iff.mp hj).1
  have comm : ∀ d x, ((g1.set i .no).set j (.own d)).set i (.val x) = (g1.set j (.own d)).set i (.val x) := fun d x => by
    rw [List.set_comm _ _ hij, set_set]
  obtain ⟨ys, d', k1, k2, k3, k4⟩ := lcL_draw (c := c) (g := g1.set i .no) (me := me) Inv P hij (by rw [List.length_set]; exact hil) (by rw [List.length_set]; exact hjl) (List.getElem?_set_self hil) ds (acc := []) d0 (by simpa using hlen) hd fun x hx d hd => by
    obtain ⟨y, d', a, b⟩ := h x hx d hd
    exact ⟨y, d', by rw [comm, comm]; exact a, b⟩
  refine ⟨ys, d', ?_, k2, k3, k4⟩
  have e1 : wipeG g1 [i] = (g1.set i .no).set j (.own d0) := by
    show g1.set i .no = _
    refine List.ext_getElem? fun n => ?_
    by_cases hn : j = n
    · subst hn
      rw [List.getElem?_set_self (by rw [List.length_set]; exact hjl), List.getElem?_set_ne hij, hj]
    · rw [List.getElem?_set_ne hn]
  have e2 : okW [i] g1 = true := by unfold okW; simp [hi]
  unfold mLc
  rw [ev_bnd, hm]
  dsimp only
  rw [if_pos e2, e1, k1]
  dsimp only
  rw [List.nil_append]
  congr 1
  show ((g1.set i .no).set j (.own d')).set i ((g1[i]?).getD .no) = g1.set j (.own d')
  rw [List.set_comm _ _ hij, set_set]
  refine List.ext_getElem? fun n => ?_
  by_cases hn : i = n
  · subst hn
    rw [List.getElem?_set_self (by rw [List.length_set]; exact hil), List.getElem?_set_ne (Ne.symm hij)]
    cases hg : g1[i]? with
    | none => rw [List.getElem?_eq_none_iff] at hg; omega
    | some sl => rfl
  · rw [List.getElem?_set_ne hn]
end Wb

set_option Elab.async false
set_option linter.all false
set_option maxRecDepth 100000
set_option maxHeartbeats 4000000
/-! Wb: words that stand ahead of all their turns (plain words, no text in sight). -/
namespace Wb
abbrev Wd := List Nat
/-! ### the order -/
theorem lt_cons {a b : Nat} {x y : Wd} : (a :: x < b :: y) ↔ (a < b ∨ (a = b ∧ x < y)) := List.cons_lt_cons_iff
theorem lt_nil {x : Wd} : ¬ x < [] := List.not_lt_nil x
theorem nil_lt {a : Nat} {x : Wd} : ([] : Wd) < a :: x := List.nil_lt_cons a x
theorem lt_irr (x : Wd) : ¬ x < x := List.lt_irrefl x
theorem lt_tr {x y z : Wd} (a : x < y) (b : y < z) : x < z := List.lt_trans a b
theorem lt_three (x y : Wd) : x < y ∨ x = y ∨ y < x := by
  rcases List.le_total x y with h | h
  · by_cases h2 : x < y
    · exact .inl h2
    · exact .inr (.inl (List.le_antisymm h (List.not_lt.mp h2)))
  · by_cases h2 : y < x
    · exact .inr (.inr h2)
    · exact .inr (.inl (List.le_antisymm (List.not_lt.mp h2) h))
theorem app_lt_app {p x y : Wd} : (p ++ x < p ++ y) ↔ x < y := by
  induction p with
  | nil => exact Iff.rfl
  | cons a p ih =>
    rw [List.cons_append, List.cons_append, lt_cons, ih]
    exact ⟨fun h => h.resolve_left (Nat.lt_irrefl a) |>.2, fun h => .inr ⟨rfl, h⟩⟩
theorem lt_app {x y : Wd} (h : y ≠ []) : x < x ++ y := by
  cases y with
  | nil => exact absurd rfl h
  | cons b y =>
    have := (app_lt_app (p := x) (x := []) (y := b :: y)).mpr nil_lt
    rwa [List.append_nil] at this
/-- where the first difference stands, what follows does not matter -/
theorem lt_far {x y a b : Wd} (h : x < y) (hn : ¬ x <+: y) : x ++ a < y ++ b := by
  induction x generalizing y with
  | nil => exact absurd (List.nil_prefix) hn
  | cons c x ih =>
    cases y with
    | nil => exact absurd h lt_nil
    | cons d y =>
      rw [lt_cons] at h
      rw [List.cons_append, List.cons_append, lt_cons]
      rcases h with h | ⟨rfl, h⟩
      · exact .inl h
      · exact .inr ⟨rfl, ih h fun q => hn (List.cons_prefix_cons.mpr ⟨rfl, q⟩)⟩
/-- a word above x and below x with something behind it begins with x -/
theorem pre_of_between {x y z : Wd} (h1 : x < y) (h2 : y < x ++ z) : x <+: y := by
  induction x generalizing y with
  | nil => exact List.nil_prefix
  | cons c x ih =>
    cases y with
    | nil => exact absurd h1 lt_nil
    | cons d y =>
      rw [List.cons_append, lt_cons] at h2
      rw [lt_cons] at h1
      rcases h1 with h1 | ⟨rfl, h1⟩
      · rcases h2 with h2 | ⟨e, _⟩
        · exact absurd (Nat.lt_trans h1 h2) (Nat.lt_irrefl _)
        · rw [e] at h1; exact absurd h1 (Nat.lt_irrefl _)
      · rcases h2 with h2 | ⟨_, h2⟩
        · exact absurd h2 (Nat.lt_irrefl _)
        · exact List.cons_prefix_cons.mpr ⟨rfl, ih h1 h2⟩
theorem same_len_lt {x y a b : Wd} (hl : x.length = y.length) (h : x < y) : x ++ a < y ++ b := by
  refine lt_far h fun q => ?_
  have := List.IsPrefix.eq_of_length q hl
  rw [this] at h
  exact lt_irr _ h
/-! ### least words -/
def rots (w : Wd) : List Wd := (List.range w.length).map fun k => w.drop k ++ w.take k
def leastB (w : Wd) : Bool := ((rots w).drop 1).all fun o => decide (w < o)
/-- ahead of each turn -/
def Least (w : Wd) : Prop := ∀ k, 0 < k → k < w.length → w < w.drop k ++ w.take k
theorem leastB_iff {w : Wd} : leastB w = true ↔ Least w := by
  unfold leastB rots
  rw [List.all_eq_true]
  constructor
  · intro h k h0 h1
    have : w.drop k ++ w.take k ∈ (List.map (fun k => w.drop k ++ w.take k) (List.range w.length)).drop 1 := by
      rw [← List.map_drop, List.mem_map]
      refine ⟨k, ?_, rfl⟩
      rw [List.mem_iff_getElem?]
      refine ⟨k - 1, ?_⟩
      rw [List.getElem?_drop, show 1 + (k - 1) = k by omega, List.getElem?_range h1]
    exact of_decide_eq_true (h _ this)
  · intro h o ho
    rw [← List.map_drop, List.mem_map] at ho
    obtain ⟨k, hk, rfl⟩ := ho
    rw [List.mem_iff_getElem?] at hk
    obtain ⟨j, hj⟩ := hk
    rw [List.getElem?_drop] at hj
    obtain ⟨h1, h2⟩ := List.getElem?_eq_some_iff.mp hj
    rw [List.length_range] at h1
    rw [List.getElem_range] at h2
    exact decide_eq_true (h k (by omega) (by omega))
/-- a least word stands ahead of what is left when signs are taken from its front -/
theorem Least.suf {w : Wd} (h : Least w) {k : Nat} (h0 : 0 < k) (h1 : k < w.length) : w < w.drop k := by
  rcases lt_three w (w.drop k) with q | q | q
  · exact q
  · have := congrArg List.length q
    rw [List.length_drop] at this
    omega
  · exfalso
    have r1 := h k h0 h1
    obtain ⟨v, hv⟩ := pre_of_between q r1
    -- w = s v with s = drop k, and w = take k ++ s
    have hlen : v.length = k := by
      have := congrArg List.length hv
      rw [List.length_append, List.length_drop] at this
      omega
    have hk2 : w.length - k < w.length := by omega
    have r2 := h (w.length - k) (by omega) hk2
    have e1 : w.take (w.length - k) = w.drop k := by
      have z := congrArg (List.take (w.length - k)) hv
      rw [List.take_append_of_le_length (by rw [List.length_drop]; exact Nat.le_refl _), List.take_of_length_le (by rw [List.length_drop]; exact Nat.le_refl _)] at z
      exact z.symm
    have e2 : w.drop (w.length - k) = v := by
      have z := congrArg (List.drop (w.length - k)) hv
      rw [List.drop_append_of_le_length (by rw [List.length_drop]; exact Nat.le_refl _), List.drop_of_length_le (by rw [List.length_drop]; exact Nat.le_refl _), List.nil_append] at z
      exact z.symm
    rw [e1, e2] at r2
    -- v < take k
    have hvk : v < w.take k := by
      have a : w.drop k ++ v < w.drop k ++ w.take k := by rw [hv]; exact r1
      exact app_lt_app.mp a
    have b : v ++ w.drop k < w.take k ++ w.drop k := same_len_lt (by rw [hlen, List.length_take]; omega) hvk
    rw [List.take_append_drop] at b
    exact lt_irr _ (lt_tr r2 b)
theorem Least.of_suf {w : Wd} (h : ∀ k, 0 < k → k < w.length → w < w.drop k) : Least w := fun k h0 h1 => by
  have hne : w.take k ≠ [] := fun e => by
    have := congrArg List.length e
    rw [List.length_take, List.length_nil] at this
    omega
  exact lt_tr (h k h0 h1) (lt_app hne)
/-- two least words in rising order make a least word -/
theorem Least.join {u v : Wd} (hu : Least u) (hv : Least v) (nu : u ≠ []) (nv : v ≠ []) (h : u < v) : Least (u ++ v) := by
  have lu : 0 < u.length := List.length_pos_iff.mpr nu
  have lv : 0 < v.length := List.length_pos_iff.mpr nv
  -- uv stands ahead of v
  have huv : u ++ v < v := by
    by_cases hp : u <+: v
    · obtain ⟨t, ht⟩ := hp
      have ht0 : t ≠ [] := fun e => by
        rw [e, List.append_nil] at ht
        rw [ht] at h
        exact lt_irr _ h
      have hd : v.drop u.length = t := by rw [← ht, List.drop_left]
      have hlt : u.length < v.length := by
        rw [← ht, List.length_append]
        have := List.length_pos_iff.mpr ht0
        omega
      have := hv.suf lu hlt
      rw [hd] at this
      have z := (app_lt_app (p := u)).mpr this
      rwa [ht] at z
    · have := lt_far (a := v) (b := []) h hp
      rwa [List.append_nil] at this
  refine Least.of_suf fun k h0 h1 => ?_
  rw [List.length_append] at h1
  by_cases hk : k < u.length
  · rw [List.drop_append_of_le_length (by omega)]
    have hs := hu.suf h0 hk
    refine lt_far hs fun q => ?_
    have := q.length_le
    rw [List.length_drop] at this
    omega
  · have e : (u ++ v).drop k = v.drop (k - u.length) := by
      rw [List.drop_append, List.drop_of_length_le (by omega), List.nil_append]
    rw [e]
    by_cases hz : k - u.length = 0
    · rw [hz, List.drop_zero]
      exact huv
    · exact lt_tr huv (hv.suf (by omega) (by omega))
theorem least_one (a : Nat) : Least [a] := fun k h0 h1 => by
  simp at h1
  omega
theorem Least.ne {w : Wd} : True := trivial
/-! ### the parts of a text -/
/-- the greatest number of signs ahead that make a least word -/
def kMax (t : Wd) : Nat → Nat
  | 0 => 0
  | n + 1 => if leastB (t.take (n + 1)) then n + 1 else kMax t n
theorem kMax_spec (t : Wd) : ∀ n, kMax t n ≤ n ∧ (0 < kMax t n → Least (t.take (kMax t n))) ∧ ∀ j, kMax t n < j → j ≤ n → ¬ Least (t.take j)
  | 0 => ⟨Nat.le_refl _, fun h => absurd h (Nat.lt_irrefl _), fun j h1 h2 => absurd (Nat.lt_of_lt_of_le h1 h2) (Nat.lt_irrefl _)⟩
  | n + 1 => by
    obtain ⟨h1, h2, h3⟩ := kMax_spec t n
    unfold kMax
    split
    · rename_i h
      exact ⟨Nat.le_refl _, fun _ => leastB_iff.mp h, fun j a b => absurd (Nat.lt_of_lt_of_le a b) (Nat.lt_irrefl _)⟩
    · rename_i h
      refine ⟨Nat.le_succ_of_le h1, h2, fun j a b => ?_⟩
      by_cases e : j = n + 1
      · rw [e]
        exact fun q => h (leastB_iff.mpr q)
      · exact h3 j a (by omega)
def km (t : Wd) : Nat := kMax t t.length
theorem km_pos {t : Wd} (h : t ≠ []) : 0 < km t := by
  cases t with
  | nil => exact absurd rfl h
  | cons a t =>
    rcases Nat.eq_zero_or_pos (km (a :: t)) with z | z
    · obtain ⟨_, _, h3⟩ := kMax_spec (a :: t) (a :: t).length
      have := h3 1 (by unfold km at z; rw [z]; exact Nat.one_pos) (by simp)
      exact absurd (least_one a) this
    · exact z
theorem km_le (t : Wd) : km t ≤ t.length := (kMax_spec t t.length).1
theorem km_least {t : Wd} (h : t ≠ []) : Least (t.take (km t)) := (kMax_spec t t.length).2.1 (km_pos h)
theorem km_max {t : Wd} {j : Nat} (h : km t < j) (h2 : j ≤ t.length) : ¬ Least (t.take j) := (kMax_spec t t.length).2.2 j h h2
/-- the parts, fuel n -/
def partsF : Nat → Wd → List Wd
  | 0, _ => []
  | n + 1, t => if t = [] then [] else t.take (km t) :: partsF n (t.drop (km t))
def parts (t : Wd) : List Wd := partsF t.length t
theorem partsF_eq : ∀ (n m : Nat) (t : Wd), t.length ≤ n → t.length ≤ m → partsF n t = partsF m t
  | 0, m, t, h1, h2 => by
    have : t = [] := List.eq_nil_of_length_eq_zero (by omega)
    subst this
    cases m <;> rfl
  | n + 1, 0, t, h1, h2 => by
    have : t = [] := List.eq_nil_of_length_eq_zero (by omega)
    subst this
    rfl
  | n + 1, m + 1, t, h1, h2 => by
    unfold partsF
    by_cases h : t = []
    · rw [if_pos h, if_pos h]
    · rw [if_neg h, if_neg h]
      have := km_pos h
      have l : (t.drop (km t)).length < t.length := by
        rw [List.length_drop]
        have := List.length_pos_iff.mpr h
        omega
      rw [partsF_eq n m _ (by omega) (by omega)]
theorem parts_nil : parts [] = [] := rfl
theorem parts_cons {t : Wd} (h : t ≠ []) : parts t = t.take (km t) :: parts (t.drop (km t)) := by
  unfold parts
  cases hl : t.length with
  | zero => exact absurd (List.eq_nil_of_length_eq_zero hl) h
  | succ n =>
    rw [partsF, if_neg h]
    congr 1
    have := km_pos h
    exact partsF_eq _ _ _ (by rw [List.length_drop]; omega) (Nat.le_refl _)
/-- by the length of the text -/
theorem text_ind {P : Wd → Prop} (h0 : P []) (h : ∀ t, t ≠ [] → P (t.drop (km t)) → P t) : ∀ t, P t := by
  have go : ∀ n t, t.length ≤ n → P t := by
    intro n
    induction n with
    | zero =>
      intro t ht
      have : t = [] := List.eq_nil_of_length_eq_zero (by omega)
      rw [this]; exact h0
    | succ n ih =>
      intro t ht
      by_cases e : t = []
      · rw [e]; exact h0
      · have := km_pos e
        exact h t e (ih _ (by rw [List.length_drop]; omega))
  exact fun t => go t.length t (Nat.le_refl _)
theorem parts_join (t : Wd) : (parts t).flatten = t := by
  induction t using text_ind with
  | h0 => rfl
  | h t ht ih => rw [parts_cons ht, List.flatten_cons, ih, List.take_append_drop]
theorem parts_least (t : Wd) : ∀ p ∈ parts t, Least p ∧ p ≠ [] := by
  induction t using text_ind with
  | h0 => intro p hp; cases hp
  | h t ht ih =>
    intro p hp
    rw [parts_cons ht] at hp
    rcases List.mem_cons.mp hp with e | e
    · rw [e]
      refine ⟨km_least ht, fun z => ?_⟩
      have := congrArg List.length z
      rw [List.length_take, List.length_nil] at this
      have := km_pos ht
      have := km_le t
      omega
    · exact ih p e
/-- the first part is not below the next -/
theorem part_next {t : Wd} (h : t ≠ []) (h2 : t.drop (km t) ≠ []) : ¬ t.take (km t) < (t.drop (km t)).take (km (t.drop (km t))) := fun q => by
  have l1 := km_least h
  have l2 := km_least h2
  have p1 := km_pos h
  have p2 := km_pos h2
  have k1 := km_le t
  have k2 := km_le (t.drop (km t))
  rw [List.length_drop] at k2
  have j := l1.join l2 (fun z => by have := congrArg List.length z; rw [List.length_take, List.length_nil] at this; omega) (fun z => by have := congrArg List.length z; rw [List.length_take, List.length_drop, List.length_nil] at this; omega) q
  have e : t.take (km t) ++ (t.drop (km t)).take (km (t.drop (km t))) = t.take (km t + km (t.drop (km t))) := (List.take_add ..).symm
  rw [e] at j
  exact km_max (t := t) (j := km t + km (t.drop (km t))) (by omega) (by omega) j
theorem parts_head {t : Wd} (h : t ≠ []) : (parts t).head? = some (t.take (km t)) := by
  rw [parts_cons h]
  rfl
/-- not rising -/
theorem parts_down (t : Wd) : (parts t).Pairwise fun a b => ¬ a < b := by
  induction t using text_ind with
  | h0 => exact List.Pairwise.nil
  | h t ht ih =>
    rw [parts_cons ht]
    refine List.pairwise_cons.mpr ⟨fun b hb => ?_, ih⟩
    by_cases h2 : t.drop (km t) = []
    · rw [h2] at hb; cases hb
    · have n1 := part_next ht h2
      rw [parts_cons h2] at hb ih
      rcases List.mem_cons.mp hb with e | e
      · rw [e]; exact n1
      · have n2 := (List.pairwise_cons.mp ih).1 b e
        exact fun q => by
          rcases lt_three (t.take (km t)) ((t.drop (km t)).take (km (t.drop (km t)))) with z | z | z
          · exact n1 z
          · rw [z] at q; exact n2 q
          · exact n2 (lt_tr z q)

/-! ### all ways to cut a text into least words that do not rise -/
theorem km_take {d : Wd} {m : Nat} (h : km d ≤ m) (hd : d ≠ []) : km (d.take m) = km d := by
  have p := km_pos hd
  have hm : d.take m ≠ [] := fun z => by
    have := congrArg List.length z
    rw [List.length_take, List.length_nil] at this
    have := List.length_pos_iff.mpr hd
    omega
  have la := km_le (d.take m)
  rw [List.length_take] at la
  have a1 := km_least hm
  rw [List.take_take, Nat.min_eq_left (by omega)] at a1
  rcases Nat.lt_trichotomy (km (d.take m)) (km d) with q | q | q
  · have b1 := km_least hd
    have kd := km_le d
    have := km_max (t := d.take m) q (by rw [List.length_take]; omega)
    rw [List.take_take, Nat.min_eq_left h] at this
    exact absurd b1 this
  · exact q
  · exact absurd a1 (km_max q (by omega))
theorem cut_only {t : Wd} {k : Nat} (h0 : 0 < k) (h1 : k < km t) (hl : Least (t.take k)) : t.drop k ≠ [] ∧ t.take k < (t.drop k).take (km (t.drop k)) := by
  have ht : t ≠ [] := fun e => by subst e; simp [km, kMax] at h1
  have kt := km_le t
  have hd : t.drop k ≠ [] := fun e => by
    have := congrArg List.length e
    rw [List.length_drop, List.length_nil] at this
    omega
  refine ⟨hd, ?_⟩
  have hp := km_least ht
  -- p = take km, u = take k, s = p.drop k
  have es : (t.take (km t)).drop k = (t.drop k).take (km t - k) := by rw [List.drop_take]
  have hps : t.take (km t) < (t.drop k).take (km t - k) := by
    rw [← es]
    exact hp.suf h0 (by rw [List.length_take]; omega)
  have eu : t.take k ++ (t.drop k).take (km t - k) = t.take (km t) := by
    rw [← es]
    have := List.take_append_drop k (t.take (km t))
    rw [List.take_take, Nat.min_eq_left (by omega)] at this
    exact this
  have ns : (t.drop k).take (km t - k) ≠ [] := fun e => by
    have := congrArg List.length e
    rw [List.length_take, List.length_drop, List.length_nil] at this
    omega
  have hup : t.take k < t.take (km t) := by
    rw [← eu]
    exact lt_app ns
  by_cases hv : km t - k ≤ km (t.drop k)
  · -- the part reaches beyond p
    have e : (t.drop k).take (km (t.drop k)) = (t.drop k).take (km t - k) ++ ((t.drop k).drop (km t - k)).take (km (t.drop k) - (km t - k)) := by
      rw [← List.take_add]
      congr 1
      omega
    have hle : (t.drop k).take (km t - k) = (t.drop k).take (km (t.drop k)) ∨ (t.drop k).take (km t - k) < (t.drop k).take (km (t.drop k)) := by
      by_cases z : ((t.drop k).drop (km t - k)).take (km (t.drop k) - (km t - k)) = []
      · left; rw [e, z, List.append_nil]
      · right
        rw [e]
        exact lt_app z
    rcases hle with q | q
    · rw [← q]; exact lt_tr hup hps
    · exact lt_tr hup (lt_tr hps q)
  · -- the part ends within p
    have hkm : km ((t.drop k).take (km t - k)) = km (t.drop k) := km_take (by omega) hd
    rcases lt_three (t.take k) ((t.drop k).take (km (t.drop k))) with q | q | q
    · exact q
    all_goals exfalso
    all_goals
      have hvu : ¬ t.take k < (t.drop k).take (km (t.drop k)) := fun z => by
        first
          | (rw [← q] at z; exact lt_irr _ z)
          | exact lt_irr _ (lt_tr z q)
      generalize hs : (t.drop k).take (km t - k) = s at *
      have hvs : s.take (km s) = (t.drop k).take (km (t.drop k)) := by
        rw [hkm, ← hs, List.take_take, Nat.min_eq_left (by omega)]
      have hr : s.drop (km s) ≠ [] := fun e => by
        have := congrArg List.length e
        rw [List.length_drop, List.length_nil, hkm, ← hs, List.length_take, List.length_drop] at this
        omega
      have hpn : parts (s.drop (km s)) ≠ [] := by rw [parts_cons hr]; exact List.cons_ne_nil _ _
      have hx := List.getLast_mem hpn
      have hxs := parts_least _ _ hx
      have hdown := parts_down s
      rw [parts_cons ns] at hdown
      have hxv := (List.pairwise_cons.mp hdown).1 _ hx
      rw [hvs] at hxv
      -- it is what is left of p behind its front
      have hjoin := parts_join (s.drop (km s))
      rw [← List.dropLast_concat_getLast hpn, List.flatten_append, List.flatten_singleton] at hjoin
      generalize (parts (s.drop (km s))).getLast hpn = x at *
      generalize (parts (s.drop (km s))).dropLast.flatten = y at *
      have ep : t.take (km t) = (t.take k ++ s.take (km s) ++ y) ++ x := by
        rw [← eu, List.append_assoc (t.take k ++ s.take (km s)), hjoin, List.append_assoc, List.take_append_drop]
      have hlen : (t.take k ++ s.take (km s) ++ y).length < (t.take (km t)).length := by
        have h1 := congrArg List.length ep
        have h2 := List.length_pos_iff.mpr hxs.2
        simp only [List.length_append] at h1 ⊢
        omega
      have hpos : 0 < (t.take k ++ s.take (km s) ++ y).length := by
        rw [List.length_append, List.length_append, List.length_take]
        omega
      have hsuf := hp.suf hpos hlen
      rw [show (t.take (km t)).drop (t.take k ++ s.take (km s) ++ y).length = x by
        have := congrArg (List.drop (t.take k ++ s.take (km s) ++ y).length) ep
        rw [List.drop_left] at this
        exact this] at hsuf
      have c1 : t.take k < x := lt_tr hup hsuf
      rcases lt_three (t.take k) ((t.drop k).take (km (t.drop k))) with z | z | z
      · exact hvu z
      · rw [← z] at hxv; exact hxv c1
      · exact hxv (lt_tr z c1)
def cutsF : Nat → Wd → List (List Wd)
  | 0, _ => [[]]
  | n + 1, t => if t = [] then [[]] else (List.range t.length).flatMap fun j => if leastB (t.take (j + 1)) then ((cutsF n (t.drop (j + 1))).filter fun row => match row with
    | [] => true
    | h :: _ => !decide (t.take (j + 1) < h)).map (t.take (j + 1) :: ·) else []
theorem flat_one {α : Type} {x : α} {f : Nat → List α} {m : Nat} : ∀ n, m < n → (∀ j, j < n → f j = if j = m then [x] else []) → (List.range n).flatMap f = [x]
  | 0, h, _ => absurd h (Nat.not_lt_zero _)
  | n + 1, h, hf => by
    rw [List.range_succ, List.flatMap_append, List.flatMap_singleton]
    by_cases e : m = n
    · subst e
      rw [hf m h, if_pos rfl]
      have : (List.range m).flatMap f = [] := by
        rw [List.flatMap_eq_nil_iff]
        intro j hj
        rw [List.mem_range] at hj
        rw [hf j (by omega), if_neg (by omega)]
      rw [this, List.nil_append]
    · rw [flat_one n (by omega) fun j hj => hf j (by omega), hf n (Nat.lt_succ_self n), if_neg (by omega), List.append_nil]
theorem cuts_eq : ∀ (n : Nat) (t : Wd), t.length ≤ n → cutsF n t = [parts t]
  | 0, t, h => by
    have : t = [] := List.eq_nil_of_length_eq_zero (by omega)
    subst this
    rfl
  | n + 1, t, h => by
    unfold cutsF
    by_cases ht : t = []
    · rw [if_pos ht, ht]; rfl
    · rw [if_neg ht, parts_cons ht]
      have kp := km_pos ht
      have kl := km_le t
      refine flat_one (m := km t - 1) _ (by omega) fun j hj => ?_
      rw [cuts_eq n (t.drop (j + 1)) (by rw [List.length_drop]; omega)]
      by_cases e : j = km t - 1
      · have e2 : j + 1 = km t := by omega
        rw [if_pos e, e2, if_pos (leastB_iff.mpr (km_least ht))]
        by_cases hd : t.drop (km t) = []
        · rw [hd, parts_nil]
          rfl
        · rw [parts_cons hd, List.filter_cons, List.filter_nil]
          have := part_next ht hd
          simp [this]
      · rw [if_neg e]
        split
        · rename_i hle
          have hl := leastB_iff.mp hle
          have hlt : j + 1 < km t := by
            rcases Nat.lt_trichotomy (j + 1) (km t) with q | q | q
            · exact q
            · omega
            · exact absurd hl (km_max q (by omega))
          obtain ⟨hd, hc⟩ := cut_only (Nat.succ_pos j) hlt hl
          rw [parts_cons hd, List.filter_cons, List.filter_nil]
          simp [hc]
        · rfl
end Wb

set_option maxRecDepth 100000
set_option maxHeartbeats 4000000
set_option Elab.async false
set_option linter.all false
/-! Wb: words, greatest numbers, what a law draws. -/
namespace Wb
open PySem PySem.Spec PyProof.Rows L2
variable {c : Cal} {g : Env'}
/-- words as values -/
def wds (xs : List Wd) : List D := xs.map .str
theorem wds_drop (xs : List Wd) (k : Nat) : (wds xs).drop k = wds (xs.drop k) := by unfold wds; rw [List.map_drop]
theorem wds_len (xs : List Wd) : (wds xs).length = xs.length := by unfold wds; rw [List.length_map]
@[simp] theorem wds_strs (xs : List Wd) : strsOf (wds xs) = some xs := by
  have := map_strsOf xs
  exact this
theorem foldl_max : ∀ (r : List Int) (x : Int), r.foldl max x ∈ x :: r ∧ ∀ z ∈ x :: r, z ≤ r.foldl max x
  | [], x => ⟨List.mem_cons_self, fun z hz => by rw [List.mem_singleton] at hz; rw [hz]; exact Int.le_refl _⟩
  | y :: r, x => by
    obtain ⟨h1, h2⟩ := foldl_max r (max x y)
    rw [List.foldl_cons]
    constructor
    · rcases List.mem_cons.mp h1 with e | e
      · rcases Int.le_total x y with q | q
        · rw [e, Int.max_eq_right q]; exact List.mem_cons_of_mem _ List.mem_cons_self
        · rw [e, Int.max_eq_left q]; exact List.mem_cons_self
      · exact List.mem_cons_of_mem _ (List.mem_cons_of_mem _ e)
    · intro z hz
      have h3 := h2 (max x y) List.mem_cons_self
      rcases List.mem_cons.mp hz with e | e
      · rw [e]; exact Int.le_trans (Int.le_max_left x y) h3
      · rcases List.mem_cons.mp e with e | e
        · rw [e]; exact Int.le_trans (Int.le_max_right x y) h3
        · exact h2 z (List.mem_cons_of_mem _ e)
theorem maxZ_eq {L : List Int} {m : Int} (h1 : m ∈ L) (h2 : ∀ z ∈ L, z ≤ m) : maxZ L = some m := by
  cases L with
  | nil => cases h1
  | cons x r =>
    rw [maxZ]
    obtain ⟨a, b⟩ := foldl_max r x
    congr 1
    exact Int.le_antisymm (h2 _ a) (b _ h1)
theorem max_km {y : Wd} (h : y ≠ []) : maxZ (((List.range y.length).filter fun k => leastB (y.take (k + 1))).map fun k => ((k + 1 : Nat) : Int)) = some ((km y : Nat) : Int) := by
  have hp := km_pos h
  refine maxZ_eq ?_ ?_
  · refine List.mem_map.mpr ⟨km y - 1, List.mem_filter.mpr ⟨List.mem_range.mpr (by have := km_le y; omega), ?_⟩, by congr 1; omega⟩
    rw [show km y - 1 + 1 = km y by omega]
    exact leastB_iff.mpr (km_least h)
  · intro z hz
    obtain ⟨k, hk, rfl⟩ := List.mem_map.mp hz
    obtain ⟨h1, h2⟩ := List.mem_filter.mp hk
    rw [List.mem_range] at h1
    refine Int.ofNat_le.mpr (Nat.le_of_not_lt fun q => ?_)
    exact km_max q (by omega) (leastB_iff.mp h2)
theorem parts_lens {t : Wd} : (parts t).length ≤ t.length := by
  refine text_ind (P := fun t => (parts t).length ≤ t.length) (Nat.le_refl _) (fun t h ih => ?_) t
  rw [parts_cons h, List.length_cons]
  rw [List.length_drop] at ih
  have := km_pos h
  have := km_le t
  omega
/-! ### drawing -/
theorem take_fin {d0 : D} {many : Int} (h : DrawOk d0) (hm : 1 ≤ many) (hm2 : many < 1073741824) : ∃ (v : Int) (d1 : D), finC true (takeC c [.own d0, .val (.int many), .no]) = .ret (.val (.int v)) d1 ∧ 0 ≤ v ∧ v < many ∧ DrawOk d1 := by
  obtain ⟨v, d1, z, h1, h2, h3, h4⟩ := take_ok (c := c) h hm hm2
  exact ⟨v, d1, by rw [h1]; rfl, h2, h3, h4⟩
theorem draw_fin {ns : List Int} (h : ns.length ≤ 1000) : ∃ d, finC false (drawC c [.val (.rol (ns.map .int)), .no, .no]) = .ret (.own d) .non ∧ DrawOk d := by
  obtain ⟨d, g', h1, h2⟩ := draw_ok (c := c) h
  exact ⟨d, by rw [h1]; rfl, h2⟩
/-- a sign of the books -/
def ab (x : Nat) : Bool := decide (x = 97 ∨ x = 98)
theorem okD_ab {n : Nat} {x : Wd} (h : x.all ab = true) : okD n (.str x) = true := by
  have : okD n (.str x) = x.all (· < 0x110000) := by cases n <;> rfl
  rw [this, List.all_eq_true]
  intro k hk
  rw [List.all_eq_true] at h
  have := of_decide_eq_true (h k hk)
  exact decide_eq_true (by rcases this with e | e <;> (rw [e]; decide))
theorem okDs_wds {n : Nat} {xs : List Wd} (h : ∀ x ∈ xs, x.all ab = true) : okDs n (wds xs) = true := okDs_map fun x hx => okD_ab (h x hx)
/-- a word of the books -/
def isW (x : Wd) : Bool := x.all ab && (decide (1 ≤ x.length) && decide (x.length ≤ 6))
/-- letters in a row, as values -/
def Ltr (d : D) : Prop := ∃ s, (s = 97 ∨ s = 98) ∧ d = .str [s]
theorem ltrs : ∀ {ys : List D}, (∀ y ∈ ys, Ltr y) → ∃ w : Wd, strsOf ys = some (w.map fun s => [s]) ∧ w.length = ys.length ∧ w.all ab = true
  | [], _ => ⟨[], rfl, rfl, rfl⟩
  | y :: ys, h => by
    obtain ⟨s, hs, rfl⟩ := h y List.mem_cons_self
    obtain ⟨w, h1, h2, h3⟩ := ltrs (ys := ys) fun z hz => h z (List.mem_cons_of_mem _ hz)
    refine ⟨s :: w, by rw [strsOf, h1]; rfl, by rw [List.length_cons, List.length_cons, h2], ?_⟩
    rw [List.all_cons, h3, Bool.and_true]
    exact decide_eq_true hs
theorem joinD_nil : ∀ ys : List Wd, joinD [] ys = ys.flatten
  | [] => rfl
  | [x] => by simp [joinD]
  | x :: y :: r => by
    have := joinD_nil (y :: r)
    rw [joinD.eq_3 _ _ _ (by intro h; cases h), this]
    simp
theorem join_ltrs {ys : List D} (h : ∀ y ∈ ys, Ltr y) (hl : ys.length ≤ 1000) : ∃ w : Wd, joinOf (.str []) (.lst ys) = some (.str w) ∧ w.length = ys.length ∧ w.all ab = true := by
  obtain ⟨w, h1, h2, h3⟩ := ltrs h
  refine ⟨w, ?_, h2, h3⟩
  have e1 : ((w.map fun s => [s]).map (·.length)).sum = w.length := by
    clear h1 h2 h3
    induction w with
    | nil => rfl
    | cons a w ih => rw [List.map_cons, List.map_cons, List.sum_cons, ih, List.length_cons]; simp; omega
  have e2 : (w.map fun s => [s]).flatten = w := by
    clear h1 h2 h3 e1
    induction w with
    | nil => rfl
    | cons a w ih => rw [List.map_cons, List.flatten_cons, ih]; rfl
  unfold joinOf
  simp only [h1, Option.bind_some]
  rw [if_pos (by rw [e1, List.length_nil, Nat.mul_zero, h2]; exact lim_le (by omega)), joinD_nil, e2]
end Wb

set_option maxRecDepth 100000
set_option maxHeartbeats 0
set_option Elab.async false
set_option linter.all false
namespace T_k49
open PySem PySem.Spec PyProof.Rows Wb L2
def topS (i : Nat) : Stmt := PySem.Challenge.pw_wordbooks_k49_whole_least_words.main.body.getD i (.Pass ⟨0, 0, 0, 0⟩)
def glob : List (Str × GK) := [(("is_whole" : Str), GK.fn 0 1),
  (("is_text" : Str), GK.fn 1 1),
  (("is_word" : Str), GK.fn 2 1),
  (("check_word" : Str), GK.fn 3 1),
  (("found_turns" : Str), GK.fn 4 1),
  (("turns" : Str), GK.fn 5 1),
  (("found_least" : Str), GK.fn 6 1),
  (("is_least" : Str), GK.fn 7 1),
  (("all_words" : Str), GK.fn 8 1),
  (("check_number" : Str), GK.fn 9 2),
  (("least_words" : Str), GK.fn 10 1),
  (("least_parts" : Str), GK.fn 11 1),
  (("ring_bound" : Str), GK.fn 12 1),
  (("_law_draw" : Str), GK.fn 13 1),
  (("_law_take" : Str), GK.fio 14 2),
  (("_law_says" : Str), GK.fn 15 2),
  (("_law_word" : Str), GK.fio 16 2),
  (("_law_texts" : Str), GK.fn 17 1),
  (("_law_odd_text" : Str), GK.fio 18 1),
  (("_law_odd_number" : Str), GK.fio 19 2),
  (("_law_turns" : Str), GK.fn 20 1),
  (("_law_is_least" : Str), GK.fn 21 1),
  (("_law_cuts" : Str), GK.fn 22 1),
  (("_law_told" : Str), GK.fn 23 2),
  (("law" : Str), GK.fn 24 1),
  (("Malformed" : Str), GK.cls 0),
  (("SIGNS" : Str), GK.dat (.str [97, 98])),
  (("MOST_LENGTH" : Str), GK.dat (.int 6)),
  (("MOST_TEXT_books" : Str), GK.dat (.int 200)),
  (("MOST_TEXT_rounds" : Str), GK.dat (.int 40)),
  (("MOST_LEAST" : Str), GK.dat (.int 6)),
  (("MOST_BOUND" : Str), GK.dat (.int 12))]
def e0 : PEnt := ent glob sub0 "is_whole" (topS 4) ["value"] [] false
def e1 : PEnt := ent glob sub0 "is_text" (topS 9) ["value"] ["sign"] false
def e2 : PEnt := ent glob sub0 "is_word" (topS 10) ["value"] [] false
def e3 : PEnt := ent glob sub0 "check_word" (topS 15) ["word"] [] false
def e4 : PEnt := ent glob sub0 "found_turns" (topS 16) ["word"] ["k"] false
def e5 : PEnt := ent glob sub0 "turns" (topS 17) ["word"] [] false
def e6 : PEnt := ent glob sub0 "found_least" (topS 18) ["word"] ["other"] false
def e7 : PEnt := ent glob sub0 "is_least" (topS 19) ["word"] [] false
def e8 : PEnt := ent glob sub0 "all_words" (topS 20) ["n"] ["found", "_", "word", "sign"] false
def e9 : PEnt := ent glob sub0 "check_number" (topS 21) ["n", "most"] [] false
def e10 : PEnt := ent glob sub0 "least_words" (topS 22) ["n"] ["word"] false
def e11 : PEnt := ent glob sub0 "least_parts" (topS 23) ["text"] ["found", "length", "k"] false
def e12 : PEnt := ent glob sub0 "ring_bound" (topS 24) ["n"] ["whole", "length", "rest", "shorter"] false
def e13 : PEnt := ent glob sub0 "_law_draw" (topS 26) ["script"] ["seed", "cell"] false
def e14 : PEnt := ent glob sub0 "_law_take" (topS 27) ["draw", "many"] ["found"] true
def e15 : PEnt := ent glob sub0 "_law_says" (topS 28) ["value", "due"] [] false
def e16 : PEnt := ent glob sub0 "_law_word" (topS 29) ["draw", "most"] ["k"] true
def e17 : PEnt := ent glob sub0 "_law_texts" (topS 30) ["n"] ["found", "turn", "text"] false
def e18 : PEnt := ent glob sub0 "_law_odd_text" (topS 31) ["draw"] [] true
def e19 : PEnt := ent glob sub0 "_law_odd_number" (topS 32) ["draw", "most"] [] true
def e20 : PEnt := ent glob sub0 "_law_turns" (topS 33) ["word"] ["k"] false
def e21 : PEnt := ent glob sub0 "_law_is_least" (topS 34) ["word"] ["other"] false
def e22 : PEnt := ent glob sub0 "_law_cuts" (topS 35) ["text"] ["found", "k", "row"] false
def e23 : PEnt := ent glob sub0 "_law_told" (topS 36) ["which", "what"] [] false
def e24 : PEnt := ent glob sub0 "law" (topS 37) ["script"] ["draw", "turn", "text", "parts", "bad", "told", "due", "word", "n", "which", "one", "k", "part"] false
def ents : List PEnt := [e0, e1, e2, e3, e4, e5, e6, e7, e8, e9, e10, e11, e12, e13, e14, e15, e16, e17, e18, e19, e20, e21, e22, e23, e24]
theorem ents_ok : ents.all (okEnt glob sub0) = true := by kernel_rfl
theorem ents_glob : globB ents glob = true := by kernel_rfl
theorem ents_bind : AllL BindEq ents := ⟨(fun _ _ _ _ _ _ us hl => match us, hl with | [_], _ => rfl), ⟨(fun _ _ _ _ _ _ us hl => match us, hl with | [_], _ => rfl), ⟨(fun _ _ _ _ _ _ us hl => match us, hl with | [_], _ => rfl), ⟨(fun _ _ _ _ _ _ us hl => match us, hl with | [_], _ => rfl), ⟨(fun _ _ _ _ _ _ us hl => match us, hl with | [_], _ => rfl), ⟨(fun _ _ _ _ _ _ us hl => match us, hl with | [_], _ => rfl), ⟨(fun _ _ _ _ _ _ us hl => match us, hl with | [_], _ => rfl), ⟨(fun _ _ _ _ _ _ us hl => match us, hl with | [_], _ => rfl), ⟨(fun _ _ _ _ _ _ us hl => match us, hl with | [_], _ => rfl), ⟨(fun _ _ _ _ _ _ us hl => match us, hl with | [_, _], _ => rfl), ⟨(fun _ _ _ _ _ _ us hl => match us, hl with | [_], _ => rfl), ⟨(fun _ _ _ _ _ _ us hl => match us, hl with | [_], _ => rfl), ⟨(fun _ _ _ _ _ _ us hl => match us, hl with | [_], _ => rfl), ⟨(fun _ _ _ _ _ _ us hl => match us, hl with | [_], _ => rfl), ⟨(fun _ _ _ _ _ _ us hl => match us, hl with | [_, _], _ => rfl), ⟨(fun _ _ _ _ _ _ us hl => match us, hl with | [_, _], _ => rfl), ⟨(fun _ _ _ _ _ _ us hl => match us, hl with | [_, _], _ => rfl), ⟨(fun _ _ _ _ _ _ us hl => match us, hl with | [_], _ => rfl), ⟨(fun _ _ _ _ _ _ us hl => match us, hl with | [_], _ => rfl), ⟨(fun _ _ _ _ _ _ us hl => match us, hl with | [_, _], _ => rfl), ⟨(fun _ _ _ _ _ _ us hl => match us, hl with | [_], _ => rfl), ⟨(fun _ _ _ _ _ _ us hl => match us, hl with | [_], _ => rfl), ⟨(fun _ _ _ _ _ _ us hl => match us, hl with | [_], _ => rfl), ⟨(fun _ _ _ _ _ _ us hl => match us, hl with | [_, _], _ => rfl), ⟨(fun _ _ _ _ _ _ us hl => match us, hl with | [_], _ => rfl), trivial⟩⟩⟩⟩⟩⟩⟩⟩⟩⟩⟩⟩⟩⟩⟩⟩⟩⟩⟩⟩⟩⟩⟩⟩⟩
theorem ents_are : ∀ e ∈ ents, ∃ x st ps more io, e = ent glob sub0 x st ps more io := by
  intro e he
  have h : AllL (fun e => ∃ x st ps more io, e = ent glob sub0 x st ps more io) ents := ⟨⟨_, _, _, _, _, rfl⟩, ⟨⟨_, _, _, _, _, rfl⟩, ⟨⟨_, _, _, _, _, rfl⟩, ⟨⟨_, _, _, _, _, rfl⟩, ⟨⟨_, _, _, _, _, rfl⟩, ⟨⟨_, _, _, _, _, rfl⟩, ⟨⟨_, _, _, _, _, rfl⟩, ⟨⟨_, _, _, _, _, rfl⟩, ⟨⟨_, _, _, _, _, rfl⟩, ⟨⟨_, _, _, _, _, rfl⟩, ⟨⟨_, _, _, _, _, rfl⟩, ⟨⟨_, _, _, _, _, rfl⟩, ⟨⟨_, _, _, _, _, rfl⟩, ⟨⟨_, _, _, _, _, rfl⟩, ⟨⟨_, _, _, _, _, rfl⟩, ⟨⟨_, _, _, _, _, rfl⟩, ⟨⟨_, _, _, _, _, rfl⟩, ⟨⟨_, _, _, _, _, rfl⟩, ⟨⟨_, _, _, _, _, rfl⟩, ⟨⟨_, _, _, _, _, rfl⟩, ⟨⟨_, _, _, _, _, rfl⟩, ⟨⟨_, _, _, _, _, rfl⟩, ⟨⟨_, _, _, _, _, rfl⟩, ⟨⟨_, _, _, _, _, rfl⟩, ⟨⟨_, _, _, _, _, rfl⟩, trivial⟩⟩⟩⟩⟩⟩⟩⟩⟩⟩⟩⟩⟩⟩⟩⟩⟩⟩⟩⟩⟩⟩⟩⟩⟩
  exact h.mem he
theorem glob_cls : ∀ x c, (x, GK.cls c) ∈ glob → x = "Malformed" := by
  intro x c h
  have a : AllL (fun p : Str × GK => ∀ x c, p = (x, GK.cls c) → x = "Malformed") glob := ⟨(fun _ _ h => by cases h), ⟨(fun _ _ h => by cases h), ⟨(fun _ _ h => by cases h), ⟨(fun _ _ h => by cases h), ⟨(fun _ _ h => by cases h), ⟨(fun _ _ h => by cases h), ⟨(fun _ _ h => by cases h), ⟨(fun _ _ h => by cases h), ⟨(fun _ _ h => by cases h), ⟨(fun _ _ h => by cases h), ⟨(fun _ _ h => by cases h), ⟨(fun _ _ h => by cases h), ⟨(fun _ _ h => by cases h), ⟨(fun _ _ h => by cases h), ⟨(fun _ _ h => by cases h), ⟨(fun _ _ h => by cases h), ⟨(fun _ _ h => by cases h), ⟨(fun _ _ h => by cases h), ⟨(fun _ _ h => by cases h), ⟨(fun _ _ h => by cases h), ⟨(fun _ _ h => by cases h), ⟨(fun _ _ h => by cases h), ⟨(fun _ _ h => by cases h), ⟨(fun _ _ h => by cases h), ⟨(fun _ _ h => by cases h), ⟨(fun _ _ h => by cases h; rfl), ⟨(fun _ _ h => by cases h), ⟨(fun _ _ h => by cases h), ⟨(fun _ _ h => by cases h), ⟨(fun _ _ h => by cases h), ⟨(fun _ _ h => by cases h), ⟨(fun _ _ h => by cases h), trivial⟩⟩⟩⟩⟩⟩⟩⟩⟩⟩⟩⟩⟩⟩⟩⟩⟩⟩⟩⟩⟩⟩⟩⟩⟩⟩⟩⟩⟩⟩⟩⟩
  exact a.mem h x c rfl
/-- is_whole -/
def c0 : MS := (sSeq (sRet (bnd (mBl (mAnd (mTr (mIsi .int (mV 0))) (mNot (mTr (mIsi .bool (mV 0)))))) fun d => ret (.val d)))
    sNil)
theorem c0_ok : e0.d.body = c0 := by kernel_rfl
/-- is_text -/
def c1 : MS := (sSeq (sRet (bnd (mBl (mAnd (mTr (mIsi .str (mV 0))) (mAnd (mCmp .LtE (mLenV 0) (mK (.int 200))) (mTr (mD (mBlt bAll (mCons (mD (mLc (mIter (mV 0)) (.nm 1) (ret true) (mBl (mCmp .In (mV 1) (mK (.str [97, 98])))) [1])) mNil))))))) fun d => ret (.val d)))
    sNil)
theorem c1_ok : e1.d.body = c1 := by kernel_rfl
/-- is_word -/
def c2 : MS := (sSeq (sRet (bnd (mBl (mAnd (mTr (mD (mCall 1 (mCons (mV 0) mNil)))) (mChain .LtE .LtE (mK (.int 1)) (mLenV 0) (mK (.int 6))))) fun d => ret (.val d)))
    sNil)
theorem c2_ok : e2.d.body = c2 := by kernel_rfl
/-- check_word -/
def c3 : MS := (sSeq (sIf (mNot (mTr (mD (mCall 2 (mCons (mV 0) mNil))))) (sSeq (sRaise ⟨0, .non⟩)
    sNil) sNil)
    sNil)
theorem c3_ok : e3.d.body = c3 := by kernel_rfl
/-- found_turns -/
def c4 : MS := (sSeq (sRet (mLc (mRng1 (mCons (mLenV 0) mNil)) (.nm 1) (ret true) (mD (mBin .Add (mD (mSlice (mV 0) (some (mV 1)) none)) (mD (mSlice (mV 0) none (some (mV 1)))))) [1]))
    sNil)
theorem c4_ok : e4.d.body = c4 := by kernel_rfl
/-- turns -/
def c5 : MS := (sSeq (sExpr (mD (mCall 3 (mCons (mV 0) mNil))))
    (sSeq (sRet (mBlt bTuple (mCons (mD (mSortSet (mD (mCall 4 (mCons (mV 0) mNil))))) mNil)))
    sNil))
theorem c5_ok : e5.d.body = c5 := by kernel_rfl
/-- found_least -/
def c6 : MS := (sSeq (sRet (mBlt bAll (mCons (mD (mLc (mIter (mD (mSlice (mD (mCall 4 (mCons (mV 0) mNil))) (some (mK (.int 1))) none))) (.nm 1) (ret true) (mBl (mCmp .Lt (mV 0) (mV 1))) [1])) mNil)))
    sNil)
theorem c6_ok : e6.d.body = c6 := by kernel_rfl
/-- is_least -/
def c7 : MS := (sSeq (sExpr (mD (mCall 3 (mCons (mV 0) mNil))))
    (sSeq (sRet (mCall 6 (mCons (mV 0) mNil)))
    sNil))
theorem c7_ok : e7.d.body = c7 := by kernel_rfl
/-- all_words -/
def c8 : MS := (sSeq (sSet 1 (mLst (mCons (mK (.str [])) mNil)))
    (sSeq (sFor (mRng1 (mCons (mV 0) mNil)) (.nm 2) (sSeq (sSet 1 (mLc2 (mIter (mV 1)) (.nm 3) (ret true) (mIter (mK (.str [97, 98]))) (.nm 4) (ret true) (mD (mBin .Add (mV 3) (mV 4))) [3, 4] [4]))
    sNil))
    (sSeq (sRet (mMove 1))
    sNil)))
theorem c8_ok : e8.d.body = c8 := by kernel_rfl
/-- check_number -/
def c9 : MS := (sSeq (sIf (mOr (mNot (mTr (mD (mCall 0 (mCons (mV 0) mNil))))) (mNot (mChain .LtE .LtE (mK (.int 1)) (mV 0) (mV 1)))) (sSeq (sRaise ⟨0, .non⟩)
    sNil) sNil)
    sNil)
theorem c9_ok : e9.d.body = c9 := by kernel_rfl
/-- least_words -/
def c10 : MS := (sSeq (sExpr (mD (mCall 9 (mCons (mV 0) (mCons (mK (.int 6)) mNil)))))
    (sSeq (sRet (mBlt bTuple (mCons (mD (mLc (mIter (mD (mCall 8 (mCons (mV 0) mNil)))) (.nm 1) (mTr (mD (mCall 6 (mCons (mV 1) mNil)))) (mV 1) [1])) mNil)))
    sNil))
theorem c10_ok : e10.d.body = c10 := by kernel_rfl
/-- least_parts -/
def c11 : MS := (sSeq (sIf (mOr (mNot (mTr (mD (mCall 1 (mCons (mV 0) mNil))))) (mCmp .Gt (mLenV 0) (mK (.int 40)))) (sSeq (sRaise ⟨0, .non⟩)
    sNil) sNil)
    (sSeq (sSet 1 (mLst mNil))
    (sSeq (sWh turns (mEqV true 0 (mK (.str []))) (sSeq (sSet 2 (mBlt bMax (mCons (mD (mLc (mRng2 (mCons (mK (.int 1)) (mCons (mD (mBin .Add (mLenV 0) (mK (.int 1)))) mNil))) (.nm 3) (mTr (mD (mCall 6 (mCons (mD (mSlice (mV 0) none (some (mV 3)))) mNil)))) (mV 3) [3])) mNil)))
    (sSeq (sUpd 1 isLst (mD (mSlice (mV 0) none (some (mV 2)))) appD)
    (sSeq (sSet 0 (mSlice (mV 0) (some (mV 2)) none))
    sNil))))
    (sSeq (sRet (mBlt bTuple (mCons (mV 1) mNil)))
    sNil))))
theorem c11_ok : e11.d.body = c11 := by kernel_rfl
/-- ring_bound -/
def c12 : MS := (sSeq (sExpr (mD (mCall 9 (mCons (mV 0) (mCons (mK (.int 12)) mNil)))))
    (sSeq (sSet 1 mDic0)
    (sSeq (sFor (mRng2 (mCons (mK (.int 1)) (mCons (mD (mBin .Add (mV 0) (mK (.int 1)))) mNil))) (.nm 2) (sSeq (sSet 3 (mBin .LShift (mK (.int 1)) (mV 2)))
    (sSeq (sFor (mRng2 (mCons (mK (.int 1)) (mCons (mV 2) mNil))) (.nm 4) (sSeq (sIf (mCmp .Eq (mD (mBin .Mod (mV 2) (mV 4))) (mK (.int 0))) (sSeq (sAug .Sub 3 (mSubW 1 (mV 4)))
    sNil) sNil)
    sNil))
    (sSeq (sPut 1 (mV 3) (mV 2))
    sNil))))
    (sSeq (sRet (mBin .FloorDiv (mSubW 1 (mV 0)) (mV 0)))
    sNil))))
theorem c12_ok : e12.d.body = c12 := by kernel_rfl
/-- _law_draw -/
def c13 : MS := (sSeq (sSet 1 (bnd (mK (.int 7)) fun d => ret (.val d)))
    (sSeq (sFor (mIter (mV 0)) (.nm 2) (sSeq (sSet 1 (mBin .Mod (mD (mBlt bInt (mCons (mD (mBin .Add (mD (mBin .Add (mD (mBin .Mult (mV 1) (mK (.int 48271)))) (mD (mBin .Mod (mD (mBlt bAbs (mCons (mD (mBlt bInt (mCons (mV 2) mNil))) mNil))) (mK (.int 65521)))))) (mK (.int 1)))) mNil))) (mK (.int 2147483647))))
    sNil))
    (sSeq (sRet (mLst (mCons (mD (mLc (mIter (mV 0)) (.nm 2) (ret true) (mD (mBlt bAbs (mCons (mD (mBlt bInt (mCons (mV 2) mNil))) mNil))) [2])) (mCons (mNeg (mK (.int 1))) (mCons (mK (.int 0)) (mCons (mV 1) mNil))))))
    sNil)))
theorem c13_ok : e13.d.body = c13 := by kernel_rfl
/-- _law_take -/
def c14 : MS := (sSeq (sIf (mCmp .Eq (mSubW 0 (mK (.int 2))) (mK (.int 0))) (sSeq (sPut 0 (mD (mBin .Add (mSubW 0 (mK (.int 1))) (mK (.int 1)))) (mK (.int 1)))
    (sSeq (sIf (mCmp .Lt (mSubW 0 (mK (.int 1))) (mD (mBlt bLen (mCons (mSubW 0 (mK (.int 0))) mNil)))) (sSeq (sPut 0 (mSub (mSubW 0 (mK (.int 0))) (mSubW 0 (mK (.int 1)))) (mK (.int 2)))
    sNil) sNil)
    (sSeq (sIf (mCmp .Eq (mSubW 0 (mK (.int 2))) (mK (.int 0))) (sSeq (sPut 0 (mD (mBin .Mod (mD (mBlt bInt (mCons (mD (mBin .Add (mD (mBin .Mult (mSubW 0 (mK (.int 3))) (mK (.int 48271)))) (mK (.int 11)))) mNil))) (mK (.int 2147483647)))) (mK (.int 3)))
    (sSeq (sPut 0 (mSubW 0 (mK (.int 3))) (mK (.int 2)))
    sNil)) sNil)
    sNil))) sNil)
    (sSeq (sSet 2 (mBin .Mod (mD (mBlt bInt (mCons (mSubW 0 (mK (.int 2))) mNil))) (mV 1)))
    (sSeq (sPut 0 (mD (mBin .FloorDiv (mSubW 0 (mK (.int 2))) (mV 1))) (mK (.int 2)))
    (sSeq (sRet (mMove 2))
    sNil))))
theorem c14_ok : e14.d.body = c14 := by kernel_rfl
/-- _law_says -/
def c15 : MS := (sSeq (sRet (bnd (mBl (mAnd (mTr (mIsi .bool (mV 0))) (mEqV false 0 (mV 1)))) fun d => ret (.val d)))
    sNil)
theorem c15_ok : e15.d.body = c15 := by kernel_rfl
/-- _law_word -/
def c16 : MS := (sSeq (sRet (bnd (mJoin (mK (.str [])) (mD (mLc (mRng1 (mCons (mD (mBin .Add (mK (.int 1)) (mD (mCallIo 14 0 (mCons (mV 1) mNil))))) mNil)) (.nm 2) (ret true) (mSub (mK (.str [97, 98])) (mD (mCallIo 14 0 (mCons (mK (.int 2)) mNil)))) [2]))) fun d => ret (.val d)))
    sNil)
theorem c16_ok : e16.d.body = c16 := by kernel_rfl
/-- _law_texts -/
def c17 : MS := (sSeq (sSet 1 (mLst (mCons (mK (.str [])) mNil)))
    (sSeq (sFor (mRng1 (mCons (mV 0) mNil)) (.nm 2) (sSeq (sSet 1 (mBin .Add (mD (mLc (mIter (mV 1)) (.nm 3) (ret true) (mD (mBin .Add (mV 3) (mK (.str [97])))) [3])) (mD (mLc (mIter (mV 1)) (.nm 3) (ret true) (mD (mBin .Add (mV 3) (mK (.str [98])))) [3]))))
    sNil))
    (sSeq (sRet (mBlt bSorted (mCons (mV 1) mNil)))
    sNil)))
theorem c17_ok : e17.d.body = c17 := by kernel_rfl
/-- _law_odd_text -/
def c18 : MS := (sSeq (sRet (bnd (mSub (mD (mLst (mCons (mK .non) (mCons (mK (.int 5)) (mCons (mK (.str [99])) (mCons (mK (.str [97, 66])) (mCons (mD (mTup (mCons (mK (.str [97])) mNil))) (mCons (mK (.str [97, 32, 98])) (mCons (mD (mLst (mCons (mK (.str [97])) mNil))) (mCons (mD (mBin .Mult (mK (.str [97])) (mK (.int 201)))) mNil)))))))))) (mD (mCallIo 14 0 (mCons (mK (.int 8)) mNil)))) fun d => ret (.val d)))
    sNil)
theorem c18_ok : e18.d.body = c18 := by kernel_rfl
/-- _law_odd_number -/
def c19 : MS := (sSeq (sRet (bnd (mSub (mD (mLst (mCons (mK .non) (mCons (mNeg (mK (.int 1))) (mCons (mD (mBin .Add (mV 1) (mK (.int 1)))) (mCons (mK (.bl true)) (mCons (mK (.str [49])) (mCons (mD (mTup (mCons (mK (.int 1)) mNil))) mNil)))))))) (mD (mCallIo 14 0 (mCons (mK (.int 6)) mNil)))) fun d => ret (.val d)))
    sNil)
theorem c19_ok : e19.d.body = c19 := by kernel_rfl
/-- _law_turns -/
def c20 : MS := (sSeq (sRet (mLc (mRng1 (mCons (mLenV 0) mNil)) (.nm 1) (ret true) (mD (mBin .Add (mD (mSlice (mV 0) (some (mV 1)) none)) (mD (mSlice (mV 0) none (some (mV 1)))))) [1]))
    sNil)
theorem c20_ok : e20.d.body = c20 := by kernel_rfl
/-- _law_is_least -/
def c21 : MS := (sSeq (sRet (bnd (mBl (mNot (mTr (mD (mBlt bAny (mCons (mD (mLc (mIter (mD (mSlice (mD (mCall 20 (mCons (mV 0) mNil))) (some (mK (.int 1))) none))) (.nm 1) (ret true) (mBl (mCmp .LtE (mV 1) (mV 0))) [1])) mNil)))))) fun d => ret (.val d)))
    sNil)
theorem c21_ok : e21.d.body = c21 := by kernel_rfl
/-- _law_cuts -/
def c22 : MS := (sSeq (sIf (mEqV false 0 (mK (.str []))) (sSeq (sRet (mLst (mCons (mD (mTup mNil)) mNil)))
    sNil) sNil)
    (sSeq (sSet 1 (mLst mNil))
    (sSeq (sFor (mRng2 (mCons (mK (.int 1)) (mCons (mD (mBin .Add (mLenV 0) (mK (.int 1)))) mNil))) (.nm 2) (sSeq (sIf (mTr (mD (mCall 21 (mCons (mD (mSlice (mV 0) none (some (mV 2)))) mNil)))) (sSeq (sSet 1 (mBin .Add (mV 1) (mD (mLc (mIter (mD (mCall 22 (mCons (mD (mSlice (mV 0) (some (mV 2)) none)) mNil)))) (.nm 3) (mOr (mEqV false 3 (mD (mTup mNil))) (mCmp .LtE (mSubW 3 (mK (.int 0))) (mD (mSlice (mV 0) none (some (mV 2)))))) (mD (mBin .Add (mD (mTup (mCons (mD (mSlice (mV 0) none (some (mV 2)))) mNil))) (mV 3))) [3]))))
    sNil) sNil)
    sNil))
    (sSeq (sRet (mMove 1))
    sNil))))
theorem c22_ok : e22.d.body = c22 := by kernel_rfl
/-- _law_told -/
def c23 : MS := (sSeq (sTry (fun y => sub0 y 0) (sSeq (sRet (mCallV (mSub (mD (mLst (mCons (mK (.fn 5)) (mCons (mK (.fn 7)) (mCons (mK (.fn 10)) (mCons (mK (.fn 12)) (mCons (mK (.fn 11)) mNil))))))) (mV 0)) (mCons (mV 1) mNil)))
    sNil) (sSeq (sRet (bnd (mK (.str [60, 109, 97, 108, 102, 111, 114, 109, 101, 100, 62])) fun d => ret (.val d)))
    sNil))
    sNil)
theorem c23_ok : e23.d.body = c23 := by kernel_rfl
/-- law -/
def c24 : MS := (sSeq (sSet 1 (mCall 13 (mCons (mV 0) mNil)))
    (sSeq (sFor (mRng1 (mCons (mK (.int 4)) mNil)) (.nm 2) (sSeq (sPar [8, 9] (mConsE (mCallIo 16 1 (mCons (mK (.int 6)) mNil)) (mConsE (mBin .Add (mK (.int 1)) (mD (mCallIo 14 1 (mCons (mK (.int 6)) mNil)))) mNilE)))
    (sSeq (sIf (mOr (mCmp .NotEq (mD (mCall 5 (mCons (mV 8) mNil))) (mD (mBlt bTuple (mCons (mD (mSortSet (mD (mCall 20 (mCons (mV 8) mNil))))) mNil)))) (mNot (mTr (mD (mCall 15 (mCons (mD (mCall 7 (mCons (mV 8) mNil))) (mCons (mD (mCall 21 (mCons (mV 8) mNil))) mNil))))))) (sSeq (sRet (bnd (mK (.bl false)) fun d => ret (.val d)))
    sNil) sNil)
    (sSeq (sSet 7 (mBlt bTuple (mCons (mD (mLc (mIter (mD (mCall 17 (mCons (mV 9) mNil)))) (.nm 11) (mTr (mD (mCall 21 (mCons (mV 11) mNil)))) (mV 11) [11])) mNil)))
    (sSeq (sIf (mOr (mCmp .NotEq (mD (mBlt bRepr (mCons (mD (mCall 10 (mCons (mV 9) mNil))) mNil))) (mD (mBlt bRepr (mCons (mV 7) mNil)))) (mCmp .NotEq (mD (mCall 12 (mCons (mV 9) mNil))) (mLenV 7))) (sSeq (sRet (bnd (mK (.bl false)) fun d => ret (.val d)))
    sNil) sNil)
    (sSeq (sSet 3 (bnd (mJoin (mK (.str [])) (mD (mLc (mRng1 (mCons (mD (mCallIo 14 1 (mCons (mK (.int 11)) mNil))) mNil)) (.nm 12) (ret true) (mSub (mK (.str [97, 98])) (mD (mCallIo 14 1 (mCons (mK (.int 2)) mNil)))) [12]))) fun d => ret (.val d)))
    (sSeq (sIf (mCmp .NotEq (mD (mLst (mCons (mD (mCall 11 (mCons (mV 3) mNil))) mNil))) (mD (mCall 22 (mCons (mV 3) mNil)))) (sSeq (sRet (bnd (mK (.bl false)) fun d => ret (.val d)))
    sNil) sNil)
    sNil)))))))
    (sSeq (sSet 3 (mSlice (mJoin (mK (.str [])) (mD (mLc (mRng1 (mCons (mD (mCallIo 14 1 (mCons (mK (.int 10)) mNil))) mNil)) (.nm 12) (ret true) (mD (mCallIo 16 1 (mCons (mK (.int 6)) mNil))) [12]))) none (some (mK (.int 40)))))
    (sSeq (sSet 4 (mCall 11 (mCons (mV 3) mNil)))
    (sSeq (sIf (mOr (mCmp .NotEq (mJoin (mK (.str [])) (mV 4)) (mV 3)) (mOr (mNot (mTr (mD (mBlt bAll (mCons (mD (mLc (mIter (mV 4)) (.nm 13) (ret true) (mD (mCall 21 (mCons (mV 13) mNil))) [13])) mNil))))) (mTr (mD (mBlt bAny (mCons (mD (mLc (mRng2 (mCons (mK (.int 1)) (mCons (mLenV 4) mNil))) (.nm 12) (ret true) (mBl (mCmp .Lt (mSubW 4 (mD (mBin .Sub (mV 12) (mK (.int 1))))) (mSubW 4 (mV 12)))) [12])) mNil)))))) (sSeq (sRet (bnd (mK (.bl false)) fun d => ret (.val d)))
    sNil) sNil)
    (sSeq (sIf (mCmp .NotEq (mD (mLc (mRng2 (mCons (mK (.int 7)) (mCons (mK (.int 13)) mNil))) (.nm 9) (ret true) (mD (mCall 12 (mCons (mV 9) mNil))) [9])) (mD (mLst (mCons (mK (.int 18)) (mCons (mK (.int 30)) (mCons (mK (.int 56)) (mCons (mK (.int 99)) (mCons (mK (.int 186)) (mCons (mK (.int 335)) mNil))))))))) (sSeq (sRet (bnd (mK (.bl false)) fun d => ret (.val d)))
    sNil) sNil)
    (sSeq (sSet 5 (bnd (mSub (mD (mLst (mCons (mD (mCallIo 18 1 mNil)) (mCons (mK (.str [])) (mCons (mD (mBin .Mult (mK (.str [97])) (mK (.int 7)))) mNil))))) (mD (mCallIo 14 1 (mCons (mK (.int 3)) mNil)))) fun d => ret (.val d)))
    (sSeq (sSet 6 (mBin .Add (mD (mLc (mIter (mD (mTup (mCons (mK (.int 0)) (mCons (mK (.int 1)) mNil))))) (.nm 10) (ret true) (mD (mCall 23 (mCons (mV 10) (mCons (mV 5) mNil)))) [10])) (mD (mLst (mCons (mD (mCall 23 (mCons (mK (.int 2)) (mCons (mD (mCallIo 19 1 (mCons (mK (.int 6)) mNil))) mNil)))) (mCons (mD (mCall 23 (mCons (mK (.int 2)) (mCons (mK (.int 0)) mNil)))) (mCons (mD (mCall 23 (mCons (mK (.int 3)) (mCons (mD (mCallIo 19 1 (mCons (mK (.int 12)) mNil))) mNil)))) (mCons (mD (mCall 23 (mCons (mK (.int 3)) (mCons (mK (.int 0)) mNil)))) mNil))))))))
    (sSeq (sRet (bnd (mBl (mCmp .Eq (mD (mBin .Add (mV 6) (mD (mLst (mCons (mD (mCall 23 (mCons (mK (.int 4)) (mCons (mSub (mD (mLst (mCons (mD (mCallIo 18 1 mNil)) (mCons (mD (mBin .Mult (mK (.str [97])) (mK (.int 41)))) mNil)))) (mD (mCallIo 14 1 (mCons (mK (.int 2)) mNil)))) mNil)))) mNil))))) (mD (mBin .Mult (mD (mLst (mCons (mK (.str [60, 109, 97, 108, 102, 111, 114, 109, 101, 100, 62])) mNil))) (mK (.int 7)))))) fun d => ret (.val d)))
    sNil)))))))))
theorem c24_ok : e24.d.body = c24 := by kernel_rfl
theorem r0 (l : Nat) (x0 : D) : run (tabOf ents) (l + 1) 0 [x0] = finC false (c0 (run (tabOf ents) l) [.val x0]) := by
  rw [run_eq (show tabOf ents 0 = some e0.d from rfl) rfl]
  show finC false (e0.d.body _ _) = _
  rw [c0_ok]
  rfl
theorem r1 (l : Nat) (x0 : D) : run (tabOf ents) (l + 1) 1 [x0] = finC false (c1 (run (tabOf ents) l) [.val x0, .no]) := by
  rw [run_eq (show tabOf ents 1 = some e1.d from rfl) rfl]
  show finC false (e1.d.body _ _) = _
  rw [c1_ok]
  rfl
theorem r2 (l : Nat) (x0 : D) : run (tabOf ents) (l + 1) 2 [x0] = finC false (c2 (run (tabOf ents) l) [.val x0]) := by
  rw [run_eq (show tabOf ents 2 = some e2.d from rfl) rfl]
  show finC false (e2.d.body _ _) = _
  rw [c2_ok]
  rfl
theorem r3 (l : Nat) (x0 : D) : run (tabOf ents) (l + 1) 3 [x0] = finC false (c3 (run (tabOf ents) l) [.val x0]) := by
  rw [run_eq (show tabOf ents 3 = some e3.d from rfl) rfl]
  show finC false (e3.d.body _ _) = _
  rw [c3_ok]
  rfl
theorem r4 (l : Nat) (x0 : D) : run (tabOf ents) (l + 1) 4 [x0] = finC false (c4 (run (tabOf ents) l) [.val x0, .no]) := by
  rw [run_eq (show tabOf ents 4 = some e4.d from rfl) rfl]
  show finC false (e4.d.body _ _) = _
  rw [c4_ok]
  rfl
theorem r5 (l : Nat) (x0 : D) : run (tabOf ents) (l + 1) 5 [x0] = finC false (c5 (run (tabOf ents) l) [.val x0]) := by
  rw [run_eq (show tabOf ents 5 = some e5.d from rfl) rfl]
  show finC false (e5.d.body _ _) = _
  rw [c5_ok]
  rfl
theorem r6 (l : Nat) (x0 : D) : run (tabOf ents) (l + 1) 6 [x0] = finC false (c6 (run (tabOf ents) l) [.val x0, .no]) := by
  rw [run_eq (show tabOf ents 6 = some e6.d from rfl) rfl]
  show finC false (e6.d.body _ _) = _
  rw [c6_ok]
  rfl
theorem r7 (l : Nat) (x0 : D) : run (tabOf ents) (l + 1) 7 [x0] = finC false (c7 (run (tabOf ents) l) [.val x0]) := by
  rw [run_eq (show tabOf ents 7 = some e7.d from rfl) rfl]
  show finC false (e7.d.body _ _) = _
  rw [c7_ok]
  rfl
theorem r8 (l : Nat) (x0 : D) : run (tabOf ents) (l + 1) 8 [x0] = finC false (c8 (run (tabOf ents) l) [.val x0, .no, .no, .no, .no]) := by
  rw [run_eq (show tabOf ents 8 = some e8.d from rfl) rfl]
  show finC false (e8.d.body _ _) = _
  rw [c8_ok]
  rfl
theorem r9 (l : Nat) (x0 x1 : D) : run (tabOf ents) (l + 1) 9 [x0, x1] = finC false (c9 (run (tabOf ents) l) [.val x0, .val x1]) := by
  rw [run_eq (show tabOf ents 9 = some e9.d from rfl) rfl]
  show finC false (e9.d.body _ _) = _
  rw [c9_ok]
  rfl
theorem r10 (l : Nat) (x0 : D) : run (tabOf ents) (l + 1) 10 [x0] = finC false (c10 (run (tabOf ents) l) [.val x0, .no]) := by
  rw [run_eq (show tabOf ents 10 = some e10.d from rfl) rfl]
  show finC false (e10.d.body _ _) = _
  rw [c10_ok]
  rfl
theorem r11 (l : Nat) (x0 : D) : run (tabOf ents) (l + 1) 11 [x0] = finC false (c11 (run (tabOf ents) l) [.val x0, .no, .no, .no]) := by
  rw [run_eq (show tabOf ents 11 = some e11.d from rfl) rfl]
  show finC false (e11.d.body _ _) = _
  rw [c11_ok]
  rfl
theorem r12 (l : Nat) (x0 : D) : run (tabOf ents) (l + 1) 12 [x0] = finC false (c12 (run (tabOf ents) l) [.val x0, .no, .no, .no, .no]) := by
  rw [run_eq (show tabOf ents 12 = some e12.d from rfl) rfl]
  show finC false (e12.d.body _ _) = _
  rw [c12_ok]
  rfl
theorem r13 (l : Nat) (x0 : D) : run (tabOf ents) (l + 1) 13 [x0] = finC false (c13 (run (tabOf ents) l) [.val x0, .no, .no]) := by
  rw [run_eq (show tabOf ents 13 = some e13.d from rfl) rfl]
  show finC false (e13.d.body _ _) = _
  rw [c13_ok]
  rfl
theorem r14 (l : Nat) (x0 x1 : D) : run (tabOf ents) (l + 1) 14 [x0, x1] = finC true (c14 (run (tabOf ents) l) [.own x0, .val x1, .no]) := by
  rw [run_eq (show tabOf ents 14 = some e14.d from rfl) rfl]
  show finC true (e14.d.body _ _) = _
  rw [c14_ok]
  rfl
theorem r15 (l : Nat) (x0 x1 : D) : run (tabOf ents) (l + 1) 15 [x0, x1] = finC false (c15 (run (tabOf ents) l) [.val x0, .val x1]) := by
  rw [run_eq (show tabOf ents 15 = some e15.d from rfl) rfl]
  show finC false (e15.d.body _ _) = _
  rw [c15_ok]
  rfl
theorem r16 (l : Nat) (x0 x1 : D) : run (tabOf ents) (l + 1) 16 [x0, x1] = finC true (c16 (run (tabOf ents) l) [.own x0, .val x1, .no]) := by
  rw [run_eq (show tabOf ents 16 = some e16.d from rfl) rfl]
  show finC true (e16.d.body _ _) = _
  rw [c16_ok]
  rfl
theorem r17 (l : Nat) (x0 : D) : run (tabOf ents) (l + 1) 17 [x0] = finC false (c17 (run (tabOf ents) l) [.val x0, .no, .no, .no]) := by
  rw [run_eq (show tabOf ents 17 = some e17.d from rfl) rfl]
  show finC false (e17.d.body _ _) = _
  rw [c17_ok]
  rfl
theorem r18 (l : Nat) (x0 : D) : run (tabOf ents) (l + 1) 18 [x0] = finC true (c18 (run (tabOf ents) l) [.own x0]) := by
  rw [run_eq (show tabOf ents 18 = some e18.d from rfl) rfl]
  show finC true (e18.d.body _ _) = _
  rw [c18_ok]
  rfl
theorem r19 (l : Nat) (x0 x1 : D) : run (tabOf ents) (l + 1) 19 [x0, x1] = finC true (c19 (run (tabOf ents) l) [.own x0, .val x1]) := by
  rw [run_eq (show tabOf ents 19 = some e19.d from rfl) rfl]
  show finC true (e19.d.body _ _) = _
  rw [c19_ok]
  rfl
theorem r20 (l : Nat) (x0 : D) : run (tabOf ents) (l + 1) 20 [x0] = finC false (c20 (run (tabOf ents) l) [.val x0, .no]) := by
  rw [run_eq (show tabOf ents 20 = some e20.d from rfl) rfl]
  show finC false (e20.d.body _ _) = _
  rw [c20_ok]
  rfl
theorem r21 (l : Nat) (x0 : D) : run (tabOf ents) (l + 1) 21 [x0] = finC false (c21 (run (tabOf ents) l) [.val x0, .no]) := by
  rw [run_eq (show tabOf ents 21 = some e21.d from rfl) rfl]
  show finC false (e21.d.body _ _) = _
  rw [c21_ok]
  rfl
theorem r22 (l : Nat) (x0 : D) : run (tabOf ents) (l + 1) 22 [x0] = finC false (c22 (run (tabOf ents) l) [.val x0, .no, .no, .no]) := by
  rw [run_eq (show tabOf ents 22 = some e22.d from rfl) rfl]
  show finC false (e22.d.body _ _) = _
  rw [c22_ok]
  rfl
theorem r23 (l : Nat) (x0 x1 : D) : run (tabOf ents) (l + 1) 23 [x0, x1] = finC false (c23 (run (tabOf ents) l) [.val x0, .val x1]) := by
  rw [run_eq (show tabOf ents 23 = some e23.d from rfl) rfl]
  show finC false (e23.d.body _ _) = _
  rw [c23_ok]
  rfl
theorem r24 (l : Nat) (x0 : D) : run (tabOf ents) (l + 1) 24 [x0] = finC false (c24 (run (tabOf ents) l) [.val x0, .no, .no, .no, .no, .no, .no, .no, .no, .no, .no, .no, .no, .no]) := by
  rw [run_eq (show tabOf ents 24 = some e24.d from rfl) rfl]
  show finC false (e24.d.body _ _) = _
  rw [c24_ok]
  rfl
end T_k49

set_option maxRecDepth 100000
set_option maxHeartbeats 4000000
set_option Elab.async false
set_option linter.all false
namespace T_k49
open PySem PySem.Spec PyProof.Rows Wb L2
variable {c : Cal}
theorem p1 (x : Wd) (hx : x.length ≤ 1000) : finC false (c1 c [.val (.str x), .no]) = .ret (.val (.bl (decide (x.length ≤ 200) && x.all ab))) .non := by
  unfold c1
  have h : ∀ g : Env', g = [Slot.val (.str x), Slot.no] → mLc (mIter (mV 0)) (.nm 1) (ret true) (mBl (mCmp .In (mV 1) (mK (.str [97, 98])))) [1] c g = .ok (.own (.lst ((x.filter fun _ => true).map fun a => .bl (ab a)))) g := fun g hg => by
    subst hg
    refine ev_Lc x (fun a => .str [a]) (fun _ => true) (fun a => .bl (ab a)) _ ?_ rfl ?_ fun a ha => ?_
    · simp [itemsD]
    · unfold lim; omega
    · simp [cmpD, inD, ab]
  have hl : x.length ≤ lim := lim_le (by omega)
  by_cases h2 : x.length ≤ 200
  · have h3 : (x.length : Int) ≤ 200 := by omega
    simp [isD, lenD, cmpD, h _ rfl, hl, h2, h3, bAll]
  · have h3 : ¬ (x.length : Int) ≤ 200 := by omega
    simp [isD, lenD, cmpD, h _ rfl, hl, h2, h3, bAll]
theorem p2 (x : Wd) (h : isW x = true) (hc : c 1 [.str x] = .ret (.val (.bl (decide (x.length ≤ 200) && x.all ab))) .non) : finC false (c2 c [.val (.str x)]) = .ret (.val (.bl true)) .non := by
  unfold isW at h
  rw [Bool.and_eq_true, Bool.and_eq_true, decide_eq_true_eq, decide_eq_true_eq] at h
  obtain ⟨h1, h2, h3⟩ := h
  unfold c2
  have hl : x.length ≤ lim := lim_le (by omega)
  have e1 : (1 : Int) ≤ x.length := by omega
  have e2 : (x.length : Int) ≤ 6 := by omega
  have e3 : x.length ≤ 200 := by omega
  simp [hc, h1, hl, lenD, cmpD, e1, e2, e3]
theorem p3 (x : Wd) (hc : c 2 [.str x] = .ret (.val (.bl true)) .non) : finC false (c3 c [.val (.str x)]) = .ret (.val .non) .non := by
  unfold c3
  simp [hc]
theorem rots_ev (x : Wd) (hx : x.length ≤ 1000) (g : Env') (hg : g = [Slot.val (.str x), Slot.no]) :
    mLc (mRng1 (mCons (mLenV 0) mNil)) (.nm 1) (ret true) (mD (mBin .Add (mD (mSlice (mV 0) (some (mV 1)) none)) (mD (mSlice (mV 0) none (some (mV 1)))))) [1] c g = .ok (.own (.lst (wds (rots x)))) g := by
  subst hg
  have hl : x.length ≤ lim := lim_le (by omega)
  have a0 : lenD (.str x) = some (x.length : Int) := by unfold lenD; exact if_pos hl
  have := ev_Lc (c := c) (g := [Slot.val (.str x), Slot.no]) (i := 1) (mi := mRng1 (mCons (mLenV 0) mNil)) (tt := ret true) (me := mD (mBin .Add (mD (mSlice (mV 0) (some (mV 1)) none)) (mD (mSlice (mV 0) none (some (mV 1))))))
    (List.range x.length) (fun k => .int (k : Nat)) (fun _ => true) (fun k => .str (x.drop k ++ x.take k)) [Slot.val (.str x), Slot.no] (by simp [a0, rng_nat x.length (by omega)]) rfl (by rw [List.length_range]; exact hl) fun k hk => by
      have hk2 : (x.drop k).length + (x.take k).length ≤ lim := by rw [← List.length_append, List.length_append, List.length_drop, List.length_take]; exact lim_le (by omega)
      have a1 : sliceD (.str x) (some (k : Int)) none = some (.val (.str (x.drop k))) := by simp [sliceD, hl]
      have a2 : sliceD (.str x) none (some (k : Int)) = some (.val (.str (x.take k))) := by simp [sliceD, hl]
      have a3 : addD (.str (x.drop k)) (.str (x.take k)) = some (.val (.str (x.drop k ++ x.take k))) := by unfold addD; exact if_pos hk2
      simp [intOf, a1, a2, binD, a3]
  rw [this, List.filter_eq_self.2 (fun _ _ => rfl)]
  unfold wds rots
  rw [List.map_map]
  rfl
theorem rots_len (x : Wd) : (rots x).length = x.length := by unfold rots; rw [List.length_map, List.length_range]
theorem p4 (x : Wd) (hx : x.length ≤ 1000) : finC false (c4 c [.val (.str x), .no]) = .ret (.own (.lst (wds (rots x)))) .non := by
  unfold c4
  simp [rots_ev x hx _ rfl]
theorem p20 (x : Wd) (hx : x.length ≤ 1000) : finC false (c20 c [.val (.str x), .no]) = .ret (.own (.lst (wds (rots x)))) .non := by
  unfold c20
  simp [rots_ev x hx _ rfl]
theorem p5 (x : Wd) (hx : x.length ≤ 1000) (h3 : c 3 [.str x] = .ret (.val .non) .non) (h4 : c 4 [.str x] = .ret (.own (.lst (wds (rots x)))) .non) : finC false (c5 c [.val (.str x)]) = .ret (.val (.tup (wds (setS (rots x))))) .non := by
  unfold c5
  have a : setSortD (.lst (wds (rots x))) = some (.own (.lst (wds (setS (rots x))))) := by
    unfold setSortD
    dsimp only
    rw [if_pos (by rw [wds_len, rots_len]; omega), wds_strs]
    rfl
  simp [h3, h4, a, bTuple]
theorem p6 (x : Wd) (hx : x.length ≤ 1000) (h4 : c 4 [.str x] = .ret (.own (.lst (wds (rots x)))) .non) : finC false (c6 c [.val (.str x), .no]) = .ret (.val (.bl (leastB x))) .non := by
  unfold c6
  have := ev_Lc (c := c) (g := [Slot.val (.str x), Slot.no]) (i := 1) (mi := mIter (mD (mSlice (mD (mCall 4 (mCons (mV 0) mNil))) (some (mK (.int 1))) none))) (tt := ret true) (me := mBl (mCmp .Lt (mV 0) (mV 1)))
    ((rots x).drop 1) .str (fun _ => true) (fun o => .bl (ltS x o)) [Slot.val (.str x), Slot.no] (by simp [h4, intOf, sliceD, itemsD, wds_drop]; rfl) rfl (lim_le (by rw [List.length_drop, rots_len]; omega)) fun o ho => by simp [cmpD]
  simp [this, bAll]
  unfold leastB ltS
  simp [List.all_map, Function.comp_def]
theorem p7 (x : Wd) (h3 : c 3 [.str x] = .ret (.val .non) .non) (h6 : c 6 [.str x] = .ret (.val (.bl (leastB x))) .non) : finC false (c7 c [.val (.str x)]) = .ret (.val (.bl (leastB x))) .non := by
  unfold c7
  simp [h3, h6]
theorem p21 (x : Wd) (hx : x.length ≤ 1000) (h4 : c 20 [.str x] = .ret (.own (.lst (wds (rots x)))) .non) : finC false (c21 c [.val (.str x), .no]) = .ret (.val (.bl (leastB x))) .non := by
  unfold c21
  have := ev_Lc (c := c) (g := [Slot.val (.str x), Slot.no]) (i := 1) (mi := mIter (mD (mSlice (mD (mCall 20 (mCons (mV 0) mNil))) (some (mK (.int 1))) none))) (tt := ret true) (me := mBl (mCmp .LtE (mV 1) (mV 0)))
    ((rots x).drop 1) .str (fun _ => true) (fun o => .bl (!ltS x o)) [Slot.val (.str x), Slot.no] (by simp [h4, intOf, sliceD, itemsD, wds_drop]; rfl) rfl (lim_le (by rw [List.length_drop, rots_len]; omega)) fun o ho => by simp [cmpD]
  simp [this, bAny]
  unfold leastB ltS
  simp [List.any_map, Function.comp_def, List.any_eq_not_all_not]
theorem p15 (b b2 : Bool) : finC false (c15 c [.val (.bl b), .val (.bl b2)]) = .ret (.val (.bl (b == b2))) .non := by
  unfold c15
  simp [isD, eqW, okD, eqv]
/-- the longest least head is cut off, again and again -/
theorem p11 (x : Wd) (ha : x.all ab = true) (hx : x.length ≤ 40) (h1 : c 1 [.str x] = .ret (.val (.bl (decide (x.length ≤ 200) && x.all ab))) .non) (h6 : ∀ y : Wd, y.length ≤ 1000 → c 6 [.str y] = .ret (.val (.bl (leastB y))) .non) :
    finC false (c11 c [.val (.str x), .no, .no, .no]) = .ret (.val (.tup (wds (parts x)))) .non := by
  have hl : ∀ y : Wd, y.length ≤ 40 → y.length ≤ lim := fun y h => lim_le (by omega)
  have a0 : ∀ y : Wd, y.length ≤ 40 → lenD (.str y) = some (y.length : Int) := fun y h => by unfold lenD; exact if_pos (hl y h)
  have to : ∀ (y : Wd) (k : Nat), y.length ≤ 40 → sliceD (.str y) none (some (k : Int)) = some (.val (.str (y.take k))) := fun y k h => by simp [sliceD, hl y h]
  have frm : ∀ (y : Wd) (k : Nat), y.length ≤ 40 → sliceD (.str y) (some (k : Int)) none = some (.val (.str (y.drop k))) := fun y k h => by simp [sliceD, hl y h]
  have mx : ∀ (y : Wd) (f z : Slot), y ≠ [] → y.length ≤ 40 → mBlt bMax (mCons (mD (mLc (mRng2 (mCons (mK (.int 1)) (mCons (mD (mBin .Add (mLenV 0) (mK (.int 1)))) mNil))) (.nm 3) (mTr (mD (mCall 6 (mCons (mD (mSlice (mV 0) none (some (mV 3)))) mNil)))) (mV 3) [3])) mNil) c [Slot.val (.str y), f, z, .no]
      = .ok (.val (.int (km y : Nat))) [Slot.val (.str y), f, z, .no] := fun y f z hy hyl => by
    have := ev_Lc (c := c) (g := [Slot.val (.str y), f, z, .no]) (i := 3) (mi := mRng2 (mCons (mK (.int 1)) (mCons (mD (mBin .Add (mLenV 0) (mK (.int 1)))) mNil))) (tt := mTr (mD (mCall 6 (mCons (mD (mSlice (mV 0) none (some (mV 3)))) mNil)))) (me := mV 3)
      (List.range y.length) (fun k => .int ((k + 1 : Nat) : Int)) (fun k => leastB (y.take (k + 1))) (fun k => .int ((k + 1 : Nat) : Int)) [Slot.val (.str y), f, z, .no] (by simp [a0 y hyl, binD, addD, rng_two y.length (by omega)]) rfl (by rw [List.length_range]; exact hl y hyl) fun k hk => by
        have e := h6 (y.take (k + 1)) (by rw [List.length_take]; omega)
        have e2 := to y (k + 1) hyl
        simp only [ev_Tr, ev_D, ev_Call, ev_cons, ev_nil, ev_Slice, ev_V, ev_PartN, ev_PartS, List.set_cons_succ, List.set_cons_zero, List.getElem?_cons_succ, List.getElem?_cons_zero, intOf, e2, frz_val, e, truD_bl, true_and, implies_true, and_self]
    simp only [ev_Blt, ev_cons, ev_D, this, frz_lst, ev_nil, bMax, intsOf_of, Option.bind_some, max_km hy, Option.map_some]
  have loop := whL_ind (c := c) (t := mEqV true 0 (mK (.str []))) (body := (sSeq (sSet 2 (mBlt bMax (mCons (mD (mLc (mRng2 (mCons (mK (.int 1)) (mCons (mD (mBin .Add (mLenV 0) (mK (.int 1)))) mNil))) (.nm 3) (mTr (mD (mCall 6 (mCons (mD (mSlice (mV 0) none (some (mV 3)))) mNil)))) (mV 3) [3])) mNil)))
    (sSeq (sUpd 1 isLst (mD (mSlice (mV 0) none (some (mV 2)))) appD)
    (sSeq (sSet 0 (mSlice (mV 0) (some (mV 2)) none))
    sNil))))
    (fun m g => ∃ (y : Wd) (acc : List Wd) (z : Slot), g = [Slot.val (.str y), .own (.lst (wds acc)), z, .no] ∧ y.length = m ∧ y.all ab = true ∧ y.length + acc.length ≤ 40 ∧ acc ++ parts y = parts x)
    (fun g => ∃ z, g = [Slot.val (.str []), .own (.lst (wds (parts x))), z, .no]) (fun m g hg => by
      obtain ⟨y, acc, z, rfl, hm, hya, hyl, hp⟩ := hg
      have ok : okD dp (.str y) = true := okD_ab hya
      by_cases hy : y = []
      · subst hy
        rw [parts_nil, List.append_nil] at hp
        subst hp
        exact .inl ⟨_, by simp [eqW, okD, eqv], z, rfl⟩
      · refine .inr ⟨_, [Slot.val (.str (y.drop (km y))), .own (.lst (wds (acc ++ [y.take (km y)]))), .val (.int (km y : Nat)), .no], (y.drop (km y)).length, by simp [eqW, eqv, hy, ok, show okD dp (.str []) = true from rfl]; rfl, .inl ?_, ?_, y.drop (km y), acc ++ [y.take (km y)], _, rfl, rfl, ?_, ?_, ?_⟩
        · have e1 := mx y (.own (.lst (wds acc))) z hy (by omega)
          have e2 := to y (km y) (by omega)
          have e3 := frm y (km y) (by omega)
          have e4 : appD (.lst (wds acc)) (.str (y.take (km y))) = some (.lst (wds (acc ++ [y.take (km y)]))) := by
            unfold appD
            dsimp only
            rw [if_pos (show (wds acc).length < lim by rw [wds_len]; exact lim_le (by omega))]
            unfold wds
            rw [List.map_append]
            rfl
          simp only [ev_sSeq, ev_sSet, e1]
          simp [intOf, e2, e3, isLst, e4]
        · rw [List.length_drop]; have := km_pos hy; have := km_le y; omega
        · rw [List.all_eq_true] at hya ⊢; exact fun a h => hya a (List.mem_of_mem_drop h)
        · rw [List.length_drop, List.length_append, List.length_singleton]; have := km_pos hy; have := km_le y; omega
        · rw [List.append_assoc, List.singleton_append, ← parts_cons hy]; exact hp)
  obtain ⟨g', w1, z, w2⟩ := loop turns x.length [Slot.val (.str x), .own (.lst (wds [])), .no, .no] (by show x.length < turns; unfold turns; omega) ⟨x, [], .no, rfl, rfl, ha, by simpa using hx, rfl⟩
  unfold c11
  have e1 : x.length ≤ 200 := by omega
  have e2 : ¬ (40 : Int) < x.length := by omega
  simp [h1, e1, ha, a0 x hx, cmpD, e2]
  rw [show wds [] = ([] : List D) from rfl] at w1
  rw [w1, w2]
  simp [bTuple]
end T_k49

set_option maxRecDepth 100000
set_option maxHeartbeats 4000000
set_option Elab.async false
set_option linter.all false
namespace T_k49
open PySem PySem.Spec PyProof.Rows Wb L2
/-- all words of one length, in order; the same as the law makes them -/
def allw : Nat → List Wd
  | 0 => [[]]
  | n + 1 => (allw n).flatMap fun w => [w ++ [97], w ++ [98]]
def allU : Nat → List Wd
  | 0 => [[]]
  | n + 1 => (allU n).map (· ++ [97]) ++ (allU n).map (· ++ [98])
theorem f10_1 : run (tabOf ents) 39 10 [.int 1] = .ret (.val (.tup (wds ((allw 1).filter leastB)))) .non := by kernel_rfl
theorem f10_2 : run (tabOf ents) 39 10 [.int 2] = .ret (.val (.tup (wds ((allw 2).filter leastB)))) .non := by kernel_rfl
theorem f10_3 : run (tabOf ents) 39 10 [.int 3] = .ret (.val (.tup (wds ((allw 3).filter leastB)))) .non := by kernel_rfl
theorem f10_4 : run (tabOf ents) 39 10 [.int 4] = .ret (.val (.tup (wds ((allw 4).filter leastB)))) .non := by kernel_rfl
theorem f10_5 : run (tabOf ents) 39 10 [.int 5] = .ret (.val (.tup (wds ((allw 5).filter leastB)))) .non := by kernel_rfl
theorem f10_6 : run (tabOf ents) 39 10 [.int 6] = .ret (.val (.tup (wds ((allw 6).filter leastB)))) .non := by kernel_rfl
theorem f12_1 : run (tabOf ents) 39 12 [.int 1] = .ret (.val (.int 2)) .non := by kernel_rfl
theorem f12_2 : run (tabOf ents) 39 12 [.int 2] = .ret (.val (.int 1)) .non := by kernel_rfl
theorem f12_3 : run (tabOf ents) 39 12 [.int 3] = .ret (.val (.int 2)) .non := by kernel_rfl
theorem f12_4 : run (tabOf ents) 39 12 [.int 4] = .ret (.val (.int 3)) .non := by kernel_rfl
theorem f12_5 : run (tabOf ents) 39 12 [.int 5] = .ret (.val (.int 6)) .non := by kernel_rfl
theorem f12_6 : run (tabOf ents) 39 12 [.int 6] = .ret (.val (.int 9)) .non := by kernel_rfl
theorem f12_7 : run (tabOf ents) 39 12 [.int 7] = .ret (.val (.int 18)) .non := by kernel_rfl
theorem f12_8 : run (tabOf ents) 39 12 [.int 8] = .ret (.val (.int 30)) .non := by kernel_rfl
theorem f12_9 : run (tabOf ents) 39 12 [.int 9] = .ret (.val (.int 56)) .non := by kernel_rfl
theorem f12_10 : run (tabOf ents) 39 12 [.int 10] = .ret (.val (.int 99)) .non := by kernel_rfl
theorem f12_11 : run (tabOf ents) 39 12 [.int 11] = .ret (.val (.int 186)) .non := by kernel_rfl
theorem f12_12 : run (tabOf ents) 39 12 [.int 12] = .ret (.val (.int 335)) .non := by kernel_rfl
theorem f17_1 : run (tabOf ents) 39 17 [.int 1] = .ret (.own (.lst (sortD (wds (allU 1))))) .non := by kernel_rfl
theorem f17_2 : run (tabOf ents) 39 17 [.int 2] = .ret (.own (.lst (sortD (wds (allU 2))))) .non := by kernel_rfl
theorem f17_3 : run (tabOf ents) 39 17 [.int 3] = .ret (.own (.lst (sortD (wds (allU 3))))) .non := by kernel_rfl
theorem f17_4 : run (tabOf ents) 39 17 [.int 4] = .ret (.own (.lst (sortD (wds (allU 4))))) .non := by kernel_rfl
theorem f17_5 : run (tabOf ents) 39 17 [.int 5] = .ret (.own (.lst (sortD (wds (allU 5))))) .non := by kernel_rfl
theorem f17_6 : run (tabOf ents) 39 17 [.int 6] = .ret (.own (.lst (sortD (wds (allU 6))))) .non := by kernel_rfl
theorem fsh : ∀ n ∈ [1, 2, 3, 4, 5, 6], showOk (.tup (wds ((allw n).filter leastB))) = true := by decide +kernel
theorem fpm : ∀ n ∈ [1, 2, 3, 4, 5, 6], (allU n).isPerm (allw n) = true := by decide +kernel
theorem fso : ∀ n ∈ [1, 2, 3, 4, 5, 6], (allw n).Pairwise fun a b => leS a b = true := by decide +kernel
theorem fln : ∀ n ∈ [1, 2, 3, 4, 5, 6], ∀ x ∈ allw n, x.length ≤ 6 := by decide +kernel
end T_k49

set_option maxRecDepth 100000
set_option maxHeartbeats 4000000
set_option Elab.async false
set_option linter.all false
namespace T_k49
open PySem PySem.Spec PyProof.Rows Wb L2
variable {c : Cal}
def rowD (r : List Wd) : D := .tup (wds r)
def keepR (h : Wd) (r : List Wd) : Bool := match r with
  | [] => true
  | k :: _ => !decide (h < k)
def rowAt (x : Wd) (i : Nat) : List (List Wd) := if leastB (x.take (i + 1)) then (([parts (x.drop (i + 1))]).filter (keepR (x.take (i + 1)))).map (x.take (i + 1) :: ·) else []
theorem rowAt_len (x : Wd) (i : Nat) : (rowAt x i).length ≤ 1 := by
  unfold rowAt
  split
  · rw [List.length_map]; exact List.length_filter_le _ _
  · exact Nat.zero_le _
theorem rows_len (x : Wd) : ∀ j, ((List.range j).flatMap (rowAt x)).length ≤ j
  | 0 => Nat.le_refl _
  | j + 1 => by
    rw [List.range_succ, List.flatMap_append, List.length_append, List.flatMap_singleton]
    have := rows_len x j
    have := rowAt_len x j
    omega
theorem rows_all (x : Wd) (h : x ≠ []) : (List.range x.length).flatMap (rowAt x) = [parts x] := by
  have h1 := cuts_eq (x.length + 1) x (by omega)
  rw [cutsF, if_neg h] at h1
  rw [← h1]
  refine congrArg List.flatten (List.map_congr_left fun i hi => ?_)
  rw [cuts_eq x.length (x.drop (i + 1)) (by rw [List.length_drop]; omega)]
  rfl
theorem all_take {x : Wd} (h : x.all ab = true) (k : Nat) : (x.take k).all ab = true := by
  rw [List.all_eq_true] at h ⊢
  exact fun a q => h a (List.mem_of_mem_take q)
theorem all_drop {x : Wd} (h : x.all ab = true) (k : Nat) : (x.drop k).all ab = true := by
  rw [List.all_eq_true] at h ⊢
  exact fun a q => h a (List.mem_of_mem_drop q)
theorem all_parts {x : Wd} (h : x.all ab = true) : ∀ p ∈ parts x, p.all ab = true := by
  intro p hp
  rw [List.all_eq_true] at h ⊢
  intro a ha
  refine h a ?_
  rw [← parts_join x]
  exact List.mem_flatten.mpr ⟨p, hp, ha⟩
theorem okD_row {r : List Wd} (h : ∀ p ∈ r, p.all ab = true) : okD dp (rowD r) = true := by
  show okDs 29 (wds r) = true
  exact okDs_wds h
theorem p22_nil : finC false (c22 c [.val (.str []), .no, .no, .no]) = .ret (.own (.lst [.tup (wds (parts []))])) .non := by rfl
theorem p22 (n : Nat) (x : Wd) (ha : x.all ab = true) (hne : x ≠ []) (hx : x.length ≤ n + 1) (hn : n ≤ 100) (h21 : ∀ y : Wd, y.length ≤ 1000 → c 21 [.str y] = .ret (.val (.bl (leastB y))) .non)
    (h22 : ∀ y : Wd, y.all ab = true → y.length ≤ n → c 22 [.str y] = .ret (.own (.lst [rowD (parts y)])) .non) : finC false (c22 c [.val (.str x), .no, .no, .no]) = .ret (.own (.lst [rowD (parts x)])) .non := by
  have hl : x.length ≤ lim := lim_le (by omega)
  have a0 : lenD (.str x) = some (x.length : Int) := by unfold lenD; exact if_pos hl
  have to : ∀ (k : Nat), sliceD (.str x) none (some (k : Int)) = some (.val (.str (x.take k))) := fun k => by simp [sliceD, hl]
  have frm : ∀ (k : Nat), sliceD (.str x) (some (k : Int)) none = some (.val (.str (x.drop k))) := fun k => by simp [sliceD, hl]
  have comp : ∀ (m : Nat) (acc : List D), 1 ≤ m → mLc (mIter (mD (mCall 22 (mCons (mD (mSlice (mV 0) (some (mV 2)) none)) mNil)))) (.nm 3) (mOr (mEqV false 3 (mD (mTup mNil))) (mCmp .LtE (mSubW 3 (mK (.int 0))) (mD (mSlice (mV 0) none (some (mV 2)))))) (mD (mBin .Add (mD (mTup (mCons (mD (mSlice (mV 0) none (some (mV 2)))) mNil))) (mV 3))) [3] c
      [Slot.val (.str x), .val (.lst acc), .val (.int (m : Int)), .no] = .ok (.own (.lst ((([parts (x.drop m)]).filter (keepR (x.take m))).map fun r => rowD (x.take m :: r)))) [Slot.val (.str x), .val (.lst acc), .val (.int (m : Int)), .no] := fun m acc hm => by
    have e22 := h22 (x.drop m) (all_drop ha _) (by rw [List.length_drop]; omega)
    refine ev_Lc [parts (x.drop m)] rowD (keepR (x.take m)) (fun r => rowD (x.take m :: r)) _ ?_ rfl (lim_le (show 1 ≤ 1000000 by omega)) fun r hr => ?_
    · simp only [ev_Iter, ev_D, ev_Call, ev_cons, ev_nil, ev_Slice, ev_V, ev_PartN, ev_PartS, List.getElem?_cons_succ, List.getElem?_cons_zero, intOf, frm, frz_val, e22, frz_lst, itemsD, List.map_cons, List.map_nil]
    · rw [List.mem_singleton] at hr
      subst hr
      have okr : okD dp (rowD (parts (x.drop m))) = true := okD_row (all_parts (all_drop ha _))
      have okn : okD dp (.tup []) = true := rfl
      have plen : (parts (x.drop m)).length ≤ 1000 := Nat.le_trans parts_lens (by rw [List.length_drop]; omega)
      generalize parts (x.drop m) = r at okr plen ⊢
      have add : addD (.tup [.str (x.take m)]) (rowD r) = some (.val (rowD (x.take m :: r))) := by
        unfold rowD addD
        dsimp only
        rw [if_pos (by rw [wds_len]; exact lim_le (by simp; omega))]
        rfl
      have e1 := to m
      constructor
      · cases r with
        | nil =>
          have q1 : eqv (rowD []) (.tup []) = true := rfl
          simp [eqW, okr, okn, keepR, q1]
        | cons p r =>
          have q1 : eqv (rowD (p :: r)) (.tup []) = false := rfl
          have q2 : subW (rowD (p :: r)) (.int 0) = some (.str p) := rfl
          simp [eqW, okr, okn, keepR, q1, q2, intOf, e1, cmpD, ltS]
      · intro _
        simp only [ev_Bin, ev_D, ev_Tup, ev_cons, ev_nil, ev_Slice, ev_V, ev_PartN, ev_PartS, List.set_cons_succ, List.set_cons_zero, List.getElem?_cons_succ, List.getElem?_cons_zero, intOf, e1, frz_val, List.length_cons, List.length_nil]
        rw [if_pos (show 0 + 1 ≤ lim by decide)]
        simp only [frz_val, binD, List.getElem?_cons_succ, List.getElem?_cons_zero, add]
  obtain ⟨g', w1, j, acc, s, w2, w3, w4, w5⟩ := forL_ind (c := c) (t := .nm 2) (enc := fun k : Nat => D.int ((k + 1 : Nat) : Int)) (body := (sSeq (sIf (mTr (mD (mCall 21 (mCons (mD (mSlice (mV 0) none (some (mV 2)))) mNil)))) (sSeq (sSet 1 (mBin .Add (mV 1) (mD (mLc (mIter (mD (mCall 22 (mCons (mD (mSlice (mV 0) (some (mV 2)) none)) mNil)))) (.nm 3) (mOr (mEqV false 3 (mD (mTup mNil))) (mCmp .LtE (mSubW 3 (mK (.int 0))) (mD (mSlice (mV 0) none (some (mV 2)))))) (mD (mBin .Add (mD (mTup (mCons (mD (mSlice (mV 0) none (some (mV 2)))) mNil))) (mV 3))) [3]))))
    sNil) sNil)
    sNil))
    (fun xs g => ∃ (j : Nat) (acc : List D) (s : Slot), xs = (List.range x.length).drop j ∧ j ≤ x.length ∧ g = [Slot.val (.str x), .own (.lst acc), s, .no] ∧ acc = ((List.range j).flatMap (rowAt x)).map rowD) (fun k xs g hg => by
      obtain ⟨j, acc, s, e1, e2, rfl, e4⟩ := hg
      have hj : j < x.length := by
        rcases Nat.lt_or_ge j x.length with q | q
        · exact q
        · rw [List.drop_of_length_le (by rw [List.length_range]; exact q)] at e1
          cases e1
      rw [List.drop_eq_getElem_cons (by rw [List.length_range]; exact hj), List.getElem_range] at e1
      obtain ⟨rfl, rfl⟩ := List.cons.inj e1
      have hlen : acc.length ≤ k := by rw [e4, List.length_map]; exact rows_len x k
      refine ⟨[Slot.val (.str x), .own (.lst acc), .val (.int ((k + 1 : Nat) : Int)), .no], [Slot.val (.str x), .own (.lst (acc ++ (rowAt x k).map rowD)), .val (.int ((k + 1 : Nat) : Int)), .no], rfl, .inl ?_, k + 1, _, _, rfl, hj, rfl, ?_⟩
      · have e21 := h21 (x.take (k + 1)) (by rw [List.length_take]; omega)
        have et := to (k + 1)
        cases hb : leastB (x.take (k + 1)) with
        | false =>
          rw [hb] at e21
          have : rowAt x k = [] := by unfold rowAt; rw [hb]; rfl
          rw [this]
          simp only [ev_sSeq, ev_sIf, ev_Tr, ev_D, ev_Call, ev_cons, ev_nil, ev_Slice, ev_V, ev_PartN, ev_PartS, List.getElem?_cons_succ, List.getElem?_cons_zero, intOf, et, frz_val, e21, truD_bl, Bool.false_eq_true, if_false, ev_sNil, List.map_nil, List.append_nil]
        | true =>
          rw [hb] at e21
          have er : (rowAt x k).map rowD = (([parts (x.drop (k + 1))]).filter (keepR (x.take (k + 1)))).map fun r => rowD (x.take (k + 1) :: r) := by
            unfold rowAt
            rw [hb, if_pos rfl, List.map_map]
            rfl
          have add : addD (.lst acc) (.lst ((rowAt x k).map rowD)) = some (.own (.lst (acc ++ (rowAt x k).map rowD))) := by
            unfold addD
            dsimp only
            rw [if_pos (by have := rowAt_len x k; rw [List.length_map]; exact lim_le (by omega))]
          have ec := comp (k + 1) acc (by omega)
          rw [← er] at ec
          simp only [ev_sSeq, ev_sIf, ev_Tr, ev_D, ev_Call, ev_cons, ev_nil, ev_Slice, ev_V, ev_PartN, ev_PartS, List.getElem?_cons_succ, List.getElem?_cons_zero, intOf, et, frz_val, e21, truD_bl, if_pos, ev_sSet, ev_Bin, List.set_cons_succ, List.set_cons_zero, ec, frz_lst, binD, add]
          simp
      · rw [List.range_succ, List.flatMap_append, List.map_append, ← e4, List.flatMap_singleton]) (List.range x.length) [Slot.val (.str x), .own (.lst []), .no, .no] ⟨0, [], .no, rfl, Nat.zero_le _, rfl, rfl⟩
  have hj : j = x.length := by
    have := congrArg List.length w2
    rw [List.length_drop, List.length_range, List.length_nil] at this
    omega
  subst hj
  rw [rows_all x hne] at w5
  subst w5
  have okx : okD dp (.str x) = true := okD_ab ha
  have er : rng2 [.int 1, .int ((x.length : Int) + 1)] = some ((List.range x.length).map fun (k : Nat) => D.int ((k + 1 : Nat) : Int)) := rng_two x.length (by omega)
  have nq : eqv (.str x) (.str []) = false := by simp [eqv, hne]
  unfold c22
  have e0 : addD (.int (x.length : Int)) (.int 1) = some (.val (.int ((x.length : Int) + 1))) := rfl
  have okn : okD dp (.str []) = true := rfl
  simp only [ev_sSeq, ev_sIf, ev_EqV, ev_Slot, List.getElem?_cons_zero, Option.bind_some, slotD_val, ev_K, eqW, okx, okn, Bool.and_self, if_true, nq, Bool.false_eq_true, if_false, ev_sNil]
  simp only [ev_sSet, ev_Lst, ev_nil, List.length_nil, Nat.zero_le, if_true, List.length_cons, slot_own, List.set_cons_succ, List.set_cons_zero, Nat.reduceAdd, Nat.reduceLT]
  simp only [ev_sFor, ev_Rng2, ev_cons, ev_K, ev_D, ev_Bin, ev_LenV, List.getElem?_cons_zero, Option.bind_some, slotD_val, a0, binD, e0, frz_val, ev_nil, er, w1, w4]
  simp
theorem s22 : ∀ (n l : Nat) (x : Wd), n ≤ 100 → x.all ab = true → x.length ≤ n → (∀ l' (y : Wd), y.length ≤ 1000 → run (tabOf ents) (l' + 2) 21 [.str y] = .ret (.val (.bl (leastB y))) .non) → run (tabOf ents) (l + 3 + n) 22 [.str x] = .ret (.own (.lst [rowD (parts x)])) .non
  | 0, l, x, _, _, hx, _ => by
    have : x = [] := List.eq_nil_of_length_eq_zero (by omega)
    subst this
    rw [show l + 3 + 0 = l + 2 + 1 from rfl, r22]
    exact p22_nil
  | n + 1, l, x, hn, ha, hx, h => by
    rw [show l + 3 + (n + 1) = l + 3 + n + 1 from rfl, r22]
    by_cases hne : x = []
    · subst hne
      exact p22_nil
    · refine p22 n x ha hne hx (by omega) (fun y hy => ?_) fun y hy hl => s22 n l y (by omega) hy hl h
      have := h (l + 1 + n) y hy
      rw [show l + 1 + n + 2 = l + 3 + n by omega] at this
      exact this
end T_k49

set_option maxRecDepth 100000
set_option maxHeartbeats 4000000
set_option Elab.async false
set_option linter.all false
namespace T_k49
open PySem PySem.Spec PyProof.Rows Wb L2
variable {c : Cal}
def Tk (c : Cal) : Prop := ∀ (d : D) (many : Int), DrawOk d → 1 ≤ many → many < 1073741824 → ∃ (v : Nat) (d1 : D), c 14 [d, .int many] = .ret (.val (.int (v : Int))) d1 ∧ (v : Int) < many ∧ DrawOk d1
theorem ltr_of {v : Nat} (h : (v : Int) < 2) : ∃ s, (s = 97 ∨ s = 98) ∧ subD' (.str [97, 98]) (.int (v : Int)) = some (.str [s]) := by
  match v, h with
  | 0, _ => exact ⟨97, .inl rfl, rfl⟩
  | 1, _ => exact ⟨98, .inr rfl, rfl⟩
theorem atZ_in {α : Type} {xs : List α} {v : Nat} (h : v < xs.length) : ∃ x ∈ xs, atZ xs (v : Int) = some x := by
  refine ⟨xs[v], List.getElem_mem h, ?_⟩
  unfold atZ
  rw [if_pos (by omega), Int.toNat_natCast, List.getElem?_eq_getElem h]
theorem p14 (d : D) (many : Int) (hd : DrawOk d) (h1 : 1 ≤ many) (h2 : many < 1073741824) : ∃ (v : Nat) (d1 : D), finC true (c14 c [.own d, .val (.int many), .no]) = .ret (.val (.int (v : Int))) d1 ∧ (v : Int) < many ∧ DrawOk d1 := by
  obtain ⟨v, d1, a1, a2, a3, a4⟩ := take_fin (c := c) hd h1 h2
  obtain ⟨n, rfl⟩ := Int.eq_ofNat_of_zero_le a2
  exact ⟨n, d1, a1, a3, a4⟩
theorem p16 (h14 : Tk c) (d : D) (hd : DrawOk d) : ∃ (w : Wd) (d1 : D), finC true (c16 c [.own d, .val (.int 6), .no]) = .ret (.val (.str w)) d1 ∧ isW w = true ∧ DrawOk d1 := by
  obtain ⟨v, d1, a1, a2, a3⟩ := h14 d 6 hd (by omega) (by omega)
  have er : rng1 [.int (1 + (v : Int))] = some ((List.range (v + 1)).map fun (k : Nat) => D.int (k : Int)) := by
    rw [← rng_nat (v + 1) (by omega)]
    congr 3
    omega
  have ea : addD (.int 1) (.int (v : Int)) = some (.val (.int (1 + (v : Int)))) := rfl
  obtain ⟨ys, d', b1, b2, b3, b4⟩ := ev_LcDraw (c := c) (i := 2) (j := 0) (mi := mRng1 (mCons (mD (mBin .Add (mK (.int 1)) (mD (mCallIo 14 0 (mCons (mV 1) mNil))))) mNil)) (me := mSub (mK (.str [97, 98])) (mD (mCallIo 14 0 (mCons (mK (.int 2)) mNil))))
    (g := [Slot.own d, .val (.int 6), .no]) DrawOk Ltr ((List.range (v + 1)).map fun (k : Nat) => D.int (k : Int)) [Slot.own d1, .val (.int 6), .no] d1 (by simp [a1, binD, ea, er]) rfl a3 (by decide) rfl (by rw [List.length_map, List.length_range]; exact lim_le (by omega)) fun x hx d hd => by
      obtain ⟨u, d2, q1, q2, q3⟩ := h14 d 2 hd (by omega) (by omega)
      obtain ⟨s, hs, q4⟩ := ltr_of q2
      exact ⟨.str [s], d2, by simp [q1, q4], q3, s, hs, rfl⟩
  rw [List.length_map, List.length_range] at b3
  obtain ⟨w, w1, w2, w3⟩ := join_ltrs b4 (by omega)
  refine ⟨w, d', ?_, ?_, b2⟩
  · unfold c16
    simp only [ev_sSeq, ev_sRet, ev_bnd, ev_Join, ev_K, isStrD, if_true, ev_D, b1, frz_lst, w1, ev_ret, List.set_cons_zero]
    rfl
  · unfold isW
    rw [w3, w2, b3]
    simp
    omega
/-! ### what is odd -/
def oddT : List D := [.non, .int 5, .str [99], .str [97, 66], .tup [.str [97]], .str [97, 32, 98], .lst [.str [97]], .str (List.replicate 201 97)]
def oddN (m : Int) : List D := [.non, .int (-1), .int (m + 1), .bl true, .str [49], .tup [.int 1]]
theorem p18 (h14 : Tk c) (d : D) (hd : DrawOk d) : ∃ o ∈ oddT, ∃ d1, finC true (c18 c [.own d]) = .ret (.val o) d1 ∧ DrawOk d1 := by
  obtain ⟨v, d1, a1, a2, a3⟩ := h14 d 8 hd (by omega) (by omega)
  obtain ⟨o, o1, o2⟩ := atZ_in (xs := oddT) (v := v) (by show v < 8; omega)
  refine ⟨o, o1, d1, ?_, a3⟩
  have e : ∀ g : Env', mD (mLst (mCons (mK .non) (mCons (mK (.int 5)) (mCons (mK (.str [99])) (mCons (mK (.str [97, 66])) (mCons (mD (mTup (mCons (mK (.str [97])) mNil))) (mCons (mK (.str [97, 32, 98])) (mCons (mD (mLst (mCons (mK (.str [97])) mNil))) (mCons (mD (mBin .Mult (mK (.str [97])) (mK (.int 201)))) mNil))))))))) c g = .ok (.lst oddT) g := fun g => by kernel_rfl
  unfold c18
  simp only [ev_sSeq, ev_sRet, ev_bnd, ev_Sub, e]
  simp [a1, subD', o2]
theorem p19 (h14 : Tk c) (d : D) (m : Int) (hd : DrawOk d) : ∃ o ∈ oddN m, ∃ d1, finC true (c19 c [.own d, .val (.int m)]) = .ret (.val o) d1 ∧ DrawOk d1 := by
  obtain ⟨v, d1, a1, a2, a3⟩ := h14 d 6 hd (by omega) (by omega)
  obtain ⟨o, o1, o2⟩ := atZ_in (xs := oddN m) (v := v) (by show v < 6; omega)
  refine ⟨o, o1, d1, ?_, a3⟩
  have e : ∀ g : Env', mD (mLst (mCons (mK .non) (mCons (mNeg (mK (.int 1))) (mCons (mD (mBin .Add (mV 1) (mK (.int 1)))) (mCons (mK (.bl true)) (mCons (mK (.str [49])) (mCons (mD (mTup (mCons (mK (.int 1)) mNil))) mNil))))))) c [.own d, .val (.int m)] = .ok (.lst (oddN m)) [.own d, .val (.int m)] := fun g => rfl
  unfold c19
  simp only [ev_sSeq, ev_sRet, ev_bnd, ev_Sub, e []]
  simp [a1, subD', o2]
def mf : D := .str [60, 109, 97, 108, 102, 111, 114, 109, 101, 100, 62]
def badT : List D := oddT ++ [.str [], .str [97, 97, 97, 97, 97, 97, 97]]
/-- every odd thing is told -/
def tells (l : Nat) (k : Int) (d : D) : Bool := match run (tabOf ents) l 23 [.int k, d] with
  | .ret (.val (.str s)) _ => decide (s = [60, 109, 97, 108, 102, 111, 114, 109, 101, 100, 62])
  | _ => false
theorem tells_of {l : Nat} {k : Int} {d : D} (h : tells l k d = true) : ∃ io, run (tabOf ents) l 23 [.int k, d] = .ret (.val mf) io := by
  unfold tells at h
  split at h
  · rename_i s io e
    exact ⟨io, by rw [e, of_decide_eq_true h]; rfl⟩
  · cases h
theorem t0 : badT.all (tells 39 0) = true := by kernel_rfl
theorem t1 : badT.all (tells 39 1) = true := by kernel_rfl
theorem t2 : (oddN 6 ++ [D.int 0]).all (tells 39 2) = true := by kernel_rfl
theorem t3 : (oddN 12 ++ [D.int 0]).all (tells 39 3) = true := by kernel_rfl
def a41 : D := .str (List.replicate 41 97)
theorem t4 : (oddT ++ [a41]).all (tells 39 4) = true := by kernel_rfl
end T_k49

set_option maxRecDepth 100000
set_option maxHeartbeats 4000000
set_option Elab.async false
set_option linter.all false
namespace T_k49
open PySem PySem.Spec PyProof.Rows Wb L2
variable {c : Cal}
def b12 (z : Int) : Int := if z = 7 then 18 else if z = 8 then 30 else if z = 9 then 56 else if z = 10 then 99 else if z = 11 then 186 else 335
structure Hy (c : Cal) : Prop where
  h13 : ∀ ns : List Int, ns.length ≤ 1000 → ∃ d, c 13 [.rol (ns.map .int)] = .ret (.own d) .non ∧ DrawOk d
  h14 : Tk c
  h16 : ∀ d, DrawOk d → ∃ (w : Wd) (d1 : D), c 16 [d, .int 6] = .ret (.val (.str w)) d1 ∧ isW w = true ∧ DrawOk d1
  h18 : ∀ d, DrawOk d → ∃ o ∈ oddT, ∃ d1, c 18 [d] = .ret (.val o) d1 ∧ DrawOk d1
  h19 : ∀ d m, DrawOk d → ∃ o ∈ oddN m, ∃ d1, c 19 [d, .int m] = .ret (.val o) d1 ∧ DrawOk d1
  h5 : ∀ w, isW w = true → c 5 [.str w] = .ret (.val (.tup (wds (setS (rots w))))) .non
  h7 : ∀ w, isW w = true → c 7 [.str w] = .ret (.val (.bl (leastB w))) .non
  h20 : ∀ x : Wd, x.length ≤ 1000 → c 20 [.str x] = .ret (.own (.lst (wds (rots x)))) .non
  h21 : ∀ x : Wd, x.length ≤ 1000 → c 21 [.str x] = .ret (.val (.bl (leastB x))) .non
  h15 : ∀ b b2 : Bool, c 15 [.bl b, .bl b2] = .ret (.val (.bl (b == b2))) .non
  h11 : ∀ x : Wd, x.all ab = true → x.length ≤ 40 → c 11 [.str x] = .ret (.val (.tup (wds (parts x)))) .non
  h22 : ∀ x : Wd, x.all ab = true → x.length ≤ 10 → c 22 [.str x] = .ret (.own (.lst [rowD (parts x)])) .non
  hn : ∀ v : Nat, (v : Int) < 6 → ∃ A : List Wd, c 10 [.int (1 + v)] = .ret (.val (.tup (wds (A.filter leastB)))) .non ∧ c 17 [.int (1 + v)] = .ret (.own (.lst (wds A))) .non ∧ (∀ x ∈ A, x.length ≤ 6)
    ∧ c 12 [.int (1 + v)] = .ret (.val (.int (A.filter leastB).length)) .non ∧ showOk (.tup (wds (A.filter leastB))) = true ∧ okD dp (.str (shownD (.tup (wds (A.filter leastB))))) = true ∧ A.length ≤ 1000
  h12 : ∀ z ∈ [(7 : Int), 8, 9, 10, 11, 12], c 12 [.int z] = .ret (.val (.int (b12 z))) .non
  t0 : ∀ o ∈ badT, ∃ io, c 23 [.int 0, o] = .ret (.val mf) io
  t1 : ∀ o ∈ badT, ∃ io, c 23 [.int 1, o] = .ret (.val mf) io
  t2 : ∀ o ∈ oddN 6 ++ [D.int 0], ∃ io, c 23 [.int 2, o] = .ret (.val mf) io
  t3 : ∀ o ∈ oddN 12 ++ [D.int 0], ∃ io, c 23 [.int 3, o] = .ret (.val mf) io
  t4 : ∀ o ∈ oddT ++ [a41], ∃ io, c 23 [.int 4, o] = .ret (.val mf) io
theorem seq_nx {m n : MS} {g g1 : Env'} (h : m c g = .nx g1) : sSeq m n c g = n c g1 := by
  rw [ev_sSeq, h]
theorem if_no {t : M Bool} {m : MS} {g g1 : Env'} (h : t c g = .ok false g1) : sIf t m sNil c g = .nx g1 := by
  rw [ev_sIf, h]
  rfl
theorem ne_self {d : D} (h : okD dp d = true) : cmpD .NotEq d d = some false := by
  unfold cmpD
  dsimp only
  rw [h, eqv_refl h]
  rfl
theorem eq_self {d : D} (h : okD dp d = true) : cmpD .Eq d d = some true := by
  unfold cmpD
  dsimp only
  rw [h, eqv_refl h]
  rfl
abbrev En (R d : D) (s2 s3 s4 s5 s6 s7 s8 s9 : Slot) : Env' := [.val R, .own d, s2, s3, s4, s5, s6, s7, s8, s9, .no, .no, .no, .no]
variable {R d : D} {s2 s3 s4 s5 s6 s7 s8 s9 : Slot}
theorem all_rots {x : Wd} (h : x.all ab = true) : ∀ r ∈ rots x, r.all ab = true := by
  intro r hr
  unfold rots at hr
  obtain ⟨k, _, rfl⟩ := List.mem_map.mp hr
  rw [List.all_append, all_drop h, all_take h]
  rfl
theorem isW_ab {w : Wd} (h : isW w = true) : w.all ab = true ∧ 1 ≤ w.length ∧ w.length ≤ 6 := by
  unfold isW at h
  rw [Bool.and_eq_true, Bool.and_eq_true, decide_eq_true_eq, decide_eq_true_eq] at h
  exact h
theorem setS_mem (xs : List Wd) : ∀ x ∈ setS xs, x ∈ xs := fun x hx => by
  unfold setS at hx
  exact ((ddS_spec xs).2 x).mp (List.mem_mergeSort.mp hx)
theorem pc1 (H : Hy c) (hd : DrawOk d) : ∃ (w : Wd) (v : Nat) (d' : D), sPar [8, 9] (mConsE (mCallIo 16 1 (mCons (mK (.int 6)) mNil)) (mConsE (mBin .Add (mK (.int 1)) (mD (mCallIo 14 1 (mCons (mK (.int 6)) mNil)))) mNilE)) c (En R d s2 s3 s4 s5 s6 s7 s8 s9)
    = .nx (En R d' s2 s3 s4 s5 s6 s7 (.val (.str w)) (.val (.int (1 + v)))) ∧ isW w = true ∧ (v : Int) < 6 ∧ DrawOk d' := by
  obtain ⟨w, d1, a1, a2, a3⟩ := H.h16 d hd
  obtain ⟨v, d2, b1, b2, b3⟩ := H.h14 d1 6 a3 (by omega) (by omega)
  exact ⟨w, v, d2, by simp [a1, b1, binD, addD, stoG], a2, b2, b3⟩
theorem pc2 (H : Hy c) {w : Wd} (hw : isW w = true) : (mOr (mCmp .NotEq (mD (mCall 5 (mCons (mV 8) mNil))) (mD (mBlt bTuple (mCons (mD (mSortSet (mD (mCall 20 (mCons (mV 8) mNil))))) mNil)))) (mNot (mTr (mD (mCall 15 (mCons (mD (mCall 7 (mCons (mV 8) mNil))) (mCons (mD (mCall 21 (mCons (mV 8) mNil))) mNil))))))) c (En R d s2 s3 s4 s5 s6 s7 (.val (.str w)) s9)
    = .ok false (En R d s2 s3 s4 s5 s6 s7 (.val (.str w)) s9) := by
  obtain ⟨w1, w2, w3⟩ := isW_ab hw
  have e5 := H.h5 w hw
  have e7 := H.h7 w hw
  have e20 := H.h20 w (by omega)
  have e21 := H.h21 w (by omega)
  have a : setSortD (.lst (wds (rots w))) = some (.own (.lst (wds (setS (rots w))))) := by
    unfold setSortD
    dsimp only
    rw [if_pos (by rw [wds_len, rots_len]; omega), wds_strs]
    rfl
  have q : okD dp (.tup (wds (setS (rots w)))) = true := okD_row fun p hp => all_rots w1 p (setS_mem _ p hp)
  simp [e5, e7, e20, e21, a, bTuple, ne_self q, H.h15]
theorem pc3 {A : List Wd} {n : Int} (H : Hy c) (h17 : c 17 [.int n] = .ret (.own (.lst (wds A))) .non) (hA : ∀ x ∈ A, x.length ≤ 6) (hl : A.length ≤ 1000) :
    sSet 7 (mBlt bTuple (mCons (mD (mLc (mIter (mD (mCall 17 (mCons (mV 9) mNil)))) (.nm 11) (mTr (mD (mCall 21 (mCons (mV 11) mNil)))) (mV 11) [11])) mNil)) c (En R d s2 s3 s4 s5 s6 s7 s8 (.val (.int n)))
    = .nx (En R d s2 s3 s4 s5 s6 (.val (.tup (wds (A.filter leastB)))) s8 (.val (.int n))) := by
  have := ev_Lc (c := c) (g := En R d s2 s3 s4 s5 s6 s7 s8 (.val (.int n))) (i := 11) (mi := mIter (mD (mCall 17 (mCons (mV 9) mNil)))) (tt := mTr (mD (mCall 21 (mCons (mV 11) mNil)))) (me := mV 11) A .str leastB .str (En R d s2 s3 s4 s5 s6 s7 s8 (.val (.int n)))
    (by simp [h17, itemsD]; rfl) rfl (lim_le (by omega)) fun x hx => by
      have := H.h21 x (by have := hA x hx; omega)
      simp [this]
  rw [ev_sSet, ev_Blt, ev_cons, ev_D, this]
  simp [bTuple, wds]
theorem pc4 {A : List Wd} {n : Int} (h10 : c 10 [.int n] = .ret (.val (.tup (wds (A.filter leastB)))) .non) (h12 : c 12 [.int n] = .ret (.val (.int (A.filter leastB).length)) .non) (hs : showOk (.tup (wds (A.filter leastB))) = true) (ho : okD dp (.str (shownD (.tup (wds (A.filter leastB))))) = true) :
    (mOr (mCmp .NotEq (mD (mBlt bRepr (mCons (mD (mCall 10 (mCons (mV 9) mNil))) mNil))) (mD (mBlt bRepr (mCons (mV 7) mNil)))) (mCmp .NotEq (mD (mCall 12 (mCons (mV 9) mNil))) (mLenV 7))) c (En R d s2 s3 s4 s5 s6 (.val (.tup (wds (A.filter leastB)))) s8 (.val (.int n)))
    = .ok false (En R d s2 s3 s4 s5 s6 (.val (.tup (wds (A.filter leastB)))) s8 (.val (.int n))) := by
  have b : bRepr [.tup (wds (A.filter leastB))] = some (.val (.str (shownD (.tup (wds (A.filter leastB)))))) := by
    unfold bRepr
    dsimp only
    rw [hs]
    rfl
  have l : lenD (.tup (wds (A.filter leastB))) = some ((A.filter leastB).length : Int) := by
    unfold lenD
    dsimp only
    rw [wds_len]
  have q : cmpD .NotEq (.int ((A.filter leastB).length : Int)) (.int ((A.filter leastB).length : Int)) = some false := ne_self rfl
  simp [h10, h12, b, l, ne_self ho, q]
/-- letters drawn in a row -/
theorem pc5 (H : Hy c) (hd : DrawOk d) : ∃ (x : Wd) (d' : D), sSet 3 (bnd (mJoin (mK (.str [])) (mD (mLc (mRng1 (mCons (mD (mCallIo 14 1 (mCons (mK (.int 11)) mNil))) mNil)) (.nm 12) (ret true) (mSub (mK (.str [97, 98])) (mD (mCallIo 14 1 (mCons (mK (.int 2)) mNil)))) [12]))) fun d => ret (.val d)) c (En R d s2 s3 s4 s5 s6 s7 s8 s9)
    = .nx (En R d' s2 (.val (.str x)) s4 s5 s6 s7 s8 s9) ∧ x.all ab = true ∧ x.length ≤ 10 ∧ DrawOk d' := by
  obtain ⟨v, d1, a1, a2, a3⟩ := H.h14 d 11 hd (by omega) (by omega)
  obtain ⟨ys, d', b1, b2, b3, b4⟩ := ev_LcDraw (c := c) (i := 12) (j := 1) (mi := mRng1 (mCons (mD (mCallIo 14 1 (mCons (mK (.int 11)) mNil))) mNil)) (me := mSub (mK (.str [97, 98])) (mD (mCallIo 14 1 (mCons (mK (.int 2)) mNil))))
    (g := En R d s2 s3 s4 s5 s6 s7 s8 s9) DrawOk Ltr ((List.range v).map fun (k : Nat) => D.int (k : Int)) (En R d1 s2 s3 s4 s5 s6 s7 s8 s9) d1 (by simp [a1, rng_nat v (by omega)]) rfl a3 (by decide) rfl (by rw [List.length_map, List.length_range]; exact lim_le (by omega)) fun x hx d hd => by
      obtain ⟨u, d2, q1, q2, q3⟩ := H.h14 d 2 hd (by omega) (by omega)
      obtain ⟨s, hs, q4⟩ := ltr_of q2
      exact ⟨.str [s], d2, by simp [q1, q4], q3, s, hs, rfl⟩
  rw [List.length_map, List.length_range] at b3
  obtain ⟨w, w1, w2, w3⟩ := join_ltrs b4 (by omega)
  refine ⟨w, d', ?_, w3, by omega, b2⟩
  simp only [ev_sSet, ev_bnd, ev_Join, ev_K, isStrD, if_true, ev_D, b1, frz_lst, w1, ev_ret]
  rfl
theorem pc6 (H : Hy c) {x : Wd} (ha : x.all ab = true) (hx : x.length ≤ 10) : (mCmp .NotEq (mD (mLst (mCons (mD (mCall 11 (mCons (mV 3) mNil))) mNil))) (mD (mCall 22 (mCons (mV 3) mNil)))) c (En R d s2 (.val (.str x)) s4 s5 s6 s7 s8 s9) = .ok false (En R d s2 (.val (.str x)) s4 s5 s6 s7 s8 s9) := by
  have e1 := H.h11 x ha (by omega)
  have e2 := H.h22 x ha hx
  have q : okD dp (.lst [rowD (parts x)]) = true := by
    have : okD 29 (rowD (parts x)) = true := by
      show okDs 28 (wds (parts x)) = true
      exact okDs_wds (all_parts ha)
    show okDs 29 [rowD (parts x)] = true
    rw [okDs, this]
    rfl
  have hl : (1 : Nat) ≤ lim := by decide
  have e1' : c 11 [.str x] = .ret (.val (rowD (parts x))) .non := e1
  simp [e1', e2, hl, ne_self q]
end T_k49

set_option maxRecDepth 100000
set_option maxHeartbeats 4000000
set_option Elab.async false
set_option linter.all false
namespace T_k49
open PySem PySem.Spec PyProof.Rows Wb L2
variable {c : Cal} {R d : D} {s2 s3 s4 s5 s6 s7 s8 s9 : Slot}
def Wrd (d : D) : Prop := ∃ w : Wd, isW w = true ∧ d = .str w
theorem wrds : ∀ {ys : List D}, (∀ y ∈ ys, Wrd y) → ∃ ws : List Wd, strsOf ys = some ws ∧ ws.length = ys.length ∧ ∀ w ∈ ws, isW w = true
  | [], _ => ⟨[], rfl, rfl, fun w h => (nomatch h)⟩
  | y :: ys, h => by
    obtain ⟨w, hw, rfl⟩ := h y List.mem_cons_self
    obtain ⟨ws, h1, h2, h3⟩ := wrds (ys := ys) fun z hz => h z (List.mem_cons_of_mem _ hz)
    refine ⟨w :: ws, by rw [strsOf, h1]; rfl, by rw [List.length_cons, List.length_cons, h2], fun z hz => ?_⟩
    rcases List.mem_cons.mp hz with e | e
    · rw [e]; exact hw
    · exact h3 z e
theorem sum_six : ∀ (ws : List Wd), (∀ w ∈ ws, w.length ≤ 6) → (ws.map (·.length)).sum ≤ 6 * ws.length
  | [], _ => Nat.le_refl _
  | w :: ws, h => by
    rw [List.map_cons, List.sum_cons, List.length_cons]
    have := sum_six ws fun z hz => h z (List.mem_cons_of_mem _ hz)
    have := h w List.mem_cons_self
    omega
theorem join_wds (ws : List Wd) (f : List D → D) (hf : f = .lst ∨ f = .tup) {ys : List D} (hs : strsOf ys = some ws) (h : (ws.map (·.length)).sum ≤ 1000000) : joinOf (.str []) (f ys) = some (.str ws.flatten) := by
  have : (if (ws.map (·.length)).sum + ws.length * ([] : Wd).length ≤ lim then some (D.str (joinD [] ws)) else none) = some (.str ws.flatten) := by
    rw [if_pos (by rw [List.length_nil, Nat.mul_zero]; exact lim_le h), joinD_nil]
  rcases hf with rfl | rfl
  · unfold joinOf; simp only [hs, Option.bind_some]; exact this
  · unfold joinOf; simp only [hs, Option.bind_some]; exact this
theorem pf1 (H : Hy c) (hd : DrawOk d) : ∃ (x : Wd) (d' : D), sSet 3 (mSlice (mJoin (mK (.str [])) (mD (mLc (mRng1 (mCons (mD (mCallIo 14 1 (mCons (mK (.int 10)) mNil))) mNil)) (.nm 12) (ret true) (mD (mCallIo 16 1 (mCons (mK (.int 6)) mNil))) [12]))) none (some (mK (.int 40)))) c (En R d s2 s3 s4 s5 s6 s7 s8 s9)
    = .nx (En R d' s2 (.val (.str x)) s4 s5 s6 s7 s8 s9) ∧ x.all ab = true ∧ x.length ≤ 40 ∧ DrawOk d' := by
  obtain ⟨v, d1, a1, a2, a3⟩ := H.h14 d 10 hd (by omega) (by omega)
  obtain ⟨ys, d', b1, b2, b3, b4⟩ := ev_LcDraw (c := c) (i := 12) (j := 1) (mi := mRng1 (mCons (mD (mCallIo 14 1 (mCons (mK (.int 10)) mNil))) mNil)) (me := mD (mCallIo 16 1 (mCons (mK (.int 6)) mNil)))
    (g := En R d s2 s3 s4 s5 s6 s7 s8 s9) DrawOk Wrd ((List.range v).map fun (k : Nat) => D.int (k : Int)) (En R d1 s2 s3 s4 s5 s6 s7 s8 s9) d1 (by simp [a1, rng_nat v (by omega)]) rfl a3 (by decide) rfl (by rw [List.length_map, List.length_range]; exact lim_le (by omega)) fun x hx d hd => by
      obtain ⟨w, d2, q1, q2, q3⟩ := H.h16 d hd
      exact ⟨.str w, d2, by simp [q1], q3, w, q2, rfl⟩
  rw [List.length_map, List.length_range] at b3
  obtain ⟨ws, w1, w2, w3⟩ := wrds b4
  have hsum := sum_six ws fun w hw => (isW_ab (w3 w hw)).2.2
  have j := join_wds ws .lst (.inl rfl) w1 (by omega)
  have hall : ws.flatten.all ab = true := by
    rw [List.all_eq_true]
    intro a ha
    obtain ⟨w, hw, haw⟩ := List.mem_flatten.mp ha
    exact List.all_eq_true.mp (isW_ab (w3 w hw)).1 a haw
  refine ⟨ws.flatten.take 40, d', ?_, all_take hall 40, by rw [List.length_take]; omega, b2⟩
  have sl : sliceD (.str ws.flatten) none (some 40) = some (.val (.str (ws.flatten.take 40))) := by
    unfold sliceD
    dsimp only
    rw [if_pos (by rw [List.length_flatten]; have q : (ws.map List.length).sum ≤ 6 * ws.length := hsum; exact lim_le (by omega))]
    exact congrArg (fun z => some (Ent.val (D.str z))) (cut_to ws.flatten 40)
  simp only [ev_sSet, ev_Slice, ev_Join, ev_K, isStrD, if_true, ev_D, b1, frz_lst, j, ev_PartN, ev_PartS, intOf, sl]
  rfl
theorem rng_three (n : Nat) (h : n ≤ 1000000) : rng2 [.int 1, .int (n : Int)] = some ((List.range (n - 1)).map fun (k : Nat) => D.int ((k + 1 : Nat) : Int)) := by
  show rngD 1 n = _
  unfold rngD
  rw [if_pos (okZ_of (by omega)), show ((n : Int) - 1).toNat = n - 1 by omega]
  congr 1
  refine List.map_congr_left fun k _ => ?_
  congr 1
  omega
theorem at_wds {ps : List Wd} {k : Nat} (h : k < ps.length) : subW (.tup (wds ps)) (.int (k : Int)) = some (.str (ps.getD k [])) := by
  show atZ (wds ps) (k : Int) = _
  unfold atZ wds
  rw [if_pos (by omega), Int.toNat_natCast, List.getElem?_map, List.getElem?_eq_getElem h, List.getD_eq_getElem?_getD, List.getElem?_eq_getElem h]
  rfl
theorem pf3 (H : Hy c) {x : Wd} (ha : x.all ab = true) (hx : x.length ≤ 40) : (mOr (mCmp .NotEq (mJoin (mK (.str [])) (mV 4)) (mV 3)) (mOr (mNot (mTr (mD (mBlt bAll (mCons (mD (mLc (mIter (mV 4)) (.nm 13) (ret true) (mD (mCall 21 (mCons (mV 13) mNil))) [13])) mNil))))) (mTr (mD (mBlt bAny (mCons (mD (mLc (mRng2 (mCons (mK (.int 1)) (mCons (mLenV 4) mNil))) (.nm 12) (ret true) (mBl (mCmp .Lt (mSubW 4 (mD (mBin .Sub (mV 12) (mK (.int 1))))) (mSubW 4 (mV 12)))) [12])) mNil))))))
    c (En R d s2 (.val (.str x)) (.val (.tup (wds (parts x)))) s5 s6 s7 s8 s9) = .ok false (En R d s2 (.val (.str x)) (.val (.tup (wds (parts x)))) s5 s6 s7 s8 s9) := by
  have pj := parts_join x
  have pl : (parts x).length ≤ 40 := Nat.le_trans parts_lens hx
  have hsum : ((parts x).map (·.length)).sum = x.length := by rw [← List.length_flatten, pj]
  have j := join_wds (parts x) .tup (.inr rfl) (wds_strs (parts x)) (by omega)
  rw [pj] at j
  have q : cmpD .NotEq (.str x) (.str x) = some false := ne_self (okD_ab ha)
  have c1 := ev_Lc (c := c) (g := En R d s2 (.val (.str x)) (.val (.tup (wds (parts x)))) s5 s6 s7 s8 s9) (i := 13) (mi := mIter (mV 4)) (tt := ret true) (me := mD (mCall 21 (mCons (mV 13) mNil))) (parts x) .str (fun _ => true) (fun p => .bl (leastB p)) (En R d s2 (.val (.str x)) (.val (.tup (wds (parts x)))) s5 s6 s7 s8 s9)
    (by simp [itemsD]; rfl) rfl (lim_le (by omega)) fun p hp => by
      have hl : p.length ≤ 1000 := by
        have : p.length ≤ ((parts x).map (·.length)).sum := by
          have h2 : (parts x).flatten.length = ((parts x).map (·.length)).sum := List.length_flatten
          have h3 : p.length ≤ (parts x).flatten.length := (List.sublist_flatten_of_mem hp).length_le
          omega
        omega
      have := H.h21 p hl
      simp [this]
  have ln : lenD (.tup (wds (parts x))) = some ((parts x).length : Int) := by unfold lenD; dsimp only; rw [wds_len]
  have c2 := ev_Lc (c := c) (g := En R d s2 (.val (.str x)) (.val (.tup (wds (parts x)))) s5 s6 s7 s8 s9) (i := 12) (mi := mRng2 (mCons (mK (.int 1)) (mCons (mLenV 4) mNil))) (tt := ret true) (me := mBl (mCmp .Lt (mSubW 4 (mD (mBin .Sub (mV 12) (mK (.int 1))))) (mSubW 4 (mV 12))))
    (List.range ((parts x).length - 1)) (fun k => .int ((k + 1 : Nat) : Int)) (fun _ => true) (fun k => .bl (ltS ((parts x).getD k []) ((parts x).getD (k + 1) []))) (En R d s2 (.val (.str x)) (.val (.tup (wds (parts x)))) s5 s6 s7 s8 s9)
    (by simp [ln, rng_three (parts x).length (by omega)]) rfl (by rw [List.length_range]; exact lim_le (by omega)) fun k hk => by
      rw [List.mem_range] at hk
      have e1 : subD (.int ((k + 1 : Nat) : Int)) (.int 1) = some (.val (.int (k : Int))) := by
        show some (Ent.val (D.int (((k + 1 : Nat) : Int) - 1))) = _
        congr 3
        omega
      have e2 := at_wds (ps := parts x) (k := k) (by omega)
      have e3 := at_wds (ps := parts x) (k := k + 1) (by omega)
      simp only [ev_ret, ev_Bl, ev_Cmp, ev_SubW, ev_Slot, ev_D, ev_Bin, ev_V, ev_K, List.set_cons_succ, List.set_cons_zero, List.getElem?_cons_succ, List.getElem?_cons_zero, Option.bind_some, slotD_val, binD, e1, frz_val, e2, e3, cmpD, true_and, implies_true, and_self]
  have a1 : bAll [.lst (((parts x).filter fun _ => true).map fun p => .bl (leastB p))] = some (.val (.bl true)) := by
    rw [List.filter_eq_self.2 (fun _ _ => rfl)]
    unfold bAll
    dsimp only
    rw [blsOf_of]
    show some (Ent.val (D.bl (((parts x).map leastB).all id))) = _
    congr 3
    rw [List.all_eq_true]
    intro b hb
    obtain ⟨p, hp, rfl⟩ := List.mem_map.mp hb
    exact leastB_iff.mpr (parts_least x p hp).1
  have a2 : bAny [.lst (((List.range ((parts x).length - 1)).filter fun _ => true).map fun k => .bl (ltS ((parts x).getD k []) ((parts x).getD (k + 1) [])))] = some (.val (.bl false)) := by
    rw [List.filter_eq_self.2 (fun _ _ => rfl)]
    unfold bAny
    dsimp only
    rw [blsOf_of]
    show some (Ent.val (D.bl (((List.range ((parts x).length - 1)).map _).any id))) = _
    congr 3
    rw [List.any_eq_false]
    intro b hb
    obtain ⟨k, hk, rfl⟩ := List.mem_map.mp hb
    rw [List.mem_range] at hk
    have := List.pairwise_iff_getElem.mp (parts_down x) k (k + 1) (by omega) (by omega) (by omega)
    rw [List.getD_eq_getElem?_getD, List.getD_eq_getElem?_getD, List.getElem?_eq_getElem (show k < (parts x).length by omega), List.getElem?_eq_getElem (show k + 1 < (parts x).length by omega)]
    unfold ltS
    simpa using this
  simp only [ev_Or, ev_Cmp, ev_Join, ev_K, isStrD, if_true, ev_V, List.getElem?_cons_succ, List.getElem?_cons_zero, j, q, Bool.false_eq_true, if_false, ev_Not, ev_Tr, ev_D, ev_Blt, ev_cons, c1, c2, frz_lst, ev_nil, a1, a2, frz_val, truD_bl, Bool.not_true]
theorem pf4 (H : Hy c) (h9 : notOwn (some s9) = true) : (mCmp .NotEq (mD (mLc (mRng2 (mCons (mK (.int 7)) (mCons (mK (.int 13)) mNil))) (.nm 9) (ret true) (mD (mCall 12 (mCons (mV 9) mNil))) [9])) (mD (mLst (mCons (mK (.int 18)) (mCons (mK (.int 30)) (mCons (mK (.int 56)) (mCons (mK (.int 99)) (mCons (mK (.int 186)) (mCons (mK (.int 335)) mNil)))))))))
    c (En R d s2 s3 s4 s5 s6 s7 s8 s9) = .ok false (En R d s2 s3 s4 s5 s6 s7 s8 s9) := by
  have c1 := ev_Lc (c := c) (g := En R d s2 s3 s4 s5 s6 s7 s8 s9) (i := 9) (mi := mRng2 (mCons (mK (.int 7)) (mCons (mK (.int 13)) mNil))) (tt := ret true) (me := mD (mCall 12 (mCons (mV 9) mNil))) [(7 : Int), 8, 9, 10, 11, 12] .int (fun _ => true) (fun z => .int (b12 z)) (En R d s2 s3 s4 s5 s6 s7 s8 s9)
    (by rfl) h9 (by decide) fun z hz => by
      have := H.h12 z hz
      simp [this]
  have e : ((([(7 : Int), 8, 9, 10, 11, 12]).filter fun _ => true).map fun z => D.int (b12 z)) = [.int 18, .int 30, .int 56, .int 99, .int 186, .int 335] := rfl
  rw [e] at c1
  have q : cmpD .NotEq (.lst [.int 18, .int 30, .int 56, .int 99, .int 186, .int 335]) (.lst [.int 18, .int 30, .int 56, .int 99, .int 186, .int 335]) = some false := ne_self rfl
  have hl : (6 : Nat) ≤ lim := by decide
  simp [c1, q, hl]
theorem pf5 (H : Hy c) (hd : DrawOk d) : ∃ o ∈ badT, ∃ d', sSet 5 (bnd (mSub (mD (mLst (mCons (mD (mCallIo 18 1 mNil)) (mCons (mK (.str [])) (mCons (mD (mBin .Mult (mK (.str [97])) (mK (.int 7)))) mNil))))) (mD (mCallIo 14 1 (mCons (mK (.int 3)) mNil)))) fun d => ret (.val d)) c (En R d s2 s3 s4 s5 s6 s7 s8 s9)
    = .nx (En R d' s2 s3 s4 (.val o) s6 s7 s8 s9) ∧ DrawOk d' := by
  obtain ⟨o, ho, d1, a1, a2⟩ := H.h18 d hd
  obtain ⟨v, d2, b1, b2, b3⟩ := H.h14 d1 3 a2 (by omega) (by omega)
  obtain ⟨o', h1, h2⟩ := atZ_in (xs := [o, .str [], .str [97, 97, 97, 97, 97, 97, 97]]) (v := v) (by show v < 3; omega)
  have m : mulD (.str [97]) (.int 7) = some (.val (.str [97, 97, 97, 97, 97, 97, 97])) := by kernel_rfl
  have hl : (3 : Nat) ≤ lim := by decide
  refine ⟨o', ?_, d2, by simp [a1, b1, binD, m, hl, subD', h2], b3⟩
  unfold badT
  rcases List.mem_cons.mp h1 with e | e
  · rw [e]; exact List.mem_append_left _ ho
  · exact List.mem_append_right _ e
theorem mfs : mulD (.lst [mf]) (.int 7) = some (.own (.lst [mf, mf, mf, mf, mf, mf, mf])) := by kernel_rfl
theorem pf67 (H : Hy c) (hd : DrawOk d) {o : D} (ho : o ∈ badT) : ∃ g', (sSeq (sSet 6 (mBin .Add (mD (mLc (mIter (mD (mTup (mCons (mK (.int 0)) (mCons (mK (.int 1)) mNil))))) (.nm 10) (ret true) (mD (mCall 23 (mCons (mV 10) (mCons (mV 5) mNil)))) [10])) (mD (mLst (mCons (mD (mCall 23 (mCons (mK (.int 2)) (mCons (mD (mCallIo 19 1 (mCons (mK (.int 6)) mNil))) mNil)))) (mCons (mD (mCall 23 (mCons (mK (.int 2)) (mCons (mK (.int 0)) mNil)))) (mCons (mD (mCall 23 (mCons (mK (.int 3)) (mCons (mD (mCallIo 19 1 (mCons (mK (.int 12)) mNil))) mNil)))) (mCons (mD (mCall 23 (mCons (mK (.int 3)) (mCons (mK (.int 0)) mNil)))) mNil))))))))
    (sSeq (sRet (bnd (mBl (mCmp .Eq (mD (mBin .Add (mV 6) (mD (mLst (mCons (mD (mCall 23 (mCons (mK (.int 4)) (mCons (mSub (mD (mLst (mCons (mD (mCallIo 18 1 mNil)) (mCons (mD (mBin .Mult (mK (.str [97])) (mK (.int 41)))) mNil)))) (mD (mCallIo 14 1 (mCons (mK (.int 2)) mNil)))) mNil)))) mNil))))) (mD (mBin .Mult (mD (mLst (mCons (mK (.str [60, 109, 97, 108, 102, 111, 114, 109, 101, 100, 62])) mNil))) (mK (.int 7)))))) fun d => ret (.val d)))
    sNil)) c (En R d s2 s3 s4 (.val o) s6 s7 s8 s9) = .rt (.val (.bl true)) g' := by
  obtain ⟨i0, t0⟩ := H.t0 o ho
  obtain ⟨i1, t1⟩ := H.t1 o ho
  have c1 := ev_Lc (c := c) (g := En R d s2 s3 s4 (.val o) s6 s7 s8 s9) (i := 10) (mi := mIter (mD (mTup (mCons (mK (.int 0)) (mCons (mK (.int 1)) mNil))))) (tt := ret true) (me := mD (mCall 23 (mCons (mV 10) (mCons (mV 5) mNil)))) [(0 : Int), 1] .int (fun _ => true) (fun z => mf) (En R d s2 s3 s4 (.val o) s6 s7 s8 s9)
    (by rfl) rfl (by decide) fun z hz => by
      rcases List.mem_cons.mp hz with e | e
      · subst e; simp [t0]
      · rw [List.mem_singleton] at e; subst e; simp [t1]
  have e : ((([(0 : Int), 1]).filter fun _ => true).map fun _ => mf) = [mf, mf] := rfl
  rw [e] at c1
  obtain ⟨o2, ho2, d2, a1, a2⟩ := H.h19 d 6 hd
  obtain ⟨i2, t2⟩ := H.t2 o2 (List.mem_append_left _ ho2)
  obtain ⟨i3, t3⟩ := H.t2 (.int 0) (List.mem_append_right _ List.mem_cons_self)
  obtain ⟨o3, ho3, d3, b1, b2⟩ := H.h19 d2 12 a2
  obtain ⟨i4, t4⟩ := H.t3 o3 (List.mem_append_left _ ho3)
  obtain ⟨i5, t5⟩ := H.t3 (.int 0) (List.mem_append_right _ List.mem_cons_self)
  obtain ⟨o4, ho4, d4, f1, f2⟩ := H.h18 d3 b2
  obtain ⟨v, d5, g1, g2, g3⟩ := H.h14 d4 2 f2 (by omega) (by omega)
  obtain ⟨o5, h1, h2⟩ := atZ_in (xs := [o4, a41]) (v := v) (by show v < 2; omega)
  have ho5 : o5 ∈ oddT ++ [a41] := by
    rcases List.mem_cons.mp h1 with e | e
    · rw [e]; exact List.mem_append_left _ ho4
    · exact List.mem_append_right _ e
  obtain ⟨i6, t6⟩ := H.t4 o5 ho5
  have m : mulD (.str [97]) (.int 41) = some (.val a41) := by kernel_rfl
  have hl1 : (1 : Nat) ≤ lim := by decide
  have hl2 : (2 : Nat) ≤ lim := by decide
  have hl4 : (4 : Nat) ≤ lim := by decide
  have add1 : addD (.lst [mf, mf]) (.lst [mf, mf, mf, mf]) = some (.own (.lst [mf, mf, mf, mf, mf, mf])) := by kernel_rfl
  have add2 : addD (.lst [mf, mf, mf, mf, mf, mf]) (.lst [mf]) = some (.own (.lst [mf, mf, mf, mf, mf, mf, mf])) := by kernel_rfl
  have q : cmpD .Eq (.lst [mf, mf, mf, mf, mf, mf, mf]) (.lst [mf, mf, mf, mf, mf, mf, mf]) = some true := eq_self (by kernel_rfl)
  have mm := mfs
  unfold mf at mm
  refine ⟨En R d5 s2 s3 s4 (.val o) (.val (.lst [mf, mf, mf, mf, mf, mf])) s7 s8 s9, ?_⟩
  rw [seq_nx (g1 := En R d3 s2 s3 s4 (.val o) (.own (.lst [mf, mf, mf, mf, mf, mf])) s7 s8 s9)]
  · rw [show (D.str [60, 109, 97, 108, 102, 111, 114, 109, 101, 100, 62]) = mf from rfl]
    simp [f1, m, hl1, hl2, g1, subD', h2, t6, binD, add2, mfs, q]
  · rw [ev_sSet, ev_Bin, ev_D, c1]
    simp [a1, t2, t3, b1, t4, t5, hl4, binD, add1]
end T_k49

set_option maxRecDepth 100000
set_option maxHeartbeats 4000000
set_option Elab.async false
set_option linter.all false
namespace T_k49
open PySem PySem.Spec PyProof.Rows Wb L2
/-! ### what each function does, at its level -/
theorem q1 (l : Nat) (x : Wd) (hx : x.length ≤ 1000) : run (tabOf ents) (l + 1) 1 [.str x] = .ret (.val (.bl (decide (x.length ≤ 200) && x.all ab))) .non := by rw [r1]; exact p1 x hx
theorem q2 (l : Nat) (x : Wd) (h : isW x = true) : run (tabOf ents) (l + 2) 2 [.str x] = .ret (.val (.bl true)) .non := by
  rw [r2]; exact p2 x h (q1 l x (by have := isW_ab h; omega))
theorem q3 (l : Nat) (x : Wd) (h : isW x = true) : run (tabOf ents) (l + 3) 3 [.str x] = .ret (.val .non) .non := by
  rw [r3]; exact p3 x (q2 l x h)
theorem q4 (l : Nat) (x : Wd) (hx : x.length ≤ 1000) : run (tabOf ents) (l + 1) 4 [.str x] = .ret (.own (.lst (wds (rots x)))) .non := by rw [r4]; exact p4 x hx
theorem q20 (l : Nat) (x : Wd) (hx : x.length ≤ 1000) : run (tabOf ents) (l + 1) 20 [.str x] = .ret (.own (.lst (wds (rots x)))) .non := by rw [r20]; exact p20 x hx
theorem q5 (l : Nat) (x : Wd) (h : isW x = true) : run (tabOf ents) (l + 4) 5 [.str x] = .ret (.val (.tup (wds (setS (rots x))))) .non := by
  rw [r5]; exact p5 x (by have := isW_ab h; omega) (q3 l x h) (q4 (l + 2) x (by have := isW_ab h; omega))
theorem q6 (l : Nat) (x : Wd) (hx : x.length ≤ 1000) : run (tabOf ents) (l + 2) 6 [.str x] = .ret (.val (.bl (leastB x))) .non := by rw [r6]; exact p6 x hx (q4 l x hx)
theorem q7 (l : Nat) (x : Wd) (h : isW x = true) : run (tabOf ents) (l + 4) 7 [.str x] = .ret (.val (.bl (leastB x))) .non := by
  rw [r7]; exact p7 x (q3 l x h) (q6 (l + 1) x (by have := isW_ab h; omega))
theorem q21 (l : Nat) (x : Wd) (hx : x.length ≤ 1000) : run (tabOf ents) (l + 2) 21 [.str x] = .ret (.val (.bl (leastB x))) .non := by rw [r21]; exact p21 x hx (q20 l x hx)
theorem q11 (l : Nat) (x : Wd) (ha : x.all ab = true) (hx : x.length ≤ 40) : run (tabOf ents) (l + 3) 11 [.str x] = .ret (.val (.tup (wds (parts x)))) .non := by
  rw [r11]; exact p11 x ha hx (q1 (l + 1) x (by omega)) fun y hy => q6 l y hy
theorem q14 (l : Nat) : Tk (run (tabOf ents) (l + 1)) := fun d many hd h1 h2 => by rw [r14]; exact p14 d many hd h1 h2
theorem q13 (l : Nat) (ns : List Int) (h : ns.length ≤ 1000) : ∃ d, run (tabOf ents) (l + 1) 13 [.rol (ns.map .int)] = .ret (.own d) .non ∧ DrawOk d := by rw [r13]; exact draw_fin h
theorem q16 (l : Nat) (d : D) (hd : DrawOk d) : ∃ (w : Wd) (d1 : D), run (tabOf ents) (l + 2) 16 [d, .int 6] = .ret (.val (.str w)) d1 ∧ isW w = true ∧ DrawOk d1 := by rw [r16]; exact p16 (q14 l) d hd
theorem q18 (l : Nat) (d : D) (hd : DrawOk d) : ∃ o ∈ oddT, ∃ d1, run (tabOf ents) (l + 2) 18 [d] = .ret (.val o) d1 ∧ DrawOk d1 := by rw [r18]; exact p18 (q14 l) d hd
theorem q19 (l : Nat) (d : D) (m : Int) (hd : DrawOk d) : ∃ o ∈ oddN m, ∃ d1, run (tabOf ents) (l + 2) 19 [d, .int m] = .ret (.val o) d1 ∧ DrawOk d1 := by rw [r19]; exact p19 (q14 l) d m hd
theorem q15 (l : Nat) (b b2 : Bool) : run (tabOf ents) (l + 1) 15 [.bl b, .bl b2] = .ret (.val (.bl (b == b2))) .non := by rw [r15]; exact p15 b b2
/-! ### words of one length, sorted -/
theorem leD_str (x y : Wd) : leD (.str x) (.str y) = leS x y := by
  have := leK_S x y
  unfold leK at this
  exact this
theorem sort_wds (xs : List Wd) : sortD (wds xs) = wds (xs.mergeSort leS) := by
  unfold sortD wds
  exact (List.map_mergeSort fun a _ b _ => (leD_str a b).symm).symm
theorem sort_all {n : Nat} (h : n ∈ [1, 2, 3, 4, 5, 6]) : sortD (wds (allU n)) = wds (allw n) := by
  rw [sort_wds, sortS_perm (List.isPerm_iff.mp (fpm n h)), List.mergeSort_of_pairwise (fso n h)]
theorem hn39 (v : Nat) (h : (v : Int) < 6) : ∃ A : List Wd, run (tabOf ents) 39 10 [.int (1 + v)] = .ret (.val (.tup (wds (A.filter leastB)))) .non ∧ run (tabOf ents) 39 17 [.int (1 + v)] = .ret (.own (.lst (wds A))) .non ∧ (∀ x ∈ A, x.length ≤ 6)
    ∧ run (tabOf ents) 39 12 [.int (1 + v)] = .ret (.val (.int (A.filter leastB).length)) .non ∧ showOk (.tup (wds (A.filter leastB))) = true ∧ okD dp (.str (shownD (.tup (wds (A.filter leastB))))) = true ∧ A.length ≤ 1000 := by
  have hk : ∀ n ∈ [1, 2, 3, 4, 5, 6], okD dp (.str (shownD (.tup (wds ((allw n).filter leastB))))) = true := by decide +kernel
  have hc : ∀ n ∈ [1, 2, 3, 4, 5, 6], (allw n).length ≤ 1000 := by decide +kernel
  match v, h with
  | 0, _ => exact ⟨allw 1, f10_1, by rw [← sort_all (n := 1) (by decide)]; exact f17_1, fln 1 (by decide), f12_1, fsh 1 (by decide), hk 1 (by decide), hc 1 (by decide)⟩
  | 1, _ => exact ⟨allw 2, f10_2, by rw [← sort_all (n := 2) (by decide)]; exact f17_2, fln 2 (by decide), f12_2, fsh 2 (by decide), hk 2 (by decide), hc 2 (by decide)⟩
  | 2, _ => exact ⟨allw 3, f10_3, by rw [← sort_all (n := 3) (by decide)]; exact f17_3, fln 3 (by decide), f12_3, fsh 3 (by decide), hk 3 (by decide), hc 3 (by decide)⟩
  | 3, _ => exact ⟨allw 4, f10_4, by rw [← sort_all (n := 4) (by decide)]; exact f17_4, fln 4 (by decide), f12_4, fsh 4 (by decide), hk 4 (by decide), hc 4 (by decide)⟩
  | 4, _ => exact ⟨allw 5, f10_5, by rw [← sort_all (n := 5) (by decide)]; exact f17_5, fln 5 (by decide), f12_5, fsh 5 (by decide), hk 5 (by decide), hc 5 (by decide)⟩
  | 5, _ => exact ⟨allw 6, f10_6, by rw [← sort_all (n := 6) (by decide)]; exact f17_6, fln 6 (by decide), f12_6, fsh 6 (by decide), hk 6 (by decide), hc 6 (by decide)⟩
theorem all_of {l : List D} {k : Int} (h : l.all (tells 39 k) = true) : ∀ o ∈ l, ∃ io, run (tabOf ents) 39 23 [.int k, o] = .ret (.val mf) io := fun o ho => tells_of (List.all_eq_true.mp h o ho)
theorem hy39 : Hy (run (tabOf ents) 39) where
  h13 := q13 38
  h14 := q14 38
  h16 := q16 37
  h18 := q18 37
  h19 := q19 37
  h5 := q5 35
  h7 := q7 35
  h20 := q20 38
  h21 := q21 37
  h15 := q15 38
  h11 := q11 36
  h22 := fun x ha hx => s22 10 26 x (by omega) ha hx fun l' y hy => q21 l' y hy
  hn := hn39
  h12 := fun z hz => by
    rcases List.mem_cons.mp hz with e | hz
    · subst e; exact f12_7
    rcases List.mem_cons.mp hz with e | hz
    · subst e; exact f12_8
    rcases List.mem_cons.mp hz with e | hz
    · subst e; exact f12_9
    rcases List.mem_cons.mp hz with e | hz
    · subst e; exact f12_10
    rcases List.mem_cons.mp hz with e | hz
    · subst e; exact f12_11
    rw [List.mem_singleton] at hz
    subst hz
    exact f12_12
  t0 := all_of t0
  t1 := all_of t1
  t2 := all_of t2
  t3 := all_of t3
  t4 := all_of t4
/-! ### the law -/
def bodyT : MS := (sSeq (sPar [8, 9] (mConsE (mCallIo 16 1 (mCons (mK (.int 6)) mNil)) (mConsE (mBin .Add (mK (.int 1)) (mD (mCallIo 14 1 (mCons (mK (.int 6)) mNil)))) mNilE)))
    (sSeq (sIf (mOr (mCmp .NotEq (mD (mCall 5 (mCons (mV 8) mNil))) (mD (mBlt bTuple (mCons (mD (mSortSet (mD (mCall 20 (mCons (mV 8) mNil))))) mNil)))) (mNot (mTr (mD (mCall 15 (mCons (mD (mCall 7 (mCons (mV 8) mNil))) (mCons (mD (mCall 21 (mCons (mV 8) mNil))) mNil))))))) (sSeq (sRet (bnd (mK (.bl false)) fun d => ret (.val d)))
    sNil) sNil)
    (sSeq (sSet 7 (mBlt bTuple (mCons (mD (mLc (mIter (mD (mCall 17 (mCons (mV 9) mNil)))) (.nm 11) (mTr (mD (mCall 21 (mCons (mV 11) mNil)))) (mV 11) [11])) mNil)))
    (sSeq (sIf (mOr (mCmp .NotEq (mD (mBlt bRepr (mCons (mD (mCall 10 (mCons (mV 9) mNil))) mNil))) (mD (mBlt bRepr (mCons (mV 7) mNil)))) (mCmp .NotEq (mD (mCall 12 (mCons (mV 9) mNil))) (mLenV 7))) (sSeq (sRet (bnd (mK (.bl false)) fun d => ret (.val d)))
    sNil) sNil)
    (sSeq (sSet 3 (bnd (mJoin (mK (.str [])) (mD (mLc (mRng1 (mCons (mD (mCallIo 14 1 (mCons (mK (.int 11)) mNil))) mNil)) (.nm 12) (ret true) (mSub (mK (.str [97, 98])) (mD (mCallIo 14 1 (mCons (mK (.int 2)) mNil)))) [12]))) fun d => ret (.val d)))
    (sSeq (sIf (mCmp .NotEq (mD (mLst (mCons (mD (mCall 11 (mCons (mV 3) mNil))) mNil))) (mD (mCall 22 (mCons (mV 3) mNil)))) (sSeq (sRet (bnd (mK (.bl false)) fun d => ret (.val d)))
    sNil) sNil)
    sNil))))))
variable {c : Cal}
theorem turn_ok (H : Hy c) {R d : D} {s2 s3 s7 s8 s9 : Slot} (hd : DrawOk d) : ∃ d' s3' s7' s8' s9', bodyT c (En R d s2 s3 .no .no .no s7 s8 s9) = .nx (En R d' s2 s3' .no .no .no s7' s8' s9') ∧ DrawOk d' ∧ notOwn (some s9') = true := by
  obtain ⟨w, v, d1, a1, a2, a3, a4⟩ := pc1 (R := R) (s2 := s2) (s3 := s3) (s4 := .no) (s5 := .no) (s6 := .no) (s7 := s7) (s8 := s8) (s9 := s9) H hd
  obtain ⟨A, n1, n2, n3, n4, n5, n6, n7⟩ := H.hn v a3
  obtain ⟨x, d2, b1, b2, b3, b4⟩ := pc5 (R := R) (s2 := s2) (s3 := s3) (s4 := .no) (s5 := .no) (s6 := .no) (s7 := .val (.tup (wds (A.filter leastB)))) (s8 := .val (.str w)) (s9 := .val (.int (1 + v))) H a4
  refine ⟨d2, .val (.str x), .val (.tup (wds (A.filter leastB))), .val (.str w), .val (.int (1 + v)), ?_, b4, rfl⟩
  unfold bodyT
  rw [seq_nx a1, seq_nx (if_no (pc2 H a2)), seq_nx (pc3 H n2 n3 n7), seq_nx (if_no (pc4 n1 n4 n5 n6)), seq_nx b1, seq_nx (if_no (pc6 H b2 b3))]
  rfl
theorem law_ok (H : Hy c) (ns : List Int) (h : ns.length ≤ 1000) : ∃ g', c24 c [.val (.rol (ns.map .int)), .no, .no, .no, .no, .no, .no, .no, .no, .no, .no, .no, .no, .no] = .rt (.val (.bl true)) g' := by
  obtain ⟨d, a1, a2⟩ := H.h13 ns h
  obtain ⟨g1, w1, d1, s2, s3, s7, s8, s9, rfl, w2, w3⟩ := forL_ind (c := c) (t := .nm 2) (enc := fun k : Nat => D.int (k : Int)) (body := bodyT) (fun _ g => ∃ d s2 s3 s7 s8 s9, g = En (.rol (ns.map .int)) d s2 s3 .no .no .no s7 s8 s9 ∧ DrawOk d ∧ notOwn (some s9) = true)
    (fun x xs g hg => by
      obtain ⟨d, s2, s3, s7, s8, s9, rfl, hd, h9⟩ := hg
      obtain ⟨d', s3', s7', s8', s9', e1, e2, e3⟩ := turn_ok (R := .rol (ns.map .int)) (s2 := .val (.int (x : Int))) (s3 := s3) (s7 := s7) (s8 := s8) (s9 := s9) H hd
      exact ⟨_, _, rfl, .inl e1, d', _, _, _, _, _, rfl, e2, e3⟩) (List.range 4) (En (.rol (ns.map .int)) d .no .no .no .no .no .no .no .no) ⟨d, _, _, _, _, _, rfl, a2, rfl⟩
  obtain ⟨x, d2, b1, b2, b3, b4⟩ := pf1 (R := .rol (ns.map .int)) (s2 := s2) (s3 := s3) (s4 := .no) (s5 := .no) (s6 := .no) (s7 := s7) (s8 := s8) (s9 := s9) H w2
  obtain ⟨o, ho, d3, f1, f2⟩ := pf5 (R := .rol (ns.map .int)) (s2 := s2) (s3 := .val (.str x)) (s4 := .val (.tup (wds (parts x)))) (s5 := .no) (s6 := .no) (s7 := s7) (s8 := s8) (s9 := s9) H b4
  obtain ⟨g', e⟩ := pf67 (R := .rol (ns.map .int)) (s2 := s2) (s3 := .val (.str x)) (s4 := .val (.tup (wds (parts x)))) (s6 := .no) (s7 := s7) (s8 := s8) (s9 := s9) H f2 ho
  refine ⟨g', ?_⟩
  have e11 := H.h11 x b2 b3
  have z1 : sSet 1 (mCall 13 (mCons (mV 0) mNil)) c [.val (.rol (ns.map .int)), .no, .no, .no, .no, .no, .no, .no, .no, .no, .no, .no, .no, .no] = .nx (En (.rol (ns.map .int)) d .no .no .no .no .no .no .no .no) := by simp [a1]
  have z2 : ∀ d, sFor (mRng1 (mCons (mK (.int 4)) mNil)) (.nm 2) bodyT c (En (.rol (ns.map .int)) d .no .no .no .no .no .no .no .no) = forL (.nm 2) bodyT c ((List.range 4).map fun k : Nat => D.int (k : Int)) (En (.rol (ns.map .int)) d .no .no .no .no .no .no .no .no) := fun d => rfl
  have z4 : sSet 4 (mCall 11 (mCons (mV 3) mNil)) c (En (.rol (ns.map .int)) d2 s2 (.val (.str x)) .no .no .no s7 s8 s9) = .nx (En (.rol (ns.map .int)) d2 s2 (.val (.str x)) (.val (.tup (wds (parts x)))) .no .no s7 s8 s9) := by simp [e11]
  have z3 := z2 d
  rw [w1] at z3
  unfold c24
  unfold bodyT at z3
  rw [seq_nx z1, seq_nx z3, seq_nx b1, seq_nx z4, seq_nx (if_no (pf3 H b2 b3)), seq_nx (if_no (pf4 H w3)), seq_nx f1, e]
theorem law_k49 (ns : List Int) (h : ns.length ≤ 63) : ∃ io, run (tabOf ents) 40 24 [.rol (ns.map .int)] = .ret (.val (.bl true)) io := by
  obtain ⟨g', e⟩ := law_ok hy39 ns (by omega)
  refine ⟨.non, ?_⟩
  rw [r24, e]
  rfl
end T_k49

open PySem PySem.W PyProof.Rows L2
set_option maxHeartbeats 0 in
theorem PySem.Challenge.cw_wordbooks_k49_whole_least_words_holds : PySem.Challenge.rw_wordbooks_k49_whole_least_words.Holds := by
  w_on; o_law; k_head; (case hw => w_witness2)
  k_fill
  refine Wb.walkW (l := PySem.Challenge.rw_wordbooks_k49_whole_least_words) (L := 40) (kl := 24) (x := "script") T_k49.ents T_k49.glob "Malformed" T_k49.e24 rfl rfl ⟨rfl, by decide, by decide⟩ (fun w h Y => PySem.W.kIn_of Y) T_k49.ents_ok T_k49.ents_glob T_k49.ents_bind T_k49.ents_are T_k49.glob_cls rfl rfl rfl rfl ?F (fun ns h _ => T_k49.law_k49 ns h)
  case F =>
    intro w h KX
    have d0 : Wb.DefIn (KOf KX) "is_whole" (T_k49.topS 4) := by
      refine' Wb.def_mk KX ?a ?l ?c ?k
      (case a => k_is); (case l => k_is); (case c => k_is); (case k => k_is)
    have d1 : Wb.DefIn (KOf KX) "is_text" (T_k49.topS 9) := by
      refine' Wb.def_mk KX ?a ?l ?c ?k
      (case a => k_is); (case l => k_is); (case c => k_is); (case k => k_is)
    have d2 : Wb.DefIn (KOf KX) "is_word" (T_k49.topS 10) := by
      refine' Wb.def_mk KX ?a ?l ?c ?k
      (case a => k_is); (case l => k_is); (case c => k_is); (case k => k_is)
    have d3 : Wb.DefIn (KOf KX) "check_word" (T_k49.topS 15) := by
      refine' Wb.def_mk KX ?a ?l ?c ?k
      (case a => k_is); (case l => k_is); (case c => k_is); (case k => k_is)
    have d4 : Wb.DefIn (KOf KX) "found_turns" (T_k49.topS 16) := by
      refine' Wb.def_mk KX ?a ?l ?c ?k
      (case a => k_is); (case l => k_is); (case c => k_is); (case k => k_is)
    have d5 : Wb.DefIn (KOf KX) "turns" (T_k49.topS 17) := by
      refine' Wb.def_mk KX ?a ?l ?c ?k
      (case a => k_is); (case l => k_is); (case c => k_is); (case k => k_is)
    have d6 : Wb.DefIn (KOf KX) "found_least" (T_k49.topS 18) := by
      refine' Wb.def_mk KX ?a ?l ?c ?k
      (case a => k_is); (case l => k_is); (case c => k_is); (case k => k_is)
    have d7 : Wb.DefIn (KOf KX) "is_least" (T_k49.topS 19) := by
      refine' Wb.def_mk KX ?a ?l ?c ?k
      (case a => k_is); (case l => k_is); (case c => k_is); (case k => k_is)
    have d8 : Wb.DefIn (KOf KX) "all_words" (T_k49.topS 20) := by
      refine' Wb.def_mk KX ?a ?l ?c ?k
      (case a => k_is); (case l => k_is); (case c => k_is); (case k => k_is)
    have d9 : Wb.DefIn (KOf KX) "check_number" (T_k49.topS 21) := by
      refine' Wb.def_mk KX ?a ?l ?c ?k
      (case a => k_is); (case l => k_is); (case c => k_is); (case k => k_is)
    have d10 : Wb.DefIn (KOf KX) "least_words" (T_k49.topS 22) := by
      refine' Wb.def_mk KX ?a ?l ?c ?k
      (case a => k_is); (case l => k_is); (case c => k_is); (case k => k_is)
    have d11 : Wb.DefIn (KOf KX) "least_parts" (T_k49.topS 23) := by
      refine' Wb.def_mk KX ?a ?l ?c ?k
      (case a => k_is); (case l => k_is); (case c => k_is); (case k => k_is)
    have d12 : Wb.DefIn (KOf KX) "ring_bound" (T_k49.topS 24) := by
      refine' Wb.def_mk KX ?a ?l ?c ?k
      (case a => k_is); (case l => k_is); (case c => k_is); (case k => k_is)
    have d13 : Wb.DefIn (KOf KX) "_law_draw" (T_k49.topS 26) := by
      refine' Wb.def_mk KX ?a ?l ?c ?k
      (case a => k_is); (case l => k_is); (case c => k_is); (case k => k_is)
    have d14 : Wb.DefIn (KOf KX) "_law_take" (T_k49.topS 27) := by
      refine' Wb.def_mk KX ?a ?l ?c ?k
      (case a => k_is); (case l => k_is); (case c => k_is); (case k => k_is)
    have d15 : Wb.DefIn (KOf KX) "_law_says" (T_k49.topS 28) := by
      refine' Wb.def_mk KX ?a ?l ?c ?k
      (case a => k_is); (case l => k_is); (case c => k_is); (case k => k_is)
    have d16 : Wb.DefIn (KOf KX) "_law_word" (T_k49.topS 29) := by
      refine' Wb.def_mk KX ?a ?l ?c ?k
      (case a => k_is); (case l => k_is); (case c => k_is); (case k => k_is)
    have d17 : Wb.DefIn (KOf KX) "_law_texts" (T_k49.topS 30) := by
      refine' Wb.def_mk KX ?a ?l ?c ?k
      (case a => k_is); (case l => k_is); (case c => k_is); (case k => k_is)
    have d18 : Wb.DefIn (KOf KX) "_law_odd_text" (T_k49.topS 31) := by
      refine' Wb.def_mk KX ?a ?l ?c ?k
      (case a => k_is); (case l => k_is); (case c => k_is); (case k => k_is)
    have d19 : Wb.DefIn (KOf KX) "_law_odd_number" (T_k49.topS 32) := by
      refine' Wb.def_mk KX ?a ?l ?c ?k
      (case a => k_is); (case l => k_is); (case c => k_is); (case k => k_is)
    have d20 : Wb.DefIn (KOf KX) "_law_turns" (T_k49.topS 33) := by
      refine' Wb.def_mk KX ?a ?l ?c ?k
      (case a => k_is); (case l => k_is); (case c => k_is); (case k => k_is)
    have d21 : Wb.DefIn (KOf KX) "_law_is_least" (T_k49.topS 34) := by
      refine' Wb.def_mk KX ?a ?l ?c ?k
      (case a => k_is); (case l => k_is); (case c => k_is); (case k => k_is)
    have d22 : Wb.DefIn (KOf KX) "_law_cuts" (T_k49.topS 35) := by
      refine' Wb.def_mk KX ?a ?l ?c ?k
      (case a => k_is); (case l => k_is); (case c => k_is); (case k => k_is)
    have d23 : Wb.DefIn (KOf KX) "_law_told" (T_k49.topS 36) := by
      refine' Wb.def_mk KX ?a ?l ?c ?k
      (case a => k_is); (case l => k_is); (case c => k_is); (case k => k_is)
    have d24 : Wb.DefIn (KOf KX) "law" (T_k49.topS 37) := by
      refine' Wb.def_mk KX ?a ?l ?c ?k
      (case a => k_is); (case l => k_is); (case c => k_is); (case k => k_is)
    have cM : Wb.ClsIn (KOf KX) "Malformed" := by
      refine' Wb.cls_mk KX ?a ?b ?c ?d ?e ?f ?g
      (case a => k_is); (case b => k_exc); (case c => k_is); (case d => k_is); (case e => k_is); (case f => k_is); (case g => k_is)
    have v_SIGNS : Wb.DatIn (KOf KX) "SIGNS" (Wb.D.str [97, 98]) := by
      refine' Wb.dat_str KX ?a ?e
      (case a => k_is); (case e => rfl)
    have v_MOST_LENGTH : Wb.DatIn (KOf KX) "MOST_LENGTH" (Wb.D.int 6) := by
      refine' Wb.dat_int KX ?a
      (case a => k_is)
    have v_MOST_TEXT_books : Wb.DatIn (KOf KX) "MOST_TEXT_books" (Wb.D.int 200) := by
      refine' Wb.dat_int KX ?a
      (case a => k_is)
    have v_MOST_TEXT_rounds : Wb.DatIn (KOf KX) "MOST_TEXT_rounds" (Wb.D.int 40) := by
      refine' Wb.dat_int KX ?a
      (case a => k_is)
    have v_MOST_LEAST : Wb.DatIn (KOf KX) "MOST_LEAST" (Wb.D.int 6) := by
      refine' Wb.dat_int KX ?a
      (case a => k_is)
    have v_MOST_BOUND : Wb.DatIn (KOf KX) "MOST_BOUND" (Wb.D.int 12) := by
      refine' Wb.dat_int KX ?a
      (case a => k_is)
    have b_len : PySem.W.nsIn (KOf KX) mainGlobals "len" = some none := by
      refine' Wb.blt_mk KX ?a
      (case a => k_is)
    have b_isinstance : PySem.W.nsIn (KOf KX) mainGlobals "isinstance" = some none := by
      refine' Wb.blt_mk KX ?a
      (case a => k_is)
    have b_all : PySem.W.nsIn (KOf KX) mainGlobals "all" = some none := by
      refine' Wb.blt_mk KX ?a
      (case a => k_is)
    have b_any : PySem.W.nsIn (KOf KX) mainGlobals "any" = some none := by
      refine' Wb.blt_mk KX ?a
      (case a => k_is)
    have b_sum : PySem.W.nsIn (KOf KX) mainGlobals "sum" = some none := by
      refine' Wb.blt_mk KX ?a
      (case a => k_is)
    have b_max : PySem.W.nsIn (KOf KX) mainGlobals "max" = some none := by
      refine' Wb.blt_mk KX ?a
      (case a => k_is)
    have b_min : PySem.W.nsIn (KOf KX) mainGlobals "min" = some none := by
      refine' Wb.blt_mk KX ?a
      (case a => k_is)
    have b_int : PySem.W.nsIn (KOf KX) mainGlobals "int" = some none := by
      refine' Wb.blt_mk KX ?a
      (case a => k_is)
    have b_abs : PySem.W.nsIn (KOf KX) mainGlobals "abs" = some none := by
      refine' Wb.blt_mk KX ?a
      (case a => k_is)
    have b_tuple : PySem.W.nsIn (KOf KX) mainGlobals "tuple" = some none := by
      refine' Wb.blt_mk KX ?a
      (case a => k_is)
    have b_list : PySem.W.nsIn (KOf KX) mainGlobals "list" = some none := by
      refine' Wb.blt_mk KX ?a
      (case a => k_is)
    have b_sorted : PySem.W.nsIn (KOf KX) mainGlobals "sorted" = some none := by
      refine' Wb.blt_mk KX ?a
      (case a => k_is)
    have b_set : PySem.W.nsIn (KOf KX) mainGlobals "set" = some none := by
      refine' Wb.blt_mk KX ?a
      (case a => k_is)
    have b_repr : PySem.W.nsIn (KOf KX) mainGlobals "repr" = some none := by
      refine' Wb.blt_mk KX ?a
      (case a => k_is)
    have b_range : PySem.W.nsIn (KOf KX) mainGlobals "range" = some none := by
      refine' Wb.blt_mk KX ?a
      (case a => k_is)
    have b_zip : PySem.W.nsIn (KOf KX) mainGlobals "zip" = some none := by
      refine' Wb.blt_mk KX ?a
      (case a => k_is)
    have b_enumerate : PySem.W.nsIn (KOf KX) mainGlobals "enumerate" = some none := by
      refine' Wb.blt_mk KX ?a
      (case a => k_is)
    have b_bool : PySem.W.nsIn (KOf KX) mainGlobals "bool" = some none := by
      refine' Wb.blt_mk KX ?a
      (case a => k_is)
    have b_str : PySem.W.nsIn (KOf KX) mainGlobals "str" = some none := by
      refine' Wb.blt_mk KX ?a
      (case a => k_is)
    have b_dict : PySem.W.nsIn (KOf KX) mainGlobals "dict" = some none := by
      refine' Wb.blt_mk KX ?a
      (case a => k_is)
    exact ⟨⟨d0, ⟨d1, ⟨d2, ⟨d3, ⟨d4, ⟨d5, ⟨d6, ⟨d7, ⟨d8, ⟨d9, ⟨d10, ⟨d11, ⟨d12, ⟨d13, ⟨d14, ⟨d15, ⟨d16, ⟨d17, ⟨d18, ⟨d19, ⟨d20, ⟨d21, ⟨d22, ⟨d23, ⟨d24, trivial⟩⟩⟩⟩⟩⟩⟩⟩⟩⟩⟩⟩⟩⟩⟩⟩⟩⟩⟩⟩⟩⟩⟩⟩⟩, ⟨trivial, ⟨trivial, ⟨trivial, ⟨trivial, ⟨trivial, ⟨trivial, ⟨trivial, ⟨trivial, ⟨trivial, ⟨trivial, ⟨trivial, ⟨trivial, ⟨trivial, ⟨trivial, ⟨trivial, ⟨trivial, ⟨trivial, ⟨trivial, ⟨trivial, ⟨trivial, ⟨trivial, ⟨trivial, ⟨trivial, ⟨trivial, ⟨trivial, ⟨⟨cM, rfl⟩, ⟨v_SIGNS, ⟨v_MOST_LENGTH, ⟨v_MOST_TEXT_books, ⟨v_MOST_TEXT_rounds, ⟨v_MOST_LEAST, ⟨v_MOST_BOUND, trivial⟩⟩⟩⟩⟩⟩⟩⟩⟩⟩⟩⟩⟩⟩⟩⟩⟩⟩⟩⟩⟩⟩⟩⟩⟩⟩⟩⟩⟩⟩⟩⟩, ⟨b_len, ⟨b_isinstance, ⟨b_all, ⟨b_any, ⟨b_sum, ⟨b_max, ⟨b_min, ⟨b_int, ⟨b_abs, ⟨b_tuple, ⟨b_list, ⟨b_sorted, ⟨b_set, ⟨b_repr, ⟨b_range, ⟨b_zip, ⟨b_enumerate, ⟨b_bool, ⟨b_str, ⟨b_dict, trivial⟩⟩⟩⟩⟩⟩⟩⟩⟩⟩⟩⟩⟩⟩⟩⟩⟩⟩⟩⟩⟩

