import PyProof.Rows.All
import HandS.ForMost
import HandS.Wide
import HandS.WideBits
import HandS.Gcd
import HandS.Flow
import HandS.IsInst
import HandS.Style
import HandS.Property
import HandS.Star
import HandS.Codes
import HandS.TryOnly
import HandS.OwnEq
import HandS.Conv
import HandS.IterVal
import PySem.Challenge.RW_toldproducts_k10_both_ways_blended_chang
set_option Elab.async false
set_option linter.all false
set_option maxRecDepth 100000
/-! DcA: the judgements. A def of the program is told by a plain function into W, a small monad of wishes; encodings tell how values stand in the heap. -/
namespace Dc
open PySem PySem.Spec L2

/-! ### data as a whole -/
inductive D where
  | non | bl (b : Bool) | int (i : Int) | str (s : Str) | lst (ds : List D) | tup (ds : List D)

/-! ### the monad of wishes: c counts draws -/
structure Ex where
  cls : Nat
  val : D
abbrev WB := Nat → Prop
def W (α : Type) : Type := (α → WB) → (Ex → WB) → WB
def ret {α : Type} (x : α) : W α := fun Φ _ c => Φ x c
def bnd {α β : Type} (m : W α) (k : α → W β) : W β := fun Φ Ψ c => m (fun x c' => k x Φ Ψ c') Ψ c
def stuck {α : Type} : W α := fun _ _ _ => False
def raise {α : Type} (e : Ex) : W α := fun _ Ψ c => Ψ e c
def grd {α : Type} (b : Bool) (m : W α) : W α := fun Φ Ψ c => b = true ∧ m Φ Ψ c
def ite {α : Type} (b : Bool) (m n : W α) : W α := fun Φ Ψ c => if b = true then m Φ Ψ c else n Φ Ψ c
theorem bnd_ret {α β : Type} (x : α) (k : α → W β) : bnd (ret x) k = k x := (rfl)
theorem bnd_assoc {α β γ : Type} (m : W α) (k : α → W β) (l : β → W γ) : bnd (bnd m k) l = bnd m (fun x => bnd (k x) l) := (rfl)
theorem bnd_ret_r {α : Type} (m : W α) : bnd m ret = m := (rfl)
theorem bnd_stuck {α β : Type} (k : α → W β) : bnd stuck k = stuck := (rfl)
theorem bnd_grd {α β : Type} (b : Bool) (m : W α) (k : α → W β) : bnd (grd b m) k = grd b (bnd m k) := (rfl)
theorem grd_true {α : Type} (m : W α) : grd true m = m := by
  funext Φ Ψ c
  simp [grd]
theorem ite_true {α : Type} (m n : W α) : ite true m n = m := (rfl)
theorem ite_false {α : Type} (m n : W α) : ite false m n = n := by
  funext Φ Ψ c
  simp [ite]
theorem bnd_ite {α β : Type} (b : Bool) (m n : W α) (k : α → W β) : bnd (ite b m n) k = ite b (bnd m k) (bnd n k) := by
  funext Φ Ψ c
  cases b <;> simp [ite, bnd]
def noX : Ex → WB := fun _ _ => False

/-! ### encodings -/
abbrev AS := Addr → Prop
def Mv (O O' : AS) (H H' : Hp) : Prop := ∀ a o, ¬ O a → H a = some o → H' a = some o ∧ ¬ O' a
theorem Mv.refl {O : AS} {H : Hp} : Mv O O H H := fun _ _ h e => ⟨e, h⟩
theorem Mv.same {O : AS} {H H' : Hp} (s : Same H H') : Mv O O H H' := fun a o h e => ⟨s a o e, h⟩
theorem Mv.less {O O' : AS} {H : Hp} (h : ∀ a, O' a → O a) : Mv O O' H H := fun a _ n e => ⟨e, fun z => n (h a z)⟩
theorem Mv.trans {O O1 O2 : AS} {H H1 H2 : Hp} (x : Mv O O1 H H1) (y : Mv O1 O2 H1 H2) : Mv O O2 H H2 := fun a o n e =>
  let ⟨e1, n1⟩ := x a o n e
  y a o n1 e1
structure En (K : PySem.W.Frag) (α : Type) where
  r : AS → Hp → V → α → Prop
  mono : ∀ {O O' : AS} {H H' : Hp} {v : V} {x : α}, Mv O O' H H' → r O H v x → r O' H' v x
inductive F2 {α β : Type} (R : α → β → Prop) : List α → List β → Prop where
  | nil : F2 R [] []
  | cons {a b l m} : R a b → F2 R l m → F2 R (a :: l) (b :: m)
section
variable {α β : Type} {R S : α → β → Prop} {l : List α} {m : List β}
theorem F2.imp (h : F2 R l m) (f : ∀ a b, R a b → S a b) : F2 S l m := by
  induction h with
  | nil => exact .nil
  | cons r _ ih => exact .cons (f _ _ r) ih
theorem F2.length (h : F2 R l m) : l.length = m.length := by
  induction h with
  | nil => rfl
  | cons _ _ ih => simp [ih]
theorem F2.get (h : F2 R l m) : ∀ {i : Nat} {b : β}, m[i]? = some b → ∃ a, l[i]? = some a ∧ R a b := by
  induction h with
  | nil => intro i b e; simp at e
  | cons r _ ih =>
    intro i b e
    cases i with
    | zero => simp at e; subst e; exact ⟨_, by simp, r⟩
    | succ i => simpa using ih (by simpa using e)
theorem F2.get' (h : F2 R l m) : ∀ {i : Nat} {a : α}, l[i]? = some a → ∃ b, m[i]? = some b ∧ R a b := by
  induction h with
  | nil => intro i b e; simp at e
  | cons r _ ih =>
    intro i b e
    cases i with
    | zero => simp at e; subst e; exact ⟨_, by simp, r⟩
    | succ i => simpa using ih (by simpa using e)
theorem F2.append {l2 : List α} {m2 : List β} (h : F2 R l m) (h2 : F2 R l2 m2) : F2 R (l ++ l2) (m ++ m2) := by
  induction h with
  | nil => exact h2
  | cons r _ ih => exact .cons r ih
theorem F2.set (h : F2 R l m) : ∀ (i : Nat) {a : α} {b : β}, R a b → F2 R (l.set i a) (m.set i b) := by
  induction h with
  | nil => intro i a b _; exact .nil
  | cons r t ih =>
    intro i a b q
    cases i with
    | zero => exact .cons q t
    | succ i => exact .cons r (ih i q)
theorem F2.drop (h : F2 R l m) : ∀ (i : Nat), F2 R (l.drop i) (m.drop i) := by
  induction h with
  | nil => intro i; simp; exact .nil
  | cons r t ih =>
    intro i
    cases i with
    | zero => exact .cons r t
    | succ i => simpa using ih i
theorem F2.take (h : F2 R l m) : ∀ (i : Nat), F2 R (l.take i) (m.take i) := by
  induction h with
  | nil => intro i; simp; exact .nil
  | cons r t ih =>
    intro i
    cases i with
    | zero => simp; exact .nil
    | succ i => simpa using F2.cons r (ih i)
theorem F2.rep {a : α} {b : β} (r : R a b) : ∀ n : Nat, F2 R (List.replicate n a) (List.replicate n b)
  | 0 => .nil
  | n + 1 => .cons r (F2.rep r n)
theorem F2.rev (h : F2 R l m) : F2 R l.reverse m.reverse := by
  induction h with
  | nil => exact .nil
  | cons r _ ih => simpa using ih.append (.cons r .nil)
theorem F2.dropLast (h : F2 R l m) : F2 R l.dropLast m.dropLast := by
  rw [List.dropLast_eq_take, List.dropLast_eq_take, h.length]
  exact h.take _
theorem F2.eraseIdx (h : F2 R l m) : ∀ (i : Nat), F2 R (l.eraseIdx i) (m.eraseIdx i) := by
  induction h with
  | nil => intro i; simp; exact .nil
  | cons r t ih =>
    intro i
    cases i with
    | zero => simpa using t
    | succ i => simpa using F2.cons r (ih i)
end
section
variable {K : PySem.W.Frag} {α β γ : Type}
def kTup (K : PySem.W.Frag) (a : Addr) (xs : List V) : Prop :=
  ∃ (o : Obj) (its : Array Value) (n : Nat), K.lookup a = some o ∧ o.cls = .type "tuple" ∧ o.data = .seq its n ∧ its.size ≤ sizeLine ∧ Vals xs its.toList
def TupAt (K : PySem.W.Frag) (O : AS) (H : Hp) (a : Addr) (xs : List V) : Prop := (¬ O a ∧ Rd H a (.tup xs)) ∨ kTup K a xs
def LstAt (O : AS) (H : Hp) (a : Addr) (xs : List V) : Prop := ¬ O a ∧ H a = some (.lst xs)
def kLst (K : PySem.W.Frag) (a : Addr) (xs : List V) : Prop :=
  ∃ (o : Obj) (its : Array Value) (n : Nat), K.lookup a = some o ∧ o.cls = .type "list" ∧ o.dict = none ∧ o.data = .seq its n ∧ its.size ≤ sizeLine ∧ Vals xs its.toList
def LstR (K : PySem.W.Frag) (O : AS) (H : Hp) (a : Addr) (xs : List V) : Prop := (¬ O a ∧ Rd H a (.lst xs)) ∨ kLst K a xs
theorem Rd.mv {O O' : AS} {H H' : Hp} {a : Addr} {u : HO} (m : Mv O O' H H') (n : ¬ O a) (h : Rd H a u) : Rd H' a u ∧ ¬ O' a := by
  rcases h with h | ⟨o, h⟩
  · exact ⟨.inl (m _ _ n h).1, (m _ _ n h).2⟩
  · exact ⟨.inr ⟨o, (m _ _ n h).1⟩, (m _ _ n h).2⟩
theorem TupAt.mv {O O' : AS} {H H' : Hp} {a : Addr} {xs : List V} (m : Mv O O' H H') (h : TupAt K O H a xs) : TupAt K O' H' a xs := by
  rcases h with ⟨n, h⟩ | h
  · exact .inl ⟨(Rd.mv m n h).2, (Rd.mv m n h).1⟩
  · exact .inr h
theorem LstAt.mv {O O' : AS} {H H' : Hp} {a : Addr} {xs : List V} (m : Mv O O' H H') (h : LstAt O H a xs) : LstAt O' H' a xs := ⟨(m _ _ h.1 h.2).2, (m _ _ h.1 h.2).1⟩
theorem LstR.mv {O O' : AS} {H H' : Hp} {a : Addr} {xs : List V} (m : Mv O O' H H') (h : LstR K O H a xs) : LstR K O' H' a xs := by
  rcases h with ⟨n, h⟩ | h
  · exact .inl ⟨(Rd.mv m n h).2, (Rd.mv m n h).1⟩
  · exact .inr h
theorem LstAt.r {O : AS} {H : Hp} {a : Addr} {xs : List V} (h : LstAt O H a xs) : LstR K O H a xs := .inl ⟨h.1, .inl h.2⟩
theorem LstR.sq {O : AS} {H : Hp} {a : Addr} {xs : List V} (h : LstR K O H a xs) : SqL K H a xs := by
  rcases h with ⟨_, h⟩ | h
  · exact .inl h
  · exact .inr h
theorem SqL.r {H : Hp} {a : Addr} {xs : List V} (h : SqL K H a xs) : LstR K (fun _ => False) H a xs := by
  rcases h with h | h
  · exact .inl ⟨fun z => z, h⟩
  · exact .inr h
theorem TupAt.sq {O : AS} {H : Hp} {a : Addr} {xs : List V} (h : TupAt K O H a xs) : SqT K H a xs := by
  rcases h with ⟨_, h⟩ | h
  · exact .inl h
  · exact .inr h
theorem LstAt.sq {O : AS} {H : Hp} {a : Addr} {xs : List V} (h : LstAt O H a xs) : SqL K H a xs := .inl (.inl h.2)
def eI : En K Int := ⟨fun _ _ v x => v = .int x, fun _ h => h⟩
def eB : En K Bool := ⟨fun _ _ v x => v = .bl x, fun _ h => h⟩
def eS : En K Str := ⟨fun _ _ v x => v = .str x, fun _ h => h⟩
def eU : En K Unit := ⟨fun _ _ v _ => v = .non, fun _ h => h⟩
/-- a list that nobody writes at -/
def eL (e : En K α) : En K (List α) := ⟨fun O H v xs => ∃ a vs, v = .ref a ∧ LstAt O H a vs ∧ F2 (e.r O H) vs xs, fun m ⟨a, vs, e1, h, f⟩ => ⟨a, vs, e1, h.mv m, f.imp fun _ _ => e.mono m⟩⟩
/-- a list that is read alone (the script) -/
def eR (e : En K α) : En K (List α) := ⟨fun O H v xs => ∃ a vs, v = .ref a ∧ LstR K O H a vs ∧ F2 (e.r O H) vs xs, fun m ⟨a, vs, e1, h, f⟩ => ⟨a, vs, e1, h.mv m, f.imp fun _ _ => e.mono m⟩⟩
theorem eL_R {e : En K α} {O : AS} {H : Hp} {v : V} {xs : List α} (h : (eL e).r O H v xs) : (eR e).r O H v xs := by
  obtain ⟨a, vs, e1, l, f⟩ := h
  exact ⟨a, vs, e1, l.r, f⟩
/-- a tuple of two, three -/
def eP (e : En K α) (f : En K β) : En K (α × β) :=
  ⟨fun O H v x => ∃ a u w, v = .ref a ∧ TupAt K O H a [u, w] ∧ e.r O H u x.1 ∧ f.r O H w x.2, fun m ⟨a, u, w, e1, h, p, q⟩ => ⟨a, u, w, e1, h.mv m, e.mono m p, f.mono m q⟩⟩
def eP3 (e : En K α) (f : En K β) (g : En K γ) : En K (α × β × γ) :=
  ⟨fun O H v x => ∃ a u w z, v = .ref a ∧ TupAt K O H a [u, w, z] ∧ e.r O H u x.1 ∧ f.r O H w x.2.1 ∧ g.r O H z x.2.2, fun m ⟨a, u, w, z, e1, h, p, q, s⟩ => ⟨a, u, w, z, e1, h.mv m, e.mono m p, f.mono m q, g.mono m s⟩⟩
/-- None, or a value that is not None -/
def eO (e : En K α) : En K (Option α) :=
  ⟨fun O H v x => match x with | none => v = .non | some y => e.r O H v y ∧ v ≠ .non, fun {O O' H H' v x} m h => by
    cases x with
    | none => exact h
    | some y => exact ⟨e.mono m h.1, h.2⟩⟩
/-- a number -/
abbrev eN : En K (Int × Int) := eP eI eI
end

mutual
def rD (K : PySem.W.Frag) (O : AS) (H : Hp) : V → D → Prop
  | v, .non => v = .non
  | v, .bl b => v = .bl b
  | v, .int i => v = .int i
  | v, .str s => v = .str s
  | v, .lst ds => ∃ a vs, v = .ref a ∧ LstAt O H a vs ∧ rDs K O H vs ds
  | v, .tup ds => ∃ a vs, v = .ref a ∧ TupAt K O H a vs ∧ rDs K O H vs ds
def rDs (K : PySem.W.Frag) (O : AS) (H : Hp) : List V → List D → Prop
  | vs, [] => vs = []
  | vs, d :: ds => ∃ v r, vs = v :: r ∧ rD K O H v d ∧ rDs K O H r ds
end
mutual
theorem rD.mono {K : PySem.W.Frag} {O O' : AS} {H H' : Hp} (m : Mv O O' H H') : ∀ {v : V} (d : D), rD K O H v d → rD K O' H' v d
  | _, .non, h => h
  | _, .bl _, h => h
  | _, .int _, h => h
  | _, .str _, h => h
  | _, .lst ds, h => by
    obtain ⟨a, vs, e, l, r⟩ := (by simpa only [rD] using h : ∃ a vs, _)
    simp only [rD]
    exact ⟨a, vs, e, l.mv m, rDs.mono m ds r⟩
  | _, .tup ds, h => by
    obtain ⟨a, vs, e, l, r⟩ := (by simpa only [rD] using h : ∃ a vs, _)
    simp only [rD]
    exact ⟨a, vs, e, l.mv m, rDs.mono m ds r⟩
theorem rDs.mono {K : PySem.W.Frag} {O O' : AS} {H H' : Hp} (m : Mv O O' H H') : ∀ {vs : List V} (ds : List D), rDs K O H vs ds → rDs K O' H' vs ds
  | _, [], h => h
  | _, d :: ds, h => by
    obtain ⟨v, r, e, p, q⟩ := (by simpa only [rDs] using h : ∃ v r, _)
    simp only [rDs]
    exact ⟨v, r, e, rD.mono m d p, rDs.mono m ds q⟩
end
def eD {K : PySem.W.Frag} : En K D := ⟨rD K, fun m h => rD.mono m _ h⟩

/-! ### owned things -/
structure On (K : PySem.W.Frag) (α : Type) where
  r : AS → Hp → Addr → α → Prop
  mono : ∀ {O O' : AS} {H H' : Hp} {a : Addr} {x : α}, Mv O O' H H' → H' a = H a → r O H a x → r O' H' a x
  dom : ∀ {O : AS} {H : Hp} {a : Addr} {x : α}, r O H a x → H a ≠ none
/-- a list of one's own -/
def oL {K : PySem.W.Frag} {α : Type} (e : En K α) : On K (List α) :=
  ⟨fun O H a xs => ∃ vs, H a = some (.lst vs) ∧ F2 (e.r O H) vs xs, fun m h ⟨vs, q, f⟩ => ⟨vs, h.trans q, f.imp fun _ _ => e.mono m⟩, fun ⟨vs, q, _⟩ z => by rw [q] at z; cases z⟩

/-! ### what a law's pool of draws is: two objects -/
structure PoolK where
  r : Hp → Addr → Addr → Nat → Prop
  keep : ∀ {H H' : Hp} {a b : Addr} {c : Nat}, H' a = H a → H' b = H b → r H a b c → r H' a b c
  dom : ∀ {H : Hp} {a b : Addr} {c : Nat}, r H a b c → H a ≠ none ∧ H b ≠ none
abbrev PP := Option (Addr × Addr)
def foot (pp : PP) (x : Addr) : Prop := match pp with | none => False | some (a, b) => x = a ∨ x = b
def PoolOk (PK : PoolK) (pp : PP) (H : Hp) (c : Nat) : Prop := match pp with | none => True | some (a, b) => PK.r H a b c

/-! ### the slots -/
inductive Sl (K : PySem.W.Frag) : Type 1 where
  | nil
  | sh {α : Type} (en : En K α) (x : α)
  | ow {α : Type} (a : Addr) (on : On K α) (x : α)
  | pl
section
variable {K : PySem.W.Frag}
def get : List (Sl K) → Nat → Sl K
  | [], _ => .nil
  | s :: _, 0 => s
  | _ :: r, n + 1 => get r n
def put : List (Sl K) → Nat → Sl K → List (Sl K)
  | [], _, _ => []
  | _ :: r, 0, e => e :: r
  | s :: r, n + 1, e => s :: put r n e
def own1 : Sl K → List Addr
  | .ow a _ _ => [a]
  | _ => []
def owns : List (Sl K) → List Addr
  | [] => []
  | s :: r => own1 s ++ owns r
def SlOk (A : AS) (pp : PP) (H : Hp) (σ : St) (i : Nat) : Sl K → Prop
  | .nil => True
  | .sh en x => ∃ v, σ[i]? = some (some v) ∧ en.r A H v x
  | .ow a on x => σ[i]? = some (some (.ref a)) ∧ on.r A H a x
  | .pl => ∃ a b, pp = some (a, b) ∧ σ[i]? = some (some (.ref a))
def Av (O : AS) (pp : PP) (ρ : List (Sl K)) : AS := fun a => O a ∨ foot pp a ∨ a ∈ owns ρ
structure Sat (PK : PoolK) (O : AS) (pp : PP) (ρ : List (Sl K)) (c : Nat) (σ : St) (H : Hp) : Prop where
  len : σ.length = ρ.length
  nd : (owns ρ).Nodup
  new : ∀ a ∈ owns ρ, ¬ O a ∧ ¬ foot pp a
  dom : ∀ a, O a → H a ≠ none
  pool : PoolOk PK pp H c
  slots : ∀ i, SlOk (Av O pp ρ) pp H σ i (get ρ i)
theorem get_put_self : ∀ {ρ : List (Sl K)} {i : Nat} {s : Sl K}, get (put ρ i s) i = s ∨ get (put ρ i s) i = .nil
  | [], i, s => .inr (by cases i <;> rfl)
  | _ :: r, 0, s => .inl rfl
  | _ :: r, i + 1, s => get_put_self (ρ := r)
theorem get_put_ne : ∀ {ρ : List (Sl K)} {i j : Nat} {s : Sl K}, j ≠ i → get (put ρ i s) j = get ρ j
  | [], i, j, s, h => rfl
  | x :: r, 0, 0, s, h => absurd rfl h
  | x :: r, 0, j + 1, s, h => rfl
  | x :: r, i + 1, 0, s, h => rfl
  | x :: r, i + 1, j + 1, s, h => get_put_ne (ρ := r) (fun e => h (by omega))
theorem mem_owns : ∀ {ρ : List (Sl K)} {a : Addr}, a ∈ owns ρ → ∃ i, ∃ (α : Type) (on : On K α) (x : α), get ρ i = .ow a on x
  | [], a, h => by cases h
  | s :: r, a, h => by
    rcases List.mem_append.mp h with h | h
    · cases s with
      | ow b on x =>
        have e : a = b := by simpa [own1] using h
        subst e
        exact ⟨0, _, on, x, rfl⟩
      | nil => cases h
      | sh _ _ => cases h
      | pl => cases h
    · obtain ⟨i, α, on, x, e⟩ := mem_owns h
      exact ⟨i + 1, α, on, x, e⟩
theorem owns_mem : ∀ {ρ : List (Sl K)} {i : Nat} {α : Type} {a : Addr} {on : On K α} {x : α}, get ρ i = .ow a on x → a ∈ owns ρ
  | [], i, α, a, on, x, h => by cases h
  | s :: r, 0, α, a, on, x, h => by
    have e : s = .ow a on x := h
    subst e
    exact List.mem_append.mpr (.inl (by simp [own1]))
  | s :: r, i + 1, α, a, on, x, h => List.mem_append.mpr (.inr (owns_mem (ρ := r) h))
/-- what is put is among what is owned then; all else was -/
theorem owns_put : ∀ {ρ : List (Sl K)} {i : Nat} {s : Sl K} {b : Addr}, b ∈ owns (put ρ i s) → b ∈ own1 s ∨ b ∈ owns ρ
  | [], i, s, b, h => .inr h
  | x :: r, 0, s, b, h => by
    rcases List.mem_append.mp h with h | h
    · exact .inl h
    · exact .inr (List.mem_append.mpr (.inr h))
  | x :: r, i + 1, s, b, h => by
    rcases List.mem_append.mp h with h | h
    · exact .inr (List.mem_append.mpr (.inl h))
    · rcases owns_put (ρ := r) h with h | h
      · exact .inl h
      · exact .inr (List.mem_append.mpr (.inr h))
theorem owns_put_nodup : ∀ {ρ : List (Sl K)} {i : Nat} {s : Sl K}, (owns ρ).Nodup → (own1 s).Nodup → (∀ b ∈ own1 s, b ∉ owns ρ) → (owns (put ρ i s)).Nodup
  | [], i, s, h, _, _ => h
  | x :: r, 0, s, h, h1, h2 => by
    have h : (own1 x ++ owns r).Nodup := h
    rw [List.nodup_append] at h
    show (own1 s ++ owns r).Nodup
    rw [List.nodup_append]
    refine ⟨h1, h.2.1, fun a ha b hb e => ?_⟩
    subst e
    exact h2 a ha (List.mem_append.mpr (.inr hb))
  | x :: r, i + 1, s, h, h1, h2 => by
    have h : (own1 x ++ owns r).Nodup := h
    rw [List.nodup_append] at h
    show (own1 x ++ owns (put r i s)).Nodup
    rw [List.nodup_append]
    refine ⟨h.1, owns_put_nodup h.2.1 h1 fun b hb hr => h2 b hb (List.mem_append.mpr (.inr hr)), fun a ha b hb e => ?_⟩
    subst e
    rcases owns_put hb with hb | hb
    · exact h2 a hb (List.mem_append.mpr (.inl ha))
    · exact h.2.2 a ha a hb rfl
theorem own1_nodup (s : Sl K) : (own1 s).Nodup := by
  cases s <;> simp [own1]
/-- an owned thing changed in place: nothing else is owned -/
theorem owns_same : ∀ {ρ : List (Sl K)} {i : Nat} {α β : Type} {a : Addr} {on : On K α} {x : α} {on' : On K β} {y : β}, get ρ i = .ow a on x → owns (put ρ i (.ow a on' y)) = owns ρ
  | [], i, α, β, a, on, x, on', y, h => by cases h
  | s :: r, 0, α, β, a, on, x, on', y, h => by
    have e : s = .ow a on x := h
    subst e
    rfl
  | s :: r, i + 1, α, β, a, on, x, on', y, h => by
    show own1 s ++ owns (put r i _) = own1 s ++ owns r
    rw [owns_same (ρ := r) h]
theorem owns_free : ∀ {ρ : List (Sl K)} {i : Nat} {s : Sl K}, own1 s = [] → own1 (get ρ i) = [] → owns (put ρ i s) = owns ρ
  | [], i, s, _, _ => rfl
  | x :: r, 0, s, h, h2 => by
    show own1 s ++ owns r = own1 x ++ owns r
    rw [h, show own1 x = [] from h2]
  | x :: r, i + 1, s, h, h2 => by
    show own1 x ++ owns (put r i s) = own1 x ++ owns r
    rw [owns_free (ρ := r) h h2]
/-- an address is owned at one slot alone -/
theorem owns_inj : ∀ {ρ : List (Sl K)} {i j : Nat} {α β : Type} {a : Addr} {on : On K α} {x : α} {on' : On K β} {y : β}, (owns ρ).Nodup → get ρ i = .ow a on x → get ρ j = .ow a on' y → i = j
  | [], i, j, α, β, a, on, x, on', y, _, h, _ => by cases h
  | s :: r, 0, 0, α, β, a, on, x, on', y, _, _, _ => rfl
  | s :: r, 0, j + 1, α, β, a, on, x, on', y, n, h, h' => by
    have n : (own1 s ++ owns r).Nodup := n
    rw [List.nodup_append] at n
    have e : s = .ow a on x := h
    exact absurd rfl (n.2.2 a (by rw [e]; simp [own1]) a (owns_mem (ρ := r) h'))
  | s :: r, i + 1, 0, α, β, a, on, x, on', y, n, h, h' => by
    have n : (own1 s ++ owns r).Nodup := n
    rw [List.nodup_append] at n
    have e : s = .ow a on' y := h'
    exact absurd rfl (n.2.2 a (by rw [e]; simp [own1]) a (owns_mem (ρ := r) h))
  | s :: r, i + 1, j + 1, α, β, a, on, x, on', y, n, h, h' => by
    have n : (own1 s ++ owns r).Nodup := n
    rw [List.nodup_append] at n
    rw [owns_inj (ρ := r) n.2.1 h h']
theorem get_len : ∀ {ρ : List (Sl K)} {i : Nat}, get ρ i ≠ .nil → i < ρ.length
  | [], i, h => absurd (by cases i <;> rfl) h
  | _ :: r, 0, h => by simp
  | _ :: r, i + 1, h => by
    have := get_len (ρ := r) (i := i) h
    simp; omega
end
end Dc
/-! DcB: readings from wishes; expressions. -/
namespace Dc
open PySem PySem.Spec L2
section
variable {K : PySem.W.Frag} {PK : PoolK} {pp : PP} {ρ : List (Sl K)} {O : AS} {c : Nat} {σ : St} {H H' : Hp} {α β γ : Type}
def Dom (A : AS) (H : Hp) : Prop := ∀ a, A a → H a ≠ none
def Chg (pp : PP) (H H' : Hp) : Prop := ∀ a o, H a = some o → ¬ foot pp a → H' a = some o
theorem Chg.of (s : Same H H') : Chg pp H H' := fun a o e _ => s a o e
theorem Chg.refl : Chg pp H H := fun _ _ e _ => e
theorem Chg.trans {H1 : Hp} (x : Chg pp H H1) (y : Chg pp H1 H') : Chg pp H H' := fun a o e n => y a o (x a o e n) n
theorem Chg.mv (x : Chg pp H H') : Mv (Av O pp ρ) (Av O pp ρ) H H' := fun a o n e => ⟨x a o e fun z => n (.inr (.inl z)), n⟩
theorem put_len : ∀ {ρ : List (Sl K)} {i : Nat} {s : Sl K}, (put ρ i s).length = ρ.length
  | [], _, _ => rfl
  | _ :: _, 0, _ => rfl
  | _ :: r, i + 1, s => by
    show (put r i s).length + 1 = r.length + 1
    rw [put_len]
theorem Sat.av (S : Sat PK O pp ρ c σ H) : Dom (Av O pp ρ) H := fun a h => by
  rcases h with h | h | h
  · exact S.dom a h
  · cases pp with
    | none => exact h.elim
    | some p =>
      obtain ⟨a1, b1⟩ := p
      have q : PK.r H a1 b1 c := S.pool
      rcases (show a = a1 ∨ a = b1 from h) with e | e
      · rw [e]; exact (PK.dom q).1
      · rw [e]; exact (PK.dom q).2
  · obtain ⟨i, α, on, x, e⟩ := mem_owns h
    have q := S.slots i
    rw [e] at q
    exact on.dom q.2
theorem same_at (s : Same H H') {a : Addr} (h : H a ≠ none) : H' a = H a := by
  cases e : H a with
  | none => exact absurd e h
  | some o => exact s a o e
theorem SlOk.mv {A A' : AS} {i : Nat} {s : Sl K} (m : Mv A A' H H') (h : SlOk A pp H σ i s) (ho : ∀ a ∈ own1 s, H' a = H a) : SlOk A' pp H' σ i s := by
  cases s with
  | nil => exact True.intro
  | sh en x =>
    obtain ⟨v, e, r⟩ := h
    exact ⟨v, e, en.mono m r⟩
  | ow a on x => exact ⟨h.1, on.mono m (ho a (by simp [own1])) h.2⟩
  | pl => exact h
theorem Sat.same (S : Sat PK O pp ρ c σ H) (s : Same H H') : Sat PK O pp ρ c σ H' := by
  refine ⟨S.len, S.nd, S.new, fun a h => ?_, ?_, fun i => ?_⟩
  · rw [same_at s (S.dom a h)]; exact S.dom a h
  · cases pp with
    | none => exact True.intro
    | some p =>
      obtain ⟨a, b⟩ := p
      have q : PK.r H a b c := S.pool
      exact PK.keep (same_at s (PK.dom q).1) (same_at s (PK.dom q).2) q
  · refine (S.slots i).mv (Mv.same s) fun a ha => ?_
    cases e : get ρ i with
    | ow b on x =>
      rw [e] at ha
      have ha : a = b := by simpa [own1] using ha
      subst ha
      have q := S.slots i
      rw [e] at q
      exact same_at s (on.dom q.2)
    | _ => rw [e] at ha; cases ha
/-- an expression's reading -/
def rdE (PK : PoolK) (pp : PP) (ρ : List (Sl K)) (w : W α) (en : En K α) : TE := fun σ H Q => ∃ O Φ c, Sat PK O pp ρ c σ H ∧ w Φ noX c ∧
  ∀ x v H' c', Φ x c' → Chg pp H H' → Sat PK O pp ρ c' σ H' → en.r (Av O pp ρ) H' v x → Q v H'
def rdT (PK : PoolK) (pp : PP) (ρ : List (Sl K)) (w : W Bool) : TT := fun σ H Q => ∃ O Φ c, Sat PK O pp ρ c σ H ∧ w Φ noX c ∧
  ∀ x H' c', Φ x c' → Chg pp H H' → Sat PK O pp ρ c' σ H' → Q x H'
/-- encodings of argument lists -/
structure EA (K : PySem.W.Frag) (α : Type) where
  r : PP → AS → Hp → List V → α → Prop
  ents : α → List (Sl K)
  mono : ∀ {pp : PP} {O O' : AS} {H H' : Hp} {v : List V} {x : α}, Mv O O' H H' → r pp O H v x → r pp O' H' v x
  len : Nat
  hlen : ∀ {pp : PP} {O : AS} {H : Hp} {v : List V} {x : α}, r pp O H v x → v.length = len
  elen : ∀ x, (ents x).length = len
  eown : ∀ x, owns (ents x) = []
  eok : ∀ {pp : PP} {O : AS} {H : Hp} {v : List V} {x : α} {tl : St} (i : Nat), r pp O H v x → SlOk O pp H (v.map some ++ tl) i (get (ents x) i)
theorem SlOk.sft {A : AS} {pp : PP} {H : Hp} {σ : St} {i : Nat} {y : Option V} {s : Sl K} (h : SlOk A pp H σ i s) : SlOk A pp H (y :: σ) (i + 1) s := by
  cases s <;> simpa [SlOk] using h
def aN : EA K Unit := ⟨fun _ _ _ vs _ => vs = [], fun _ => [], fun _ h => h, 0, fun h => by rw [h]; rfl, fun _ => rfl, fun _ => rfl, fun i _ => True.intro⟩
def aC (e : En K α) (a : EA K β) : EA K (α × β) := ⟨fun pp O H vs x => ∃ v r, vs = v :: r ∧ e.r O H v x.1 ∧ a.r pp O H r x.2, fun x => .sh e x.1 :: a.ents x.2, fun m ⟨v, r, e1, p, q⟩ => ⟨v, r, e1, e.mono m p, a.mono m q⟩, a.len + 1,
  fun ⟨v, r, e1, _, q⟩ => by rw [e1, List.length_cons, a.hlen q], fun x => by rw [List.length_cons, a.elen], fun x => a.eown x.2, fun i ⟨v, r, e1, p, q⟩ => by
    subst e1
    cases i with
    | zero => exact ⟨v, rfl, p⟩
    | succ i => exact (a.eok i q).sft⟩
/-- the pool, handed on -/
def aPl (a : EA K β) : EA K β := ⟨fun pp O H vs x => ∃ b d r, pp = some (b, d) ∧ vs = .ref b :: r ∧ a.r pp O H r x, fun x => .pl :: a.ents x, fun m ⟨b, d, r, e1, e2, q⟩ => ⟨b, d, r, e1, e2, a.mono m q⟩, a.len + 1,
  fun ⟨_, _, r, _, e1, q⟩ => by rw [e1, List.length_cons, a.hlen q], fun x => by rw [List.length_cons, a.elen], fun x => a.eown x, fun i ⟨b, d, r, e1, e2, q⟩ => by
    subst e2
    cases i with
    | zero => exact ⟨b, d, e1, rfl⟩
    | succ i => exact (a.eok i q).sft⟩
def rdA (PK : PoolK) (pp : PP) (ρ : List (Sl K)) (w : W α) (en : EA K α) : TA := fun σ H Q => ∃ O Φ c, Sat PK O pp ρ c σ H ∧ w Φ noX c ∧
  ∀ x v H' c', Φ x c' → Chg pp H H' → Sat PK O pp ρ c' σ H' → en.r pp (Av O pp ρ) H' v x → Q v H'
end
section
variable {X : Cx} {PK : PoolK} {pp : PP} {ρ : List (Sl X.K)} {α β γ δ : Type}
abbrev PX (X : Cx) (PK : PoolK) (pp : PP) (ρ : List (Sl X.K)) (e : Expr) (w : W α) (en : En X.K α) : Prop := PE X e (rdE PK pp ρ w en)
abbrev PTX (X : Cx) (PK : PoolK) (pp : PP) (ρ : List (Sl X.K)) (e : Expr) (w : W Bool) : Prop := PT X e (rdT PK pp ρ w)
abbrev PAX (X : Cx) (PK : PoolK) (pp : PP) (ρ : List (Sl X.K)) (es : List Expr) (w : W α) (en : EA X.K α) : Prop := PA X es (rdA PK pp ρ w en)
theorem _root_.L2.PE.weak {X : Cx} {e : Expr} {t t' : TE} (h : PE X e t) (f : ∀ σ H Q, t' σ H Q → t σ H Q) : PE X e t' := ⟨fun pins s σ H Q I q => h.run pins s σ H Q I (f σ H Q q)⟩
theorem _root_.L2.PT.weak {X : Cx} {e : Expr} {t t' : TT} (h : PT X e t) (f : ∀ σ H Q, t' σ H Q → t σ H Q) : PT X e t' := ⟨fun pins s σ H Q I q => h.run pins s σ H Q I (f σ H Q q)⟩
theorem _root_.L2.PA.weak {X : Cx} {e : List Expr} {t t' : TA} (h : PA X e t) (f : ∀ σ H Q, t' σ H Q → t σ H Q) : PA X e t' := ⟨fun pos pins s σ H Q I q => h.run pos pins s σ H Q I (f σ H Q q)⟩
variable {e a b : Expr} {pos : Pos}

/-! ### names, constants -/
theorem xv (i : Nat) {x : Str} {en : En X.K α} {y : α} (hg : get ρ i = .sh en y) (hN : X.N[i]? = some x := by rfl)
    (hv : Vis X.env.scope x := by first | exact Or.inl rfl | exact Or.inr (Or.inl rfl) | exact Or.inr (Or.inr rfl)) (hd : (x == ("__debug__" : Str)) = false := by decide) (hcd : (x == ("__classdict__" : Str)) = false := by decide) :
    PX X PK pp ρ (.Name x pos) (ret y) en := (pe_var hN hv hd hcd).weak fun σ H Q ⟨O, Φ, c, S, hw, k⟩ => by
  have q := S.slots i
  rw [hg] at q
  obtain ⟨v, e, r⟩ := q
  exact ⟨v, e, k y v H c hw .refl S r⟩
theorem xint {i : Int} {j} : PX X PK pp ρ (.Constant (.int i) j pos) (ret i) eI := pe_int.weak fun σ H Q ⟨O, Φ, c, S, hw, k⟩ => k i _ H c hw .refl S rfl
theorem xbl {i : Bool} {j} : PX X PK pp ρ (.Constant (.bool i) j pos) (ret i) eB := pe_bl.weak fun σ H Q ⟨O, Φ, c, S, hw, k⟩ => k i _ H c hw .refl S rfl
theorem xstr {i : Str} {j} : PX X PK pp ρ (.Constant (.str i) j pos) (ret i) eS := pe_str.weak fun σ H Q ⟨O, Φ, c, S, hw, k⟩ => k i _ H c hw .refl S rfl
theorem xnon {j} : PX X PK pp ρ (.Constant .none j pos) (ret ()) eU := pe_non.weak fun σ H Q ⟨O, Φ, c, S, hw, k⟩ => k () _ H c hw .refl S rfl
/-- a module's constant -/
theorem xglob {x : Str} {v : V} {u : Value} {en : En X.K α} {y : α} (hg : Gl X x) (hm : X.mg x = some u) (r : RelV v u) (he : ∀ O H, en.r O H v y) (hd : (x == ("__debug__" : Str)) = false := by decide) :
    PX X PK pp ρ (.Name x pos) (ret y) en := (pe_glob hg hm r hd).weak fun σ H Q ⟨O, Φ, c, S, hw, k⟩ => k y _ H c hw .refl S (he _ _)

/-! ### operators -/
/-- by values: pre, res -/
def OpW (X : Cx) (f : Value → Value → Sem Value) (e1 : En X.K α) (e2 : En X.K β) (e3 : En X.K γ) (pre : α → β → Bool) (res : α → β → γ) : Prop :=
  OpR X f fun x y H Q => ∃ A a b, Dom A H ∧ e1.r A H x a ∧ e2.r A H y b ∧ pre a b = true ∧ ∀ v H', Same H H' → e3.r A H' v (res a b) → Q v H'
/-- two expressions, one behind the other -/
theorem two {wa : W α} {wb : W β} {ea : En X.K α} {eb : En X.K β} {σ : St} {H : Hp} {Φ : γ → WB} {g : α → β → W γ} {O : AS} {c : Nat} {R : V → V → Hp → Prop} (S : Sat PK O pp ρ c σ H)
    (hw : bnd wa (fun x => bnd wb fun y => g x y) Φ noX c) (k : ∀ x y v u H' c', g x y Φ noX c' → Chg pp H H' → Sat PK O pp ρ c' σ H' → ea.r (Av O pp ρ) H' v x → eb.r (Av O pp ρ) H' u y → R v u H') :
    rdE PK pp ρ wa ea σ H fun v H1 => rdE PK pp ρ wb eb σ H1 fun u H2 => R v u H2 :=
  ⟨O, _, c, S, hw, fun x v H1 c1 p1 ch1 S1 r1 => ⟨O, _, c1, S1, p1, fun y u H2 c2 p2 ch2 S2 r2 => k x y v u H2 c2 p2 (ch1.trans ch2) S2 (ea.mono ch2.mv r1) r2⟩⟩
theorem xop {op : Operator} {wa : W α} {wb : W β} {e1 : En X.K α} {e2 : En X.K β} {e3 : En X.K γ} {pre : α → β → Bool} {res : α → β → γ} (ho : OpW X (binaryOp op) e1 e2 e3 pre res) (ha : PX X PK pp ρ a wa e1) (hb : PX X PK pp ρ b wb e2) :
    PX X PK pp ρ (.BinOp a op b pos) (bnd wa fun x => bnd wb fun y => grd (pre x y) (ret (res x y))) e3 := (pe_op ho ha hb).weak fun σ H Q ⟨O, Φ, c, S, hw, k⟩ =>
  two S hw fun x y v u H' c' p ch S' r1 r2 => ⟨_, x, y, S'.av, r1, r2, p.1, fun z H2 s r3 => k _ _ _ _ p.2 (ch.trans (.of s)) (S'.same s) r3⟩
theorem xop0 {op : Operator} {wa : W α} {wb : W β} {e1 : En X.K α} {e2 : En X.K β} {e3 : En X.K γ} {res : α → β → γ} (ho : OpW X (binaryOp op) e1 e2 e3 (fun _ _ => true) res) (ha : PX X PK pp ρ a wa e1) (hb : PX X PK pp ρ b wb e2) :
    PX X PK pp ρ (.BinOp a op b pos) (bnd wa fun x => bnd wb fun y => ret (res x y)) e3 := (pe_op ho ha hb).weak fun σ H Q ⟨O, Φ, c, S, hw, k⟩ =>
  two S hw fun x y v u H' c' p ch S' r1 r2 => ⟨_, x, y, S'.av, r1, r2, rfl, fun z H2 s r3 => k _ _ _ _ p (ch.trans (.of s)) (S'.same s) r3⟩
theorem xcmp {op : CmpOp} {wa : W α} {wb : W β} {e1 : En X.K α} {e2 : En X.K β} {e3 : En X.K γ} {res : α → β → γ} (ho : OpW X (compareOp op) e1 e2 e3 (fun _ _ => true) res) (ha : PX X PK pp ρ a wa e1) (hb : PX X PK pp ρ b wb e2) (hm : behindInMarks op b = false := by first | exact nomark _ | rfl) :
    PX X PK pp ρ (.Compare a [op] [b] pos) (bnd wa fun x => bnd wb fun y => ret (res x y)) e3 := (pe_cmpR ho ha hb hm).weak fun σ H Q ⟨O, Φ, c, S, hw, k⟩ =>
  two S hw fun x y v u H' c' p ch S' r1 r2 => ⟨_, x, y, S'.av, r1, r2, rfl, fun z H2 s r3 => k _ _ _ _ p (ch.trans (.of s)) (S'.same s) r3⟩
theorem tcmp {op : CmpOp} {wa : W α} {wb : W β} {e1 : En X.K α} {e2 : En X.K β} {res : α → β → Bool} (ho : OpW X (compareOp op) e1 e2 eB (fun _ _ => true) res) (ha : PX X PK pp ρ a wa e1) (hb : PX X PK pp ρ b wb e2) (hm : behindInMarks op b = false := by first | exact nomark _ | rfl) :
    PTX X PK pp ρ (.Compare a [op] [b] pos) (bnd wa fun x => bnd wb fun y => ret (res x y)) := (pt_cmpR ho ha hb hm).weak fun σ H Q ⟨O, Φ, c, S, hw, k⟩ =>
  two S hw fun x y v u H' c' p ch S' r1 r2 => ⟨_, x, y, S'.av, r1, r2, rfl, fun z H2 s r3 => ⟨_, r3, k _ _ _ p (ch.trans (.of s)) (S'.same s)⟩⟩
def UnW (X : Cx) (f : Value → Sem Value) (e1 : En X.K α) (e3 : En X.K γ) (res : α → γ) : Prop :=
  UnR X f fun x H Q => ∃ A a, Dom A H ∧ e1.r A H x a ∧ ∀ v H', Same H H' → e3.r A H' v (res a) → Q v H'
theorem xun {op : UnaryOp} {wa : W α} {e1 : En X.K α} {e3 : En X.K γ} {res : α → γ} (ho : UnW X (unaryOp op) e1 e3 res) (ha : PX X PK pp ρ a wa e1) :
    PX X PK pp ρ (.UnaryOp op a pos) (bnd wa fun x => ret (res x)) e3 := (pe_un ho ha).weak fun σ H Q ⟨O, Φ, c, S, hw, k⟩ =>
  ⟨O, _, c, S, hw, fun x v H' c' p ch S' r1 => ⟨_, x, S'.av, r1, fun z H2 s r3 => k _ _ _ _ p (ch.trans (.of s)) (S'.same s) r3⟩⟩

/-! the rules of ints -/
theorem opII {f : Value → Value → Sem Value} {g : Int → Int → Int} (h : OpR X f (rI0 fun i j => .int (g i j))) : OpW X f (eI : En X.K Int) eI eI (fun _ _ => true) g := by
  intro pins s σ H x y v u Q I rx ry ⟨A, i, j, _, r1, r2, _, k⟩
  exact h pins s σ H x y v u Q I rx ry ⟨i, j, r1, r2, k _ _ (.refl _) rfl⟩
theorem opIIc {f : Value → Value → Sem Value} {C : Int → Int → Prop} {g : Int → Int → Int} {pre : Int → Int → Bool} (h : OpR X f (rI C fun i j => .int (g i j))) (hp : ∀ i j, pre i j = true → C i j) : OpW X f (eI : En X.K Int) eI eI pre g := by
  intro pins s σ H x y v u Q I rx ry ⟨A, i, j, _, r1, r2, p, k⟩
  exact h pins s σ H x y v u Q I rx ry ⟨i, j, r1, r2, hp i j p, k _ _ (.refl _) rfl⟩
theorem opIB {f : Value → Value → Sem Value} {g : Int → Int → Bool} (h : OpR X f (rI0 fun i j => .bl (g i j))) : OpW X f (eI : En X.K Int) eI eB (fun _ _ => true) g := by
  intro pins s σ H x y v u Q I rx ry ⟨A, i, j, _, r1, r2, _, k⟩
  exact h pins s σ H x y v u Q I rx ry ⟨i, j, r1, r2, k _ _ (.refl _) rfl⟩
def mulOk (i j : Int) : Bool := decide (Builtin.Int.intBits i + Builtin.Int.intBits j ≤ 134217728)
def divOk (_ j : Int) : Bool := decide (0 < j) && decide (j.natAbs.log2 < 9000)
def ndivOk (_ j : Int) : Bool := decide (j < 0) && decide (j.natAbs.log2 < 9000)
def modOk (_ j : Int) : Bool := decide (0 < j)
def powOk (i j : Int) : Bool := decide (0 ≤ j) && decide ((Builtin.Int.intBits i : Int) * j ≤ 134217728)
theorem w_add : OpW X (binaryOp .Add) (eI : En X.K Int) eI eI (fun _ _ => true) (· + ·) := opII op_add
theorem w_sub : OpW X (binaryOp .Sub) (eI : En X.K Int) eI eI (fun _ _ => true) (· - ·) := opII op_sub
theorem w_mul : OpW X (binaryOp .Mult) (eI : En X.K Int) eI eI mulOk (· * ·) := opIIc op_mulX fun i j h => by
  have := of_decide_eq_true h
  show (Builtin.Int.intBits i : Int) + (Builtin.Int.intBits j : Int) ≤ 134217728
  omega
theorem w_mod : OpW X (binaryOp .Mod) (eI : En X.K Int) eI eI modOk (· % ·) := opIIc op_mod fun i j h => of_decide_eq_true h
theorem op_fdivA : OpR X (binaryOp .FloorDiv) (rI (fun _ j => j ≠ 0 ∧ j.natAbs.log2 < 9000) fun i j => .int (i.fdiv j)) := opI fun i j _ _ _ _ _ hc q =>
  PyProof.Rows.floordiv_int hc.1 q (.inl (PyProof.noPylong_of_log2 hc.2))
def fdivOk (_ j : Int) : Bool := decide (j ≠ 0) && decide (j.natAbs.log2 < 9000)
theorem w_fdiv : OpW X (binaryOp .FloorDiv) (eI : En X.K Int) eI eI fdivOk Int.fdiv := opIIc op_fdivA fun i j h => by
  simpa [fdivOk] using h
theorem op_powX : OpR X (binaryOp .Pow) (rI (fun i j => 0 ≤ j ∧ (Builtin.Int.intBits i : Int) * j ≤ 2 ^ 27) fun i j => .int (i ^ j.toNat)) := opI fun _ _ _ _ _ _ _ hc q => PyProof.Rows.pow_int hc.1 hc.2 q
theorem w_pow : OpW X (binaryOp .Pow) (eI : En X.K Int) eI eI powOk (fun i j => i ^ j.toNat) := opIIc op_powX fun i j h => by
  simp only [powOk, Bool.and_eq_true, decide_eq_true_eq] at h
  exact ⟨h.1, by have := h.2; omega⟩
theorem w_neg : UnW X (unaryOp .USub) (eI : En X.K Int) eI (fun i => -i) := by
  intro pins s σ H x v Q I rx ⟨A, i, _, r1, k⟩
  exact un_neg pins s σ H x v Q I rx ⟨i, r1, k _ _ (.refl _) rfl⟩
theorem w_lt : OpW X (compareOp .Lt) (eI : En X.K Int) eI eB (fun _ _ => true) (fun i j => decide (i < j)) := opIB op_lt
theorem w_le : OpW X (compareOp .LtE) (eI : En X.K Int) eI eB (fun _ _ => true) (fun i j => decide (i ≤ j)) := opIB op_le
theorem w_gt : OpW X (compareOp .Gt) (eI : En X.K Int) eI eB (fun _ _ => true) (fun i j => decide (j < i)) := opIB op_gt
theorem w_ge : OpW X (compareOp .GtE) (eI : En X.K Int) eI eB (fun _ _ => true) (fun i j => decide (j ≤ i)) := opIB op_ge
theorem w_eqI : OpW X (compareOp .Eq) (eI : En X.K Int) eI eB (fun _ _ => true) (fun i j => decide (i = j)) := by
  intro pins s σ H x y v u Q I rx ry ⟨A, i, j, _, r1, r2, _, k⟩
  cases r1; cases r2
  exact op_eq pins s σ H _ _ v u Q I rx ry ⟨rfl, k _ _ (.refl _) (congrArg V.bl (by simp))⟩
theorem w_neI : OpW X (compareOp .NotEq) (eI : En X.K Int) eI eB (fun _ _ => true) (fun i j => !decide (i = j)) := by
  intro pins s σ H x y v u Q I rx ry ⟨A, i, j, _, r1, r2, _, k⟩
  cases r1; cases r2
  exact op_ne pins s σ H _ _ v u Q I rx ry ⟨rfl, k _ _ (.refl _) (congrArg V.bl (by simp))⟩
theorem w_eqB : OpW X (compareOp .Eq) (eB : En X.K Bool) eB eB (fun _ _ => true) (fun i j => i == j) := by
  intro pins s σ H x y v u Q I rx ry ⟨A, i, j, _, r1, r2, _, k⟩
  cases r1; cases r2
  exact op_eq pins s σ H _ _ v u Q I rx ry ⟨rfl, k _ _ (.refl _) (congrArg V.bl dec_bl)⟩
theorem w_eqS : OpW X (compareOp .Eq) (eS : En X.K Str) eS eB (fun _ _ => true) (fun i j => decide (i = j)) := by
  intro pins s σ H x y v u Q I rx ry ⟨A, i, j, _, r1, r2, _, k⟩
  cases r1; cases r2
  exact op_eq pins s σ H _ _ v u Q I rx ry ⟨rfl, k _ _ (.refl _) (congrArg V.bl (by simp))⟩
theorem w_neS : OpW X (compareOp .NotEq) (eS : En X.K Str) eS eB (fun _ _ => true) (fun i j => !decide (i = j)) := by
  intro pins s σ H x y v u Q I rx ry ⟨A, i, j, _, r1, r2, _, k⟩
  cases r1; cases r2
  exact op_ne pins s σ H _ _ v u Q I rx ry ⟨rfl, k _ _ (.refl _) (congrArg V.bl (by simp))⟩

/-! ### tests and truth values -/
theorem tval {w : W Bool} (h : PX X PK pp ρ e w eB) (he : ∀ whole, isTrue e X.env whole = (do let v ← whole; standAt e.pos; holding [v] (truthy v)) := by intro _; rfl) : PTX X PK pp ρ e w :=
  (pt_val h he).weak fun σ H Q ⟨O, Φ, c, S, hw, k⟩ => ⟨O, Φ, c, S, hw, fun x v H' c' p ch S' r => ⟨x, r, k x H' c' p ch S'⟩⟩
theorem tnot {w : W Bool} (h : PTX X PK pp ρ e w) : PTX X PK pp ρ (.UnaryOp .Not e pos) (bnd w fun x => ret (!x)) :=
  (pt_not h).weak fun σ H Q ⟨O, Φ, c, S, hw, k⟩ => ⟨O, _, c, S, hw, fun x H' c' p ch S' => k _ H' c' p ch S'⟩
abbrev PWX (X : Cx) (PK : PoolK) (pp : PP) (ρ : List (Sl X.K)) (e : Expr) (w : W Bool) : Prop := PW X e (rdT PK pp ρ w)
theorem _root_.L2.PW.weak {X : Cx} {e : Expr} {t t' : TT} (h : PW X e t) (f : ∀ σ H Q, t' σ H Q → t σ H Q) : PW X e t' := ⟨fun wh pins s σ H Q I q => h.run wh pins s σ H Q I (f σ H Q q)⟩
theorem tw {w : W Bool} (h : PWX X PK pp ρ e w) : PTX X PK pp ρ e w := h.pt
theorem wand1 {w : W Bool} (h : PTX X PK pp ρ a w) : PWX X PK pp ρ (.BoolOp .And [a] pos) w := pw_and1 h
theorem wor1 {w : W Bool} (h : PTX X PK pp ρ a w) : PWX X PK pp ρ (.BoolOp .Or [a] pos) w := pw_or1 h
theorem wand {rest : List Expr} {w u : W Bool} (h : PTX X PK pp ρ a w) (h2 : PWX X PK pp ρ (.BoolOp .And (b :: rest) pos) u) : PWX X PK pp ρ (.BoolOp .And (a :: b :: rest) pos) (bnd w fun x => ite x u (ret false)) :=
  (pw_and h h2).weak fun σ H Q ⟨O, Φ, c, S, hw, k⟩ => ⟨O, _, c, S, hw, fun x H' c' p ch S' => by
    cases x with
    | true => exact ⟨O, Φ, c', S', p, fun y H2 c2 p2 ch2 S2 => k y H2 c2 p2 (ch.trans ch2) S2⟩
    | false => exact k false H' c' (by simpa [ite, ret] using p) ch S'⟩
theorem wor {rest : List Expr} {w u : W Bool} (h : PTX X PK pp ρ a w) (h2 : PWX X PK pp ρ (.BoolOp .Or (b :: rest) pos) u) : PWX X PK pp ρ (.BoolOp .Or (a :: b :: rest) pos) (bnd w fun x => ite x (ret true) u) :=
  (pw_or h h2).weak fun σ H Q ⟨O, Φ, c, S, hw, k⟩ => ⟨O, _, c, S, hw, fun x H' c' p ch S' => by
    cases x with
    | true => exact k true H' c' p ch S'
    | false => exact ⟨O, Φ, c', S', by simpa [ite] using p, fun y H2 c2 p2 ch2 S2 => k y H2 c2 p2 (ch.trans ch2) S2⟩⟩
/-- and, or, not as values: bools -/
theorem xone {op} {w : W α} {en : En X.K α} (h : PX X PK pp ρ a w en) : PX X PK pp ρ (.BoolOp op [a] pos) w en := pe_one h
theorem xand {rest : List Expr} {w u : W Bool} (h : PX X PK pp ρ a w eB) (h2 : PX X PK pp ρ (.BoolOp .And (b :: rest) pos) u eB) : PX X PK pp ρ (.BoolOp .And (a :: b :: rest) pos) (bnd w fun x => ite x u (ret false)) eB :=
  (pe_and h h2).weak fun σ H Q ⟨O, Φ, c, S, hw, k⟩ => ⟨O, _, c, S, hw, fun x v H' c' p ch S' r => by
    refine ⟨x, r, ?_⟩
    cases x with
    | true => exact ⟨O, Φ, c', S', p, fun y v H2 c2 p2 ch2 S2 => k y v H2 c2 p2 (ch.trans ch2) S2⟩
    | false => exact k false _ H' c' (by simpa [ite, ret] using p) ch S' rfl⟩
theorem xor {rest : List Expr} {w u : W Bool} (h : PX X PK pp ρ a w eB) (h2 : PX X PK pp ρ (.BoolOp .Or (b :: rest) pos) u eB) : PX X PK pp ρ (.BoolOp .Or (a :: b :: rest) pos) (bnd w fun x => ite x (ret true) u) eB :=
  (pe_or h h2).weak fun σ H Q ⟨O, Φ, c, S, hw, k⟩ => ⟨O, _, c, S, hw, fun x v H' c' p ch S' r => by
    refine ⟨x, r, ?_⟩
    cases x with
    | true => exact k true _ H' c' p ch S' rfl
    | false => exact ⟨O, Φ, c', S', by simpa [ite] using p, fun y v H2 c2 p2 ch2 S2 => k y v H2 c2 p2 (ch.trans ch2) S2⟩⟩
theorem xnot {w : W Bool} (h : PX X PK pp ρ a w eB) : PX X PK pp ρ (.UnaryOp .Not a pos) (bnd w fun x => ret (!x)) eB :=
  (pe_not h).weak fun σ H Q ⟨O, Φ, c, S, hw, k⟩ => ⟨O, _, c, S, hw, fun x v H' c' p ch S' r => ⟨x, r, k _ _ H' c' p ch S' rfl⟩⟩
theorem xif {c : Expr} {w : W Bool} {u v : W α} {en : En X.K α} (hc : PTX X PK pp ρ c w) (ha : PX X PK pp ρ a u en) (hb : PX X PK pp ρ b v en) : PX X PK pp ρ (.IfExp c a b pos) (bnd w fun x => ite x u v) en :=
  (pe_ifExp hc ha hb).weak fun σ H Q ⟨O, Φ, c, S, hw, k⟩ => ⟨O, _, c, S, hw, fun x H' c' p ch S' => by
    cases x with
    | true => exact ⟨O, Φ, c', S', p, fun y v H2 c2 p2 ch2 S2 => k y v H2 c2 p2 (ch.trans ch2) S2⟩
    | false => exact ⟨O, Φ, c', S', by simpa [ite] using p, fun y v H2 c2 p2 ch2 S2 => k y v H2 c2 p2 (ch.trans ch2) S2⟩⟩
/-- x is None, for a value that may be None -/
theorem xisN {j pos'} {w : W (Option α)} {en : En X.K α} (h : PX X PK pp ρ a w (eO en)) : PX X PK pp ρ (.Compare a [.Is] [.Constant .none j pos'] pos) (bnd w fun x => ret x.isNone) eB :=
  (pe_cmp (pc_isN h)).weak fun σ H Q ⟨O, Φ, c, S, hw, k⟩ => ⟨O, _, c, S, hw, fun x v H' c' p ch S' r => by
    cases x with
    | none =>
      have e : v = .non := r
      exact k _ _ H' c' p ch S' (by rw [e]; rfl)
    | some y => exact k _ _ H' c' p ch S' (by show V.bl _ = V.bl false; rw [decide_eq_false r.2])⟩

/-! ### lists, tuples -/
theorem axn : PAX X PK pp ρ [] (ret ()) aN := (pa_nil).weak fun σ H Q ⟨O, Φ, c, S, hw, k⟩ => k () [] H c hw .refl S rfl
theorem axc {es : List Expr} {w : W α} {u : W β} {en : En X.K α} {ea : EA X.K β} (h : PX X PK pp ρ e w en) (h2 : PAX X PK pp ρ es u ea) (hs : starEach (e :: es) X.env = (false, eval e X.env) :: starEach es X.env := by rfl) :
    PAX X PK pp ρ (e :: es) (bnd w fun x => bnd u fun y => ret (x, y)) (aC en ea) := (pa_cons h h2 hs).weak fun σ H Q ⟨O, Φ, c, S, hw, k⟩ =>
  ⟨O, _, c, S, hw, fun x v H1 c1 p1 ch1 S1 r1 => ⟨O, _, c1, S1, p1, fun y u H2 c2 p2 ch2 S2 r2 => k _ _ H2 c2 p2 (ch1.trans ch2) S2 ⟨v, u, rfl, en.mono ch2.mv r1, r2⟩⟩⟩
/-- the pool's name as the first argument -/
theorem axp (i : Nat) {x : Str} {es : List Expr} {u : W β} {ea : EA X.K β} (hg : get ρ i = .pl) (h2 : PAX X PK pp ρ es u ea) (hN : X.N[i]? = some x := by rfl)
    (hv : Vis X.env.scope x := by first | exact Or.inl rfl | exact Or.inr (Or.inl rfl) | exact Or.inr (Or.inr rfl)) (hs : starEach (.Name x pos :: es) X.env = (false, eval (.Name x pos) X.env) :: starEach es X.env := by rfl) (hd : (x == ("__debug__" : Str)) = false := by decide) (hcd : (x == ("__classdict__" : Str)) = false := by decide) :
    PAX X PK pp ρ (.Name x pos :: es) u (aPl ea) := (pa_cons (pe_var hN hv hd hcd) h2 hs).weak fun σ H Q ⟨O, Φ, c, S, hw, k⟩ => by
  have q := S.slots i
  rw [hg] at q
  obtain ⟨b, d, e, q⟩ := q
  exact ⟨_, q, O, Φ, c, S, hw, fun y u H2 c2 p2 ch2 S2 r2 => k _ _ H2 c2 p2 ch2 S2 ⟨b, d, u, e, rfl, r2⟩⟩
theorem own_nils {K : PySem.W.Frag} : ∀ n : Nat, owns (List.replicate n (Sl.nil : Sl K)) = []
  | 0 => rfl
  | n + 1 => own_nils n
theorem get_nils {K : PySem.W.Frag} : ∀ n i : Nat, get (List.replicate n (Sl.nil : Sl K)) i = .nil
  | 0, i => by cases i <;> rfl
  | n + 1, 0 => rfl
  | n + 1, i + 1 => get_nils n i
/-- items of one kind -/
def aL (en : En X.K α) : Nat → EA X.K (List α)
  | n => ⟨fun _ O H vs xs => F2 (en.r O H) vs xs ∧ vs.length = n, fun _ => List.replicate n .nil, fun m ⟨f, l⟩ => ⟨f.imp fun _ _ => en.mono m, l⟩, n, fun h => h.2, fun _ => by simp, fun _ => own_nils n, fun i _ => by rw [get_nils n i]; exact True.intro⟩
theorem aln {en : En X.K α} : PAX X PK pp ρ [] (ret []) (aL en 0) := (pa_nil).weak fun σ H Q ⟨O, Φ, c, S, hw, k⟩ => k _ [] H c hw .refl S ⟨.nil, rfl⟩
theorem alc {es : List Expr} {w : W α} {u : W (List α)} {en : En X.K α} {n : Nat} (h : PX X PK pp ρ e w en) (h2 : PAX X PK pp ρ es u (aL en n)) (hs : starEach (e :: es) X.env = (false, eval e X.env) :: starEach es X.env := by rfl) :
    PAX X PK pp ρ (e :: es) (bnd w fun x => bnd u fun y => ret (x :: y)) (aL en (n + 1)) := (pa_cons h h2 hs).weak fun σ H Q ⟨O, Φ, c, S, hw, k⟩ =>
  ⟨O, _, c, S, hw, fun x v H1 c1 p1 ch1 S1 r1 => ⟨O, _, c1, S1, p1, fun y u H2 c2 p2 ch2 S2 r2 => k _ _ H2 c2 p2 (ch1.trans ch2) S2 ⟨.cons (en.mono ch2.mv r1) r2.1, by rw [List.length_cons, r2.2]⟩⟩⟩
theorem same_new {H : Hp} {p : Addr} {o : HO} (h : H p = none) : Same H (upd H p o) := fun b x e => by
  rw [upd_ne (ne_of_none e h)]
  exact e
theorem new_at {A : AS} {H : Hp} {p : Addr} (d : Dom A H) (h : H p = none) : ¬ A p := fun z => d p z h
theorem xlst {es : List Expr} {w : W (List α)} {en : En X.K α} {n : Nat} (h : PAX X PK pp ρ es w (aL en n)) (hn : n ≤ 1000000 := by decide) : PX X PK pp ρ (.List es pos) w (eL en) := (pe_lst h).weak fun σ H Q ⟨O, Φ, c, S, hw, k⟩ =>
  ⟨O, _, c, S, hw, fun x vs H1 c1 p1 ch1 S1 r1 => ⟨by have := r1.2; rw [sizeLine_eq]; omega, fun p np => by
    have s := same_new (o := .lst vs) np
    exact k _ _ _ c1 p1 (ch1.trans (.of s)) (S1.same s) ⟨p, vs, rfl, ⟨new_at S1.av np, upd_same⟩, r1.1.imp fun _ _ => en.mono (Mv.same s)⟩⟩⟩
theorem xtup2 {es : List Expr} {w : W (α × β × Unit)} {e1 : En X.K α} {e2 : En X.K β} {x1} (h : PAX X PK pp ρ es w (aC e1 (aC e2 aN))) : PX X PK pp ρ (.Tuple es x1 pos) (bnd w fun x => ret (x.1, x.2.1)) (eP e1 e2) := (pe_tup h).weak fun σ H Q ⟨O, Φ, c, S, hw, k⟩ =>
  ⟨O, _, c, S, hw, fun x vs H1 c1 p1 ch1 S1 r1 => by
    obtain ⟨v, _, rfl, q1, u, _, rfl, q2, rfl⟩ := r1
    refine ⟨by show 2 ≤ sizeLine; decide, fun p np => ?_⟩
    have s := same_new (o := .tup [v, u]) np
    exact k _ _ _ c1 p1 (ch1.trans (.of s)) (S1.same s) ⟨p, v, u, rfl, .inl ⟨new_at S1.av np, .inl upd_same⟩, e1.mono (Mv.same s) q1, e2.mono (Mv.same s) q2⟩⟩

/-! ### subscripts -/
def IxW (X : Cx) (e1 : En X.K α) (e2 : En X.K β) (e3 : En X.K γ) (pre : α → β → Bool) (res : α → β → γ) : Prop :=
  IxR X fun x y H Q => ∃ A a b, Dom A H ∧ e1.r A H x a ∧ e2.r A H y b ∧ pre a b = true ∧ ∀ v, e3.r A H v (res a b) → Q v H
theorem xix {wa : W α} {wb : W β} {e1 : En X.K α} {e2 : En X.K β} {e3 : En X.K γ} {pre : α → β → Bool} {res : α → β → γ} (ho : IxW X e1 e2 e3 pre res) (ha : PX X PK pp ρ a wa e1) (hb : PX X PK pp ρ b wb e2) (hs : PlainIx b := by exact fun _ _ => rfl) :
    PX X PK pp ρ (.Subscript a b pos) (bnd wa fun x => bnd wb fun y => grd (pre x y) (ret (res x y))) e3 := (pe_ix ho ha hb hs).weak fun σ H Q ⟨O, Φ, c, S, hw, k⟩ =>
  two S hw fun x y v u H' c' p ch S' r1 r2 => ⟨_, x, y, S'.av, r1, r2, p.1, fun z r3 => k _ _ _ _ p.2 ch S' r3⟩
/-- a pair's places -/
theorem xfst {w : W (α × β)} {e1 : En X.K α} {e2 : En X.K β} {j p'} (h : PX X PK pp ρ a w (eP e1 e2)) : PX X PK pp ρ (.Subscript a (.Constant (.int 0) j p') pos) (bnd w fun x => ret x.1) e1 :=
  (pe_ix ix_tup h pe_int (fun _ _ => rfl)).weak fun σ H Q ⟨O, Φ, c, S, hw, k⟩ => ⟨O, _, c, S, hw, fun x v H' c' p ch S' r => by
    obtain ⟨a, u, w, rfl, t, q1, q2⟩ := r
    exact ⟨a, [u, w], 0, u, rfl, rfl, t.sq, rfl, k _ _ H' c' p ch S' q1⟩⟩
theorem xsnd {w : W (α × β)} {e1 : En X.K α} {e2 : En X.K β} {j p'} (h : PX X PK pp ρ a w (eP e1 e2)) : PX X PK pp ρ (.Subscript a (.Constant (.int 1) j p') pos) (bnd w fun x => ret x.2) e2 :=
  (pe_ix ix_tup h pe_int (fun _ _ => rfl)).weak fun σ H Q ⟨O, Φ, c, S, hw, k⟩ => ⟨O, _, c, S, hw, fun x v H' c' p ch S' r => by
    obtain ⟨a, u, w, rfl, t, q1, q2⟩ := r
    exact ⟨a, [u, w], 1, w, rfl, rfl, t.sq, rfl, k _ _ H' c' p ch S' q2⟩⟩
/-- a list at a place of any sign -/
def ixOk {α : Type} (xs : List α) (i : Int) : Bool := (ixN xs.length i).isSome
def ixAt {α : Type} [Inhabited α] (xs : List α) (i : Int) : α := xs.getD ((ixN xs.length i).getD 0) default
theorem ixN_lt {n : Nat} {i : Int} {j : Nat} (h : ixN n i = some j) : j < n := (ixN_seq h).2.1
theorem w_ixR [Inhabited α] {en : En X.K α} : IxW X (eR en) eI en ixOk ixAt := by
  intro va sl pins s σ H x y v u Q I rx ry ⟨A, xs, i, _, ⟨a, vs, e1, l, f⟩, r2, p, k⟩ hs
  obtain ⟨j, hj⟩ := Option.isSome_iff_exists.mp p
  have hlt := ixN_lt hj
  obtain ⟨v1, g, rv⟩ := f.get (List.getElem?_eq_getElem hlt)
  refine ix_list va sl pins s σ H x y v u Q I rx ry ⟨a, vs, i, v1, e1, r2, l.sq, ?_, k _ ?_⟩ hs
  · unfold atI
    rw [f.length, hj]
    exact g
  · unfold ixAt
    rw [hj, Option.getD_some, List.getD_eq_getElem?_getD, List.getElem?_eq_getElem hlt]
    exact rv
theorem w_ixL [Inhabited α] {en : En X.K α} : IxW X (eL en) eI en ixOk ixAt := by
  intro va sl pins s σ H x y v u Q I rx ry ⟨A, xs, i, d, r1, r2, p, k⟩ hs
  exact w_ixR va sl pins s σ H x y v u Q I rx ry ⟨A, xs, i, d, eL_R r1, r2, p, k⟩ hs
theorem xslice {w : W (List α)} {en : En X.K α} {lo hi : Option Expr} {wl wh : W (Option Int)} {p2} (h : PX X PK pp ρ a w (eL en))
    (hl : PO X lo (fun σ H Q => ∃ O Φ c, Sat PK O pp ρ c σ H ∧ wl Φ noX c ∧ ∀ x H' c', Φ x c' → Chg pp H H' → Sat PK O pp ρ c' σ H' → Q x H'))
    (hh : PO X hi (fun σ H Q => ∃ O Φ c, Sat PK O pp ρ c σ H ∧ wh Φ noX c ∧ ∀ x H' c', Φ x c' → Chg pp H H' → Sat PK O pp ρ c' σ H' → Q x H')) :
    PX X PK pp ρ (.Subscript a (.Slice lo hi none p2) pos) (bnd w fun x => bnd wl fun l => bnd wh fun u => ret ((x.drop (HT.sIx x.length 0 l)).take (HT.sIx x.length x.length u - HT.sIx x.length 0 l))) (eL en) :=
  (pe_slice sl_list h hl hh).weak fun σ H Q ⟨O, Φ, c, S, hw, k⟩ => ⟨O, _, c, S, hw, fun x v H1 c1 p1 ch1 S1 r1 => ⟨O, _, c1, S1, p1, fun l H2 c2 p2 ch2 S2 => ⟨O, _, c2, S2, p2, fun u H3 c3 p3 ch3 S3 => by
    obtain ⟨a, vs, rfl, l1, f⟩ := (eL en).mono (ch2.trans ch3).mv r1
    refine ⟨a, vs, rfl, l1.sq, fun p np => ?_⟩
    have s := same_new (o := .lst (cutV vs l u)) np
    refine k _ _ _ c3 p3 (((ch1.trans ch2).trans ch3).trans (.of s)) (S3.same s) ⟨p, _, rfl, ⟨new_at S3.av np, upd_same⟩, ?_⟩
    have e : cutV vs l u = (vs.drop (HT.sIx x.length 0 l)).take (HT.sIx x.length x.length u - HT.sIx x.length 0 l) := by
      unfold cutV
      rw [f.length]
    have g : F2 (en.r (Av O pp ρ) H3) (cutV vs l u) _ := e ▸ (f.drop (HT.sIx x.length 0 l)).take (HT.sIx x.length x.length u - HT.sIx x.length 0 l)
    exact g.imp fun _ _ => en.mono (Mv.same s)⟩⟩⟩
abbrev POX (X : Cx) (PK : PoolK) (pp : PP) (ρ : List (Sl X.K)) (e : Option Expr) (w : W (Option Int)) : Prop := PO X e (fun σ H Q => ∃ O Φ c, Sat PK O pp ρ c σ H ∧ w Φ noX c ∧ ∀ x H' c', Φ x c' → Chg pp H H' → Sat PK O pp ρ c' σ H' → Q x H')
theorem _root_.L2.PO.weak {X : Cx} {e : Option Expr} {t t' : TO} (h : PO X e t) (f : ∀ σ H Q, t' σ H Q → t σ H Q) : PO X e t' := ⟨fun pins s σ H Q I q => h.run pins s σ H Q I (f σ H Q q)⟩
theorem on_none : POX X PK pp ρ none (ret none) := (po_none).weak fun σ H Q ⟨O, Φ, c, S, hw, k⟩ => k _ H c hw .refl S
theorem on_some {w : W Int} (h : PX X PK pp ρ e w eI) : POX X PK pp ρ (some e) (bnd w fun i => ret (some i)) := (po_some h).weak fun σ H Q ⟨O, Φ, c, S, hw, k⟩ => ⟨O, _, c, S, hw, fun x v H' c' p ch S' r => ⟨x, r, k _ H' c' p ch S'⟩⟩
end
end Dc
/-! DcC: defs and their calls, statements, loops, comprehensions. -/
namespace Dc
open PySem PySem.Spec L2
section
variable {K : PySem.W.Frag} {PK : PoolK} {pp : PP} {ρ ρ1 ρ2 : List (Sl K)} {O : AS} {c c' : Nat} {σ : St} {H H' H1 H2 : Hp} {α β γ δ : Type}

/-! ### how a state moves -/
structure Stp (pp : PP) (ρ ρ1 : List (Sl K)) (H H1 : Hp) : Prop where
  keep : ∀ a o, H a = some o → ¬ foot pp a → a ∉ owns ρ → H1 a = some o
  new : ∀ a ∈ owns ρ1, a ∈ owns ρ ∨ (H a = none ∧ ¬ foot pp a)
theorem Stp.trans (x : Stp pp ρ ρ1 H H1) (y : Stp pp ρ1 ρ2 H1 H2) : Stp pp ρ ρ2 H H2 := by
  refine ⟨fun a o e n no => y.keep a o (x.keep a o e n no) n fun z => ?_, fun a z => ?_⟩
  · rcases x.new a z with q | q
    · exact no q
    · rw [e] at q; cases q.1
  · rcases y.new a z with q | q
    · exact x.new a q
    · by_cases h : a ∈ owns ρ
      · exact .inl h
      · refine .inr ⟨?_, q.2⟩
        cases e : H a with
        | none => rfl
        | some o =>
          have := x.keep a o e q.2 h
          rw [q.1] at this; cases this
theorem Stp.of_chg (x : Chg pp H H1) (h : ∀ a ∈ owns ρ1, a ∈ owns ρ) : Stp pp ρ ρ1 H H1 := ⟨fun a o e n _ => x a o e n, fun a z => .inl (h a z)⟩
theorem Stp.mv (x : Stp pp ρ ρ1 H H1) : Mv (Av O pp ρ) (Av O pp ρ1) H H1 := fun a o n e => by
  refine ⟨x.keep a o e (fun z => n (.inr (.inl z))) fun z => n (.inr (.inr z)), fun z => ?_⟩
  rcases z with z | z | z
  · exact n (.inl z)
  · exact n (.inr (.inl z))
  · rcases x.new a z with q | q
    · exact n (.inr (.inr q))
    · rw [e] at q; cases q.1
theorem Stp.refl : Stp pp ρ ρ H H := ⟨fun _ _ e _ _ => e, fun _ z => .inl z⟩
/-- behind a call: the pool has moved on -/
theorem Sat.chg (S : Sat PK O pp ρ c σ H) (ch : Chg pp H H') (p : PoolOk PK pp H' c') : Sat PK O pp ρ c' σ H' := by
  refine ⟨S.len, S.nd, S.new, fun a h => ?_, p, fun i => ?_⟩
  · by_cases hf : foot pp a
    · cases pp with
      | none => exact hf.elim
      | some q =>
        obtain ⟨a1, b1⟩ := q
        have q : PK.r H' a1 b1 c' := p
        rcases (show a = a1 ∨ a = b1 from hf) with e | e
        · rw [e]; exact (PK.dom q).1
        · rw [e]; exact (PK.dom q).2
    · cases e : H a with
      | none => exact absurd e (S.dom a h)
      | some o => rw [ch a o e hf]; simp
  · refine (S.slots i).mv ch.mv fun a ha => ?_
    cases e : get ρ i with
    | ow b on x =>
      rw [e] at ha
      have ha : a = b := by simpa [own1] using ha
      subst ha
      have q := S.slots i
      rw [e] at q
      have hn := (S.new a (owns_mem e)).2
      cases e2 : H a with
      | none => exact absurd e2 (on.dom q.2)
      | some o => exact ch a o e2 hn
    | _ => rw [e] at ha; cases ha
/-- a slot is given a value that nobody writes at -/
theorem Sat.put (S : Sat PK O pp ρ c σ H) {i : Nat} {v : V} {en : En K α} {x : α} (r : en.r (Av O pp ρ) H v x) : Sat PK O pp (put ρ i (.sh en x)) c (σ.set i (some v)) H := by
  have less : ∀ a, Av O pp (Dc.put ρ i (.sh en x)) a → Av O pp ρ a := fun a h => by
    rcases h with h | h | h
    · exact .inl h
    · exact .inr (.inl h)
    · rcases owns_put h with h | h
      · cases h
      · exact .inr (.inr h)
  refine ⟨by rw [List.length_set, put_len]; exact S.len, owns_put_nodup S.nd (own1_nodup _) (fun b hb => by cases hb), fun a ha => ?_, S.dom, S.pool, fun j => ?_⟩
  · rcases owns_put ha with h | h
    · cases h
    · exact S.new a h
  · by_cases hj : j = i
    · subst hj
      rcases get_put_self (ρ := ρ) (i := j) (s := Sl.sh en x) with e | e
      · rw [e]
        have hl := get_len (ρ := Dc.put ρ j (.sh en x)) (i := j) (by rw [e]; intro z; cases z)
        rw [put_len, ← S.len] at hl
        exact ⟨v, List.getElem?_set_self hl, en.mono (Mv.less less) r⟩
      · rw [e]; exact True.intro
    · rw [get_put_ne hj]
      have q := (S.slots j).mv (Mv.less less) (fun _ _ => rfl)
      cases e : get ρ j with
      | nil => exact True.intro
      | sh en2 y =>
        rw [e] at q
        obtain ⟨v2, e2, r2⟩ := q
        exact ⟨v2, by rw [List.getElem?_set_ne (Ne.symm hj)]; exact e2, r2⟩
      | ow a on y =>
        rw [e] at q
        exact ⟨by rw [List.getElem?_set_ne (Ne.symm hj)]; exact q.1, q.2⟩
      | pl =>
        rw [e] at q
        obtain ⟨a, b, e2, e3⟩ := q
        exact ⟨a, b, e2, by rw [List.getElem?_set_ne (Ne.symm hj)]; exact e3⟩
/-- a slot forgotten -/
theorem Sat.drop (S : Sat PK O pp ρ c σ H) {ρ' : List (Sl K)} (hl : ρ'.length = ρ.length) (hn : (owns ρ').Nodup) (ho : ∀ a ∈ owns ρ', a ∈ owns ρ) (hs : ∀ i, get ρ' i = .nil ∨ get ρ' i = get ρ i) : Sat PK O pp ρ' c σ H := by
  have less : ∀ a, Av O pp ρ' a → Av O pp ρ a := fun a h => by
    rcases h with h | h | h
    · exact .inl h
    · exact .inr (.inl h)
    · exact .inr (.inr (ho a h))
  refine ⟨S.len.trans hl.symm, hn, fun a h => S.new a (ho a h), S.dom, S.pool, fun i => ?_⟩
  rcases hs i with e | e
  · rw [e]; exact True.intro
  · rw [e]; exact (S.slots i).mv (Mv.less less) (fun _ _ => rfl)
inductive Fit : List (Sl K) → List (Sl K) → Prop where
  | nil : Fit [] []
  | eq {s r r'} : Fit r r' → Fit (s :: r) (s :: r')
  | dr {s r r'} : Fit r r' → Fit (s :: r) (.nil :: r')
theorem Fit.len {r r' : List (Sl K)} (f : Fit r r') : r'.length = r.length := by
  induction f with
  | nil => rfl
  | eq _ ih => simp [ih]
  | dr _ ih => simp [ih]
theorem Fit.owns {r r' : List (Sl K)} (f : Fit r r') : ∀ a ∈ owns r', a ∈ Dc.owns r := by
  induction f with
  | nil => intro a h; exact h
  | eq _ ih =>
    intro a h
    rcases List.mem_append.mp h with h | h
    · exact List.mem_append.mpr (.inl h)
    · exact List.mem_append.mpr (.inr (ih a h))
  | dr _ ih =>
    intro a h
    rcases List.mem_append.mp h with h | h
    · cases h
    · exact List.mem_append.mpr (.inr (ih a h))
theorem Fit.nd {r r' : List (Sl K)} (f : Fit r r') : (Dc.owns r).Nodup → (Dc.owns r').Nodup := by
  induction f with
  | nil => intro h; exact h
  | @eq s r r' f ih =>
    intro h
    have h : (own1 s ++ Dc.owns r).Nodup := h
    show (own1 s ++ Dc.owns r').Nodup
    rw [List.nodup_append] at h ⊢
    exact ⟨h.1, ih h.2.1, fun a ha b hb => h.2.2 a ha b (f.owns b hb)⟩
  | @dr s r r' f ih =>
    intro h
    have h : (own1 s ++ Dc.owns r).Nodup := h
    rw [List.nodup_append] at h
    exact ih h.2.1
theorem Fit.get {r r' : List (Sl K)} (f : Fit r r') : ∀ i, get r' i = .nil ∨ get r' i = Dc.get r i := by
  induction f with
  | nil => intro i; exact .inr rfl
  | eq _ ih =>
    intro i
    cases i with
    | zero => exact .inr rfl
    | succ i => exact ih i
  | dr _ ih =>
    intro i
    cases i with
    | zero => exact .inl rfl
    | succ i => exact ih i
theorem Sat.fit {r r' : List (Sl K)} (S : Sat PK O pp r c σ H) (f : Fit r r') : Sat PK O pp r' c σ H := S.drop f.len (f.nd S.nd) f.owns f.get
theorem Fit.refl : ∀ {r : List (Sl K)}, Fit r r
  | [] => .nil
  | _ :: _ => .eq Fit.refl
theorem Fit.stp {r r' : List (Sl K)} (f : Fit r r') : Stp pp r r' H H := ⟨fun _ _ e _ _ => e, fun a z => .inl (f.owns a z)⟩

/-! ### ends of blocks -/
inductive Fl (γ δ β : Type) where
  | nx (s : γ) | bk (s : δ) | ct (s : δ) | rt (r : β)
def sq {γ' : Type} (k : γ → W (Fl γ' δ β)) : Fl γ δ β → W (Fl γ' δ β)
  | .nx s => k s
  | .bk s => ret (.bk s)
  | .ct s => ret (.ct s)
  | .rt r => ret (.rt r)
def FlOk (PK : PoolK) (pp : PP) (O : AS) (ρ : List (Sl K)) (H : Hp) (ρ' : γ → List (Sl K)) (ρl : δ → List (Sl K)) (er : En K β) (D : Ends) (H' : Hp) (c' : Nat) : Fl γ δ β → Prop
  | .nx s => ∀ σ', Stp pp ρ (ρ' s) H H' → Sat PK O pp (ρ' s) c' σ' H' → D.nx σ' H'
  | .bk s => ∀ σ', Stp pp ρ (ρl s) H H' → Sat PK O pp (ρl s) c' σ' H' → D.bk σ' H'
  | .ct s => ∀ σ', Stp pp ρ (ρl s) H H' → Sat PK O pp (ρl s) c' σ' H' → D.ct σ' H'
  | .rt r => ∀ v, (∀ a o, H a = some o → ¬ foot pp a → a ∉ owns ρ → H' a = some o) → PoolOk PK pp H' c' → er.r (fun a => O a ∨ foot pp a) H' v r → D.rt v H'
def rdS (PK : PoolK) (pp : PP) (ρ : List (Sl K)) (w : W (Fl γ δ β)) (ρ' : γ → List (Sl K)) (ρl : δ → List (Sl K)) (er : En K β) : TS := fun D σ H => ∃ O Φ c, Sat PK O pp ρ c σ H ∧ w Φ noX c ∧
  ∀ fl H' c', Φ fl c' → FlOk PK pp O ρ H ρ' ρl er D H' c' fl
/-- a statement that only goes on; ι: new addresses -/
def rdN {ι : Type} (PK : PoolK) (pp : PP) (ρ : List (Sl K)) (w : W γ) (ρ1 : ι → γ → List (Sl K)) : TS := fun D σ H => ∃ O Φ c, Sat PK O pp ρ c σ H ∧ w Φ noX c ∧
  ∀ i s H' c', Φ s c' → ∀ σ', Stp pp ρ (ρ1 i s) H H' → Sat PK O pp (ρ1 i s) c' σ' H' → D.nx σ' H'
theorem FlOk.mono {ρ ρ1 : List (Sl K)} {H H1 : Hp} {ρ' : γ → List (Sl K)} {ρl : δ → List (Sl K)} {er : En K β} {D : Ends} {fl : Fl γ δ β} (st : Stp pp ρ ρ1 H H1) (h : FlOk PK pp O ρ H ρ' ρl er D H' c' fl) : FlOk PK pp O ρ1 H1 ρ' ρl er D H' c' fl := by
  cases fl with
  | nx s => exact fun σ' t S => h σ' (st.trans t) S
  | bk s => exact fun σ' t S => h σ' (st.trans t) S
  | ct s => exact fun σ' t S => h σ' (st.trans t) S
  | rt r => exact fun v t p q => h v (fun a o e n no => t a o (st.keep a o e n no) n fun z => by
      rcases st.new a z with y | y
      · exact no y
      · rw [e] at y; cases y.1) p q
end
section
variable {X : Cx} {PK : PoolK} {pp : PP} {ρ : List (Sl X.K)} {α β γ δ ι : Type}
abbrev PSX (X : Cx) (PK : PoolK) (pp : PP) (ρ : List (Sl X.K)) (ss : List Stmt) (w : W (Fl γ δ β)) (ρ' : γ → List (Sl X.K)) (ρl : δ → List (Sl X.K)) (er : En X.K β) : Prop := PSs X ss (rdS PK pp ρ w ρ' ρl er)
theorem _root_.L2.PS.weak {X : Cx} {e : Stmt} {t t' : TS} (h : PS X e t) (f : ∀ D σ H, t' D σ H → t D σ H) : PS X e t' := ⟨fun pins s σ H D I q => h.run pins s σ H D I (f D σ H q)⟩
theorem _root_.L2.PSs.weak {X : Cx} {e : List Stmt} {t t' : TS} (h : PSs X e t) (f : ∀ D σ H, t' D σ H → t D σ H) : PSs X e t' := ⟨fun pins s σ H D I q => h.run pins s σ H D I (f D σ H q)⟩
theorem _root_.L2.PSs.ex {X : Cx} {e : List Stmt} {ι : Type} {t : ι → TS} (h : ∀ i, PSs X e (t i)) : PSs X e (fun D σ H => ∃ i, t i D σ H) := ⟨fun pins s σ H D I ⟨i, q⟩ => (h i).run pins s σ H D I q⟩
variable {st : Stmt} {rest : List Stmt} {e : Expr} {pos : Pos} {ρ' : γ → List (Sl X.K)} {ρl : δ → List (Sl X.K)} {er : En X.K β}

theorem snil {s : γ} (f : Fit ρ (ρ' s)) : PSX X PK pp ρ [] (ret (.nx s)) ρ' ρl er := (pss_nil).weak fun D σ H ⟨O, Φ, c, S, hw, k⟩ => k _ H c hw σ f.stp (S.fit f)
/-- a statement, then the rest -/
theorem sx {γ1 : Type} {w : W γ1} {ρ1 : ι → γ1 → List (Sl X.K)} {kk : γ1 → W (Fl γ δ β)} (h : PS X st (rdN PK pp ρ w ρ1)) (h2 : ∀ i s, PSX X PK pp (ρ1 i s) rest (kk s) ρ' ρl er) : PSX X PK pp ρ (st :: rest) (bnd w kk) ρ' ρl er :=
  (pss_cons h (PSs.ex fun p : ι × γ1 => h2 p.1 p.2)).weak fun D σ H ⟨O, Φ, c, S, hw, k⟩ => ⟨O, _, c, S, hw, fun i s H' c' p σ' t S' => ⟨(i, s), O, Φ, c', S', p, fun fl H2 c2 q => (k fl H2 c2 q).mono t⟩⟩
theorem sq_ {γ1 : Type} {w : W (Fl γ1 δ β)} {ρ1 : γ1 → List (Sl X.K)} {kk : γ1 → W (Fl γ δ β)} (h : PS X st (rdS PK pp ρ w ρ1 ρl er)) (h2 : ∀ s, PSX X PK pp (ρ1 s) rest (kk s) ρ' ρl er) : PSX X PK pp ρ (st :: rest) (bnd w (sq kk)) ρ' ρl er :=
  (pss_cons h (PSs.ex fun s : γ1 => h2 s)).weak fun D σ H ⟨O, Φ, c, S, hw, k⟩ => ⟨O, _, c, S, hw, fun fl H' c' p => by
    cases fl with
    | nx s => exact fun σ' t S' => ⟨s, O, Φ, c', S', p, fun fl H2 c2 q => (k fl H2 c2 q).mono t⟩
    | bk s => exact k (.bk s) H' c' p
    | ct s => exact k (.ct s) H' c' p
    | rt r => exact k (.rt r) H' c' p⟩
theorem sret {w : W β} (h : PX X PK pp ρ e w er) : PSX X PK pp ρ (.Return (some e) pos :: rest) (bnd w fun x => ret (.rt x)) ρ' ρl er :=
  (pss_cons (ps_ret h) pss_never).weak fun D σ H ⟨O, Φ, c, S, hw, k⟩ => ⟨O, _, c, S, hw, fun x v H' c' p ch S' r => k _ H' c' p v (fun a o e n _ => ch a o e n) S'.pool (er.mono (Mv.less fun a h => by
    rcases h with h | h
    · exact .inl h
    · exact .inr (.inl h)) r)⟩
theorem sretN {er : En X.K Unit} (he : ∀ O H, er.r O H .non ()) : PSX X PK pp ρ (.Return none pos :: rest) (ret (.rt ())) ρ' ρl er :=
  (pss_cons ps_retN pss_never).weak fun D σ H ⟨O, Φ, c, S, hw, k⟩ => k _ H c hw _ (fun a o e n _ => e) S.pool (he _ _)
theorem sbrk {s : δ} (f : Fit ρ (ρl s)) : PSX X PK pp ρ (.Break pos :: rest) (ret (.bk s)) ρ' ρl er := (pss_cons ps_break pss_never).weak fun D σ H ⟨O, Φ, c, S, hw, k⟩ => k _ H c hw σ f.stp (S.fit f)
theorem scont {s : δ} (f : Fit ρ (ρl s)) : PSX X PK pp ρ (.Continue pos :: rest) (ret (.ct s)) ρ' ρl er := (pss_cons ps_continue pss_never).weak fun D σ H ⟨O, Φ, c, S, hw, k⟩ => k _ H c hw σ f.stp (S.fit f)
/-- a statement that is never reached -/
theorem snever : PSX X PK pp ρ rest stuck ρ' ρl er := (pss_never).weak fun D σ H ⟨O, Φ, c, S, hw, k⟩ => hw
/-- x = e -/
theorem nset_ {i : Nat} {w : W α} {en : En X.K α} (h : PS X st (tAsg (rdE PK pp ρ w en) (gName i))) : PS X st (rdN PK pp ρ w fun (_ : Unit) x => put ρ i (.sh en x)) :=
  h.weak fun D σ H ⟨O, Φ, c, S, hw, k⟩ => ⟨O, _, c, S, hw, fun x v H' c' p ch S' r => k () x H' c' p _ (.of_chg ch fun a z => by
    rcases owns_put z with z | z
    · cases z
    · exact z) (S'.put r)⟩
theorem nset (i : Nat) {x : Str} {pos' : Pos} {w : W α} {en : En X.K α} (hN : X.N.Nodup) (he : PX X PK pp ρ e w en) (hi : X.N[i]? = some x := by rfl) (hx : Loc X.env.scope x := by first | exact Or.inl rfl | exact Or.inr rfl) (hs : swapsWith e (some (.Name x pos')) pos.line X.env = pure false := by rfl)
    (hf : X.fn x = true ∨ X.env.scope.names.lookup x = some .local := by first | exact .inl rfl | exact .inr rfl) : PS X (.Assign [.Name x pos'] e pos) (rdN PK pp ρ w fun (_ : Unit) x => put ρ i (.sh en x)) := nset_ (ps_set hN hi hx he hs hf)
/-- x op= e -/
theorem naug (i : Nat) {x : Str} {pos' : Pos} {op : Operator} {w : W β} {e1 : En X.K α} {e2 : En X.K β} {e3 : En X.K ι} {pre : α → β → Bool} {res : α → β → ι} {y : α} (hN : X.N.Nodup) (hg : get ρ i = .sh e1 y) (he : PX X PK pp ρ e w e2) (ho : OpW X (inplaceOp op) e1 e2 e3 pre res) (hi : X.N[i]? = some x := by rfl)
    (hx : Loc X.env.scope x := by first | exact Or.inl rfl | exact Or.inr rfl) (hf : X.fn x = true ∨ X.env.scope.names.lookup x = some .local := by first | exact .inl rfl | exact .inr rfl) :
    PS X (.AugAssign (.Name x pos') op e pos) (rdN PK pp ρ (bnd w fun z => grd (pre y z) (ret (res y z))) fun (_ : Unit) x => put ρ i (.sh e3 x)) :=
  (ps_aug hN hi hx he ho hf).weak fun D σ H ⟨O, Φ, c, S, hw, k⟩ => by
    have q := S.slots i
    rw [hg] at q
    obtain ⟨v, e, r⟩ := q
    exact ⟨v, e, O, _, c, S, hw, fun z u H' c' p ch S' r2 => ⟨_, y, z, S'.av, e1.mono ch.mv r, r2, p.1, fun o H2 s r3 => k () _ H2 c' p.2 _ (.of_chg (ch.trans (.of s)) fun a z => by
      rcases owns_put z with z | z
      · cases z
      · exact z) ((S'.same s).put r3)⟩⟩
theorem wi_add : OpW X (inplaceOp .Add) (eI : En X.K Int) eI eI (fun _ _ => true) (· + ·) := opII iop_add
theorem wi_sub : OpW X (inplaceOp .Sub) (eI : En X.K Int) eI eI (fun _ _ => true) (· - ·) := opII iop_sub
/-- an expression whose value is dropped -/
theorem nexpr {w : W α} {en : En X.K α} (h : PX X PK pp ρ e w en) (hs : swapsWith e none pos.line X.env = pure false := by rfl) : PS X (.Expr e pos) (rdN PK pp ρ w fun (_ : Unit) _ => ρ) :=
  (ps_expr h hs).weak fun D σ H ⟨O, Φ, c, S, hw, k⟩ => ⟨O, _, c, S, hw, fun x v H' c' p ch S' r => k () x H' c' p σ (.of_chg ch fun _ z => z) S'⟩
theorem npass : PS X (.Pass pos) (rdN PK pp ρ (ret ()) fun (_ : Unit) _ => ρ) := (ps_pass).weak fun D σ H ⟨O, Φ, c, S, hw, k⟩ => k () () H c hw σ .refl S
/-- if -/
theorem nif {c : Expr} {a b : List Stmt} {w : W Bool} {u v : W (Fl γ δ β)} (hc : PTX X PK pp ρ c w) (ha : PSX X PK pp ρ a u ρ' ρl er) (hb : PSX X PK pp ρ b v ρ' ρl er) : PS X (.If c a b pos) (rdS PK pp ρ (bnd w fun x => ite x u v) ρ' ρl er) :=
  (ps_if hc ha hb).weak fun D σ H ⟨O, Φ, c, S, hw, k⟩ => ⟨O, _, c, S, hw, fun x H' c' p ch S' => by
    have st : Stp pp ρ ρ H H' := .of_chg ch fun _ z => z
    cases x with
    | true => exact ⟨O, Φ, c', S', p, fun fl H2 c2 q => (k fl H2 c2 q).mono st⟩
    | false => exact ⟨O, Φ, c', S', by simpa [ite] using p, fun fl H2 c2 q => (k fl H2 c2 q).mono st⟩⟩
end
end Dc
/-! DcD: defs and their calls, walks, loops, comprehensions. -/
namespace Dc
open PySem PySem.Spec L2
open PyProof.Rows (envOfC)

/-! ### defs -/
/-- what a def promises that is told by a function into W -/
def spW {K : PySem.W.Frag} {α β : Type} (PK : PoolK) (ea : EA K α) (f : α → W β) (er : En K β) : Sp := fun vs H Q _ => ∃ pp O x Φ c, Dom O H ∧ (∀ a, foot pp a → O a) ∧ PoolOk PK pp H c ∧ ea.r pp O H vs x ∧ f x Φ noX c ∧
  ∀ y v H' c', Φ y c' → Chg pp H H' → PoolOk PK pp H' c' → er.r O H' v y → Q v H'
def fnR {β : Type} (w : W (Fl Empty Empty β)) : W β := bnd w fun fl => match fl with | .rt r => ret r | .nx z => nomatch z | .bk z => nomatch z | .ct z => nomatch z
def fnU (w : W (Fl Unit Empty Unit)) : W Unit := bnd w fun fl => match fl with | .rt r => ret r | .nx _ => ret () | .bk z => nomatch z | .ct z => nomatch z
def nilsTo {K : PySem.W.Frag} (n : Nat) (l : List (Sl K)) : List (Sl K) := l ++ List.replicate (n - l.length) .nil
theorem get_app {K : PySem.W.Frag} {l : List (Sl K)} {n i : Nat} : get (l ++ List.replicate n .nil) i = get l i ∨ get (l ++ List.replicate n .nil) i = .nil := by
  induction l generalizing i with
  | nil => exact .inr (get_nils n i)
  | cons s r ih =>
    cases i with
    | zero => exact .inl rfl
    | succ i => exact ih
theorem owns_app {K : PySem.W.Frag} : ∀ {l : List (Sl K)} {n : Nat}, owns (l ++ List.replicate n .nil) = owns l
  | [], n => own_nils n
  | s :: r, n => by
    show own1 s ++ owns (r ++ _) = own1 s ++ owns r
    rw [owns_app]
section
variable {P : Program} {w : World} {K : PySem.W.Frag} {mg : Str → Option Value} {base : Heap} {PK : PoolK} {α β : Type}
theorem own0 {ea : EA K α} {x : α} {n : Nat} {a : Addr} : a ∉ owns (ea.ents x ++ List.replicate n (Sl.nil : Sl K)) := fun h => by
  rw [owns_app, ea.eown] at h
  cases h
theorem sat_start {pp : PP} {O : AS} {H : Hp} {vs : List V} {x : α} {ea : EA K α} {N : List Str} {c : Nat} (hd : Dom O H) (hf : ∀ a, foot pp a → O a) (hp : PoolOk PK pp H c) (hr : ea.r pp O H vs x) (hN : ea.len ≤ N.length) :
    Sat PK O pp (ea.ents x ++ List.replicate (N.length - ea.len) .nil) c (L2.start N vs) H := by
  have e0 : owns (ea.ents x ++ List.replicate (N.length - ea.len) (Sl.nil : Sl K)) = [] := owns_app.trans (ea.eown x)
  have av : ∀ a, Av O pp (ea.ents x ++ List.replicate (N.length - ea.len) (Sl.nil : Sl K)) a → O a := fun a h => by
    rcases h with h | h | h
    · exact h
    · exact hf a h
    · rw [e0] at h; cases h
  have hl := ea.hlen hr
  refine ⟨?_, (by rw [e0]; exact List.nodup_nil), (fun a h => absurd h own0), hd, hp, fun i => ?_⟩
  · unfold L2.start
    rw [List.length_append, List.length_append, List.length_map, List.length_replicate, List.length_replicate, ea.elen, hl]
  · rcases get_app (l := ea.ents x) (n := N.length - ea.len) (i := i) with e | e
    · rw [e]
      exact (ea.eok i hr).mv (Mv.less av) fun _ _ => rfl
    · rw [e]; exact True.intro
theorem fn_gen {x qual : Str} {st : Stmt} {f : Addr} {fd : FuncData} {N ps : List Str} {k : Nat} {γ : Type} {ea : EA K α} {er : En K β} {fw : α → W β} {wb : α → W (Fl γ Empty β)} {ρ' : γ → List (Sl K)} (F : Fun K x qual st f fd) (S : FnScope N ps (defScope st)) (hl : ea.len = ps.length) (hN : ea.len ≤ N.length)
    (hnx : ∀ (x : α) (Φ : β → WB) (c : Nat), fw x Φ noX c → ∃ Φ' : Fl γ Empty β → WB, wb x Φ' noX c ∧ ∀ fl c', Φ' fl c' → match fl with | .rt r => Φ r c' | .nx _ => ∃ r, Φ r c' ∧ ∀ O H, er.r O H .non r | _ => True)
    (hbody : ∀ (cdv : Value) (A : Around) (outer : List Env) (s : Shared) (H : Hp) (E : XK) (pp : PP) (x : α), Room k (A.deeper (envOfC qual (defScope st) s.heap.objs.size f cdv)) →
      PSX (cxOf CX0 P w K mg base N qual (defScope st) f cdv A outer s H E).nox PK pp (ea.ents x ++ List.replicate (N.length - ea.len) .nil) (defBody st) (wb x) ρ' (fun z : Empty => nomatch z) er) : FnOk P w K mg base CX0 (k + 1) f fd ps (spW PK ea fw er) := by
  refine F.ok S (fun vs H Q E h => ?_) (fun cdv A outer s H vs Q E hr h => ?_)
  · obtain ⟨pp, O, x, Φ, c, _, _, _, r, _⟩ := h
    rw [ea.hlen r, hl]
  · obtain ⟨pp, O, x, Φ, c, hd, hf, hp, r, hw, q⟩ := h
    obtain ⟨Φ', hw', hk⟩ := hnx x Φ c hw
    refine ⟨_, hbody cdv A outer s H E pp x hr, O, Φ', c, sat_start hd hf hp r hN, hw', fun fl H' c' p => ?_⟩
    have z := hk fl c' p
    cases fl with
    | rt r =>
      intro v ch pl rv
      refine q r v H' c' z (fun a o e n => ch a o e n (own0 (ea := ea))) pl (er.mono (Mv.less fun a h => .inl h) rv)
    | nx s0 =>
      intro σ' stp S'
      obtain ⟨r, z1, z2⟩ := z
      refine q r .non H' c' z1 (fun a o e n => stp.keep a o e n (own0 (ea := ea))) S'.pool (z2 _ _)
    | bk z => exact nomatch z
    | ct z => exact nomatch z
theorem fn_R {x qual : Str} {st : Stmt} {f : Addr} {fd : FuncData} {N ps : List Str} {k : Nat} {ea : EA K α} {er : En K β} {wb : α → W (Fl Empty Empty β)} {ρ' : Empty → List (Sl K)} (F : Fun K x qual st f fd) (S : FnScope N ps (defScope st)) (hl : ea.len = ps.length) (hN : ea.len ≤ N.length)
    (hbody : ∀ (cdv : Value) (A : Around) (outer : List Env) (s : Shared) (H : Hp) (E : XK) (pp : PP) (x : α), Room k (A.deeper (envOfC qual (defScope st) s.heap.objs.size f cdv)) →
      PSX (cxOf CX0 P w K mg base N qual (defScope st) f cdv A outer s H E).nox PK pp (ea.ents x ++ List.replicate (N.length - ea.len) .nil) (defBody st) (wb x) ρ' (fun z : Empty => nomatch z) er) : FnOk P w K mg base CX0 (k + 1) f fd ps (spW PK ea (fun x => fnR (wb x)) er) :=
  fn_gen F S hl hN (fun x Φ c h => ⟨_, h, fun fl c' p => by
    cases fl with
    | rt r => exact p
    | nx z => exact nomatch z
    | bk z => exact nomatch z
    | ct z => exact nomatch z⟩) hbody
theorem fn_U {x qual : Str} {st : Stmt} {f : Addr} {fd : FuncData} {N ps : List Str} {k : Nat} {ea : EA K α} {wb : α → W (Fl Unit Empty Unit)} {ρ' : Unit → List (Sl K)} (F : Fun K x qual st f fd) (S : FnScope N ps (defScope st)) (hl : ea.len = ps.length) (hN : ea.len ≤ N.length)
    (hbody : ∀ (cdv : Value) (A : Around) (outer : List Env) (s : Shared) (H : Hp) (E : XK) (pp : PP) (x : α), Room k (A.deeper (envOfC qual (defScope st) s.heap.objs.size f cdv)) →
      PSX (cxOf CX0 P w K mg base N qual (defScope st) f cdv A outer s H E).nox PK pp (ea.ents x ++ List.replicate (N.length - ea.len) .nil) (defBody st) (wb x) ρ' (fun z : Empty => nomatch z) eU) : FnOk P w K mg base CX0 (k + 1) f fd ps (spW PK ea (fun x => fnU (wb x)) eU) :=
  fn_gen F S hl hN (fun x Φ c h => ⟨_, h, fun fl c' p => by
    cases fl with
    | rt r => exact p
    | nx z => exact ⟨(), p, fun _ _ => rfl⟩
    | bk z => exact nomatch z
    | ct z => exact nomatch z⟩) hbody
end
section
variable {X : Cx} {PK : PoolK} {pp : PP} {ρ : List (Sl X.K)} {α β γ δ : Type}
variable {e a b : Expr} {es : List Expr} {pos : Pos}
theorem xcall {k : Nat} {f : Addr} {fd : FuncData} {ps : List Str} {x : Str} {p : Pos} {ea : EA X.K α} {er : En X.K β} {fw : α → W β} {wa : W α} (F : FnOk X.prog X.w X.K X.mg X.base CX0 k f fd ps (spW PK ea fw er)) (hr : Room k X.A) (hm : X.mg x = some (.ref f)) (hk : PySem.W.keepIn X.K (.ref f) = true)
    (hb : Binds X.K fd ps []) (ha : PAX X PK pp ρ (e :: es) wa ea) (hg : Gl X x := by rfl) (hdb : (x == ("__debug__" : Str)) = false := by decide) (he : starEach (e :: es) X.env = (false, eval e X.env) :: starEach es X.env := by rfl)
    (hpl : (backTo pos (starEach es X.env)).any (·.1) = false := by rfl) : PX X PK pp ρ (.Call (.Name x p) (e :: es) [] pos) (bnd wa fw) er :=
  (pe_call F hr hg hm hk hb .nil pass0 ha hdb he hpl).weak fun σ H Q ⟨O, Φ, c, S, hw, kk⟩ => ⟨O, _, c, S, hw, fun y vs H1 c1 p1 ch1 S1 r1 => by
    show spW PK ea fw er (vs ++ []) H1 Q E0
    rw [List.append_nil]
    exact ⟨pp, Av O pp ρ, y, Φ, c1, S1.av, fun a h => .inr (.inl h), S1.pool, r1, p1, fun z v H2 c2 p2 ch2 pl2 rz => kk z v H2 c2 p2 (ch1.trans ch2) (S1.chg ch2 pl2) rz⟩⟩

/-! ### builtins -/
def CallW (X : Cx) (f : Value) (ea : EA X.K α) (e3 : En X.K γ) (pre : α → Bool) (res : α → γ) : Prop :=
  CallR X f fun xs H Q => ∃ pp A a, Dom A H ∧ ea.r pp A H xs a ∧ pre a = true ∧ ∀ v H', Same H H' → e3.r A H' v (res a) → Q v H'
theorem xcallB {id : String} {x : Str} {p : Pos} {ea : EA X.K α} {e3 : En X.K γ} {pre : α → Bool} {res : α → γ} {wa : W α} (hc : CallW X (.builtin id) ea e3 pre res) (hm : X.mg x = none) (hv : bootBuiltins x = some (.builtin id)) (ha : PAX X PK pp ρ (e :: es) wa ea) (hg : Gl X x := by rfl)
    (hn : x ≠ "__name__" := by decide) (hdb : (x == ("__debug__" : Str)) = false := by decide) (he : starEach (e :: es) X.env = (false, eval e X.env) :: starEach es X.env := by rfl) (hpl : (backTo pos (starEach es X.env)).any (·.1) = false := by rfl) :
    PX X PK pp ρ (.Call (.Name x p) (e :: es) [] pos) (bnd wa fun x => grd (pre x) (ret (res x))) e3 :=
  (pe_callB hc hg hm hv ha hn hdb he hpl).weak fun σ H Q ⟨O, Φ, c, S, hw, kk⟩ => ⟨O, _, c, S, hw, fun y vs H1 c1 p1 ch1 S1 r1 => ⟨pp, _, y, S1.av, r1, p1.1, fun v H2 s r2 => kk _ v H2 c1 p1.2 (ch1.trans (.of s)) (S1.same s) r2⟩⟩
theorem xcallT {id : String} {x : Str} {p : Pos} {ea : EA X.K α} {e3 : En X.K γ} {pre : α → Bool} {res : α → γ} {wa : W α} (hc : CallW X (.type id) ea e3 pre res) (hm : X.mg x = none) (hv : bootBuiltins x = some (.type id)) (ha : PAX X PK pp ρ (e :: es) wa ea) (hg : Gl X x := by rfl)
    (hn : x ≠ "__name__" := by decide) (hdb : (x == ("__debug__" : Str)) = false := by decide) (he : starEach (e :: es) X.env = (false, eval e X.env) :: starEach es X.env := by rfl) (hpl : (backTo pos (starEach es X.env)).any (·.1) = false := by rfl) :
    PX X PK pp ρ (.Call (.Name x p) (e :: es) [] pos) (bnd wa fun x => grd (pre x) (ret (res x))) e3 :=
  (pe_callTy hc hg hm hv ha hn hdb he hpl).weak fun σ H Q ⟨O, Φ, c, S, hw, kk⟩ => ⟨O, _, c, S, hw, fun y vs H1 c1 p1 ch1 S1 r1 => ⟨pp, _, y, S1.av, r1, p1.1, fun v H2 s r2 => kk _ v H2 c1 p1.2 (ch1.trans (.of s)) (S1.same s) r2⟩⟩
/-- a name of the module for a builtin (math.gcd) -/
theorem xcallG {id : String} {x : Str} {p : Pos} {ea : EA X.K α} {e3 : En X.K γ} {pre : α → Bool} {res : α → γ} {wa : W α} (hc : CallW X (.builtin id) ea e3 pre res) (hm : X.mg x = some (.builtin id)) (ha : PAX X PK pp ρ (e :: es) wa ea) (hg : Gl X x := by rfl)
    (hdb : (x == ("__debug__" : Str)) = false := by decide) (he : starEach (e :: es) X.env = (false, eval e X.env) :: starEach es X.env := by rfl) (hpl : (backTo pos (starEach es X.env)).any (·.1) = false := by rfl) :
    PX X PK pp ρ (.Call (.Name x p) (e :: es) [] pos) (bnd wa fun x => grd (pre x) (ret (res x))) e3 :=
  (pe_callBfun hc hg hm ha hdb he hpl).weak fun σ H Q ⟨O, Φ, c, S, hw, kk⟩ => ⟨O, _, c, S, hw, fun y vs H1 c1 p1 ch1 S1 r1 => ⟨pp, _, y, S1.av, r1, p1.1, fun v H2 s r2 => kk _ v H2 c1 p1.2 (ch1.trans (.of s)) (S1.same s) r2⟩⟩
theorem F2.bls {K : PySem.W.Frag} {O : AS} {H : Hp} {vs : List V} {bs : List Bool} (f : F2 ((eB : En K Bool).r O H) vs bs) : vs = bs.map V.bl := by
  induction f with
  | nil => rfl
  | cons r _ ih => rw [show _ = V.bl _ from r, ih]; rfl
theorem F2.ints {K : PySem.W.Frag} {O : AS} {H : Hp} {vs : List V} {bs : List Int} (f : F2 ((eI : En K Int).r O H) vs bs) : vs = bs.map V.int := by
  induction f with
  | nil => rfl
  | cons r _ ih => rw [show _ = V.int _ from r, ih]; rfl
abbrev a1 (e1 : En X.K α) : EA X.K (α × Unit) := aC e1 aN
abbrev a2 (e1 : En X.K α) (e2 : En X.K β) : EA X.K (α × β × Unit) := aC e1 (aC e2 aN)
theorem c_lenR {en : En X.K α} : CallW X (.builtin "len") (a1 (eR en)) eI (fun _ => true) (fun x => (x.1.length : Int)) := by
  rintro pins s σ H xs us Q I r ⟨pp, A, x, _, ⟨v, _, rfl, ⟨a, vs, rfl, l, f⟩, rfl⟩, _, k⟩
  exact call_len_seq pins s σ H _ us Q I r ⟨a, vs, rfl, .inl l.sq, k _ _ (.refl _) (by rw [f.length]; rfl)⟩
theorem c_len {en : En X.K α} : CallW X (.builtin "len") (a1 (eL en)) eI (fun _ => true) (fun x => (x.1.length : Int)) := by
  rintro pins s σ H xs us Q I r ⟨pp, A, x, d, ⟨v, _, rfl, r1, rfl⟩, p, k⟩
  exact c_lenR (en := en) pins s σ H _ us Q I r ⟨pp, A, x, d, ⟨v, _, rfl, eL_R r1, rfl⟩, p, k⟩
theorem c_int : CallW X (.type "int") (a1 (eI : En X.K Int)) eI (fun _ => true) (fun x => x.1) := by
  rintro pins s σ H xs us Q I r ⟨pp, A, x, d, ⟨v, _, rfl, rfl, rfl⟩, p, k⟩
  exact call_int1 pins s σ H _ us Q I r (.inl ⟨_, rfl, k _ _ (.refl _) rfl⟩)
theorem c_intB : CallW X (.type "int") (a1 (eB : En X.K Bool)) eI (fun _ => true) (fun x => if x.1 then 1 else 0) := by
  rintro pins s σ H xs us Q I r ⟨pp, A, x, d, ⟨v, _, rfl, rfl, rfl⟩, p, k⟩
  exact call_int1 pins s σ H _ us Q I r (.inr ⟨_, rfl, k _ _ (.refl _) rfl⟩)
theorem c_abs : CallW X (.builtin "abs") (a1 (eI : En X.K Int)) eI (fun _ => true) (fun x => if x.1 < 0 then -x.1 else x.1) := by
  rintro pins s σ H xs us Q I r ⟨pp, A, x, d, ⟨v, _, rfl, rfl, rfl⟩, p, k⟩
  exact call_abs pins s σ H _ us Q I r ⟨_, rfl, k _ _ (.refl _) rfl⟩
theorem c_gcd : CallW X (.builtin "math.gcd") (a2 (eI : En X.K Int) eI) eI (fun _ => true) (fun x => ((Nat.gcd x.1.natAbs x.2.1.natAbs : Nat) : Int)) := by
  rintro pins s σ H xs us Q I r ⟨pp, A, x, d, ⟨v, _, rfl, rfl, u, _, rfl, rfl, rfl⟩, p, k⟩
  exact cr_gcd pins s σ H _ us Q I r ⟨_, _, rfl, k _ _ (.refl _) rfl⟩
theorem c_list {en : En X.K α} : CallW X (.type "list") (a1 (eR en)) (eL en) (fun _ => true) (fun x => x.1) := by
  rintro pins s σ H xs us Q I r ⟨pp, A, x, d, ⟨v, _, rfl, ⟨a, vs, rfl, l, f⟩, rfl⟩, _, k⟩
  refine call_list_of pins s σ H _ us Q I r ⟨a, vs, rfl, .inl l.sq, fun p np => ?_⟩
  have s := same_new (o := .lst vs) np
  exact k _ _ s ⟨p, vs, rfl, ⟨new_at d np, upd_same⟩, f.imp fun _ _ => en.mono (Mv.same s)⟩
theorem c_allB : ∀ (hc : X.calm = true), CallW X (.builtin "all") (a1 (eL (eB : En X.K Bool))) eB (fun _ => true) (fun x => x.1.all id) := by
  rintro hc pins s σ H xs us Q I r ⟨pp, A, x, d, ⟨v, _, rfl, ⟨a, vs, rfl, l, f⟩, rfl⟩, _, k⟩
  have e := F2.bls f
  exact cr_all hc pins s σ H _ us Q I r ⟨a, x.1, rfl, by rw [← e]; exact l.sq, k _ _ (.refl _) rfl⟩
theorem c_anyB : ∀ (hc : X.calm = true), CallW X (.builtin "any") (a1 (eL (eB : En X.K Bool))) eB (fun _ => true) (fun x => x.1.any id) := by
  rintro hc pins s σ H xs us Q I r ⟨pp, A, x, d, ⟨v, _, rfl, ⟨a, vs, rfl, l, f⟩, rfl⟩, _, k⟩
  have e := F2.bls f
  exact cr_any hc pins s σ H _ us Q I r ⟨a, x.1, rfl, by rw [← e]; exact l.sq, k _ _ (.refl _) rfl⟩
theorem xR {w : W (List α)} {en : En X.K α} (h : PX X PK pp ρ e w (eL en)) : PX X PK pp ρ e w (eR en) := h.weak fun σ H Q ⟨O, Φ, c, S, hw, k⟩ => ⟨O, Φ, c, S, hw, fun x v H' c' p ch S' r => k x v H' c' p ch S' (eL_R r)⟩
theorem w_cat {en : En X.K α} : OpW X (binaryOp .Add) (eL en) (eL en) (eL en) (fun x y => decide (x.length + y.length ≤ 16777216)) (fun x y => x ++ y) := by
  intro pins s σ H x y v u Q I rx ry ⟨A, xs, ys, d, ⟨a, vs, e1, l, f⟩, ⟨b, us, e2, l2, f2⟩, p, k⟩
  refine op_cat pins s σ H x y v u Q I rx ry ⟨a, b, vs, us, e1, e2, l.2, l2.2, ?_, fun p np => ?_⟩
  · rw [f.length, f2.length, sizeLine_eq]; exact of_decide_eq_true p
  · have s := same_new (o := .lst (vs ++ us)) np
    exact k _ _ s ⟨p, _, rfl, ⟨new_at d np, upd_same⟩, (f.append f2).imp fun _ _ => en.mono (Mv.same s)⟩
def repOk (n : Nat) (k : Int) : Bool := decide (-(2 ^ 63) ≤ k) && decide (k < 2 ^ 63) && decide (n * k.toNat ≤ 16777216)
theorem F2.flat {α β : Type} {R : α → β → Prop} {l : List α} {m : List β} (h : F2 R l m) : ∀ n : Nat, F2 R (List.replicate n l).flatten (List.replicate n m).flatten
  | 0 => .nil
  | n + 1 => by simpa [List.replicate_succ] using h.append (F2.flat h n)
theorem w_rep {en : En X.K α} : OpW X (binaryOp .Mult) (eL en) (eI : En X.K Int) (eL en) (fun x k => repOk x.length k) (fun x k => (List.replicate k.toNat x).flatten) := by
  intro pins s σ H x y v u Q I rx ry ⟨A, xs, i, d, ⟨a, vs, e1, l, f⟩, r2, p, k⟩
  simp only [repOk, Bool.and_eq_true, decide_eq_true_eq] at p
  refine op_rep pins s σ H x y v u Q I rx ry ⟨a, i, vs, e1, r2, l.2, p.1.1, p.1.2, by rw [f.length, sizeLine_eq]; exact p.2, fun p np => ?_⟩
  have s := same_new (o := .lst (List.replicate i.toNat vs).flatten) np
  exact k _ _ s ⟨p, _, rfl, ⟨new_at d np, upd_same⟩, (f.flat _).imp fun _ _ => en.mono (Mv.same s)⟩
end
end Dc
/-! DcE: walks, loops, comprehensions, lists of one's own. -/
namespace Dc
open PySem PySem.Spec L2
section
variable {K : PySem.W.Frag} {PK : PoolK} {pp : PP} {ρ ρ1 ρ2 : List (Sl K)} {O : AS} {c c' : Nat} {σ : St} {H H' H0 H1 H2 : Hp} {α β γ δ : Type} {p : Addr} {o : HO}

/-! ### a new thing, avoided -/
def Ox (O : AS) (p : Addr) : AS := fun a => O a ∨ a = p
theorem Mv.new (h : H p = none) : Mv O (Ox O p) H (upd H p o) := fun a u n e => by
  have ne := ne_of_none e h
  exact ⟨by rw [upd_ne ne]; exact e, fun z => z.elim n ne⟩
theorem av_ox : ∀ {a}, Av (Ox O p) pp ρ a → Ox (Av O pp ρ) p a := fun {a} h => by
  rcases h with (h | h) | h | h
  · exact .inl (.inl h)
  · exact .inr h
  · exact .inl (.inr (.inl h))
  · exact .inl (.inr (.inr h))
theorem Mv.newA (h : H p = none) : Mv (Av O pp ρ) (Av (Ox O p) pp ρ) H (upd H p o) := (Mv.new h).trans (Mv.less fun _ z => av_ox z)
theorem Sat.newO (S : Sat PK O pp ρ c σ H) (h : H p = none) : Sat PK (Ox O p) pp ρ c σ (upd H p o) := by
  have np : ∀ a, H a ≠ none → a ≠ p := fun a n z => n (by rw [z]; exact h)
  have s := same_new (o := o) h
  have S' := S.same s
  refine ⟨S.len, S.nd, fun a ha => ⟨fun z => ?_, (S.new a ha).2⟩, fun a z => ?_, S'.pool, fun i => ?_⟩
  · rcases z with z | z
    · exact (S.new a ha).1 z
    · exact np a (S.av a (.inr (.inr ha))) z
  · rcases z with z | z
    · exact S'.dom a z
    · rw [z, upd_same]; simp
  · refine (S.slots i).mv (Mv.newA h) fun a ha => same_at s ?_
    cases e : get ρ i with
    | ow b on x =>
      rw [e] at ha
      have ha : a = b := by simpa [own1] using ha
      subst ha
      have q := S.slots i
      rw [e] at q
      exact on.dom q.2
    | _ => rw [e] at ha; cases ha
theorem Sat.lessO (S : Sat PK (Ox O p) pp ρ c σ H) : Sat PK O pp ρ c σ H := by
  have less : ∀ a, Av O pp ρ a → Av (Ox O p) pp ρ a := fun a h => by
    rcases h with h | h | h
    · exact .inl (.inl h)
    · exact .inr (.inl h)
    · exact .inr (.inr h)
  exact ⟨S.len, S.nd, fun a ha => ⟨fun z => (S.new a ha).1 (.inl z), (S.new a ha).2⟩, fun a z => S.dom a (.inl z), S.pool, fun i => (S.slots i).mv (Mv.less less) fun _ _ => rfl⟩
/-- what is avoided may change -/
theorem Sat.updO (S : Sat PK O pp ρ c σ H) (hp : O p) (hf : ¬ foot pp p) : Sat PK O pp ρ c σ (upd H p o) := by
  have mv : Mv (Av O pp ρ) (Av O pp ρ) H (upd H p o) := fun a u n e => ⟨by rw [upd_ne (fun z => n (by rw [z]; exact .inl hp))]; exact e, n⟩
  refine ⟨S.len, S.nd, S.new, fun a z => ?_, ?_, fun i => (S.slots i).mv mv fun a ha => ?_⟩
  · by_cases e : a = p
    · rw [e, upd_same]; simp
    · rw [upd_ne e]; exact S.dom a z
  · cases pp with
    | none => exact True.intro
    | some q =>
      obtain ⟨a, b⟩ := q
      have q : PK.r H a b c := S.pool
      exact PK.keep (upd_ne (o := o) fun z => hf (.inl z.symm)) (upd_ne (o := o) fun z => hf (.inr z.symm)) q
  · cases e : get ρ i with
    | ow b on x =>
      rw [e] at ha
      have ha : a = b := by simpa [own1] using ha
      subst ha
      exact upd_ne fun z => (S.new a (owns_mem e)).1 (by rw [z]; exact hp)
    | _ => rw [e] at ha; cases ha
/-- a slot gets a thing of its own -/
theorem Sat.own (S : Sat PK (Ox O p) pp ρ c σ H) (hf : ¬ foot pp p) (ho : ¬ O p) {i : Nat} {on : On K α} {x : α} (r : on.r (Av (Ox O p) pp ρ) H p x) : Sat PK O pp (Dc.put ρ i (.ow p on x)) c (σ.set i (some (.ref p))) H := by
  have less : ∀ a, Av O pp (Dc.put ρ i (.ow p on x)) a → Av (Ox O p) pp ρ a := fun a h => by
    rcases h with h | h | h
    · exact .inl (.inl h)
    · exact .inr (.inl h)
    · rcases owns_put h with h | h
      · exact .inl (.inr (by simpa [own1] using h))
      · exact .inr (.inr h)
  refine ⟨by rw [List.length_set, put_len]; exact S.len, owns_put_nodup S.nd (own1_nodup _) (fun b hb z => ?_), fun a ha => ?_, fun a z => S.dom a (.inl z), S.pool, fun j => ?_⟩
  · have hb : b = p := by simpa [own1] using hb
    exact (S.new b z).1 (.inr hb)
  · rcases owns_put ha with h | h
    · have h : a = p := by simpa [own1] using h
      rw [h]; exact ⟨ho, hf⟩
    · exact ⟨fun z => (S.new a h).1 (.inl z), (S.new a h).2⟩
  · by_cases hj : j = i
    · subst hj
      rcases get_put_self (ρ := ρ) (i := j) (s := Sl.ow p on x) with e | e
      · rw [e]
        have hl := get_len (ρ := Dc.put ρ j (.ow p on x)) (i := j) (by rw [e]; intro z; cases z)
        rw [put_len, ← S.len] at hl
        exact ⟨List.getElem?_set_self hl, on.mono (Mv.less less) rfl r⟩
      · rw [e]; exact True.intro
    · rw [get_put_ne hj]
      have q := (S.slots j).mv (Mv.less less) (fun _ _ => rfl)
      cases e : get ρ j with
      | nil => exact True.intro
      | sh en2 y =>
        rw [e] at q
        obtain ⟨v2, e2, r2⟩ := q
        exact ⟨v2, by rw [List.getElem?_set_ne (Ne.symm hj)]; exact e2, r2⟩
      | ow a on y =>
        rw [e] at q
        exact ⟨by rw [List.getElem?_set_ne (Ne.symm hj)]; exact q.1, q.2⟩
      | pl =>
        rw [e] at q
        obtain ⟨a, b, e2, e3⟩ := q
        exact ⟨a, b, e2, by rw [List.getElem?_set_ne (Ne.symm hj)]; exact e3⟩
/-- an own list changed in place -/
theorem Sat.chgOwn (S : Sat PK O pp ρ c σ H) {i : Nat} {on : On K α} {x : α} {β : Type} {on' : On K β} {y : β} (hg : get ρ i = .ow p on x) (r : on'.r (Av O pp ρ) (upd H p o) p y) : Sat PK O pp (Dc.put ρ i (.ow p on' y)) c σ (upd H p o) ∧ Stp pp ρ (Dc.put ρ i (.ow p on' y)) H (upd H p o) := by
  have eo := owns_same (on' := on') (y := y) hg
  have hm := owns_mem hg
  have mv : Mv (Av O pp ρ) (Av O pp ρ) H (upd H p o) := fun a u n e => ⟨by rw [upd_ne (fun z => n (by rw [z]; exact .inr (.inr hm)))]; exact e, n⟩
  have av : Av O pp (Dc.put ρ i (.ow p on' y)) = Av O pp ρ := by unfold Av; rw [eo]
  have hs : σ[i]? = some (some (.ref p)) := by
    have q := S.slots i
    rw [hg] at q
    exact q.1
  refine ⟨⟨by rw [put_len]; exact S.len, by rw [eo]; exact S.nd, fun a ha => S.new a (by rw [← eo]; exact ha), fun a z => ?_, ?_, fun j => ?_⟩, fun a u e n no => ?_, fun a z => .inl (by rw [← eo]; exact z)⟩
  · by_cases e : a = p
    · rw [e, upd_same]; simp
    · rw [upd_ne e]; exact S.dom a z
  · cases pp with
    | none => exact True.intro
    | some q =>
      obtain ⟨a, b⟩ := q
      have q : PK.r H a b c := S.pool
      have hf := (S.new p hm).2
      exact PK.keep (upd_ne (o := o) fun z => hf (.inl z.symm)) (upd_ne (o := o) fun z => hf (.inr z.symm)) q
  · rw [av]
    by_cases hj : j = i
    · subst hj
      rcases get_put_self (ρ := ρ) (i := j) (s := Sl.ow p on' y) with e | e
      · rw [e]; exact ⟨hs, r⟩
      · rw [e]; exact True.intro
    · rw [get_put_ne hj]
      refine (S.slots j).mv mv fun a ha => upd_ne fun z => ?_
      subst z
      cases e : get ρ j with
      | ow b on2 x2 =>
        rw [e] at ha
        have ha : a = b := by simpa [own1] using ha
        subst ha
        exact hj (owns_inj S.nd e hg)
      | _ => rw [e] at ha; cases ha
  · rw [upd_ne (fun z => no (by rw [z]; exact hm))]; exact e
end
end Dc
/-! DcF: walks, loops, comprehensions. -/
namespace Dc
open PySem PySem.Spec L2
section
variable {K : PySem.W.Frag} {PK : PoolK} {pp : PP} {ρ ρ1 ρ2 : List (Sl K)} {O : AS} {c c' : Nat} {σ : St} {H H' H0 H1 H2 : Hp} {α β γ δ : Type} {p : Addr} {o : HO}
def setAll (σ : St) (us : List (Nat × V)) : St := us.foldl (fun σ u => σ.set u.1 (some u.2)) σ
/-- J walks over xs in every heap to which H0 has moved; an item goes to the slots js, as ext says -/
structure Src (PK : PoolK) (xs : List α) (ext : List (Sl K) → α → List (Sl K)) (js : List Nat) (g : TG) (J : It) (A : AS) (H0 : Hp) : Prop where
  go : ∀ i H A', i < xs.length → Mv A A' H0 H → J.go i H
  stop : ∀ H A', Mv A A' H0 H → J.stop xs.length H
  eown : ∀ (ρ : List (Sl K)) (x : α), ∀ a ∈ owns (ext ρ x), a ∈ owns ρ
  yld : ∀ i x H v H' pp ρ O c σ, xs[i]? = some x → Mv A (Av O pp ρ) H0 H → Sat PK O pp ρ c σ H → J.yld i H v H' → ∃ us H2, us.map (·.1) = js ∧ Same H H2 ∧ Sat PK O pp (ext ρ x) c (setAll σ us) H2 ∧ ∀ Q : St → Hp → Prop, Q (setAll σ us) H2 → g v σ H' Q
def rdI (PK : PoolK) (pp : PP) (ρ : List (Sl K)) (w : W (List α)) (ext : List (Sl K) → α → List (Sl K)) (js : List Nat) (g : TG) : TI := fun σ H R => ∃ O Φ c, Sat PK O pp ρ c σ H ∧ w Φ noX c ∧
  ∀ xs J H' c', Φ xs c' → Chg pp H H' → Sat PK O pp ρ c' σ H' → Src PK xs ext js g J (Av O pp ρ) H' → xs.length ≤ sizeLine → R J H'
/-- a loop's turns -/
def forW (f : γ → α → W (Fl γ γ β)) : γ → List α → W (Fl γ δ β)
  | s, [] => ret (.nx s)
  | s, x :: r => bnd (f s x) fun fl => match fl with
    | .nx s' => forW f s' r
    | .ct s' => forW f s' r
    | .bk s' => ret (.nx s')
    | .rt y => ret (.rt y)
def mapW (f : α → W β) : List α → W (List β)
  | [] => ret []
  | x :: r => bnd (f x) fun y => bnd (mapW f r) fun ys => ret (y :: ys)
def filW (t : α → W Bool) (f : α → W β) : List α → W (List β)
  | [] => ret []
  | x :: r => bnd (t x) fun b => ite b (bnd (f x) fun y => bnd (filW t f r) fun ys => ret (y :: ys)) (filW t f r)
/-- a new list -/
def rdF (PK : PoolK) (pp : PP) (ρ : List (Sl K)) (w : W (List α)) (en : En K α) : TE := fun σ H Q => ∃ O Φ c, Sat PK O pp ρ c σ H ∧ w Φ noX c ∧
  ∀ xs p vs H' c', Φ xs c' → H p = none → Chg pp H H' → Sat PK (Ox O p) pp ρ c' σ H' → H' p = some (.lst vs) → F2 (en.r (Av (Ox O p) pp ρ) H') vs xs → Q (.ref p) H'
theorem nfoot (S : Sat PK O pp ρ c σ H) (h : H p = none) : ¬ foot pp p := fun z => S.av p (.inr (.inl z)) h
theorem chg_none (S : Sat PK O pp ρ c' σ H1) (ch : Chg pp H H1) (h : H1 p = none) : H p = none := by
  cases e : H p with
  | none => rfl
  | some o =>
    by_cases hf : foot pp p
    · exact absurd hf (nfoot S h)
    · have := ch p o e hf
      rw [h] at this; cases this
theorem wipe_get {σ : St} : ∀ {vs : List Nat} {j : Nat}, (wipe σ vs)[j]? = if j ∈ vs then (σ[j]?.map fun _ => none) else σ[j]?
  | [], j => by simp [wipe]
  | v :: vs, j => by
    unfold wipe
    by_cases e : v = j
    · subst e
      by_cases hl : v < σ.length
      · rw [List.getElem?_set_self (by rw [wipe_length]; exact hl)]
        simp [List.getElem?_eq_getElem hl]
      · rw [List.getElem?_eq_none (by rw [List.length_set, wipe_length]; omega), List.getElem?_eq_none (by omega)]
        simp
    · rw [List.getElem?_set_ne e, wipe_get (vs := vs)]
      have : (j ∈ v :: vs) ↔ j ∈ vs := by simp [Ne.symm e]
      by_cases hj : j ∈ vs
      · rw [if_pos hj, if_pos (this.mpr hj)]
      · rw [if_neg hj, if_neg (fun z => hj (this.mp z))]
theorem setAll_get {vs : List Nat} : ∀ {us : List (Nat × V)} {σ : St}, (∀ u ∈ us, u.1 ∈ vs) → (setAll σ us).length = σ.length ∧ ∀ j, j ∉ vs → (setAll σ us)[j]? = σ[j]?
  | [], σ, _ => ⟨rfl, fun _ _ => rfl⟩
  | u :: us, σ, h => by
    obtain ⟨h1, h2⟩ := setAll_get (us := us) (σ := σ.set u.1 (some u.2)) fun x hx => h x (List.mem_cons_of_mem _ hx)
    refine ⟨h1.trans (by simp), fun j hj => (h2 j hj).trans ?_⟩
    rw [List.getElem?_set_ne (fun e => hj (by rw [← e]; exact h u List.mem_cons_self))]
theorem wipe_setAll {vs : List Nat} {us : List (Nat × V)} {σ : St} (h : ∀ u ∈ us, u.1 ∈ vs) : wipe (setAll (wipe σ vs) us) vs = wipe σ vs := by
  apply List.ext_getElem?
  intro j
  obtain ⟨h1, h2⟩ := setAll_get (σ := wipe σ vs) h
  rw [wipe_get, wipe_get]
  by_cases hj : j ∈ vs
  · rw [if_pos hj, if_pos hj]
    by_cases hl : j < σ.length
    · have l1 : j < (setAll (wipe σ vs) us).length := by rw [h1, wipe_length]; exact hl
      rw [List.getElem?_eq_getElem hl, List.getElem?_eq_getElem l1]
      rfl
    · rw [List.getElem?_eq_none (by rw [h1, wipe_length]; omega), List.getElem?_eq_none (by omega)]
  · rw [if_neg hj, if_neg hj, h2 j hj, wipe_get, if_neg hj]
/-- slots that hold nothing may be wiped -/
theorem Sat.wipe (S : Sat PK O pp ρ c σ H) {vs : List Nat} (h : ∀ i ∈ vs, get ρ i = .nil) : Sat PK O pp ρ c (L2.wipe σ vs) H := by
  refine ⟨by rw [wipe_length]; exact S.len, S.nd, S.new, S.dom, S.pool, fun i => ?_⟩
  by_cases hi : i ∈ vs
  · rw [h i hi]; exact True.intro
  · have q := S.slots i
    have e : (L2.wipe σ vs)[i]? = σ[i]? := by rw [wipe_get, if_neg hi]
    cases h2 : get ρ i with
    | nil => exact True.intro
    | sh en x => rw [h2] at q; obtain ⟨v, e1, r⟩ := q; exact ⟨v, e.trans e1, r⟩
    | ow a on x => rw [h2] at q; exact ⟨e.trans q.1, q.2⟩
    | pl => rw [h2] at q; obtain ⟨a, b, e1, e2⟩ := q; exact ⟨a, b, e1, e.trans e2⟩
end
section
variable {X : Cx} {PK : PoolK} {pp : PP} {ρ : List (Sl X.K)} {α β γ δ : Type}
theorem _root_.L2.PI.weak {X : Cx} {tg e : Expr} {t t' : TI} (h : PI X tg e t) (f : ∀ σ H Q, t' σ H Q → t σ H Q) : PI X tg e t' := ⟨fun pins s σ H R I q => h.run pins s σ H R I (f σ H R q)⟩
/-- for -/
theorem nfor {iter tg : Expr} {body : List Stmt} {pos : Pos} {wi : W (List α)} {ext : List (Sl X.K) → α → List (Sl X.K)} {js : List Nat} {g : TG} {f : γ → α → W (Fl γ γ β)} {ρL : γ → List (Sl X.K)} {ρl : δ → List (Sl X.K)} {er : En X.K β} {s0 : γ}
    (hp : PassesOwn (model X.prog X.w) X.A X.env X.xe) (hc : X.calm = true) (hi : PI X tg iter (rdI PK pp ρ wi ext js g)) (hg : PG X tg g) (hf : Fit ρ (ρL s0)) (hb : ∀ s x, PSX X PK pp (ext (ρL s) x) body (f s x) ρL ρL er)
    (hs : ∀ x, foldedSetIterable iter X.env x = pure x := by intro _; rfl) : PS X (.For tg iter body [] pos) (rdS PK pp ρ (bnd wi fun xs => forW f s0 xs) ρL ρl er) :=
  (ps_for hp hc hi hg (PSs.ex fun z : γ × α => hb z.1 z.2) hs).weak fun D σ H ⟨O, Φ, c, S, hw, k⟩ => ⟨O, _, c, S, hw, fun xs J H1 c1 p1 ch S1 src hz => by
    have st0 : Stp pp ρ (ρL s0) H H1 := (Stp.of_chg ch fun _ z => z).trans hf.stp
    refine ⟨fun i m σ' H' => m = xs.length - i ∧ i ≤ xs.length ∧ ∃ s c', Stp pp ρ (ρL s) H1 H' ∧ Sat PK O pp (ρL s) c' σ' H' ∧ forW f s (xs.drop i) Φ noX c', ⟨xs.length, by simp, Nat.zero_le _, s0, c1, hf.stp, S1.fit hf, p1⟩, ?_⟩
    rintro i m σ' H' ⟨rfl, hi, s, c', st, S', hw'⟩
    have ch1 : Stp pp ρ ρ H H1 := Stp.of_chg ch fun _ z => z
    by_cases hlt : i < xs.length
    · refine .inr ⟨src.go i H' _ hlt (st.mv (O := O)), fun σ3 H3 => ∃ s c', Stp pp ρ (ρL s) H1 H3 ∧ Sat PK O pp (ρL s) c' σ3 H3 ∧ forW f s (xs.drop (i + 1)) Φ noX c', fun σ3 H3 q => ⟨xs.length - (i + 1), by omega, rfl, hlt, q⟩, fun v H2 y => ?_⟩
      obtain ⟨us, H3, _, sm, S3, hQ⟩ := src.yld i xs[i] H' v H2 pp (ρL s) O c' σ' (List.getElem?_eq_getElem hlt) st.mv S' y
      refine hQ _ ?_
      rw [List.drop_eq_getElem_cons hlt] at hw'
      have st3 : Stp pp (ρL s) (ext (ρL s) xs[i]) H' H3 := .of_chg (.of sm) (src.eown _ _)
      refine ⟨(s, xs[i]), O, _, c', S3, hw', fun fl H4 c4 q => ?_⟩
      cases fl with
      | nx s' => exact fun σ4 t S4 => ⟨s', c4, (st.trans st3).trans t, S4, q⟩
      | ct s' => exact fun σ4 t S4 => ⟨s', c4, (st.trans st3).trans t, S4, q⟩
      | bk s' => exact fun σ4 t S4 => k (.nx s') H4 c4 q σ4 (((ch1.trans st).trans st3).trans t) S4
      | rt r => exact ((k (.rt r) H4 c4 q).mono ((ch1.trans st).trans st3))
    · have e : i = xs.length := by omega
      subst e
      rw [List.drop_length] at hw'
      exact .inl ⟨src.stop H' _ (st.mv (O := O)), k (.nx s) H' c' hw' σ' (ch1.trans st) S'⟩⟩
theorem xfr {w : W (List α)} {en : En X.K α} {e : Expr} (h : PE X e (rdF PK pp ρ w en)) : PX X PK pp ρ e w (eL en) := h.weak fun σ H Q ⟨O, Φ, c, S, hw, k⟩ => ⟨O, Φ, c, S, hw, fun xs p vs H' c' q hn ch S' e f => by
  have less : ∀ a, Av O pp ρ a → Av (Ox O p) pp ρ a := fun a h => by
    rcases h with h | h | h
    · exact .inl (.inl h)
    · exact .inr (.inl h)
    · exact .inr (.inr h)
  exact k xs _ H' c' q ch S'.lessO ⟨p, vs, rfl, ⟨fun z => S.av p z hn, e⟩, f.imp fun _ _ => en.mono (Mv.less less)⟩⟩
/-- [elt for tg in iter] -/
theorem lc_read {own : List (Str × Nat)} {wi : W (List α)} {ext : List (Sl X.K) → α → List (Sl X.K)} {js : List Nat} {g : TG} {f : α → W β} {en : En X.K β} (hj : ∀ j ∈ js, j ∈ own.map (·.2)) (hn : ∀ i ∈ own.map (·.2), get ρ i = .nil) (ho : ∀ x, owns (ext ρ x) = owns ρ) :
    ∀ σ H Q, rdF PK pp ρ (bnd wi fun xs => mapW f xs) en σ H Q → tLc (rdI PK pp ρ wi ext js g) g tYes (fun σ H Q => ∃ x, rdE PK pp (ext ρ x) (f x) en σ H Q) (own.map (·.2)) σ H Q := by
  intro σ H Q ⟨O, Φ, c, S, hw, k⟩
  refine ⟨O, _, c, S, hw, fun xs J H1 c1 p1 ch S1 src hz D hD => ?_⟩
  have nf := nfoot S1 hD
  have hDH := chg_none S1 ch hD
  have mv0 : Mv (Av O pp ρ) (Av (Ox O D) pp ρ) H1 (upd H1 D (.lst [])) := Mv.newA hD
  refine ⟨fun i m H' => m = xs.length - i ∧ i ≤ xs.length ∧ ∃ acc vs c', H' D = some (.lst vs) ∧ F2 (en.r (Av (Ox O D) pp ρ) H') vs acc ∧ vs.length ≤ i ∧ Chg pp (upd H1 D (.lst [])) (upd H' D (.lst [])) ∧ Sat PK (Ox O D) pp ρ c' σ H' ∧ mapW f (xs.drop i) (fun ys c => Φ (acc ++ ys) c) noX c',
    ⟨xs.length, by simp, Nat.zero_le _, [], [], c1, upd_same, .nil, Nat.zero_le _, by rw [upd_upd]; exact .refl, S1.newO hD, by simpa using p1⟩, ?_⟩
  rintro i m H' ⟨rfl, hi', acc, vs, c', eD, fD, lD, chD, S', hw'⟩
  have mv : Mv (Av O pp ρ) (Av (Ox O D) pp ρ) H1 H' := fun a o n e => by
    obtain ⟨e1, n1⟩ := mv0 a o n e
    have ne : a ≠ D := ne_of_none e hD
    have := chD a o e1 fun z => n (.inr (.inl z))
    rw [upd_ne ne] at this
    exact ⟨this, n1⟩
  by_cases hlt : i < xs.length
  · refine .inr ⟨src.go i H' _ hlt mv, fun H3 => ∃ acc vs c', H3 D = some (.lst vs) ∧ F2 (en.r (Av (Ox O D) pp ρ) H3) vs acc ∧ vs.length ≤ i + 1 ∧ Chg pp (upd H1 D (.lst [])) (upd H3 D (.lst [])) ∧ Sat PK (Ox O D) pp ρ c' σ H3 ∧ mapW f (xs.drop (i + 1)) (fun ys c => Φ (acc ++ ys) c) noX c', fun H3 q => ⟨xs.length - (i + 1), by omega, rfl, hlt, q⟩, fun v H2 y => ?_⟩
    obtain ⟨us, H3, eus, sm, S3, hQ⟩ := src.yld i xs[i] H' v H2 pp ρ (Ox O D) c' (wipe σ (own.map (·.2))) (List.getElem?_eq_getElem hlt) mv (S'.wipe hn) y
    refine hQ _ ⟨wipe_setAll fun u hu => hj _ (by rw [← eus]; exact List.mem_map.mpr ⟨u, hu, rfl⟩), ?_⟩
    unfold tYes
    simp only [if_true]
    rw [List.drop_eq_getElem_cons hlt] at hw'
    refine ⟨xs[i], Ox O D, _, c', S3, hw', fun y v4 H4 c4 q ch4 S4 r4 => ?_⟩
    have e4 : H4 D = some (.lst vs) := ch4 D _ (sm D _ eD) nf
    refine ⟨vs, e4, Nat.lt_of_le_of_lt lD (Nat.lt_of_lt_of_le hlt hz), acc ++ [y], vs ++ [v4], c4, upd_same, ?_, by rw [List.length_append]; exact Nat.succ_le_succ lD, ?_, ?_, ?_⟩
    · have mv4 : Mv (Av (Ox O D) pp ρ) (Av (Ox O D) pp ρ) H' (upd H4 D (.lst (vs ++ [v4]))) := fun a o n e => by
        have ne : a ≠ D := fun z => n (by rw [z]; exact .inl (.inr rfl))
        rw [upd_ne ne]
        exact ⟨ch4 a o (sm a o e) fun z => n (.inr (.inl z)), n⟩
      have mv5 : Mv (Av (Ox O D) pp (ext ρ xs[i])) (Av (Ox O D) pp ρ) H4 (upd H4 D (.lst (vs ++ [v4]))) := fun a o n e => by
        have ne : a ≠ D := fun z => n (by rw [z]; exact .inl (.inr rfl))
        rw [upd_ne ne]
        refine ⟨e, fun z => n ?_⟩
        rcases z with z | z | z
        · exact .inl z
        · exact .inr (.inl z)
        · exact .inr (.inr (by rw [ho]; exact z))
      exact (fD.imp fun _ _ => en.mono mv4).append (.cons (en.mono mv5 r4) .nil)
    · intro a o e hf
      have z := chD a o e hf
      rw [upd_upd]
      by_cases ne : a = D
      · subst ne; rw [upd_same] at z ⊢; exact z
      · rw [upd_ne ne] at z ⊢
        exact ch4 a o (sm a o z) hf
    · exact (S'.chg (fun a o e hf => ch4 a o (sm a o e) hf) S4.pool).updO (.inr rfl) nf
    · have q2 : mapW f (xs.drop (i + 1)) (fun ys c => Φ (acc ++ (y :: ys)) c) noX c4 := q
      simpa [List.append_assoc] using q2
  · have e : i = xs.length := by omega
    subst e
    rw [List.drop_length] at hw'
    have hw2 : Φ (acc ++ []) c' := hw'
    rw [List.append_nil] at hw2
    refine .inl ⟨src.stop H' _ mv, k acc D vs H' c' hw2 hDH (fun a o e hf => ?_) S' eD fD⟩
    have ne : a ≠ D := ne_of_none e hDH
    have z := chD a o (by rw [upd_ne ne]; exact ch a o e hf) hf
    rw [upd_ne ne] at z
    exact z
/-- [elt for tg in iter] -/
theorem xlc {elt tg iter : Expr} {scope : Scope} {own : List (Str × Nat)} {pos : Pos} {wi : W (List α)} {ext : List (Sl X.K) → α → List (Sl X.K)} {js : List Nat} {g : TG} {f : α → W β} {en : En X.K β} (hc : X.calm = true) (hN : X.N.Nodup) (hi : PI X tg iter (rdI PK pp ρ wi ext js g)) (ok : BlkOk X.N X.env.scope scope own)
    (hj : ∀ j ∈ js, j ∈ own.map (·.2)) (hn : ∀ i ∈ own.map (·.2), get ρ i = .nil) (ho : ∀ x, owns (ext ρ x) = owns ρ)
    (hg : ∀ (s : Shared) (H : Hp) (C : Addr) (cl : List (Str × Addr)) (fp : List Addr), PG (X.blk s H scope (compEnvC scope cl C X.env) fp) tg g)
    (he : ∀ (s : Shared) (H : Hp) (C : Addr) (cl : List (Str × Addr)) (fp : List Addr) (x : α), PX (X.blk s H scope (compEnvC scope cl C X.env) fp) PK pp (ext ρ x) elt (f x) en)
    (hs : ∀ x, foldedSetIterable iter X.env x = pure x := by intro _; rfl) :
    PE X (.ListComp elt [⟨tg, iter, [], 0⟩] scope pos) (rdF PK pp ρ (bnd wi fun xs => mapW f xs) en) :=
  (pe_lc hc hN hi ok hg (fun _ _ _ _ _ => pts_nil) (fun s H C cl fp => ⟨fun pins s' σ H Q I ⟨x, q⟩ => (he s _ C cl fp x).run pins s' σ H Q I q⟩) hs).weak (lc_read hj hn ho)
/-- y = [elt for tg in iter], on one line -/
theorem xlcS (i : Nat) {y : Str} {py spos : Pos} {elt tg iter : Expr} {scope : Scope} {own : List (Str × Nat)} {pos : Pos} {wi : W (List α)} {ext : List (Sl X.K) → α → List (Sl X.K)} {js : List Nat} {g : TG} {f : α → W β} {en : En X.K β} (hc : X.calm = true) (hN : X.N.Nodup) (hi : PI X tg iter (rdI PK pp ρ wi ext js g)) (ok : BlkOk X.N X.env.scope scope own)
    (hj : ∀ j ∈ js, j ∈ own.map (·.2)) (hn : ∀ i ∈ own.map (·.2), get ρ i = .nil) (ho : ∀ x, owns (ext ρ x) = owns ρ)
    (hg : ∀ (s : Shared) (H : Hp) (C : Addr) (cl : List (Str × Addr)) (fp : List Addr), PG (X.blk s H scope (compEnvC scope cl C X.env) fp) tg g)
    (he : ∀ (s : Shared) (H : Hp) (C : Addr) (cl : List (Str × Addr)) (fp : List Addr) (x : α), PX (X.blk s H scope (compEnvC scope cl C X.env) fp) PK pp (ext ρ x) elt (f x) en)
    (hsw : swapsWith (.ListComp elt [⟨tg, iter, [], 0⟩] scope pos) (some (.Name y py)) spos.line X.env = pure true) (hy : X.N[i]? = some y := by rfl) (hyl : X.env.scope.names.lookup y = some .local := by rfl)
    (hs : ∀ x, foldedSetIterable iter X.env x = pure x := by intro _; rfl) :
    PS X (.Assign [.Name y py] (.ListComp elt [⟨tg, iter, [], 0⟩] scope pos) spos) (tAsg (rdF PK pp ρ (bnd wi fun xs => mapW f xs) en) (gName i)) :=
  (ps_setLc hc hN hy hyl hsw hi ok hg (fun _ _ _ _ _ => pts_nil) (fun s H C cl fp => ⟨fun pins s' σ H Q I ⟨x, q⟩ => (he s _ C cl fp x).run pins s' σ H Q I q⟩) hs).weak fun D σ H q => lc_read hj hn ho σ H _ q
/-- x = e, e a new list that nobody writes at; or one's own -/
theorem nsetF {st : Stmt} {i : Nat} {w : W (List α)} {en : En X.K α} (h : PS X st (tAsg (rdF PK pp ρ w en) (gName i))) : PS X st (rdN PK pp ρ w fun (_ : Unit) x => put ρ i (.sh (eL en) x)) :=
  nset_ (h.weak fun D σ H ⟨O, Φ, c, S, hw, k⟩ => ⟨O, Φ, c, S, hw, fun xs p vs H' c' q hn ch S' e f => by
    have less : ∀ a, Av O pp ρ a → Av (Ox O p) pp ρ a := fun a h => by
      rcases h with h | h | h
      · exact .inl (.inl h)
      · exact .inr (.inl h)
      · exact .inr (.inr h)
    exact k xs _ H' c' q ch S'.lessO ⟨p, vs, rfl, ⟨fun z => S.av p z hn, e⟩, f.imp fun _ _ => en.mono (Mv.less less)⟩⟩)
theorem nown {st : Stmt} {i : Nat} {w : W (List α)} {en : En X.K α} (h : PS X st (tAsg (rdF PK pp ρ w en) (gName i))) : PS X st (rdN PK pp ρ w fun (p : Addr) x => put ρ i (.ow p (oL en) x)) :=
  h.weak fun D σ H ⟨O, Φ, c, S, hw, k⟩ => ⟨O, Φ, c, S, hw, fun xs p vs H' c' q hn ch S' e f => k p xs H' c' q _ ⟨fun a o e n _ => ch a o e n, fun a z => by
    rcases owns_put z with z | z
    · have z : a = p := by simpa [own1] using z
      rw [z]; exact .inr ⟨hn, nfoot S hn⟩
    · exact .inl z⟩ (S'.own (nfoot S hn) (fun z => S.av p (.inl z) hn) ⟨vs, e, f⟩)⟩
theorem nsetFe (i : Nat) {x : Str} {e : Expr} {pos pos' : Pos} {w : W (List α)} {en : En X.K α} (hN : X.N.Nodup) (he : PE X e (rdF PK pp ρ w en)) (hi : X.N[i]? = some x := by rfl) (hx : Loc X.env.scope x := by first | exact Or.inl rfl | exact Or.inr rfl) (hs : swapsWith e (some (.Name x pos')) pos.line X.env = pure false := by rfl)
    (hf : X.fn x = true ∨ X.env.scope.names.lookup x = some .local := by first | exact .inl rfl | exact .inr rfl) : PS X (.Assign [.Name x pos'] e pos) (tAsg (rdF PK pp ρ w en) (gName i)) := ps_set hN hi hx he hs hf
/-- [a, b, ..] new -/
theorem xlstF {es : List Expr} {pos : Pos} {w : W (List α)} {en : En X.K α} {n : Nat} (h : PAX X PK pp ρ es w (aL en n)) (hn : n ≤ 1000000 := by decide) : PE X (.List es pos) (rdF PK pp ρ w en) := (pe_lst h).weak fun σ H Q ⟨O, Φ, c, S, hw, k⟩ =>
  ⟨O, Φ, c, S, hw, fun x vs H1 c1 p1 ch1 S1 r1 => ⟨by have := r1.2; rw [sizeLine_eq]; omega, fun p np => k _ p vs _ c1 p1 (chg_none S1 ch1 np) (ch1.trans (.of (same_new np))) (S1.newO np) upd_same (r1.1.imp fun _ _ => en.mono (Mv.newA np))⟩⟩
/-- [e] * n new -/
theorem xrepF {a b : Expr} {pos : Pos} {wa : W (List α)} {wb : W Int} {en : En X.K α} (ha : PX X PK pp ρ a wa (eL en)) (hb : PX X PK pp ρ b wb eI) :
    PE X (.BinOp a .Mult b pos) (rdF PK pp ρ (bnd wa fun x => bnd wb fun y => grd (repOk x.length y) (ret (List.replicate y.toNat x).flatten)) en) := (pe_op op_rep ha hb).weak fun σ H Q ⟨O, Φ, c, S, hw, k⟩ =>
  two S hw fun x y v u H' c' q ch S' r1 r2 => by
    obtain ⟨a, vs, rfl, l, f⟩ := r1
    have p := q.1
    simp only [repOk, Bool.and_eq_true, decide_eq_true_eq] at p
    exact ⟨a, y, vs, rfl, r2, l.2, p.1.1, p.1.2, by rw [f.length, sizeLine_eq]; exact p.2, fun p np => k _ p _ _ c' q.2 (chg_none S' ch np) (ch.trans (.of (same_new np))) (S'.newO np) upd_same ((f.flat _).imp fun _ _ => en.mono (Mv.newA np))⟩
/-- xs.append(e), xs one's own -/
theorem nappend (i : Nat) {x : Str} {a : Expr} {pos p' apos cpos : Pos} {w : W α} {en : En X.K α} {p : Addr} {xs : List α} (hg : get ρ i = .ow p (oL en) xs) (h : PX X PK pp ρ a w en) (hN : X.N[i]? = some x := by rfl)
    (hv : Vis X.env.scope x := by first | exact Or.inl rfl | exact Or.inr (Or.inl rfl) | exact Or.inr (Or.inr rfl)) (hd : (x == ("__debug__" : Str)) = false := by decide) (hcd : (x == ("__classdict__" : Str)) = false := by decide)
    (hbase : attributeBase (.Name x p') "append" X.env (eval (.Name x p') X.env) = eval (.Name x p') X.env := by rfl)
    (hfew : ((backTo cpos (starEach [a] X.env)).all (fun x => !x.1) && (backToKw cpos (keywordEach [] X.env)).all (fun x => x.1.isSome) && decide ([a].length + ([] : List Keyword).length + (if ([] : List Keyword).isEmpty then 0 else 1) < 30)) = true := by rfl)
    (hline : (apos.endLine == cpos.line) = true := by rfl) (hs : starEach [a] X.env = (false, eval a X.env) :: starEach [] X.env := by rfl) (hplain : (backTo cpos (starEach [] X.env)).any (·.1) = false := by rfl)
    (hsw : swapsWith (.Call (.Attribute (.Name x p') "append" apos) [a] [] cpos) none pos.line X.env = pure false := by rfl) :
    PS X (.Expr (.Call (.Attribute (.Name x p') "append" apos) [a] [] cpos) pos) (rdN PK pp ρ (bnd w fun y => grd (decide (xs.length < 16777216)) (ret y)) fun (_ : Unit) y => put ρ i (.ow p (oL en) (xs ++ [y]))) :=
  (ps_expr (pe_bm PySem.F.plainAttrs_list PySem.F.slot_list_append PySem.F.type_list_append mt_append (pe_var hN hv hd hcd) (pa_cons h pa_nil hs) hbase hfew hline hs hplain) hsw).weak fun D σ H ⟨O, Φ, c, S, hw, k⟩ => by
    have q := S.slots i
    rw [hg] at q
    obtain ⟨e1, vs, e2, f2⟩ := q
    refine ⟨_, e1, .inl ⟨rfl, _, SqL.of e2⟩, O, _, c, S, hw, fun y v H1 c1 p1 ch S1 r => ?_⟩
    have q := S1.slots i
    rw [hg] at q
    obtain ⟨_, vs, e2, f2⟩ := q
    refine ⟨p, vs, v, rfl, rfl, e2, by rw [f2.length, sizeLine_eq]; exact of_decide_eq_true p1.1, ?_⟩
    have mv : Mv (Av O pp ρ) (Av O pp ρ) H1 (upd H1 p (.lst (vs ++ [v]))) := fun b o n e => ⟨by rw [upd_ne (fun z => n (by rw [z]; exact .inr (.inr (owns_mem hg))))]; exact e, n⟩
    obtain ⟨S2, st⟩ := S1.chgOwn (o := .lst (vs ++ [v])) (on' := oL en) (y := xs ++ [y]) hg ⟨_, upd_same, (f2.append (.cons r .nil)).imp fun _ _ => en.mono mv⟩
    exact k () y _ c1 p1.2 σ ((Stp.of_chg ch fun _ z => z).trans st) S2
/-- xs[i] = e, xs one's own -/
theorem nsetix (i : Nat) {x : Str} {e ix : Expr} {pos p' pos' : Pos} {w : W α} {wx : W Int} {en : En X.K α} {p : Addr} {xs : List α} (hg : get ρ i = .ow p (oL en) xs) (h : PX X PK pp ρ e w en) (hx : PX X PK pp ρ ix wx eI) (hN : X.N[i]? = some x := by rfl)
    (hv : Vis X.env.scope x := by first | exact Or.inl rfl | exact Or.inr (Or.inl rfl) | exact Or.inr (Or.inr rfl)) (hd : (x == ("__debug__" : Str)) = false := by decide) (hcd : (x == ("__classdict__" : Str)) = false := by decide)
    (ha : ∀ v, assign (.Subscript (.Name x p') ix pos') X.env v = (do
      let ov ← holding [v] (eval (.Name x p') X.env)
      let iv ← holding [v, ov] (eval ix X.env)
      standAt pos'
      holding [v, ov, iv] (setItem ov iv v)
      release [v, ov, iv] []) := by intro _; rfl) (hsw : swapsWithSole [.Subscript (.Name x p') ix pos'] e pos.line X.env = pure false := by rfl) (hww : swappedStores [.Subscript (.Name x p') ix pos'] e X.env = pure none := by rfl)
    (h1 : (assignEach [.Subscript (.Name x p') ix pos'] X.env).map (·.2) = [assign (.Subscript (.Name x p') ix pos') X.env] := by rfl) :
    PS X (.Assign [.Subscript (.Name x p') ix pos'] e pos) (rdN PK pp ρ (bnd w fun y => bnd wx fun j => grd (ixOk xs j) (ret (j, y))) fun (_ : Unit) z => put ρ i (.ow p (oL en) (xs.set ((ixN xs.length z.1).getD 0) z.2))) :=
  (ps_asg h (pg_sub (pe_var hN hv hd hcd) hx set_list ha) hsw hww h1).weak fun D σ H ⟨O, Φ, c, S, hw, k⟩ => ⟨O, _, c, S, hw, fun y v H1 c1 p1 ch1 S1 r1 => by
    have q := S1.slots i
    rw [hg] at q
    obtain ⟨e1, vs, e2, f2⟩ := q
    refine ⟨_, e1, O, _, c1, S1, p1, fun j u H2 c2 p2 ch2 S2 r2 => ?_⟩
    have q := S2.slots i
    rw [hg] at q
    obtain ⟨_, vs, e2, f2⟩ := q
    obtain ⟨m, hm⟩ := Option.isSome_iff_exists.mp p2.1
    refine ⟨p, vs, j, m, rfl, r2, e2, by rw [f2.length]; exact hm, ?_⟩
    have mv : Mv (Av O pp ρ) (Av O pp ρ) H2 (upd H2 p (.lst (vs.set m v))) := fun b o n e => ⟨by rw [upd_ne (fun z => n (by rw [z]; exact .inr (.inr (owns_mem hg))))]; exact e, n⟩
    obtain ⟨S3, st⟩ := S2.chgOwn (o := .lst (vs.set m v)) (on' := oL en) (y := xs.set ((ixN xs.length j).getD 0) y) hg ⟨_, upd_same, by
      rw [hm]
      exact (f2.set m (en.mono ch2.mv r1)).imp fun _ _ => en.mono mv⟩
    exact k () (j, y) _ c2 p2.2 σ ((Stp.of_chg (ch1.trans ch2) fun _ z => z).trans st) S3⟩
theorem get_list : PGet X (rIxL X.K) := by
  intro pins s σ H x y v u Q I rx ry h
  obtain ⟨p, xs, i, z, rfl, rfl, hq, he, q⟩ := h
  cases rx
  obtain ⟨t, rfl⟩ := ry
  obtain ⟨its, r, pl, hz⟩ := I.list hq
  obtain ⟨j, h1, h2, h3, h4, h5⟩ := atI_get he
  obtain ⟨w, ew, rw'⟩ := r.get h2
  have hl := r.length
  have hn := line63
  have fin : EP X pins σ Q w s := ⟨z, H, I, rw', q⟩
  by_cases h0 : 0 ≤ i
  · have hj : i.toNat = j := by
      rw [seqIndex_of h0 h5] at h1
      exact Option.some.inj h1
    exact wpAny_getItem_list pl.isList h0 (by omega) (by rw [hj]; simpa using ew) fin
  · have hj : (i + (its.toArray.size : Int)).toNat = j := by
      rw [seqIndex_neg (by omega) h4] at h1
      rw [List.size_toArray, ← hl]
      exact Option.some.inj h1
    exact wpAny_getItem_list_neg pl.isList (by omega) (by rw [List.size_toArray] <;> omega) (by omega) (by rw [hj]; simpa using ew) fin
/-- xs[i] op= e, xs one's own -/
theorem naugix [Inhabited α] (i : Nat) {x : Str} {op : Operator} {e ix : Expr} {pos p' pos' : Pos} {w : W β} {wx : W Int} {en : En X.K α} {e2 : En X.K β} {pre : α → β → Bool} {res : α → β → α} {p : Addr} {xs : List α} (hg : get ρ i = .ow p (oL en) xs) (h : PX X PK pp ρ e w e2) (hx : PX X PK pp ρ ix wx eI)
    (ho : OpW X (inplaceOp op) en e2 en pre res) (hN : X.N[i]? = some x := by rfl)
    (hv : Vis X.env.scope x := by first | exact Or.inl rfl | exact Or.inr (Or.inl rfl) | exact Or.inr (Or.inr rfl)) (hd : (x == ("__debug__" : Str)) = false := by decide) (hcd : (x == ("__classdict__" : Str)) = false := by decide)
    (ha : ∀ ov iv new, augStore ix ov iv new = (do holding [new, ov, iv] (setItem ov iv new); release [new, ov, iv] []; pure .next) := by intros; rfl) :
    PS X (.AugAssign (.Subscript (.Name x p') ix pos') op e pos) (rdN PK pp ρ (bnd wx fun j => grd (ixOk xs j) (bnd w fun y => grd (pre (ixAt xs j) y) (ret (j, res (ixAt xs j) y)))) fun (_ : Unit) z => put ρ i (.ow p (oL en) (xs.set ((ixN xs.length z.1).getD 0) z.2))) :=
  (ps_augS (pe_var hN hv hd hcd) hx get_list h ho set_list ha).weak fun D σ H ⟨O, Φ, c, S, hw, k⟩ => by
    have q := S.slots i
    rw [hg] at q
    obtain ⟨e1, _, _, _⟩ := q
    refine ⟨_, e1, O, _, c, S, hw, fun j u H2 c2 p2 ch2 S2 r2 => ?_⟩
    have q := S2.slots i
    rw [hg] at q
    obtain ⟨_, vs, e2, f2⟩ := q
    obtain ⟨m, hm⟩ := Option.isSome_iff_exists.mp p2.1
    have hlt := ixN_lt hm
    obtain ⟨v1, g1, rv⟩ := f2.get (List.getElem?_eq_getElem hlt)
    have hat : atI vs j = some v1 := by
      unfold atI
      rw [f2.length, hm]
      exact g1
    have exs : xs[m] = ixAt xs j := by
      unfold ixAt
      rw [hm, Option.getD_some, List.getD_eq_getElem?_getD, List.getElem?_eq_getElem hlt]
      rfl
    rw [exs] at rv
    refine ⟨p, vs, j, v1, rfl, r2, SqL.of e2, hat, O, _, c2, S2, p2.2, fun y v H3 c3 p3 ch3 S3 r3 => ⟨_, ixAt xs j, y, S3.av, en.mono ch3.mv rv, r3, p3.1, fun z H4 s4 r4 => ?_⟩⟩
    have S4 := S3.same s4
    have q := S4.slots i
    rw [hg] at q
    obtain ⟨_, vs, e2, f2⟩ := q
    refine ⟨p, vs, j, m, rfl, r2, e2, by rw [f2.length]; exact hm, ?_⟩
    have mv : Mv (Av O pp ρ) (Av O pp ρ) H4 (upd H4 p (.lst (vs.set m z))) := fun b o n e => ⟨by rw [upd_ne (fun z => n (by rw [z]; exact .inr (.inr (owns_mem hg))))]; exact e, n⟩
    obtain ⟨S5, st⟩ := S4.chgOwn (o := .lst (vs.set m z)) (on' := oL en) (y := xs.set ((ixN xs.length j).getD 0) (res (ixAt xs j) y)) hg ⟨_, upd_same, by
      rw [hm]
      exact (f2.set m r4).imp fun _ _ => en.mono mv⟩
    exact k () (j, _) _ c3 p3.2 σ ((Stp.of_chg ((ch2.trans ch3).trans (.of s4)) fun _ z => z).trans st) S5
/-- an own list read, or handed on: as a value it is read alone from then on -/
theorem nfreeze (i : Nat) {p : Addr} {en : En X.K α} {xs : List α} {rest : List Stmt} {w : W (Fl γ δ β)} {ρ' : γ → List (Sl X.K)} {ρl : δ → List (Sl X.K)} {er : En X.K β} (hg : get ρ i = .ow p (oL en) xs) (h : PSX X PK pp (put ρ i (.sh (eL en) xs)) rest w ρ' ρl er) : PSX X PK pp ρ rest w ρ' ρl er :=
  h.weak fun D σ H ⟨O, Φ, c, S, hw, k⟩ => by
    have q := S.slots i
    rw [hg] at q
    obtain ⟨e1, vs, e2, f2⟩ := q
    have hm := owns_mem hg
    have hne : ∀ a, a ∈ owns (put ρ i (.sh (eL en) xs)) → a ∈ owns ρ := fun a z => by
      rcases owns_put z with z | z
      · cases z
      · exact z
    have less : ∀ a, Av O pp (put ρ i (.sh (eL en) xs)) a → Av O pp ρ a := fun a z => by
      rcases z with z | z | z
      · exact .inl z
      · exact .inr (.inl z)
      · exact .inr (.inr (hne a z))
    have np : p ∉ owns (put ρ i (.sh (eL en) xs)) := fun z => by
      obtain ⟨j, α', on, y, e⟩ := mem_owns z
      by_cases hj : j = i
      · subst hj
        rcases get_put_self (ρ := ρ) (i := j) (s := Sl.sh (eL en) xs) with q | q <;> rw [q] at e <;> cases e
      · rw [get_put_ne hj] at e
        exact hj (owns_inj S.nd e hg)
    have S' : Sat PK O pp (put ρ i (.sh (eL en) xs)) c σ H := by
      refine ⟨by rw [put_len]; exact S.len, owns_put_nodup S.nd (own1_nodup _) (fun b hb => by cases hb), fun a ha => S.new a (hne a ha), S.dom, S.pool, fun j => ?_⟩
      by_cases hj : j = i
      · subst hj
        rcases get_put_self (ρ := ρ) (i := j) (s := Sl.sh (eL en) xs) with q | q
        · rw [q]
          refine ⟨_, e1, p, vs, rfl, ⟨fun z => ?_, e2⟩, f2.imp fun _ _ => en.mono (Mv.less less)⟩
          rcases z with z | z | z
          · exact (S.new p hm).1 z
          · exact (S.new p hm).2 z
          · exact np z
        · rw [q]; exact True.intro
      · rw [get_put_ne hj]
        exact (S.slots j).mv (Mv.less less) fun _ _ => rfl
    have st : Stp pp ρ (put ρ i (.sh (eL en) xs)) H H := ⟨fun a o e _ _ => e, fun a z => .inl (hne a z)⟩
    exact ⟨O, Φ, c, S', hw, fun fl H' c' q => by
      have z := k fl H' c' q
      cases fl with
      | nx s => exact fun σ' t S2 => z σ' (st.trans t) S2
      | bk s => exact fun σ' t S2 => z σ' (st.trans t) S2
      | ct s => exact fun σ' t S2 => z σ' (st.trans t) S2
      | rt r => exact fun v ch pl r => z v (fun a o e n no => ch a o e n fun y => no (hne a y)) pl r⟩
end
end Dc
/-! DcG: what is walked: lists, pairs of lists, places with items, ranges. -/
namespace Dc
open PySem PySem.Spec L2
section
variable {X : Cx} {PK : PoolK} {pp : PP} {ρ : List (Sl X.K)} {α β γ δ : Type}
/-- a list is never longer than the line -/
theorem pe_len {e : Expr} {t : TE} (h : PE X e t) : PE X e (fun σ H Q => t σ H fun v H' => (∀ a xs, v = .ref a → SqL X.K H' a xs → xs.length ≤ sizeLine) → Q v H') := ⟨fun pins s σ H Q I q =>
  thn (h.run pins s σ H _ I q) fun u s' ⟨v, H', I', r, q'⟩ => ⟨v, H', I', r, q' fun a xs _ hs => by
    obtain ⟨_, _, _, z⟩ := I'.list hs
    exact z⟩⟩
theorem pa_len {es : List Expr} {t : TA} (h : PA X es t) : PA X es (fun σ H Q => t σ H fun vs H' => (∀ a xs, .ref a ∈ vs → SqL X.K H' a xs → xs.length ≤ sizeLine) → Q vs H') := ⟨fun pos pins s σ H Q I q =>
  thn (h.run pos pins s σ H _ I q) fun us s' ⟨vs, H', I', r, q'⟩ => ⟨vs, H', I', r, q' fun a xs _ hs => by
    obtain ⟨_, _, _, z⟩ := I'.list hs
    exact z⟩⟩
theorem own_put_sh {K : PySem.W.Frag} {α : Type} {ρ : List (Sl K)} {i : Nat} {en : En K α} {x : α} {a : Addr} (h : a ∈ owns (put ρ i (.sh en x))) : a ∈ owns ρ := by
  rcases owns_put h with h | h
  · cases h
  · exact h
/-- for x in xs -/
theorem wlist (i : Nat) {e : Expr} {nm : Str} {p : Pos} {w : W (List α)} {en : En X.K α} (h : PX X PK pp ρ e w (eR en)) : PI X (.Name nm p) e (rdI PK pp ρ w (fun ρ x => put ρ i (.sh en x)) [i] (gName i)) :=
  (pi_list (pe_len h)).weak fun σ H R ⟨O, Φ, c, S, hw, k⟩ => ⟨O, _, c, S, hw, fun xs v H1 c1 p1 ch S1 r1 hz => by
    obtain ⟨a, vs, rfl, l, f⟩ := r1
    refine ⟨a, rfl, ⟨vs, l.sq⟩, k xs _ H1 c1 p1 ch S1 ⟨fun j H' A' hj m => ?_, fun H' A' m => ?_, fun _ _ _ z => own_put_sh z, fun j x H' v H'' pp' ρ' O' c' σ' hx m S' y => ?_⟩ ?_⟩
    · have hv : j < vs.length := by rw [f.length]; exact hj
      exact ⟨vs, vs[j], (l.mv m).sq, List.getElem?_eq_getElem hv⟩
    · exact ⟨vs, (l.mv m).sq, by rw [f.length]; exact Nat.le_refl _⟩
    · obtain ⟨rfl, hy⟩ := y
      obtain ⟨u, hu, ru⟩ := f.get hx
      have e := hy vs (l.mv m).sq
      rw [hu] at e
      cases e
      exact ⟨[(i, v)], H'', rfl, .refl _, S'.put (en.mono m ru), fun Q q => q⟩
    · rw [← f.length]; exact hz a vs rfl l.sq⟩
theorem wlistL (i : Nat) {e : Expr} {nm : Str} {p : Pos} {w : W (List α)} {en : En X.K α} (h : PX X PK pp ρ e w (eL en)) : PI X (.Name nm p) e (rdI PK pp ρ w (fun ρ x => put ρ i (.sh en x)) [i] (gName i)) := wlist i (xR h)
/-- the pair just made, taken apart -/
theorem gpair {K : PySem.W.Frag} {PK : PoolK} {pp : PP} {ρ : List (Sl K)} {O : AS} {c : Nat} {σ : St} {H : Hp} {T : Addr} {u v : V} {i j : Nat} {e1 : En K α} {e2 : En K β} {x : α} {y : β} (S : Sat PK O pp ρ c σ H) (hT : H T = none) (r1 : e1.r (Av O pp ρ) H u x) (r2 : e2.r (Av O pp ρ) H v y) :
    ∃ us H2, us.map (·.1) = [i, j] ∧ Same H H2 ∧ Sat PK O pp (put (put ρ i (.sh e1 x)) j (.sh e2 y)) c (setAll σ us) H2 ∧ ∀ Q : St → Hp → Prop, Q (setAll σ us) H2 → gTup K 2 (gCons (gName i) (gCons (gName j) gNil)) (.ref T) σ (upd H T (.tup [u, v])) Q := by
  have s := same_new (o := .tup [u, v]) hT
  have S1 := S.same s
  have less : ∀ a, Av O pp (put ρ i (.sh e1 x)) a → Av O pp ρ a := fun a z => by
    rcases z with z | z | z
    · exact .inl z
    · exact .inr (.inl z)
    · exact .inr (.inr (own_put_sh z))
  exact ⟨[(i, u), (j, v)], _, rfl, s, (S1.put (e1.mono (Mv.same s) r1)).put (e2.mono ((Mv.same s).trans (Mv.less less)) r2), fun Q q => ⟨T, [u, v], rfl, .inl (.inl upd_same), rfl, u, [v], rfl, v, [], rfl, rfl, q⟩⟩
/-- for a, b in zip(xs, ys) -/
theorem wzip (i j : Nat) {a b : Expr} {elts : List Expr} {kk : Nat} {p pos tpos : Pos} {wa : W (List α × List β × Unit)} {e1 : En X.K α} {e2 : En X.K β} (hm : X.mg "zip" = none) (h : PAX X PK pp ρ [a, b] wa (a2 (eL e1) (eL e2))) (hg : Gl X "zip" := by rfl)
    (hs : starEach [a, b] X.env = (false, eval a X.env) :: starEach [b] X.env := by rfl) (hpl : (backTo pos (starEach [b] X.env)).any (·.1) = false := by rfl) :
    PI X (.Tuple elts kk tpos) (.Call (.Name "zip" p) [a, b] [] pos) (rdI PK pp ρ (bnd wa fun x => ret (x.1.zip x.2.1)) (fun ρ x => put (put ρ i (.sh e1 x.1)) j (.sh e2 x.2)) [i, j] (gTup X.K 2 (gCons (gName i) (gCons (gName j) gNil)))) :=
  (pi_zip hg hm (pa_len h) hs hpl).weak fun σ H R ⟨O, Φ, c, S, hw, k⟩ => ⟨O, _, c, S, hw, fun x vs0 H1 c1 p1 ch S1 r1 hz => by
    obtain ⟨_, _, rfl, ⟨a, vs, rfl, l, f⟩, _, _, rfl, ⟨b, us, rfl, l2, f2⟩, rfl⟩ := r1
    have hl := f.length
    have hl2 := f2.length
    refine ⟨a, b, vs, us, rfl, l.sq, l2.sq, k _ _ H1 c1 p1 ch S1 ⟨fun j H' A' hj m => ?_, fun H' A' m => ?_, fun _ _ _ z => own_put_sh (own_put_sh z), fun j y H' v H'' pp' ρ' O' c' σ' hx m S' yy => ?_⟩ ?_⟩
    · rw [List.length_zip] at hj
      have h1 : j < vs.length := by omega
      have h2 : j < us.length := by omega
      exact ⟨vs, us, vs[j], us[j], (l.mv m).sq, (l2.mv m).sq, List.getElem?_eq_getElem h1, List.getElem?_eq_getElem h2⟩
    · refine ⟨vs, us, (l.mv m).sq, (l2.mv m).sq, ?_⟩
      rw [List.length_zip]
      omega
    · obtain ⟨T, u, w, rfl, nT, rfl, hu, hw'⟩ := yy
      rw [List.getElem?_zip_eq_some] at hx
      obtain ⟨u1, g1, q1⟩ := f.get hx.1
      obtain ⟨u2, g2, q2⟩ := f2.get hx.2
      have z1 := hu vs (l.mv m).sq
      have z2 := hw' us (l2.mv m).sq
      rw [g1] at z1
      rw [g2] at z2
      cases z1
      cases z2
      exact gpair S' nT (e1.mono m q1) (e2.mono m q2)
    · have := hz a vs (by simp) l.sq
      rw [List.length_zip]
      omega⟩
/-- places with items -/
def enumF {α : Type} : Int → List α → List (Int × α)
  | _, [] => []
  | n, x :: r => (n, x) :: enumF (n + 1) r
theorem enumF_len {α : Type} : ∀ (n : Int) (l : List α), (enumF n l).length = l.length
  | _, [] => rfl
  | n, x :: r => by simp [enumF, enumF_len (n + 1) r]
theorem enumF_get {α : Type} : ∀ (n : Int) (l : List α) (i : Nat) (y : Int × α), (enumF n l)[i]? = some y → y.1 = n + i ∧ l[i]? = some y.2
  | _, [], i, y, h => by simp [enumF] at h
  | n, x :: r, 0, y, h => by
    simp [enumF] at h
    subst h
    simp
  | n, x :: r, i + 1, y, h => by
    have h : (enumF (n + 1) r)[i]? = some y := by simpa [enumF] using h
    obtain ⟨h1, h2⟩ := enumF_get (n + 1) r i y h
    refine ⟨by rw [h1]; omega, by simpa using h2⟩
theorem wenumR (i j : Nat) {a : Expr} {elts : List Expr} {kk : Nat} {p pos tpos : Pos} {wa : W (List α × Unit)} {en : En X.K α} (hm : X.mg "enumerate" = none) (h : PAX X PK pp ρ [a] wa (a1 (eR en))) (hg : Gl X "enumerate" := by rfl) (hs : starEach [a] X.env = [(false, eval a X.env)] := by rfl) :
    PI X (.Tuple elts kk tpos) (.Call (.Name "enumerate" p) [a] [] pos) (rdI PK pp ρ (bnd wa fun x => ret (enumF 0 x.1)) (fun ρ x => put (put ρ i (.sh eI x.1)) j (.sh en x.2)) [i, j] (gTup X.K 2 (gCons (gName i) (gCons (gName j) gNil)))) :=
  (pi_enum hg hm (pa_len h) hs).weak fun σ H R ⟨O, Φ, c, S, hw, k⟩ => ⟨O, _, c, S, hw, fun x vs0 H1 c1 p1 ch S1 r1 hz => by
    obtain ⟨_, _, rfl, ⟨a, vs, rfl, l, f⟩, rfl⟩ := r1
    have hl := f.length
    refine ⟨a, vs, rfl, l.sq, k _ _ H1 c1 p1 ch S1 ⟨fun j H' A' hj m => ?_, fun H' A' m => ?_, fun _ _ _ z => own_put_sh (own_put_sh z), fun j y H' v H'' pp' ρ' O' c' σ' hx m S' yy => ?_⟩ ?_⟩
    · rw [enumF_len] at hj
      have h1 : j < vs.length := by omega
      exact ⟨vs, vs[j], (l.mv m).sq, List.getElem?_eq_getElem h1⟩
    · refine ⟨vs, (l.mv m).sq, ?_⟩
      rw [enumF_len]
      omega
    · obtain ⟨T, u, rfl, nT, rfl, hu⟩ := yy
      obtain ⟨h1, h2⟩ := enumF_get 0 _ _ _ hx
      obtain ⟨u1, g1, q1⟩ := f.get h2
      have z1 := hu vs (l.mv m).sq
      rw [g1] at z1
      cases z1
      refine gpair S' nT ?_ (en.mono m q1)
      rw [h1, Int.zero_add]
      rfl
    · have := hz a vs (by simp) l.sq
      rw [enumF_len]
      omega⟩
theorem wenum (i j : Nat) {a : Expr} {elts : List Expr} {kk : Nat} {p pos tpos : Pos} {wa : W (List α × Unit)} {en : En X.K α} (hm : X.mg "enumerate" = none) (h : PAX X PK pp ρ [a] wa (a1 (eL en))) (hg : Gl X "enumerate" := by rfl) (hs : starEach [a] X.env = [(false, eval a X.env)] := by rfl) :
    PI X (.Tuple elts kk tpos) (.Call (.Name "enumerate" p) [a] [] pos) (rdI PK pp ρ (bnd wa fun x => ret (enumF 0 x.1)) (fun ρ x => put (put ρ i (.sh eI x.1)) j (.sh en x.2)) [i, j] (gTup X.K 2 (gCons (gName i) (gCons (gName j) gNil)))) :=
  wenumR i j hm (h.weak fun σ H Q ⟨O, Φ, c, S, hw, k⟩ => ⟨O, Φ, c, S, hw, fun x v H' c' p ch S' r => k x v H' c' p ch S' (by
    obtain ⟨v1, r1, e1, q1, q2⟩ := r
    exact ⟨v1, r1, e1, eL_R q1, q2⟩)⟩) hg hs
/-- whole numbers from lo on -/
def rangeF : Int → Nat → List Int
  | _, 0 => []
  | lo, n + 1 => lo :: rangeF (lo + 1) n
theorem rangeF_len : ∀ (lo : Int) (n : Nat), (rangeF lo n).length = n
  | _, 0 => rfl
  | lo, n + 1 => by simp [rangeF, rangeF_len (lo + 1) n]
theorem rangeF_get : ∀ (lo : Int) (n i : Nat) (y : Int), (rangeF lo n)[i]? = some y → y = lo + i ∧ i < n
  | _, 0, i, y, h => by simp [rangeF] at h
  | lo, n + 1, 0, y, h => by
    simp [rangeF] at h
    subst h
    simp
  | lo, n + 1, i + 1, y, h => by
    have h : (rangeF (lo + 1) n)[i]? = some y := by simpa [rangeF] using h
    obtain ⟨h1, h2⟩ := rangeF_get (lo + 1) n i y h
    exact ⟨by rw [h1]; omega, by omega⟩
def rngOk (i j : Int) : Bool := decide (-(2 ^ 62) ≤ i) && decide (i < 2 ^ 62) && decide (-(2 ^ 62) ≤ j) && decide (j < 2 ^ 62) && decide (j - i ≤ 16777216)
theorem src_range {K : PySem.W.Frag} {PK : PoolK} (i : Nat) (lo : Int) (n : Nat) {A : AS} {H0 : Hp} : Src (K := K) PK (rangeF lo n) (fun ρ x => put ρ i (.sh eI x)) [i] (gName i) (Itr lo n) A H0 := by
  refine ⟨fun j H' A' hj m => ?_, fun H' A' m => ?_, fun _ _ _ z => own_put_sh z, fun j y H' v H'' pp' ρ' O' c' σ' hx m S' yy => ?_⟩
  · rw [rangeF_len] at hj; exact hj
  · rw [rangeF_len]; exact Nat.le_refl _
  · obtain ⟨rfl, rfl⟩ := yy
    obtain ⟨h1, _⟩ := rangeF_get _ _ _ _ hx
    exact ⟨[(i, .int (lo + j))], H'', rfl, .refl _, S'.put (by rw [h1]; rfl), fun Q q => q⟩
theorem wrange1 (i : Nat) {a : Expr} {nm : Str} {p pos tp : Pos} {wa : W (Int × Unit)} (hm : X.mg "range" = none) (h : PAX X PK pp ρ [a] wa (a1 eI)) (hg : Gl X "range" := by rfl) (hs : starEach [a] X.env = [(false, eval a X.env)] := by rfl) :
    PI X (.Name nm tp) (.Call (.Name "range" p) [a] [] pos) (rdI PK pp ρ (bnd wa fun x => grd (rngOk 0 x.1) (ret (rangeF 0 x.1.toNat))) (fun ρ x => put ρ i (.sh eI x)) [i] (gName i)) :=
  (pi_range1 hg hm h hs).weak fun σ H R ⟨O, Φ, c, S, hw, k⟩ => ⟨O, _, c, S, hw, fun x vs0 H1 c1 p1 ch S1 r1 => by
    obtain ⟨_, _, rfl, q, rfl⟩ := r1
    obtain ⟨q0, q2⟩ := p1
    simp only [rngOk, Bool.and_eq_true, decide_eq_true_eq] at q0
    exact ⟨x.1, by rw [show _ = V.int x.1 from q], q0.1.1.2, q0.1.2, k _ _ H1 c1 q2 ch S1 (src_range i 0 _) (by rw [rangeF_len, sizeLine_eq]; have := q0.2; omega)⟩⟩
theorem wrange2 (i : Nat) {a b : Expr} {nm : Str} {p pos tp : Pos} {wa : W (Int × Int × Unit)} (hm : X.mg "range" = none) (h : PAX X PK pp ρ [a, b] wa (a2 eI eI)) (hg : Gl X "range" := by rfl) (hs : starEach [a, b] X.env = [(false, eval a X.env), (false, eval b X.env)] := by rfl) (hs2 : starEach [b] X.env = [(false, eval b X.env)] := by rfl) :
    PI X (.Name nm tp) (.Call (.Name "range" p) [a, b] [] pos) (rdI PK pp ρ (bnd wa fun x => grd (rngOk x.1 x.2.1) (ret (rangeF x.1 (x.2.1 - x.1).toNat))) (fun ρ x => put ρ i (.sh eI x)) [i] (gName i)) :=
  (pi_range2 hg hm h hs hs2).weak fun σ H R ⟨O, Φ, c, S, hw, k⟩ => ⟨O, _, c, S, hw, fun x vs0 H1 c1 p1 ch S1 r1 => by
    obtain ⟨_, _, rfl, q, _, _, rfl, q', rfl⟩ := r1
    obtain ⟨q0, q2⟩ := p1
    simp only [rngOk, Bool.and_eq_true, decide_eq_true_eq] at q0
    exact ⟨x.1, x.2.1, by rw [show _ = V.int x.1 from q, show _ = V.int x.2.1 from q'], ⟨q0.1.1.1.1, q0.1.1.1.2, q0.1.1.2, q0.1.2⟩, k _ _ H1 c1 q2 ch S1 (src_range i _ _) (by rw [rangeF_len, sizeLine_eq]; have := q0.2; omega)⟩⟩
end
end Dc
/-! DcH: more statements and expressions. -/
namespace Dc
open PySem PySem.Spec L2
section
variable {X : Cx} {PK : PoolK} {pp : PP} {ρ : List (Sl X.K)} {α β γ δ : Type}

/-! ### own lists read -/
theorem xixO [Inhabited α] (i : Nat) {x : Str} {ix : Expr} {p' pos : Pos} {wx : W Int} {en : En X.K α} {p : Addr} {xs : List α} (hg : get ρ i = .ow p (oL en) xs) (hx : PX X PK pp ρ ix wx eI) (hN : X.N[i]? = some x := by rfl)
    (hv : Vis X.env.scope x := by first | exact Or.inl rfl | exact Or.inr (Or.inl rfl) | exact Or.inr (Or.inr rfl)) (hd : (x == ("__debug__" : Str)) = false := by decide) (hcd : (x == ("__classdict__" : Str)) = false := by decide) (hs : PlainIx ix := by exact fun _ _ => rfl) :
    PX X PK pp ρ (.Subscript (.Name x p') ix pos) (bnd wx fun j => grd (ixOk xs j) (ret (ixAt xs j))) en :=
  (pe_ix ix_list (pe_var hN hv hd hcd) hx hs).weak fun σ H Q ⟨O, Φ, c, S, hw, k⟩ => by
    have q := S.slots i
    rw [hg] at q
    obtain ⟨e1, _, _, _⟩ := q
    refine ⟨_, e1, O, _, c, S, hw, fun j u H2 c2 p2 ch2 S2 r2 => ?_⟩
    have q := S2.slots i
    rw [hg] at q
    obtain ⟨_, vs, e2, f2⟩ := q
    obtain ⟨m, hm⟩ := Option.isSome_iff_exists.mp p2.1
    have hlt := ixN_lt hm
    obtain ⟨v1, g1, rv⟩ := f2.get (List.getElem?_eq_getElem hlt)
    refine ⟨p, vs, j, v1, rfl, r2, SqL.of e2, ?_, k _ _ H2 c2 p2.2 ch2 S2 ?_⟩
    · unfold atI
      rw [f2.length, hm]
      exact g1
    · unfold ixAt
      rw [hm, Option.getD_some, List.getD_eq_getElem?_getD, List.getElem?_eq_getElem hlt]
      exact rv
theorem xlenO (i : Nat) {x : Str} {p p' pos : Pos} {en : En X.K α} {a : Addr} {xs : List α} (hg : get ρ i = .ow a (oL en) xs) (hm : X.mg "len" = none) (hgl : Gl X "len" := by rfl) (hN : X.N[i]? = some x := by rfl)
    (hv : Vis X.env.scope x := by first | exact Or.inl rfl | exact Or.inr (Or.inl rfl) | exact Or.inr (Or.inr rfl)) (hd : (x == ("__debug__" : Str)) = false := by decide) (hcd : (x == ("__classdict__" : Str)) = false := by decide)
    (he : starEach [Expr.Name x p'] X.env = (false, eval (.Name x p') X.env) :: starEach [] X.env := by rfl) (hpl : (backTo pos (starEach [] X.env)).any (·.1) = false := by rfl) :
    PX X PK pp ρ (.Call (.Name "len" p) [.Name x p'] [] pos) (ret (xs.length : Int)) eI :=
  (pe_callB call_len_seq hgl hm PySem.boot_len (pa_cons (pe_var hN hv hd hcd) pa_nil he) (by decide) (by decide) he hpl).weak fun σ H Q ⟨O, Φ, c, S, hw, k⟩ => by
    have q := S.slots i
    rw [hg] at q
    obtain ⟨e1, vs, e2, f2⟩ := q
    exact ⟨_, e1, a, vs, rfl, .inl (SqL.of e2), k _ _ H c hw .refl S (by rw [f2.length]; rfl)⟩

/-! ### a, b = e -/
theorem npair (i j : Nat) {x y : Str} {e : Expr} {px py pt pos : Pos} {kt} {w : W (α × β)} {e1 : En X.K α} {e2 : En X.K β} (hc : X.calm = true) (hN : X.N.Nodup) (h : PX X PK pp ρ e w (eP e1 e2)) (hi : X.N[i]? = some x := by rfl) (hj : X.N[j]? = some y := by rfl)
    (hx : Loc X.env.scope x := by first | exact Or.inl rfl | exact Or.inr rfl) (hy : Loc X.env.scope y := by first | exact Or.inl rfl | exact Or.inr rfl)
    (hf : X.fn x = true ∨ X.env.scope.names.lookup x = some .local := by first | exact .inl rfl | exact .inr rfl) (hf2 : X.fn y = true ∨ X.env.scope.names.lookup y = some .local := by first | exact .inl rfl | exact .inr rfl)
    (hs1 : (assignEach [Expr.Name x px, Expr.Name y py] X.env).map (·.2) = assign (.Name x px) X.env :: (assignEach [Expr.Name y py] X.env).map (·.2) := by rfl) (hs2 : (assignEach [Expr.Name y py] X.env).map (·.2) = assign (.Name y py) X.env :: (assignEach [] X.env).map (·.2) := by rfl)
    (hn : (assignEach [Expr.Name x px, Expr.Name y py] X.env).length = 2 := by rfl) (hst : (assignEach [Expr.Name x px, Expr.Name y py] X.env).findIdx? (·.1) = none := by rfl)
    (hsw : swapsWithSole [.Tuple [.Name x px, .Name y py] kt pt] e pos.line X.env = pure false := by rfl) (hww : swappedStores [.Tuple [.Name x px, .Name y py] kt pt] e X.env = pure none := by rfl) (h1 : (assignEach [.Tuple [.Name x px, .Name y py] kt pt] X.env).map (·.2) = [assign (.Tuple [.Name x px, .Name y py] kt pt) X.env] := by rfl) :
    PS X (.Assign [.Tuple [.Name x px, .Name y py] kt pt] e pos) (rdN PK pp ρ w fun (_ : Unit) z => put (put ρ i (.sh e1 z.1)) j (.sh e2 z.2)) :=
  (ps_asg h (pg_tup hc (pgs_cons (pg_name hN hi hx hf) (pgs_cons (pg_name hN hj hy hf2) pgs_nil hs2) hs1) hn hst) hsw hww h1).weak fun D σ H ⟨O, Φ, c, S, hw, k⟩ => ⟨O, _, c, S, hw, fun z v H1 c1 p1 ch S1 r => by
    obtain ⟨a, u, w, rfl, t, q1, q2⟩ := r
    refine ⟨a, [u, w], rfl, t.sq, rfl, u, [w], rfl, w, [], rfl, rfl, ?_⟩
    have less : ∀ a, Av O pp (put ρ i (.sh e1 z.1)) a → Av O pp ρ a := fun a z => by
      rcases z with z | z | z
      · exact .inl z
      · exact .inr (.inl z)
      · exact .inr (.inr (own_put_sh z))
    exact k () z H1 c1 p1 _ (.of_chg ch fun a z => own_put_sh (own_put_sh z)) ((S1.put q1).put (e2.mono (Mv.less less) q2))⟩
/-- a, b = e1, e2 -/
theorem npar (i j : Nat) {x y : Str} {a b : Expr} {px py pt pos : Pos} {kt k2 pt2} {w : W (α × β × Unit)} {e1 : En X.K α} {e2 : En X.K β} (hc : X.calm = true) (hN : X.N.Nodup) (h : PAX X PK pp ρ [a, b] w (a2 e1 e2)) (hij : i ≠ j := by decide) (hi : X.N[i]? = some x := by rfl) (hj : X.N[j]? = some y := by rfl)
    (hx : X.env.scope.names.lookup x = some .local := by rfl) (hy : X.env.scope.names.lookup y = some .local := by rfl) (hw : swappedStores [.Tuple [.Name x px, .Name y py] kt pt] (.Tuple [a, b] k2 pt2) X.env = pure (some [x, y]) := by rfl)
    (hs : swapsWithSole [.Tuple [.Name x px, .Name y py] kt pt] (.Tuple [a, b] k2 pt2) pos.line X.env = pure false := by rfl) :
    PS X (.Assign [.Tuple [.Name x px, .Name y py] kt pt] (.Tuple [a, b] k2 pt2) pos) (rdN PK pp ρ w fun (_ : Unit) z => put (put ρ i (.sh e1 z.1)) j (.sh e2 z.2.1)) :=
  (ps_par hc hN hi hj hij hx hy h hw hs).weak fun D σ H ⟨O, Φ, c, S, hw, k⟩ => ⟨O, _, c, S, hw, fun z v H1 c1 p1 ch S1 r => by
    obtain ⟨u, _, rfl, q1, w, _, rfl, q2, rfl⟩ := r
    have less : ∀ a, Av O pp (put ρ i (.sh e1 z.1)) a → Av O pp ρ a := fun a z => by
      rcases z with z | z | z
      · exact .inl z
      · exact .inr (.inl z)
      · exact .inr (.inr (own_put_sh z))
    exact ⟨u, w, rfl, k () z H1 c1 p1 _ (.of_chg ch fun a z => own_put_sh (own_put_sh z)) ((S1.put q1).put (e2.mono (Mv.less less) q2))⟩⟩
/-! ### while -/
def whW (t : γ → W Bool) (f : γ → W (Fl γ γ β)) : Nat → γ → W (Fl γ δ β)
  | 0, _ => stuck
  | n + 1, s => bnd (t s) fun b => ite b (bnd (f s) fun fl => match fl with
    | .nx s' => whW t f n s'
    | .ct s' => whW t f n s'
    | .bk s' => ret (.nx s')
    | .rt y => ret (.rt y)) (ret (.nx s))
theorem nwhile {c : Expr} {body : List Stmt} {pos : Pos} {t : γ → W Bool} {f : γ → W (Fl γ γ β)} {ρL : γ → List (Sl X.K)} {ρl : δ → List (Sl X.K)} {er : En X.K β} {s0 : γ} (fuel : Nat)
    (hp : PassesOwn (model X.prog X.w) X.A X.env X.xe) (hf : Fit ρ (ρL s0)) (ht : ∀ s, PTX X PK pp (ρL s) c (t s)) (hb : ∀ s, PSX X PK pp (ρL s) body (f s) ρL ρL er) :
    PS X (.While c body [] pos) (rdS PK pp ρ (whW t f fuel s0) ρL ρl er) :=
  (ps_while (tc := fun σ H Q => ∃ s, rdT PK pp (ρL s) (t s) σ H Q) hp ⟨fun pins s σ H Q I ⟨g, q⟩ => (ht g).run pins s σ H Q I q⟩ (PSs.ex hb)).weak fun D σ H ⟨O, Φ, c, S, hw, k⟩ => by
    refine ⟨fun m σ' H' => ∃ s c', Stp pp ρ (ρL s) H H' ∧ Sat PK O pp (ρL s) c' σ' H' ∧ whW t f m s Φ noX c', ⟨fuel, s0, c, hf.stp, S.fit hf, hw⟩, ?_⟩
    rintro m σ' H' ⟨s, c', st, S', hw'⟩
    cases m with
    | zero => exact hw'.elim
    | succ m =>
      refine ⟨s, O, _, c', S', hw', fun b H2 c2 q ch S2 => ?_⟩
      have st2 := st.trans (.of_chg ch fun _ z => z)
      cases b with
      | true =>
        simp only [if_true]
        refine ⟨fun σ3 H3 => ∃ s c', Stp pp ρ (ρL s) H H3 ∧ Sat PK O pp (ρL s) c' σ3 H3 ∧ whW t f m s Φ noX c', fun σ3 H3 z => ⟨m, Nat.lt_succ_self m, z⟩, s, O, _, c2, S2, q, fun fl H4 c4 q4 => ?_⟩
        cases fl with
        | nx s' => exact fun σ4 t S4 => ⟨s', c4, st2.trans t, S4, q4⟩
        | ct s' => exact fun σ4 t S4 => ⟨s', c4, st2.trans t, S4, q4⟩
        | bk s' => exact fun σ4 t S4 => k (.nx s') H4 c4 q4 σ4 (st2.trans t) S4
        | rt r => exact (k (.rt r) H4 c4 q4).mono st2
      | false =>
        simp only [Bool.false_eq_true, if_false]
        exact k (.nx s) H2 c2 (by simpa [ite, ret] using q) σ' st2 S2
/-! ### comparisons of data -/
structure Dat {K : PySem.W.Frag} {α : Type} (en : En K α) (to : α → PyData) : Prop where
  dp : ∀ {O : AS} {H : Hp} {v : V} {x : α}, en.r O H v x → Dp K H v (to x)
theorem dI {K : PySem.W.Frag} : Dat (eI : En K Int) .int := ⟨fun h => by rw [show _ = _ from h]; exact .int _⟩
theorem dB {K : PySem.W.Frag} : Dat (eB : En K Bool) .bool := ⟨fun h => by rw [show _ = _ from h]; exact .bl _⟩
theorem dS {K : PySem.W.Frag} : Dat (eS : En K Str) .str := ⟨fun h => by rw [show _ = _ from h]; exact .str _⟩
theorem dAll {K : PySem.W.Frag} {en : En K α} {to : α → PyData} (d : Dat en to) {O : AS} {H : Hp} {vs : List V} {xs : List α} (f : F2 (en.r O H) vs xs) : DpAll K H vs (xs.map to) := by
  induction f with
  | nil => exact .nil
  | cons r _ ih => exact .cons (d.dp r) ih
theorem dL {K : PySem.W.Frag} {en : En K α} {to : α → PyData} (d : Dat en to) : Dat (eL en) (fun xs => .list (xs.map to)) := ⟨fun ⟨a, vs, e, l, f⟩ => by rw [e]; exact .lst l.sq (dAll d f)⟩
theorem dP {K : PySem.W.Frag} {e1 : En K α} {e2 : En K β} {to : α → PyData} {to2 : β → PyData} (d : Dat e1 to) (d2 : Dat e2 to2) : Dat (eP e1 e2) (fun x => .tuple [to x.1, to2 x.2]) := ⟨fun ⟨a, u, w, e, t, q1, q2⟩ => by rw [e]; exact .tup t.sq (.cons (d.dp q1) (.cons (d2.dp q2) .nil))⟩
theorem w_eqD {en : En X.K α} {e2 : En X.K β} {to : α → PyData} {to2 : β → PyData} (d : Dat en to) (d2 : Dat e2 to2) (hs : ∀ x, SeqAt.shaped (to x) = true) (hs2 : ∀ x, SeqAt.shaped (to2 x) = true) (hu : X.A.units + 64 < cLine) : OpW X (compareOp .Eq) en e2 eB (fun _ _ => true) (fun x y => PyData.eqv (to x) (to2 y)) := by
  intro pins s σ H x y v u Q I rx ry ⟨A, a, b, _, r1, r2, _, k⟩
  exact op_eqD hu pins s σ H x y v u Q I rx ry ⟨_, _, d.dp r1, d2.dp r2, hs _, hs2 _, k _ _ (.refl _) rfl⟩
theorem w_neD {en : En X.K α} {e2 : En X.K β} {to : α → PyData} {to2 : β → PyData} (d : Dat en to) (d2 : Dat e2 to2) (hs : ∀ x, SeqAt.shaped (to x) = true) (hs2 : ∀ x, SeqAt.shaped (to2 x) = true) (hu : X.A.units + 64 < cLine) : OpW X (compareOp .NotEq) en e2 eB (fun _ _ => true) (fun x y => !PyData.eqv (to x) (to2 y)) := by
  intro pins s σ H x y v u Q I rx ry ⟨A, a, b, _, r1, r2, _, k⟩
  exact op_neD hu pins s σ H x y v u Q I rx ry ⟨_, _, d.dp r1, d2.dp r2, hs _, hs2 _, k _ _ (.refl _) rfl⟩

/-! ### [elt for a in xs if t], [elt for a in xs for b in a] -/
theorem lc_readF {own : List (Str × Nat)} {wi : W (List α)} {ext : List (Sl X.K) → α → List (Sl X.K)} {js : List Nat} {g : TG} {t : α → W Bool} {f : α → W β} {en : En X.K β} (hj : ∀ j ∈ js, j ∈ own.map (·.2)) (hn : ∀ i ∈ own.map (·.2), get ρ i = .nil) (ho : ∀ x, owns (ext ρ x) = owns ρ) :
    ∀ σ H Q, rdF PK pp ρ (bnd wi fun xs => filW t f xs) en σ H Q → tLc (rdI PK pp ρ wi ext js g) g (fun σ H Q => ∃ x, rdT PK pp (ext ρ x) (t x) σ H Q) (fun σ H Q => ∃ x, rdE PK pp (ext ρ x) (f x) en σ H Q) (own.map (·.2)) σ H Q := by
  intro σ H Q ⟨O, Φ, c, S, hw, k⟩
  refine ⟨O, _, c, S, hw, fun xs J H1 c1 p1 ch S1 src hz D hD => ?_⟩
  have nf := nfoot S1 hD
  have hDH := chg_none S1 ch hD
  have mv0 : Mv (Av O pp ρ) (Av (Ox O D) pp ρ) H1 (upd H1 D (.lst [])) := Mv.newA hD
  refine ⟨fun i m H' => m = xs.length - i ∧ i ≤ xs.length ∧ ∃ acc vs c', H' D = some (.lst vs) ∧ F2 (en.r (Av (Ox O D) pp ρ) H') vs acc ∧ vs.length ≤ i ∧ Chg pp (upd H1 D (.lst [])) (upd H' D (.lst [])) ∧ Sat PK (Ox O D) pp ρ c' σ H' ∧ filW t f (xs.drop i) (fun ys c => Φ (acc ++ ys) c) noX c',
    ⟨xs.length, by simp, Nat.zero_le _, [], [], c1, upd_same, .nil, Nat.zero_le _, by rw [upd_upd]; exact .refl, S1.newO hD, by simpa using p1⟩, ?_⟩
  rintro i m H' ⟨rfl, hi', acc, vs, c', eD, fD, lD, chD, S', hw'⟩
  have mv : Mv (Av O pp ρ) (Av (Ox O D) pp ρ) H1 H' := fun a o n e => by
    obtain ⟨e1, n1⟩ := mv0 a o n e
    have ne : a ≠ D := ne_of_none e hD
    have := chD a o e1 fun z => n (.inr (.inl z))
    rw [upd_ne ne] at this
    exact ⟨this, n1⟩
  by_cases hlt : i < xs.length
  · refine .inr ⟨src.go i H' _ hlt mv, fun H3 => ∃ acc vs c', H3 D = some (.lst vs) ∧ F2 (en.r (Av (Ox O D) pp ρ) H3) vs acc ∧ vs.length ≤ i + 1 ∧ Chg pp (upd H1 D (.lst [])) (upd H3 D (.lst [])) ∧ Sat PK (Ox O D) pp ρ c' σ H3 ∧ filW t f (xs.drop (i + 1)) (fun ys c => Φ (acc ++ ys) c) noX c', fun H3 q => ⟨xs.length - (i + 1), by omega, rfl, hlt, q⟩, fun v H2 y => ?_⟩
    obtain ⟨us, H3, eus, sm, S3, hQ⟩ := src.yld i xs[i] H' v H2 pp ρ (Ox O D) c' (wipe σ (own.map (·.2))) (List.getElem?_eq_getElem hlt) mv (S'.wipe hn) y
    refine hQ _ ⟨wipe_setAll fun u hu => hj _ (by rw [← eus]; exact List.mem_map.mpr ⟨u, hu, rfl⟩), ?_⟩
    rw [List.drop_eq_getElem_cons hlt] at hw'
    refine ⟨xs[i], Ox O D, _, c', S3, hw', fun b H3' c3 q3 ch3 S3' => ?_⟩
    have e3 : H3' D = some (.lst vs) := ch3 D _ (sm D _ eD) nf
    have mv3 : Mv (Av (Ox O D) pp ρ) (Av (Ox O D) pp ρ) H' H3' := fun a o n e => ⟨ch3 a o (sm a o e) fun z => n (.inr (.inl z)), n⟩
    have chg3 : Chg pp (upd H1 D (.lst [])) (upd H3' D (.lst [])) := fun a o e hf => by
      have z := chD a o e hf
      by_cases ne : a = D
      · subst ne; rw [upd_same] at z ⊢; exact z
      · rw [upd_ne ne] at z ⊢
        exact ch3 a o (sm a o z) hf
    cases b with
    | false =>
      simp only [Bool.false_eq_true, if_false]
      exact ⟨acc, vs, c3, e3, fD.imp fun _ _ => en.mono mv3, Nat.le_succ_of_le lD, chg3, S'.chg (fun a o e hf => ch3 a o (sm a o e) hf) S3'.pool, by simpa [ite] using q3⟩
    | true =>
      simp only [if_true]
      refine ⟨xs[i], Ox O D, _, c3, S3', q3, fun y v4 H4 c4 q ch4 S4 r4 => ?_⟩
      have e4 : H4 D = some (.lst vs) := ch4 D _ e3 nf
      refine ⟨vs, e4, Nat.lt_of_le_of_lt lD (Nat.lt_of_lt_of_le hlt hz), acc ++ [y], vs ++ [v4], c4, upd_same, ?_, by rw [List.length_append]; exact Nat.succ_le_succ lD, ?_, ?_, ?_⟩
      · have mv4 : Mv (Av (Ox O D) pp ρ) (Av (Ox O D) pp ρ) H' (upd H4 D (.lst (vs ++ [v4]))) := fun a o n e => by
          have ne : a ≠ D := fun z => n (by rw [z]; exact .inl (.inr rfl))
          rw [upd_ne ne]
          exact ⟨ch4 a o (mv3 a o n e).1 fun z => n (.inr (.inl z)), n⟩
        have mv5 : Mv (Av (Ox O D) pp (ext ρ xs[i])) (Av (Ox O D) pp ρ) H4 (upd H4 D (.lst (vs ++ [v4]))) := fun a o n e => by
          have ne : a ≠ D := fun z => n (by rw [z]; exact .inl (.inr rfl))
          rw [upd_ne ne]
          refine ⟨e, fun z => n ?_⟩
          rcases z with z | z | z
          · exact .inl z
          · exact .inr (.inl z)
          · exact .inr (.inr (by rw [ho]; exact z))
        exact (fD.imp fun _ _ => en.mono mv4).append (.cons (en.mono mv5 r4) .nil)
      · intro a o e hf
        have z := chg3 a o e hf
        rw [upd_upd]
        by_cases ne : a = D
        · subst ne; rw [upd_same] at z ⊢; exact z
        · rw [upd_ne ne] at z ⊢
          exact ch4 a o z hf
      · exact (S'.chg (fun a o e hf => ch4 a o (ch3 a o (sm a o e) hf) hf) S4.pool).updO (.inr rfl) nf
      · have q2 : filW t f (xs.drop (i + 1)) (fun ys c => Φ (acc ++ (y :: ys)) c) noX c4 := q
        simpa [List.append_assoc] using q2
  · have e : i = xs.length := by omega
    subst e
    rw [List.drop_length] at hw'
    have hw2 : Φ (acc ++ []) c' := hw'
    rw [List.append_nil] at hw2
    refine .inl ⟨src.stop H' _ mv, k acc D vs H' c' hw2 hDH (fun a o e hf => ?_) S' eD fD⟩
    have ne : a ≠ D := ne_of_none e hDH
    have z := chD a o (by rw [upd_ne ne]; exact ch a o e hf) hf
    rw [upd_ne ne] at z
    exact z
theorem xlcI {elt tg iter tst : Expr} {scope : Scope} {own : List (Str × Nat)} {pos : Pos} {wi : W (List α)} {ext : List (Sl X.K) → α → List (Sl X.K)} {js : List Nat} {g : TG} {t : α → W Bool} {f : α → W β} {en : En X.K β} (hc : X.calm = true) (hN : X.N.Nodup) (hi : PI X tg iter (rdI PK pp ρ wi ext js g)) (ok : BlkOk X.N X.env.scope scope own)
    (hj : ∀ j ∈ js, j ∈ own.map (·.2)) (hn : ∀ i ∈ own.map (·.2), get ρ i = .nil) (ho : ∀ x, owns (ext ρ x) = owns ρ)
    (hg : ∀ (s : Shared) (H : Hp) (C : Addr) (cl : List (Str × Addr)) (fp : List Addr), PG (X.blk s H scope (compEnvC scope cl C X.env) fp) tg g)
    (ht : ∀ (s : Shared) (H : Hp) (C : Addr) (cl : List (Str × Addr)) (fp : List Addr) (x : α), PTX (X.blk s H scope (compEnvC scope cl C X.env) fp) PK pp (ext ρ x) tst (t x))
    (he : ∀ (s : Shared) (H : Hp) (C : Addr) (cl : List (Str × Addr)) (fp : List Addr) (x : α), PX (X.blk s H scope (compEnvC scope cl C X.env) fp) PK pp (ext ρ x) elt (f x) en)
    (hs : ∀ x, foldedSetIterable iter X.env x = pure x := by intro _; rfl) :
    PE X (.ListComp elt [⟨tg, iter, [tst], 0⟩] scope pos) (rdF PK pp ρ (bnd wi fun xs => filW t f xs) en) :=
  (pe_lc hc hN hi ok hg (fun s H C cl fp => pts_one ⟨fun pins s' σ H Q I ⟨x, q⟩ => (ht s _ C cl fp x).run pins s' σ H Q I q⟩) (fun s H C cl fp => ⟨fun pins s' σ H Q I ⟨x, q⟩ => (he s _ C cl fp x).run pins s' σ H Q I q⟩) hs).weak (lc_readF hj hn ho)
theorem xlcIS (i : Nat) {y : Str} {py spos : Pos} {elt tg iter tst : Expr} {scope : Scope} {own : List (Str × Nat)} {pos : Pos} {wi : W (List α)} {ext : List (Sl X.K) → α → List (Sl X.K)} {js : List Nat} {g : TG} {t : α → W Bool} {f : α → W β} {en : En X.K β} (hc : X.calm = true) (hN : X.N.Nodup) (hi : PI X tg iter (rdI PK pp ρ wi ext js g)) (ok : BlkOk X.N X.env.scope scope own)
    (hj : ∀ j ∈ js, j ∈ own.map (·.2)) (hn : ∀ i ∈ own.map (·.2), get ρ i = .nil) (ho : ∀ x, owns (ext ρ x) = owns ρ)
    (hg : ∀ (s : Shared) (H : Hp) (C : Addr) (cl : List (Str × Addr)) (fp : List Addr), PG (X.blk s H scope (compEnvC scope cl C X.env) fp) tg g)
    (ht : ∀ (s : Shared) (H : Hp) (C : Addr) (cl : List (Str × Addr)) (fp : List Addr) (x : α), PTX (X.blk s H scope (compEnvC scope cl C X.env) fp) PK pp (ext ρ x) tst (t x))
    (he : ∀ (s : Shared) (H : Hp) (C : Addr) (cl : List (Str × Addr)) (fp : List Addr) (x : α), PX (X.blk s H scope (compEnvC scope cl C X.env) fp) PK pp (ext ρ x) elt (f x) en)
    (hsw : swapsWith (.ListComp elt [⟨tg, iter, [tst], 0⟩] scope pos) (some (.Name y py)) spos.line X.env = pure true) (hy : X.N[i]? = some y := by rfl) (hyl : X.env.scope.names.lookup y = some .local := by rfl)
    (hs : ∀ x, foldedSetIterable iter X.env x = pure x := by intro _; rfl) :
    PS X (.Assign [.Name y py] (.ListComp elt [⟨tg, iter, [tst], 0⟩] scope pos) spos) (tAsg (rdF PK pp ρ (bnd wi fun xs => filW t f xs) en) (gName i)) :=
  (ps_setLc hc hN hy hyl hsw hi ok hg (fun s H C cl fp => pts_one ⟨fun pins s' σ H Q I ⟨x, q⟩ => (ht s _ C cl fp x).run pins s' σ H Q I q⟩) (fun s H C cl fp => ⟨fun pins s' σ H Q I ⟨x, q⟩ => (he s _ C cl fp x).run pins s' σ H Q I q⟩) hs).weak fun D σ H q => lc_readF hj hn ho σ H _ q
/-- [elt for a in xs for b in ..]; n: so many so far -/
def flatW (wi : α → W (List γ)) (f : α → γ → W β) : Nat → List α → W (List β)
  | _, [] => ret []
  | n, x :: r => bnd (wi x) fun ys => grd (decide (n + ys.length ≤ 16777216)) (bnd (mapW (f x) ys) fun zs => bnd (flatW wi f (n + ys.length) r) fun us => ret (zs ++ us))
theorem mapW_len {f : α → W β} : ∀ {xs : List α} {Φ : List β → WB} {c : Nat}, mapW f xs Φ noX c → mapW f xs (fun ys c => ys.length = xs.length ∧ Φ ys c) noX c → True := fun _ _ => True.intro
theorem lc_read2 {own : List (Str × Nat)} {vs1 : List Nat} {wi : W (List α)} {ext : List (Sl X.K) → α → List (Sl X.K)} {js : List Nat} {g : TG} {w1 : α → W (List γ)} {ext1 : List (Sl X.K) → γ → List (Sl X.K)} {js1 : List Nat} {g1 : TG} {f : α → γ → W β} {en : En X.K β}
    (hj : ∀ j ∈ js, j ∈ own.map (·.2)) (hn : ∀ i ∈ own.map (·.2), get ρ i = .nil) (ho : ∀ x, owns (ext ρ x) = owns ρ) (hj1 : ∀ j ∈ js1, j ∈ vs1) (hn1 : ∀ x, ∀ i ∈ vs1, get (ext ρ x) i = .nil) (ho1 : ∀ x y, owns (ext1 (ext ρ x) y) = owns ρ) :
    ∀ σ H Q, rdF PK pp ρ (bnd wi fun xs => flatW w1 f 0 xs) en σ H Q → tLc2 (rdI PK pp ρ wi ext js g) g tYes (fun σ H R => ∃ x, rdI PK pp (ext ρ x) (w1 x) ext1 js1 g1 σ H R) g1 tYes (fun σ H Q => ∃ z : α × γ, rdE PK pp (ext1 (ext ρ z.1) z.2) (f z.1 z.2) en σ H Q) (own.map (·.2)) vs1 σ H Q := by
  intro σ H Q ⟨O, Φ, c, S, hw, k⟩
  refine ⟨O, _, c, S, hw, fun xs J H1 c1 p1 ch S1 src hz D hD => ?_⟩
  have nf := nfoot S1 hD
  have hDH := chg_none S1 ch hD
  have mv0 : Mv (Av O pp ρ) (Av (Ox O D) pp ρ) H1 (upd H1 D (.lst [])) := Mv.newA hD
  have av1 : ∀ x a, Av (Ox O D) pp (ext ρ x) a ↔ Av (Ox O D) pp ρ a := fun x a => by unfold Av; rw [ho]
  have av2 : ∀ x y a, Av (Ox O D) pp (ext1 (ext ρ x) y) a ↔ Av (Ox O D) pp ρ a := fun x y a => by unfold Av; rw [ho1]
  refine ⟨fun i m H' => m = xs.length - i ∧ i ≤ xs.length ∧ ∃ acc vs c', H' D = some (.lst vs) ∧ F2 (en.r (Av (Ox O D) pp ρ) H') vs acc ∧ Chg pp (upd H1 D (.lst [])) (upd H' D (.lst [])) ∧ Sat PK (Ox O D) pp ρ c' σ H' ∧ flatW w1 f vs.length (xs.drop i) (fun ys c => Φ (acc ++ ys) c) noX c',
    ⟨xs.length, by simp, Nat.zero_le _, [], [], c1, upd_same, .nil, by rw [upd_upd]; exact .refl, S1.newO hD, by simpa using p1⟩, ?_⟩
  rintro i m H' ⟨rfl, hi', acc, vs, c', eD, fD, chD, S', hw'⟩
  have mv : Mv (Av O pp ρ) (Av (Ox O D) pp ρ) H1 H' := fun a o n e => by
    obtain ⟨e1, n1⟩ := mv0 a o n e
    have ne : a ≠ D := ne_of_none e hD
    have := chD a o e1 fun z => n (.inr (.inl z))
    rw [upd_ne ne] at this
    exact ⟨this, n1⟩
  by_cases hlt : i < xs.length
  · refine .inr ⟨src.go i H' _ hlt mv, fun H3 => ∃ acc vs c', H3 D = some (.lst vs) ∧ F2 (en.r (Av (Ox O D) pp ρ) H3) vs acc ∧ Chg pp (upd H1 D (.lst [])) (upd H3 D (.lst [])) ∧ Sat PK (Ox O D) pp ρ c' σ H3 ∧ flatW w1 f vs.length (xs.drop (i + 1)) (fun ys c => Φ (acc ++ ys) c) noX c', fun H3 q => ⟨xs.length - (i + 1), by omega, rfl, hlt, q⟩, fun v H2 y => ?_⟩
    obtain ⟨us, H3, eus, sm, S3, hQ⟩ := src.yld i xs[i] H' v H2 pp ρ (Ox O D) c' (wipe σ (own.map (·.2))) (List.getElem?_eq_getElem hlt) mv (S'.wipe hn) y
    refine hQ _ ⟨wipe_setAll fun u hu => hj _ (by rw [← eus]; exact List.mem_map.mpr ⟨u, hu, rfl⟩), ?_⟩
    unfold tYes
    simp only [if_true]
    rw [List.drop_eq_getElem_cons hlt] at hw'
    refine ⟨xs[i], Ox O D, _, c', S3, hw', fun ys J1 H4 c4 p4 ch4 S4 src1 hz1 => ?_⟩
    have e4 : H4 D = some (.lst vs) := ch4 D _ (sm D _ eD) nf
    have hlen : vs.length + ys.length ≤ 16777216 := of_decide_eq_true p4.1
    have chg4 : Chg pp H' H4 := fun a o e hf => ch4 a o (sm a o e) hf
    have p42 : mapW (f xs[i]) ys (fun zs c => flatW w1 f (vs.length + ys.length) (xs.drop (i + 1)) (fun us c => Φ (acc ++ (zs ++ us)) c) noX c) noX c4 := p4.2
    refine ⟨fun j k H5 => k = ys.length - j ∧ j ≤ ys.length ∧ ∃ acc1 ws c5, H5 D = some (.lst (vs ++ ws)) ∧ ws.length = j ∧ F2 (en.r (Av (Ox O D) pp ρ) H5) ws acc1 ∧ Chg pp (upd H4 D (.lst [])) (upd H5 D (.lst [])) ∧ Sat PK (Ox O D) pp ρ c5 σ H5 ∧ Sat PK (Ox O D) pp (ext ρ xs[i]) c5 (setAll (wipe σ (own.map (·.2))) us) H5 ∧
      mapW (f xs[i]) (ys.drop j) (fun zs c => flatW w1 f (vs.length + ys.length) (xs.drop (i + 1)) (fun us c => Φ (acc ++ (acc1 ++ zs ++ us)) c) noX c) noX c5,
      ⟨ys.length, by simp, Nat.zero_le _, [], [], c4, by rw [List.append_nil]; exact e4, rfl, .nil, .refl, S'.chg chg4 S4.pool, S4, by simpa using p42⟩, ?_⟩
    rintro j kk H5 ⟨rfl, hj', acc1, ws, c5, e5, l5, f5, ch5, S5, S5e, hw5⟩
    have mv5 : Mv (Av (Ox O D) pp (ext ρ xs[i])) (Av (Ox O D) pp (ext ρ xs[i])) H4 H5 := fun a o n e => by
      have ne : a ≠ D := fun z => n (by rw [z]; exact .inl (.inr rfl))
      have z := ch5 a o (by rw [upd_ne ne]; exact e) fun z => n (.inr (.inl z))
      rw [upd_ne ne] at z
      exact ⟨z, n⟩
    by_cases hlt1 : j < ys.length
    · refine .inr ⟨src1.go j H5 _ hlt1 mv5, fun H6 => ∃ acc1 ws c5, H6 D = some (.lst (vs ++ ws)) ∧ ws.length = j + 1 ∧ F2 (en.r (Av (Ox O D) pp ρ) H6) ws acc1 ∧ Chg pp (upd H4 D (.lst [])) (upd H6 D (.lst [])) ∧ Sat PK (Ox O D) pp ρ c5 σ H6 ∧ Sat PK (Ox O D) pp (ext ρ xs[i]) c5 (setAll (wipe σ (own.map (·.2))) us) H6 ∧
        mapW (f xs[i]) (ys.drop (j + 1)) (fun zs c => flatW w1 f (vs.length + ys.length) (xs.drop (i + 1)) (fun us c => Φ (acc ++ (acc1 ++ zs ++ us)) c) noX c) noX c5, fun H6 q => ⟨ys.length - (j + 1), by omega, rfl, hlt1, q⟩, fun v6 H6 y6 => ?_⟩
      obtain ⟨us1, H7, eus1, sm7, S7, hQ7⟩ := src1.yld j ys[j] H5 v6 H6 pp (ext ρ xs[i]) (Ox O D) c5 (wipe (setAll (wipe σ (own.map (·.2))) us) vs1) (List.getElem?_eq_getElem hlt1) mv5 (S5e.wipe (hn1 _)) y6
      refine hQ7 _ ⟨wipe_setAll fun u hu => hj1 _ (by rw [← eus1]; exact List.mem_map.mpr ⟨u, hu, rfl⟩), ?_⟩
      rw [List.drop_eq_getElem_cons hlt1] at hw5
      refine ⟨(xs[i], ys[j]), Ox O D, _, c5, S7, hw5, fun y8 v8 H8 c8 q8 ch8 S8 r8 => ?_⟩
      have e8 : H8 D = some (.lst (vs ++ ws)) := ch8 D _ (sm7 D _ e5) nf
      have chg8 : Chg pp H5 H8 := fun a o e hf => ch8 a o (sm7 a o e) hf
      refine ⟨vs ++ ws, e8, by rw [List.length_append, l5, sizeLine_eq]; omega, acc1 ++ [y8], ws ++ [v8], c8, by rw [upd_same, List.append_assoc], by rw [List.length_append, l5]; rfl, ?_, ?_, (S5.chg chg8 S8.pool).updO (.inr rfl) nf, (S5e.chg chg8 S8.pool).updO (.inr rfl) nf, ?_⟩
      · have mv8 : Mv (Av (Ox O D) pp ρ) (Av (Ox O D) pp ρ) H5 (upd H8 D (.lst (vs ++ ws ++ [v8]))) := fun a o n e => by
          have ne : a ≠ D := fun z => n (by rw [z]; exact .inl (.inr rfl))
          rw [upd_ne ne]
          exact ⟨chg8 a o e fun z => n (.inr (.inl z)), n⟩
        have mv9 : Mv (Av (Ox O D) pp (ext1 (ext ρ xs[i]) ys[j])) (Av (Ox O D) pp ρ) H8 (upd H8 D (.lst (vs ++ ws ++ [v8]))) := fun a o n e => by
          have n' : ¬ Av (Ox O D) pp ρ a := fun z => n ((av2 _ _ a).mpr z)
          have ne : a ≠ D := fun z => n' (by rw [z]; exact .inl (.inr rfl))
          rw [upd_ne ne]
          exact ⟨e, n'⟩
        exact (f5.imp fun _ _ => en.mono mv8).append (.cons (en.mono mv9 r8) .nil)
      · intro a o e hf
        have z := ch5 a o e hf
        rw [upd_upd]
        by_cases ne : a = D
        · subst ne; rw [upd_same] at z ⊢; exact z
        · rw [upd_ne ne] at z ⊢
          exact chg8 a o z hf
      · have q2 : mapW (f xs[i]) (ys.drop (j + 1)) (fun zs c => flatW w1 f (vs.length + ys.length) (xs.drop (i + 1)) (fun us c => Φ (acc ++ (acc1 ++ (y8 :: zs) ++ us)) c) noX c) noX c8 := q8
        simpa [List.append_assoc] using q2
    · have e : j = ys.length := by omega
      subst e
      rw [List.drop_length] at hw5
      have hw6 : flatW w1 f (vs.length + ys.length) (xs.drop (i + 1)) (fun us c => Φ (acc ++ (acc1 ++ [] ++ us)) c) noX c5 := hw5
      refine .inl ⟨src1.stop H5 _ mv5, acc ++ acc1, vs ++ ws, c5, e5, ?_, ?_, S5, ?_⟩
      · have mv6 : Mv (Av (Ox O D) pp ρ) (Av (Ox O D) pp ρ) H' H5 := fun a o n e => by
          have ne : a ≠ D := fun z => n (by rw [z]; exact .inl (.inr rfl))
          have z := ch5 a o (by rw [upd_ne ne]; exact chg4 a o e fun z => n (.inr (.inl z))) fun z => n (.inr (.inl z))
          rw [upd_ne ne] at z
          exact ⟨z, n⟩
        exact (fD.imp fun _ _ => en.mono mv6).append f5
      · intro a o e hf
        have z := chD a o e hf
        by_cases ne : a = D
        · subst ne; rw [upd_same] at z ⊢; exact z
        · rw [upd_ne ne] at z ⊢
          have z2 := ch5 a o (by rw [upd_ne ne]; exact chg4 a o z hf) hf
          rw [upd_ne ne] at z2
          exact z2
      · rw [List.length_append, l5]
        simpa [List.append_assoc] using hw6
  · have e : i = xs.length := by omega
    subst e
    rw [List.drop_length] at hw'
    have hw2 : Φ (acc ++ []) c' := hw'
    rw [List.append_nil] at hw2
    refine .inl ⟨src.stop H' _ mv, k acc D vs H' c' hw2 hDH (fun a o e hf => ?_) S' eD fD⟩
    have ne : a ≠ D := ne_of_none e hDH
    have z := chD a o (by rw [upd_ne ne]; exact ch a o e hf) hf
    rw [upd_ne ne] at z
    exact z
theorem xlc2 {elt tg iter tg1 iter1 : Expr} {scope : Scope} {own : List (Str × Nat)} {vs1 : List Nat} {pos : Pos} {wi : W (List α)} {ext : List (Sl X.K) → α → List (Sl X.K)} {js : List Nat} {g : TG} {w1 : α → W (List γ)} {ext1 : List (Sl X.K) → γ → List (Sl X.K)} {js1 : List Nat} {g1 : TG} {f : α → γ → W β} {en : En X.K β}
    (hc : X.calm = true) (hN : X.N.Nodup) (hi : PI X tg iter (rdI PK pp ρ wi ext js g))
    (hi1 : ∀ (s : Shared) (H : Hp) (C : Addr) (cl : List (Str × Addr)) (fp : List Addr) (x : α), PI (X.blk s H scope (compEnvC scope cl C X.env) fp) tg1 iter1 (rdI PK pp (ext ρ x) (w1 x) ext1 js1 g1))
    (hg : ∀ (s : Shared) (H : Hp) (C : Addr) (cl : List (Str × Addr)) (fp : List Addr), PG (X.blk s H scope (compEnvC scope cl C X.env) fp) tg g)
    (hg1 : ∀ (s : Shared) (H : Hp) (C : Addr) (cl : List (Str × Addr)) (fp : List Addr), PG (X.blk s H scope (compEnvC scope cl C X.env) fp) tg1 g1)
    (he : ∀ (s : Shared) (H : Hp) (C : Addr) (cl : List (Str × Addr)) (fp : List Addr) (x : α) (y : γ), PX (X.blk s H scope (compEnvC scope cl C X.env) fp) PK pp (ext1 (ext ρ x) y) elt (f x y) en)
    (ok : BlkOk X.N X.env.scope scope own) (hv1 : ∀ i ∈ vs1, i ∈ own.map (·.2))
    (hj : ∀ j ∈ js, j ∈ own.map (·.2)) (hn : ∀ i ∈ own.map (·.2), get ρ i = .nil) (ho : ∀ x, owns (ext ρ x) = owns ρ) (hj1 : ∀ j ∈ js1, j ∈ vs1) (hn1 : ∀ x, ∀ i ∈ vs1, get (ext ρ x) i = .nil) (ho1 : ∀ x y, owns (ext1 (ext ρ x) y) = owns ρ)
    (hs : ∀ x, foldedSetIterable iter X.env x = pure x := by intro _; rfl) (hs1 : ∀ env x, foldedSetIterable iter1 env x = pure x := by intro _ _; rfl) :
    PE X (.ListComp elt [⟨tg, iter, [], 0⟩, ⟨tg1, iter1, [], 0⟩] scope pos) (rdF PK pp ρ (bnd wi fun xs => flatW w1 f 0 xs) en) :=
  (pe_lc2 hc hN hi ok hv1 hg (fun _ _ _ _ _ => pts_nil) (fun s H C cl fp => ⟨fun pins s' σ H Q I ⟨x, q⟩ => (hi1 s _ C cl fp x).run pins s' σ H Q I q⟩) hg1 (fun _ _ _ _ _ => pts_nil)
    (fun s H C cl fp => ⟨fun pins s' σ H Q I ⟨z, q⟩ => (he s _ C cl fp z.1 z.2).run pins s' σ H Q I q⟩) hs hs1).weak (lc_read2 hj hn ho hj1 hn1 ho1)
end
end Dc
/-! DcI: data of any form, isinstance, keywords, lcm, constants of the module. -/
namespace Dc
open PySem PySem.Spec L2
section
variable {X : Cx} {PK : PoolK} {pp : PP} {ρ : List (Sl X.K)} {α β γ δ : Type} {e a b : Expr} {es : List Expr} {pos : Pos}
theorem xcmpG {op : CmpOp} {wa : W α} {wb : W β} {e1 : En X.K α} {e2 : En X.K β} {e3 : En X.K γ} {pre : α → β → Bool} {res : α → β → γ} (ho : OpW X (compareOp op) e1 e2 e3 pre res) (ha : PX X PK pp ρ a wa e1) (hb : PX X PK pp ρ b wb e2) (hm : behindInMarks op b = false := by first | exact nomark _ | rfl) :
    PX X PK pp ρ (.Compare a [op] [b] pos) (bnd wa fun x => bnd wb fun y => grd (pre x y) (ret (res x y))) e3 := (pe_cmpR ho ha hb hm).weak fun σ H Q ⟨O, Φ, c, S, hw, k⟩ =>
  two S hw fun x y v u H' c' p ch S' r1 r2 => ⟨_, x, y, S'.av, r1, r2, p.1, fun z H2 s r3 => k _ _ _ _ p.2 (ch.trans (.of s)) (S'.same s) r3⟩
theorem tcmpG {op : CmpOp} {wa : W α} {wb : W β} {e1 : En X.K α} {e2 : En X.K β} {pre : α → β → Bool} {res : α → β → Bool} (ho : OpW X (compareOp op) e1 e2 eB pre res) (ha : PX X PK pp ρ a wa e1) (hb : PX X PK pp ρ b wb e2) (hm : behindInMarks op b = false := by first | exact nomark _ | rfl) :
    PTX X PK pp ρ (.Compare a [op] [b] pos) (bnd wa fun x => bnd wb fun y => grd (pre x y) (ret (res x y))) := (pt_cmpR ho ha hb hm).weak fun σ H Q ⟨O, Φ, c, S, hw, k⟩ =>
  two S hw fun x y v u H' c' p ch S' r1 r2 => ⟨_, x, y, S'.av, r1, r2, p.1, fun z H2 s r3 => ⟨_, r3, k _ _ _ p.2 (ch.trans (.of s)) (S'.same s)⟩⟩
/-! ### lcm -/
def lcmOk (a b : Int) : Bool := decide ((max 1 a.natAbs).log2 < 13470) && decide ((max a.natAbs b.natAbs).log2 < 13470)
theorem c_lcm : CallW X (.builtin "math.lcm") (a2 (eI : En X.K Int) eI) eI (fun x => lcmOk x.1 x.2.1) (fun x => ((Nat.lcm x.1.natAbs x.2.1.natAbs : Nat) : Int)) := by
  rintro pins s σ H xs us Q I r ⟨pp, A, x, d, ⟨v, _, rfl, q1, u, _, rfl, q2, rfl⟩, p, k⟩
  cases (show v = V.int x.1 from q1)
  cases (show u = V.int x.2.1 from q2)
  obtain ⟨t, t', rfl⟩ := Vals.int2 r
  simp only [lcmOk, Bool.and_eq_true, decide_eq_true_eq] at p
  have hz : ((((Nat.lcm 1 x.1.natAbs).lcm x.2.1.natAbs : Nat) : Int)).natAbs.log2 < bitsLine := by
    rw [PySem.W.mc_lcm_one]
    have e : bitsLine = 134217728 := by decide
    rw [e, Int.natAbs_natCast]
    have h1 : x.1.natAbs < 2 ^ 13471 := Nat.lt_of_le_of_lt (Nat.le_trans (Nat.le_max_left _ _) (Nat.le_refl (max x.1.natAbs x.2.1.natAbs))) (by
      by_cases h0 : max x.1.natAbs x.2.1.natAbs = 0
      · rw [h0]; exact Nat.two_pow_pos _
      · exact Nat.lt_of_lt_of_le ((Nat.log2_lt h0).mp (Nat.lt_succ_self _)) (Nat.pow_le_pow_right (by decide) (by omega)))
    have h2 : x.2.1.natAbs < 2 ^ 13471 := Nat.lt_of_le_of_lt (Nat.le_trans (Nat.le_max_right _ _) (Nat.le_refl (max x.1.natAbs x.2.1.natAbs))) (by
      by_cases h0 : max x.1.natAbs x.2.1.natAbs = 0
      · rw [h0]; exact Nat.two_pow_pos _
      · exact Nat.lt_of_lt_of_le ((Nat.log2_lt h0).mp (Nat.lt_succ_self _)) (Nat.pow_le_pow_right (by decide) (by omega)))
    have h3 : Nat.lcm x.1.natAbs x.2.1.natAbs < 2 ^ 26942 := by
      refine Nat.lt_of_le_of_lt (PySem.W.mc_lcm_le _ _) ?_
      rw [show 26942 = 13471 + 13471 from rfl, Nat.pow_add]
      exact Nat.mul_lt_mul'' h1 h2
    by_cases h0 : Nat.lcm x.1.natAbs x.2.1.natAbs = 0
    · rw [h0, Nat.log2_zero]; decide
    · exact Nat.lt_of_lt_of_le ((Nat.log2_lt h0).mpr h3) (by decide)
  refine call_function_meets PySem.W.MGF.kind_lcm PySem.W.MGF.plain_lcm PySem.W.MGF.entry_lcm (PySem.W.MGF.args_lcm _ _) (PySem.W.mg_run_lcm x.1 t x.2.1 t' (by have := p.1; omega) (by have := p.2; omega) hz).meets ?_
  rw [PySem.W.mc_lcm_one]
  exact ⟨.int _, H, I.tok _, ⟨_, rfl⟩, k _ _ (.refl _) rfl⟩

/-! ### data of any form -/
mutual
def toP : D → PyData
  | .non => .none
  | .bl b => .bool b
  | .int i => .int i
  | .str s => .str s
  | .lst ds => .list (toPs ds)
  | .tup ds => .tuple (toPs ds)
def toPs : List D → List PyData
  | [] => []
  | d :: ds => toP d :: toPs ds
end
mutual
theorem rD_dp {K : PySem.W.Frag} {O : AS} {H : Hp} : ∀ {v : V} (d : D), rD K O H v d → Dp K H v (toP d)
  | _, .non, h => by rw [show _ = _ from h]; exact .non
  | _, .bl _, h => by rw [show _ = _ from h]; exact .bl _
  | _, .int _, h => by rw [show _ = _ from h]; exact .int _
  | _, .str _, h => by rw [show _ = _ from h]; exact .str _
  | _, .lst ds, h => by
    obtain ⟨a, vs, e, l, r⟩ := (by simpa only [rD] using h : ∃ a vs, _)
    rw [e]
    exact .lst l.sq (rDs_dp ds r)
  | _, .tup ds, h => by
    obtain ⟨a, vs, e, l, r⟩ := (by simpa only [rD] using h : ∃ a vs, _)
    rw [e]
    exact .tup l.sq (rDs_dp ds r)
theorem rDs_dp {K : PySem.W.Frag} {O : AS} {H : Hp} : ∀ {vs : List V} (ds : List D), rDs K O H vs ds → DpAll K H vs (toPs ds)
  | _, [], h => by rw [show _ = _ from h]; exact .nil
  | _, d :: ds, h => by
    obtain ⟨v, r, e, p, q⟩ := (by simpa only [rDs] using h : ∃ v r, _)
    rw [e]
    exact .cons (rD_dp d p) (rDs_dp ds q)
end
theorem w_eqDD (hu : X.A.units + 64 < cLine) : OpW X (compareOp .Eq) (eD : En X.K D) eD eB (fun x y => SeqAt.shaped (toP x) && SeqAt.shaped (toP y)) (fun x y => PyData.eqv (toP x) (toP y)) := by
  intro pins s σ H x y v u Q I rx ry ⟨A, a, b, _, r1, r2, p, k⟩
  rw [Bool.and_eq_true] at p
  exact op_eqD hu pins s σ H x y v u Q I rx ry ⟨_, _, rD_dp a r1, rD_dp b r2, p.1, p.2, k _ _ (.refl _) rfl⟩
/-- a value told as data -/
structure ToD {K : PySem.W.Frag} {α : Type} (en : En K α) (to : α → D) : Prop where
  d : ∀ {O : AS} {H : Hp} {v : V} {x : α}, en.r O H v x → rD K O H v (to x)
theorem tdI {K : PySem.W.Frag} : ToD (eI : En K Int) .int := ⟨fun h => h⟩
theorem tdB {K : PySem.W.Frag} : ToD (eB : En K Bool) .bl := ⟨fun h => h⟩
theorem tdS {K : PySem.W.Frag} : ToD (eS : En K Str) .str := ⟨fun h => h⟩
theorem tdU {K : PySem.W.Frag} : ToD (eU : En K Unit) (fun _ => .non) := ⟨fun h => h⟩
theorem tdAll {K : PySem.W.Frag} {en : En K α} {to : α → D} (d : ToD en to) {O : AS} {H : Hp} {vs : List V} {xs : List α} (f : F2 (en.r O H) vs xs) : rDs K O H vs (xs.map to) := by
  induction f with
  | nil => rfl
  | cons r _ ih => exact ⟨_, _, rfl, d.d r, ih⟩
theorem tdL {K : PySem.W.Frag} {en : En K α} {to : α → D} (d : ToD en to) : ToD (eL en) (fun xs => .lst (xs.map to)) := ⟨fun ⟨a, vs, e, l, f⟩ => ⟨a, vs, e, l, tdAll d f⟩⟩
theorem tdP {K : PySem.W.Frag} {e1 : En K α} {e2 : En K β} {to : α → D} {to2 : β → D} (d : ToD e1 to) (d2 : ToD e2 to2) : ToD (eP e1 e2) (fun x => .tup [to x.1, to2 x.2]) := ⟨fun ⟨a, u, w, e, t, q1, q2⟩ => ⟨a, [u, w], e, t, _, _, rfl, d.d q1, _, _, rfl, d2.d q2, rfl⟩⟩
theorem tdO {K : PySem.W.Frag} {en : En K α} {to : α → D} (d : ToD en to) : ToD (eO en) (fun x => match x with | none => .non | some y => to y) := ⟨fun {O H v x} h => by
  cases x with
  | none => exact h
  | some y => exact d.d h.1⟩
theorem xD {w : W α} {en : En X.K α} {to : α → D} (d : ToD en to) (h : PX X PK pp ρ e w en) : PX X PK pp ρ e (bnd w fun x => ret (to x)) eD :=
  h.weak fun σ H Q ⟨O, Φ, c, S, hw, k⟩ => ⟨O, _, c, S, hw, fun x v H' c' p ch S' r => k _ v H' c' p ch S' (d.d r)⟩
def nonD : D → Bool
  | .non => true
  | _ => false
theorem xisND {j pos'} {w : W D} (h : PX X PK pp ρ a w eD) : PX X PK pp ρ (.Compare a [.Is] [.Constant .none j pos'] pos) (bnd w fun x => ret (nonD x)) eB :=
  (pe_cmp (pc_isN h)).weak fun σ H Q ⟨O, Φ, c, S, hw, k⟩ => ⟨O, _, c, S, hw, fun x v H' c' p ch S' r => by
    have hr : rD X.K (Av O pp ρ) H' v x := r
    cases x with
    | non => rw [show v = .non from hr]; exact k _ _ H' c' p ch S' rfl
    | bl y => rw [show v = _ from hr]; exact k _ _ H' c' p ch S' rfl
    | int y => rw [show v = _ from hr]; exact k _ _ H' c' p ch S' rfl
    | str y => rw [show v = _ from hr]; exact k _ _ H' c' p ch S' rfl
    | lst ds =>
      obtain ⟨a, vs, e, _⟩ := (by simpa only [rD] using hr : ∃ a vs, _)
      rw [e]; exact k _ _ H' c' p ch S' rfl
    | tup ds =>
      obtain ⟨a, vs, e, _⟩ := (by simpa only [rD] using hr : ∃ a vs, _)
      rw [e]; exact k _ _ H' c' p ch S' rfl⟩
def tyD : D → String
  | .non => "NoneType"
  | .bl _ => "bool"
  | .int _ => "int"
  | .str _ => "str"
  | .lst _ => "list"
  | .tup _ => "tuple"
theorem rD_ty {K : PySem.W.Frag} {O : AS} {H : Hp} {v : V} (d : D) (h : rD K O H v d) : TyX K H v (.type (tyD d)) := by
  cases d with
  | non => rw [show _ = _ from h]; exact .base .non
  | bl _ => rw [show _ = _ from h]; exact .base (.bl _)
  | int _ => rw [show _ = _ from h]; exact .base (.int _)
  | str _ => rw [show _ = _ from h]; exact .base (.str _)
  | lst ds =>
    obtain ⟨a, vs, e, l, _⟩ := (by simpa only [rD] using h : ∃ a vs, _)
    rw [e]; exact .base (.lst l.2)
  | tup ds =>
    obtain ⟨a, vs, e, l, _⟩ := (by simpa only [rD] using h : ∃ a vs, _)
    rw [e]
    rcases l with ⟨_, l | ⟨o, l⟩⟩ | ⟨o, its, n, l, ct, _⟩
    · exact .base (.tup l)
    · exact .fTuple l
    · exact .kTuple l ct
def isD (c : String) (d : D) : Bool := match d, c with
  | .bl _, "bool" => true | .bl _, "int" => true | .int _, "int" => true | .str _, "str" => true | .lst _, "list" => true | .tup _, "tuple" => true | _, _ => false
def isT (t c : String) : Bool := t == c || (t == "bool" && c == "int")
def tys : List String := ["NoneType", "bool", "int", "str", "list", "tuple"]
theorem isT_ok : (tys.all fun t => ["bool", "int", "str", "list", "tuple", "dict"].all fun c => decide (kitB t c = some (isT t c))) = true := by decide +kernel
theorem isD_ok {c : String} (h : c ∈ ["bool", "int", "str", "list", "tuple", "dict"]) (d : D) : kitB (tyD d) c = some (isD c d) := by
  have e : isD c d = isT (tyD d) c := by
    simp only [List.mem_cons, List.not_mem_nil, or_false] at h
    rcases h with rfl | rfl | rfl | rfl | rfl | rfl <;> cases d <;> rfl
  rw [e]
  have h1 : tyD d ∈ tys := by cases d <;> simp [tyD, tys]
  exact of_decide_eq_true (List.all_eq_true.mp (List.all_eq_true.mp isT_ok _ h1) _ h)
/-- isinstance(e, list), .. -/
theorem xisi {cn : Str} {c : String} {p p2 : Pos} {w : W D} (hm : X.mg "isinstance" = none) (hmc : X.mg cn = none) (hvc : bootBuiltins cn = some (.type c)) (hc : c ∈ ["bool", "int", "str", "list", "tuple", "dict"]) (h : PX X PK pp ρ a w eD) (hg : Gl X "isinstance" := by rfl) (hgc : Gl X cn := by rfl)
    (hn : cn ≠ "__name__" := by decide) (hdb : (cn == ("__debug__" : Str)) = false := by decide)
    (he : starEach [a, .Name cn p2] X.env = (false, eval a X.env) :: starEach [.Name cn p2] X.env := by rfl) (he2 : starEach [.Name cn p2] X.env = (false, eval (.Name cn p2) X.env) :: starEach [] X.env := by rfl) (hpl : (backTo pos (starEach [.Name cn p2] X.env)).any (·.1) = false := by rfl) :
    PX X PK pp ρ (.Call (.Name "isinstance" p) [a, .Name cn p2] [] pos) (bnd w fun x => ret (isD c x)) eB :=
  (pe_callB call_isi hg hm (by decide +kernel) (pa_cons h (pa_cons (pe_bltn (v := .ty c) hgc hmc hvc rfl hn hdb) pa_nil he2) he) (by decide) (by decide) he hpl).weak fun σ H Q ⟨O, Φ, c0, S, hw, k⟩ => ⟨O, _, c0, S, hw, fun x v H' c' p ch S' r =>
    ⟨v, .ty c, _, _, _, rfl, .ty c, rD_ty x r, kit_ty (isD_ok hc x), k _ _ H' c' p ch S' rfl⟩⟩
theorem kitAny_D {K : PySem.W.Frag} {d : D} {c1 c2 : String} (h1 : c1 ∈ ["bool", "int", "str", "list", "tuple", "dict"]) (h2 : c2 ∈ ["bool", "int", "str", "list", "tuple", "dict"]) : PySem.W.kitAny K (.type (tyD d)) [.type c1, .type c2] = some (isD c1 d || isD c2 d) := by
  refine kitAny_cons (kit_ty (isD_ok h1 d)) (fun q => ?_) (fun q => by rw [q]; rfl)
  rw [q, Bool.false_or]
  exact kitAny_cons (kit_ty (isD_ok h2 d)) (fun q => by rw [q]; exact kitAny_nil) fun q => q
theorem xisi2 {cn cn2 : Str} {c c2 : String} {k1} {p p2 p3 p4 : Pos} {w : W D} (hm : X.mg "isinstance" = none) (hmc : X.mg cn = none) (hvc : bootBuiltins cn = some (.type c)) (hc : c ∈ ["bool", "int", "str", "list", "tuple", "dict"]) (hmc2 : X.mg cn2 = none) (hvc2 : bootBuiltins cn2 = some (.type c2)) (hc2 : c2 ∈ ["bool", "int", "str", "list", "tuple", "dict"]) (h : PX X PK pp ρ a w eD)
    (hg : Gl X "isinstance" := by rfl) (hgc : Gl X cn := by rfl) (hgc2 : Gl X cn2 := by rfl) (hn : cn ≠ "__name__" := by decide) (hdb : (cn == ("__debug__" : Str)) = false := by decide) (hn2 : cn2 ≠ "__name__" := by decide) (hdb2 : (cn2 == ("__debug__" : Str)) = false := by decide)
    (he : starEach [a, .Tuple [.Name cn p2, .Name cn2 p3] k1 p4] X.env = (false, eval a X.env) :: starEach [.Tuple [.Name cn p2, .Name cn2 p3] k1 p4] X.env := by rfl) (he2 : starEach [.Tuple [.Name cn p2, .Name cn2 p3] k1 p4] X.env = (false, eval (.Tuple [.Name cn p2, .Name cn2 p3] k1 p4) X.env) :: starEach [] X.env := by rfl)
    (hs1 : starEach [Expr.Name cn p2, Expr.Name cn2 p3] X.env = (false, eval (.Name cn p2) X.env) :: starEach [Expr.Name cn2 p3] X.env := by rfl) (hs2 : starEach [Expr.Name cn2 p3] X.env = (false, eval (.Name cn2 p3) X.env) :: starEach [] X.env := by rfl)
    (hpl : (backTo pos (starEach [.Tuple [.Name cn p2, .Name cn2 p3] k1 p4] X.env)).any (·.1) = false := by rfl) :
    PX X PK pp ρ (.Call (.Name "isinstance" p) [a, .Tuple [.Name cn p2, .Name cn2 p3] k1 p4] [] pos) (bnd w fun x => ret (isD c x || isD c2 x)) eB :=
  (pe_callB call_isiT hg hm (by decide +kernel) (pa_cons h (pa_cons (pe_tup (pa_cons (pe_bltn (v := .ty c) hgc hmc hvc rfl hn hdb) (pa_cons (pe_bltn (v := .ty c2) hgc2 hmc2 hvc2 rfl hn2 hdb2) pa_nil hs2) hs1)) pa_nil he2) he) (by decide) (by decide) he hpl).weak fun σ H Q ⟨O, Φ, c0, S, hw, k⟩ => ⟨O, _, c0, S, hw, fun x v H' c' p ch S' r => by
    refine ⟨by show 2 ≤ sizeLine; decide, fun q nq => ?_⟩
    have s := same_new (o := .tup [.ty c, .ty c2]) nq
    exact ⟨v, q, _, _, _, _, rfl, upd_same, .cons (.ty c) (.cons (.ty c2) .nil), rD_ty x (rD.mono (Mv.same s) x r), kitAny_D hc hc2, k _ _ _ c' p (ch.trans (.of s)) (S'.same s) rfl⟩⟩
/-- len(d), d[i] -/
def lenD : D → Nat
  | .lst ds => ds.length
  | .tup ds => ds.length
  | _ => 0
def seqD : D → Bool
  | .lst _ => true
  | .tup _ => true
  | _ => false
def itemsD : D → List D
  | .lst ds => ds
  | .tup ds => ds
  | _ => []
theorem rDs_F2 {K : PySem.W.Frag} {O : AS} {H : Hp} : ∀ {vs : List V} {ds : List D}, rDs K O H vs ds → F2 (rD K O H) vs ds
  | _, [], h => by rw [show _ = _ from h]; exact .nil
  | _, d :: ds, h => by
    obtain ⟨v, r, e, p, q⟩ := (by simpa only [rDs] using h : ∃ v r, _)
    rw [e]; exact .cons p (rDs_F2 q)
theorem rD_seq {K : PySem.W.Frag} {O : AS} {H : Hp} {v : V} (d : D) (hs : seqD d = true) (h : rD K O H v d) : ∃ a vs, v = .ref a ∧ (SqL K H a vs ∨ SqT K H a vs) ∧ F2 (rD K O H) vs (itemsD d) := by
  cases d with
  | lst ds =>
    obtain ⟨a, vs, e, l, r⟩ := (by simpa only [rD] using h : ∃ a vs, _)
    exact ⟨a, vs, e, .inl l.sq, rDs_F2 r⟩
  | tup ds =>
    obtain ⟨a, vs, e, l, r⟩ := (by simpa only [rD] using h : ∃ a vs, _)
    exact ⟨a, vs, e, .inr l.sq, rDs_F2 r⟩
  | _ => cases hs
theorem c_lenD : CallW X (.builtin "len") (a1 (eD : En X.K D)) eI (fun x => seqD x.1) (fun x => ((itemsD x.1).length : Int)) := by
  rintro pins s σ H xs us Q I r ⟨pp, A, x, _, ⟨v, _, rfl, q, rfl⟩, p, k⟩
  obtain ⟨a, vs, rfl, l, f⟩ := rD_seq x.1 p q
  exact call_len_seq pins s σ H _ us Q I r ⟨a, vs, rfl, l, k _ _ (.refl _) (by rw [f.length]; rfl)⟩
instance : Inhabited D := ⟨.non⟩
theorem w_ixD : IxW X (eD : En X.K D) eI eD (fun x i => seqD x && ixOk (itemsD x) i) (fun x i => ixAt (itemsD x) i) := by
  intro va sl pins s σ H x y v u Q I rx ry ⟨A, d, i, _, r1, r2, p, k⟩ hs
  rw [Bool.and_eq_true] at p
  obtain ⟨a, vs, e1, l, f⟩ := rD_seq d p.1 r1
  obtain ⟨j, hj⟩ := Option.isSome_iff_exists.mp p.2
  have hlt := ixN_lt hj
  obtain ⟨v1, g, rv⟩ := f.get (List.getElem?_eq_getElem hlt)
  have hat : atI vs i = some v1 := by
    unfold atI
    rw [f.length, hj]
    exact g
  have hq : Q v1 H := k _ (by
    show rD X.K A H v1 ((itemsD d).getD ((ixN (itemsD d).length i).getD 0) default)
    rw [hj, Option.getD_some, List.getD_eq_getElem?_getD, List.getElem?_eq_getElem hlt]
    exact rv)
  rcases l with l | l
  · exact ix_list va sl pins s σ H x y v u Q I rx ry ⟨a, vs, i, v1, e1, r2, l, hat, hq⟩ hs
  · exact ix_tup va sl pins s σ H x y v u Q I rx ry ⟨a, vs, i, v1, e1, r2, l, hat, hq⟩ hs

/-! ### keywords alone -/
abbrev PKX (X : Cx) (PK : PoolK) (pp : PP) (ρ : List (Sl X.K)) (kws : List Keyword) (w : W α) (en : EA X.K α) : Prop := L2.PK X kws (rdA PK pp ρ w en)
theorem _root_.L2.PK.weak {X : Cx} {e : List Keyword} {t t' : TA} (h : L2.PK X e t) (f : ∀ σ H Q, t' σ H Q → t σ H Q) : L2.PK X e t' := ⟨fun pos pins s σ H Q I q => h.run pos pins s σ H Q I (f σ H Q q)⟩
theorem kxn : PKX X PK pp ρ [] (ret ()) aN := (pk_nil).weak fun σ H Q ⟨O, Φ, c, S, hw, k⟩ => k () [] H c hw .refl S rfl
theorem kxc {kws : List Keyword} {nm : Option Str} {kpos : Pos} {w : W α} {u : W β} {en : En X.K α} {ea : EA X.K β} (h : PX X PK pp ρ e w en) (h2 : PKX X PK pp ρ kws u ea) :
    PKX X PK pp ρ (⟨nm, e, kpos⟩ :: kws) (bnd w fun x => bnd u fun y => ret (x, y)) (aC en ea) := (pk_cons h h2).weak fun σ H Q ⟨O, Φ, c, S, hw, k⟩ =>
  ⟨O, _, c, S, hw, fun x v H1 c1 p1 ch1 S1 r1 => ⟨O, _, c1, S1, p1, fun y u H2 c2 p2 ch2 S2 r2 => k _ _ H2 c2 p2 (ch1.trans ch2) S2 ⟨v, u, rfl, en.mono ch2.mv r1, r2⟩⟩⟩
theorem pe_callK0 {CX : CXT} {k : Nat} {f : Addr} {fd : FuncData} {ps ks : List Str} {sp : Sp} {E : XK} {x : Str} {p : Pos} {kws : List Keyword} {tk : TA} {g : List Value → List Value → List Value} {gV : List V → List V → List V} (F : FnOk X.prog X.w X.K X.mg X.base CX k f fd ps sp) (hr : Room k X.A) (hg : Gl X x) (hm : X.mg x = some (.ref f)) (hk : PySem.W.keepIn X.K (.ref f) = true) (hb : KBinds X.K fd ps ks g gV) (hx : Passes CX X E)
    (hkw : L2.PK X kws tk) (hall : (backToKw pos (keywordEach kws X.env)).all (·.1.isSome) = true := by rfl) (hks : (backToKw pos (keywordEach kws X.env)).filterMap (·.1) = ks := by rfl) (hdb : (x == ("__debug__" : Str)) = false := by decide)
    (hpl : ((backTo pos (starEach [] X.env)).any (·.1) || (backToKw pos (keywordEach kws X.env)).any (·.1.isNone)) = false := by rfl) : PE X (.Call (.Name x p) [] kws pos) (tCallK sp gV E tNil tk) := by
  refine ⟨fun pins s σ H Q I h => ?_⟩
  refine wpAny_Call_Name_kw (ld_glob I hg hm ?_ hdb)
  refine PySem.W.callWith_KW0 (h₀ := X.base) I.ok.mod.kin hk hall (thn (hkw.run pos pins s σ H _ I h) fun ws s2 ⟨zs, H2, I2, rz, q2⟩ => ⟨I2.kIn, ?_⟩) hpl
  rw [hks]
  exact run_fnk F hr hb hx I2 (.nil) rz q2
/-- f(k = v, ..): pm puts what the keywords hold in the parameters' order -/
theorem xcallK {k : Nat} {f : Addr} {fd : FuncData} {ps ks : List Str} {x : Str} {p : Pos} {kws : List Keyword} {ea : EA X.K α} {ek : EA X.K δ} {er : En X.K β} {fw : α → W β} {wa : W δ} {g : List Value → List Value → List Value} {gV : List V → List V → List V} (pm : δ → α) (F : FnOk X.prog X.w X.K X.mg X.base CX0 k f fd ps (spW PK ea fw er)) (hr : Room k X.A) (hm : X.mg x = some (.ref f)) (hk : PySem.W.keepIn X.K (.ref f) = true)
    (hb : KBinds X.K fd ps ks g gV) (ha : PKX X PK pp ρ kws wa ek) (hpm : ∀ {pp O H zs y}, ek.r pp O H zs y → ea.r pp O H (gV [] zs) (pm y)) (hg : Gl X x := by rfl) (hall : (backToKw pos (keywordEach kws X.env)).all (·.1.isSome) = true := by rfl) (hks : (backToKw pos (keywordEach kws X.env)).filterMap (·.1) = ks := by rfl)
    (hdb : (x == ("__debug__" : Str)) = false := by decide) (hpl : ((backTo pos (starEach [] X.env)).any (·.1) || (backToKw pos (keywordEach kws X.env)).any (·.1.isNone)) = false := by rfl) : PX X PK pp ρ (.Call (.Name x p) [] kws pos) (bnd wa fun y => fw (pm y)) er :=
  (pe_callK0 F hr hg hm hk hb pass0 ha hall hks hdb hpl).weak fun σ H Q ⟨O, Φ, c, S, hw, kk⟩ => ⟨O, _, c, S, hw, fun y vs H1 c1 p1 ch1 S1 r1 =>
    ⟨pp, Av O pp ρ, pm y, Φ, c1, S1.av, fun a h => .inr (.inl h), S1.pool, hpm r1, p1, fun z v H2 c2 p2 ch2 pl2 rz => kk z v H2 c2 p2 (ch1.trans ch2) (S1.chg ch2 pl2) rz⟩⟩
/-! ### numbers of the module -/
theorem kTup_en {K : PySem.W.Frag} {a : Addr} {i j : Int} (h : kTup K a [.int i, .int j]) (O : AS) (H : Hp) : (eN : En K (Int × Int)).r O H (.ref a) (i, j) := ⟨a, _, _, rfl, .inr h, rfl, rfl⟩
end
end Dc
/-! DcP: the pool of draws of the first laws: [great cells, figures left, mark, draws so far]. -/
namespace Dc
open PySem PySem.Spec L2
/-- the pool's state: all that bounds ask -/
def poolA : PoolK where
  r H a b c := ∃ (gs : List Int) (f m d : Int), H a = some (.lst [.ref b, .int f, .int m, .int d]) ∧ H b = some (.lst (gs.map V.int)) ∧ a ≠ b ∧ (∀ g ∈ gs, 0 ≤ g) ∧ 0 ≤ f ∧ 0 ≤ m ∧ m ≤ 10 ^ 30 ∧ 0 ≤ d ∧ d ≤ c
  keep := fun {H H' a b c} ha hb ⟨gs, f, m, d, e1, e2, z⟩ => ⟨gs, f, m, d, ha.trans e1, hb.trans e2, z⟩
  dom := fun {H a b c} ⟨gs, f, m, d, e1, e2, z⟩ => ⟨by rw [e1]; simp, by rw [e2]; simp⟩
/-- a draw: any number below many -/
def pickW (many : Int) : W Int := fun Φ _ c => (0 < many ∧ many.natAbs.log2 < 9000 ∧ c < 2 ^ 1000) ∧ ∀ k, 0 ≤ k → k < many → Φ k (c + 1)
theorem bits_lt {i : Int} {n : Nat} (h : i.natAbs < 2 ^ n) : Builtin.Int.intBits i ≤ n := by
  unfold Builtin.Int.intBits
  split
  · exact Nat.zero_le _
  · have : i.natAbs.log2 < n := (Nat.log2_lt (by simp_all)).mpr h
    omega
section
variable {P : Program} {w : World} {K : PySem.W.Frag} {mg : Str → Option Value} {base : Heap}
theorem big_lt {x m d : Int} {c : Nat} (hc : c < 2 ^ 1000) (d0 : 0 ≤ d) (d1 : d ≤ (c : Int)) (m0 : 0 ≤ m) (m1 : m ≤ 10 ^ 40) {q : Int} (q0 : 0 ≤ q) (q1 : q ≤ 2 ^ 20) (e : x = m + q * (d + 1)) : x.natAbs < 2 ^ 1030 := by
  have h1 : (c : Int) < 2 ^ 1000 := by exact_mod_cast hc
  have e1 : (2 : Int) ^ 1030 = 2 ^ 1000 * 1073741824 := by decide +kernel
  have e2 : (10 : Int) ^ 40 ≤ 2 ^ 1000 := by decide +kernel
  have e3 : (2 : Int) ^ 20 = 1048576 := by decide
  have h3 : q * (d + 1) ≤ 1048576 * (d + 1) := Int.mul_le_mul_of_nonneg_right (by omega) (by omega)
  have h4 : 0 ≤ q * (d + 1) := Int.mul_nonneg q0 (by omega)
  have h5 : x < 2 ^ 1030 := by
    rw [e1]
    generalize (2 : Int) ^ 1000 = z at *
    generalize q * (d + 1) = y at *
    omega
  have h6 : 0 ≤ x := by omega
  have : ((x.natAbs : Nat) : Int) < ((2 ^ 1030 : Nat) : Int) := by
    rw [Int.natAbs_of_nonneg h6]
    exact_mod_cast h5
  exact_mod_cast this
end
section
variable {K : PySem.W.Frag}
theorem dpInts {H : Hp} : ∀ gs : List Int, DpAll K H (gs.map V.int) (gs.map PyData.int)
  | [] => .nil
  | g :: r => .cons (.int g) (dpInts r)
theorem layInts : ∀ gs : List Int, PyData.canLayAll0 (gs.map PyData.int) = true
  | [] => rfl
  | g :: r => by
    show (PyData.canLay0 (.int g) && PyData.canLayAll0 (r.map PyData.int)) = true
    rw [layInts r]
    rfl
theorem depInts : ∀ gs : List Int, PyData.depthAll (gs.map PyData.int) = 0
  | [] => rfl
  | g :: r => by
    show max (PyData.depth (.int g)) (PyData.depthAll (r.map PyData.int)) = 0
    rw [depInts r]
    rfl
theorem shInts (gs : List Int) : SeqAt.shaped (.list (gs.map PyData.int)) = true := by
  have h1 : PyData.canLay0 (.list (gs.map PyData.int)) = true := layInts gs
  have h2 : PyData.depth (.list (gs.map PyData.int)) = 1 := by
    show PyData.depthAll (gs.map PyData.int) + 1 = 1
    rw [depInts]
  unfold SeqAt.shaped
  rw [h1, h2]
  rfl
/-- the pool as it stands -/
def PoolSt (a b : Addr) (m d : Int) (gs : List Int) (f : Int) (H : Hp) : Prop := H a = some (.lst [.ref b, .int f, .int m, .int d]) ∧ H b = some (.lst (gs.map V.int)) ∧ a ≠ b ∧ (∀ g ∈ gs, 0 ≤ g) ∧ 0 ≤ f
theorem pool_while {X : Cx} {st : Stmt} {u : X.A.units + 64 < cLine} {tc : TT} {tb : TS} (h : PS X st (tWhile tc tb)) {a b : Addr} {m d : Int} {x : Int}
    (hstep : ∀ gs f H1, PoolSt a b m d gs f H1 → ∀ (R : Bool → Hp → Prop), (∀ H2, Same H1 H2 → R (decide (f = 0) && !gs.isEmpty) H2) → tc [some (.ref a), some (.int x), none, none] H1 R)
    (hbody : ∀ g gs f H1 (D : Ends), PoolSt a b m d (g :: gs) f H1 → (∀ H2, PoolSt a b m d gs g H2 → Chg (some (a, b)) H1 H2 → D.nx [some (.ref a), some (.int x), none, none] H2) → tb D [some (.ref a), some (.int x), none, none] H1) :
    PS X st (fun D σ H => σ = [some (.ref a), some (.int x), none, none] ∧ ∃ gs f, PoolSt a b m d gs f H ∧ ∀ gs f H2, PoolSt a b m d gs f H2 → Chg (some (a, b)) H H2 → D.nx σ H2) := h.weak fun D σ H ⟨hs, gs, f, hp, k⟩ => by
  subst hs
  refine ⟨fun n σ H1 => σ = [some (.ref a), some (.int x), none, none] ∧ ∃ gs f, n = gs.length ∧ PoolSt a b m d gs f H1 ∧ Chg (some (a, b)) H H1, ⟨_, rfl, gs, f, rfl, hp, .refl⟩, ?_⟩
  rintro n σ H1 ⟨rfl, gs, f, rfl, hp1, ch⟩
  refine hstep gs f H1 hp1 _ fun H2 s2 => ?_
  have hp2 : PoolSt a b m d gs f H2 := ⟨s2 _ _ hp1.1, s2 _ _ hp1.2.1, hp1.2.2⟩
  have ch2 : Chg (some (a, b)) H H2 := ch.trans (.of s2)
  cases gs with
  | nil =>
    rw [List.isEmpty_nil, Bool.not_true, Bool.and_false, if_neg Bool.false_ne_true]
    exact k [] f H2 hp2 ch2
  | cons g gs =>
    by_cases e : f = 0
    · rw [if_pos (by simp [e])]
      refine ⟨fun σ H3 => σ = [some (.ref a), some (.int x), none, none] ∧ PoolSt a b m d gs g H3 ∧ Chg (some (a, b)) H H3, fun σ H3 ⟨q1, q2, q3⟩ => ⟨gs.length, by simp, q1, gs, g, rfl, q2, q3⟩, ?_⟩
      exact hbody g gs f H2 _ hp2 fun H3 p3 c3 => ⟨rfl, p3, ch2.trans c3⟩
    · rw [if_neg (by simp [e])]
      exact k _ f H2 hp2 ch2
/-- the pool made of the script -/
def spPool (K : PySem.W.Frag) : Sp := fun vs H Q _ => ∃ (a : Addr) (ns : List Int), vs = [.ref a] ∧ SqL K H a (ns.map V.int) ∧ ns.length ≤ 63 ∧ ∀ H' p b, Same H H' → H p = none → H b = none → poolA.r H' p b 0 → Q (.ref p) H'
end
end Dc
/-! DcQ: the forms that dc.py writes. -/
namespace Dc
open PySem PySem.Spec L2
section
variable {X : Cx} {PK : PoolK} {pp : PP} {ρ : List (Sl X.K)} {α β γ δ : Type} {e a b : Expr} {pos : Pos}
theorem nil1 {i : Nat} (h : get ρ i = .nil) : ∀ k ∈ [i], get ρ k = .nil := fun k hk => by
  have e : k = i := by simpa using hk
  rw [e]; exact h
theorem nil2 {i j : Nat} (h : get ρ i = .nil) (h2 : get ρ j = .nil) : ∀ k ∈ [i, j], get ρ k = .nil := fun k hk => by
  rcases List.mem_cons.mp hk with e | hk
  · rw [e]; exact h
  · have e : k = j := by simpa using hk
    rw [e]; exact h2
theorem nil3 {i j l : Nat} (h : get ρ i = .nil) (h2 : get ρ j = .nil) (h3 : get ρ l = .nil) : ∀ k ∈ [i, j, l], get ρ k = .nil := fun k hk => by
  rcases List.mem_cons.mp hk with e | hk
  · rw [e]; exact h
  · exact nil2 h2 h3 k hk
/-- the slots, written out -/
theorem re {ss : List Stmt} {w : W (Fl γ δ β)} {ρ' : γ → List (Sl X.K)} {ρl : δ → List (Sl X.K)} {er : En X.K β} (ρ1 : List (Sl X.K)) (h : ρ = ρ1) (k : PSX X PK pp ρ1 ss w ρ' ρl er) : PSX X PK pp ρ ss w ρ' ρl er := by
  rw [h]; exact k
/-- if, the branch leaves -/
theorem nif0 {c : Expr} {a : List Stmt} {w : W Bool} {u : W (Fl Unit δ β)} {ρl : δ → List (Sl X.K)} {er : En X.K β} (hc : PTX X PK pp ρ c w) (ha : PSX X PK pp ρ a u (fun _ : Unit => ρ) ρl er) :
    PS X (.If c a [] pos) (rdS PK pp ρ (bnd w fun x => ite x u (ret (Fl.nx ()))) (fun _ : Unit => ρ) ρl er) := nif hc ha (snil Fit.refl)
theorem nifJ (F : List (Sl X.K) → γ → List (Sl X.K)) {c : Expr} {a b : List Stmt} {w : W Bool} {u v : W (Fl γ δ β)} {ρl : δ → List (Sl X.K)} {er : En X.K β} (hc : PTX X PK pp ρ c w) (ha : PSX X PK pp ρ a u (F ρ) ρl er) (hb : PSX X PK pp ρ b v (F ρ) ρl er) :
    PS X (.If c a b pos) (rdS PK pp ρ (bnd w fun x => ite x u v) (F ρ) ρl er) := nif hc ha hb
theorem nforJ (F : List (Sl X.K) → γ → List (Sl X.K)) {iter tg : Expr} {body : List Stmt} {wi : W (List α)} {ext : List (Sl X.K) → α → List (Sl X.K)} {js : List Nat} {g : TG} {f : γ → α → W (Fl γ γ β)} {ρl : δ → List (Sl X.K)} {er : En X.K β} {s0 : γ}
    (hp : PassesOwn (model X.prog X.w) X.A X.env X.xe) (hc : X.calm = true) (hi : PI X tg iter (rdI PK pp ρ wi ext js g)) (hg : PG X tg g) (hf : Fit ρ (F ρ s0)) (hb : ∀ s x, PSX X PK pp (ext (F ρ s) x) body (f s x) (F ρ) (F ρ) er)
    (hs : ∀ x, foldedSetIterable iter X.env x = pure x := by intro _; rfl) : PS X (.For tg iter body [] pos) (rdS PK pp ρ (bnd wi fun xs => forW f s0 xs) (F ρ) ρl er) := nfor hp hc hi hg hf hb hs
theorem nwhileJ (F : List (Sl X.K) → γ → List (Sl X.K)) {c : Expr} {body : List Stmt} {t : γ → W Bool} {f : γ → W (Fl γ γ β)} {ρl : δ → List (Sl X.K)} {er : En X.K β} {s0 : γ} (fuel : Nat)
    (hp : PassesOwn (model X.prog X.w) X.A X.env X.xe) (hf : Fit ρ (F ρ s0)) (ht : ∀ s, PTX X PK pp (F ρ s) c (t s)) (hb : ∀ s, PSX X PK pp (F ρ s) body (f s) (F ρ) (F ρ) er) :
    PS X (.While c body [] pos) (rdS PK pp ρ (whW t f fuel s0) (F ρ) ρl er) := nwhile fuel hp hf ht hb
/-- x is None, as a test -/
theorem tisND {j pos'} {w : W D} (h : PX X PK pp ρ a w eD) : PTX X PK pp ρ (.Compare a [.Is] [.Constant .none j pos'] pos) (bnd w fun x => ret (nonD x)) :=
  (pt_cmp (pc_isN h)).weak fun σ H Q ⟨O, Φ, c, S, hw, k⟩ => ⟨O, _, c, S, hw, fun x v H' c' p ch S' r => by
    have hr : rD X.K (Av O pp ρ) H' v x := r
    cases x with
    | non => rw [show v = .non from hr]; exact ⟨_, rfl, k _ _ c' p ch S'⟩
    | bl y => rw [show v = _ from hr]; exact ⟨_, rfl, k _ _ c' p ch S'⟩
    | int y => rw [show v = _ from hr]; exact ⟨_, rfl, k _ _ c' p ch S'⟩
    | str y => rw [show v = _ from hr]; exact ⟨_, rfl, k _ _ c' p ch S'⟩
    | lst ds =>
      obtain ⟨a, vs, e, _⟩ := (by simpa only [rD] using hr : ∃ a vs, _)
      rw [e]; exact ⟨_, rfl, k _ _ c' p ch S'⟩
    | tup ds =>
      obtain ⟨a, vs, e, _⟩ := (by simpa only [rD] using hr : ∃ a vs, _)
      rw [e]; exact ⟨_, rfl, k _ _ c' p ch S'⟩⟩
theorem tisN {j pos'} {w : W (Option α)} {en : En X.K α} (h : PX X PK pp ρ a w (eO en)) : PTX X PK pp ρ (.Compare a [.Is] [.Constant .none j pos'] pos) (bnd w fun x => ret x.isNone) :=
  (pt_cmp (pc_isN h)).weak fun σ H Q ⟨O, Φ, c, S, hw, k⟩ => ⟨O, _, c, S, hw, fun x v H' c' p ch S' r => by
    cases x with
    | none =>
      have e : v = .non := r
      exact ⟨_, by rw [e]; rfl, k _ _ c' p ch S'⟩
    | some y => exact ⟨_, (by show V.bl _ = V.bl false; rw [decide_eq_false r.2]), k _ _ c' p ch S'⟩⟩
/-- data not too deep -/
structure Shp {α : Type} (to : α → PyData) (n : Nat) : Prop where
  cl : ∀ x, (to x).canLay0 = true
  dp : ∀ x, (to x).depth ≤ n
theorem shx {α : Type} {to : α → PyData} {n : Nat} (h : Shp to n) (hn : n ≤ 64 := by decide) (x : α) : SeqAt.shaped (to x) = true := by
  unfold SeqAt.shaped; rw [h.cl x, Bool.true_and]; exact decide_eq_true (Nat.le_trans (h.dp x) hn)
theorem shI : Shp PyData.int 0 := ⟨fun _ => rfl, fun _ => Nat.le_refl _⟩
theorem shB : Shp PyData.bool 0 := ⟨fun _ => rfl, fun _ => Nat.le_refl _⟩
theorem shStr (h : ∀ x : Str, (PyData.str x).canLay0 = true) : Shp PyData.str 0 := ⟨h, fun _ => Nat.le_refl _⟩
theorem shP {α β : Type} {to : α → PyData} {to2 : β → PyData} {n m : Nat} (h : Shp to n) (h2 : Shp to2 m) : Shp (fun z : α × β => PyData.tuple [to z.1, to2 z.2]) (max n m + 1) := by
  refine ⟨fun z => ?_, fun z => ?_⟩
  · simp [PyData.canLay0, PyData.canLayAll0, h.cl, h2.cl]
  · have := h.dp z.1
    have := h2.dp z.2
    simp only [PyData.depth, PyData.depthAll]
    omega
theorem shL {α : Type} {to : α → PyData} {n : Nat} (h : Shp to n) : Shp (fun z : List α => PyData.list (z.map fun y => to y)) (n + 1) := by
  have h1 : ∀ l : List α, PyData.canLayAll0 (l.map fun y => to y) = true := fun l => by
    induction l with
    | nil => rfl
    | cons a r ih => simp [PyData.canLayAll0, h.cl, ih]
  have h2 : ∀ l : List α, PyData.depthAll (l.map fun y => to y) ≤ n := fun l => by
    induction l with
    | nil => exact Nat.zero_le _
    | cons a r ih =>
      have := h.dp a
      simp only [List.map_cons, PyData.depthAll]
      omega
  refine ⟨fun z => ?_, fun z => ?_⟩
  · simp only [PyData.canLay0]; exact h1 z
  · have := h2 z
    simp only [PyData.depth]
    omega
/-- a, b, c = e1, e2, e3 -/
abbrev a3 {K : PySem.W.Frag} (e1 : En K α) (e2 : En K β) (e3 : En K γ) : EA K (α × β × γ × Unit) := aC e1 (aC e2 (aC e3 aN))
theorem npar3 (i j l : Nat) {x y z : Str} {a b c : Expr} {px py pz pt : Pos} {kt k2 pt2} {w : W (α × β × γ × Unit)} {e1 : En X.K α} {e2 : En X.K β} {e3 : En X.K γ} (hc : X.calm = true) (hN : X.N.Nodup) (h : PAX X PK pp ρ [a, b, c] w (a3 e1 e2 e3)) (hij : i ≠ j := by decide) (hil : i ≠ l := by decide) (hjl : j ≠ l := by decide)
    (hi : X.N[i]? = some x := by rfl) (hj : X.N[j]? = some y := by rfl) (hl : X.N[l]? = some z := by rfl)
    (hx : X.env.scope.names.lookup x = some .local := by rfl) (hy : X.env.scope.names.lookup y = some .local := by rfl) (hz : X.env.scope.names.lookup z = some .local := by rfl) (hw : swappedStores [.Tuple [.Name x px, .Name y py, .Name z pz] kt pt] (.Tuple [a, b, c] k2 pt2) X.env = pure (some [x, y, z]) := by rfl)
    (hs : swapsWithSole [.Tuple [.Name x px, .Name y py, .Name z pz] kt pt] (.Tuple [a, b, c] k2 pt2) pos.line X.env = pure false := by rfl) :
    PS X (.Assign [.Tuple [.Name x px, .Name y py, .Name z pz] kt pt] (.Tuple [a, b, c] k2 pt2) pos) (rdN PK pp ρ w fun (_ : Unit) z => put (put (put ρ i (.sh e1 z.1)) j (.sh e2 z.2.1)) l (.sh e3 z.2.2.1)) :=
  (ps_par3 hc hN hi hj hl hij hil hjl hx hy hz h hw hs).weak fun D σ H ⟨O, Φ, c, S, hw, k⟩ => ⟨O, _, c, S, hw, fun z v H1 c1 p1 ch S1 r => by
    obtain ⟨u, _, rfl, q1, w, _, rfl, q2, y, _, rfl, q3, rfl⟩ := r
    have less : ∀ {ρ : List (Sl X.K)} {α : Type} {i : Nat} {e1 : En X.K α} {x : α} (a), Av O pp (put ρ i (.sh e1 x)) a → Av O pp ρ a := fun a z => by
      rcases z with z | z | z
      · exact .inl z
      · exact .inr (.inl z)
      · exact .inr (.inr (own_put_sh z))
    exact ⟨u, w, y, rfl, k () z H1 c1 p1 _ (.of_chg ch fun a z => own_put_sh (own_put_sh (own_put_sh z))) (((S1.put q1).put (e2.mono (Mv.less less) q2)).put (e3.mono ((Mv.less less).trans (Mv.less less)) q3))⟩⟩
end
/-! ### the law -/
def spLaw (K : PySem.W.Frag) : Sp := fun vs H Q _ => ∃ (a : Addr) (ns : List Int), vs = [.ref a] ∧ SqL K H a (ns.map V.int) ∧ ns.length ≤ 63 ∧ ∀ H', Q (.bl true) H'
theorem F2.of_ints {K : PySem.W.Frag} {O : AS} {H : Hp} : ∀ ns : List Int, F2 ((eI : En K Int).r O H) (ns.map V.int) ns
  | [] => .nil
  | _ :: r => .cons rfl (F2.of_ints r)
section
variable {P : Program} {w : World} {K : PySem.W.Frag} {mg : Str → Option Value} {base : Heap} {PK : PoolK}
theorem fn_law {x qual : Str} {st : Stmt} {f : Addr} {fd : FuncData} {N : List Str} {k : Nat} {wb : List Int × Unit → W (Fl Empty Empty Bool)} {ρ' : Empty → List (Sl K)} {sn : Str} (F : Fun K x qual st f fd) (S : FnScope N [sn] (defScope st)) (hN : 1 ≤ N.length)
    (hbody : ∀ (cdv : Value) (A : Around) (outer : List Env) (s : Shared) (H : Hp) (E : XK) (x : List Int × Unit), x.1.length ≤ 63 → Room k (A.deeper (PyProof.Rows.envOfC qual (defScope st) s.heap.objs.size f cdv)) →
      PSX (cxOf CX0 P w K mg base N qual (defScope st) f cdv A outer s H E).nox PK none ((aC (eR eI) aN : EA K _).ents x ++ List.replicate (N.length - 1) .nil) (defBody st) (wb x) ρ' (fun z : Empty => nomatch z) eB)
    (hm : ∀ ns : List Int, ns.length ≤ 63 → fnR (wb (ns, ())) (fun r _ => r = true) noX 0) : FnOk P w K mg base CX0 (k + 1) f fd [sn] (spLaw K) := by
  refine F.ok S (fun vs H Q E h => ?_) (fun cdv A outer s H vs Q E hr h => ?_)
  · obtain ⟨a, ns, rfl, _⟩ := h
    rfl
  · obtain ⟨a, ns, rfl, hS, hl, q⟩ := h
    have r : (aC (eR eI) aN : EA K (List Int × Unit)).r none (fun _ => False) H [.ref a] (ns, ()) := ⟨_, [], rfl, ⟨a, _, rfl, Dc.SqL.r hS, F2.of_ints ns⟩, rfl⟩
    refine ⟨_, hbody cdv A outer s H E (ns, ()) hl hr, fun _ => False, _, 0, sat_start (PK := PK) (pp := none) (fun _ z => z.elim) (fun _ z => z.elim) True.intro r hN, hm ns hl, fun fl H' c' p => ?_⟩
    cases fl with
    | rt y =>
      intro v _ _ rv
      have e : y = true := p
      have e2 : v = V.bl y := rv
      rw [e2, e]
      exact q H'
    | nx z => exact nomatch z
    | bk z => exact nomatch z
    | ct z => exact nomatch z
end
section
variable {X : Cx} {ρ : List (Sl X.K)} {α β γ δ : Type}
/-- pool = _law_pool(script), at the head of the law -/
theorem spool (i j : Nat) {k : Nat} {f : Addr} {fd : FuncData} {ps : List Str} {x fnm sn : Str} {p p2 p3 pos pos' : Pos} {rest : List Stmt} {ns : List Int} {w : W (Fl Empty Empty β)} {ρ' : Empty → List (Sl X.K)} {ρl : Empty → List (Sl X.K)} {er : En X.K β} (hl : ns.length ≤ 63) (hN : X.N.Nodup) (hgj : get ρ j = .sh (eR eI) ns) (hgi : get ρ i = .nil) (ho : owns ρ = [])
    (F : FnOk X.prog X.w X.K X.mg X.base CX0 k f fd ps (spPool X.K)) (hr : Room k X.A) (hm : X.mg fnm = some (.ref f)) (hk : PySem.W.keepIn X.K (.ref f) = true) (hb : Binds X.K fd ps [])
    (h : ∀ a b, PSX X poolA (some (a, b)) (put ρ i .pl) rest w ρ' ρl er) (hg : Gl X fnm := by rfl) (hi : X.N[i]? = some x := by rfl) (hj : X.N[j]? = some sn := by rfl) (hx : Loc X.env.scope x := by first | exact Or.inl rfl | exact Or.inr rfl)
    (hv : Vis X.env.scope sn := by first | exact Or.inl rfl | exact Or.inr (Or.inl rfl) | exact Or.inr (Or.inr rfl)) (hd : (sn == ("__debug__" : Str)) = false := by decide) (hcd : (sn == ("__classdict__" : Str)) = false := by decide) (hdb : (fnm == ("__debug__" : Str)) = false := by decide)
    (he : starEach [Expr.Name sn p2] X.env = (false, eval (.Name sn p2) X.env) :: starEach [] X.env := by rfl) (hpl : (backTo p3 (starEach [] X.env)).any (·.1) = false := by rfl)
    (hs : swapsWith (.Call (.Name fnm p) [.Name sn p2] [] p3) (some (.Name x pos')) pos.line X.env = pure false := by rfl) (hf : X.fn x = true ∨ X.env.scope.names.lookup x = some .local := by first | exact .inl rfl | exact .inr rfl) :
    PSX X poolA none ρ (.Assign [.Name x pos'] (.Call (.Name fnm p) [.Name sn p2] [] p3) pos :: rest) w ρ' ρl er :=
  (pss_cons (ps_set hN hi hx (pe_call F hr hg hm hk hb .nil pass0 (pa_cons (pe_var hj hv hd hcd) pa_nil he) hdb he hpl) hs hf) (PSs.ex fun z : Addr × Addr => h z.1 z.2)).weak fun D σ H ⟨O, Φ, c, S, hw, kk⟩ => by
    have q := S.slots j
    rw [hgj] at q
    obtain ⟨v, e1, a, vs, rfl, l, f2⟩ := q
    have ev := F2.ints f2
    refine ⟨_, e1, a, ns, rfl, by rw [← ev]; exact l.sq, hl, fun H' q b sm nq nb hp => ⟨(q, b), O, Φ, c, ?_, hw, fun fl H2 c2 z => ?_⟩⟩
    · have np : ∀ y o, H y = some o → y ≠ q ∧ y ≠ b := fun y o e => ⟨ne_of_none e nq, ne_of_none e nb⟩
      have hne : ∀ y, y ∉ owns (put ρ i (.pl : Sl X.K)) := fun y z => by
        rcases owns_put z with z | z
        · cases z
        · rw [ho] at z; cases z
      have mv : Mv (Av O none ρ) (Av O (some (q, b)) (put ρ i .pl)) H H' := fun y o n e => ⟨sm y o e, fun z => by
        rcases z with z | z | z
        · exact n (.inl z)
        · rcases (show y = q ∨ y = b from z) with z | z
          · exact (np y o e).1 z
          · exact (np y o e).2 z
        · exact hne y z⟩
      refine ⟨by rw [put_len, List.length_set]; exact S.len, owns_put_nodup S.nd (own1_nodup _) (fun b hb => by cases hb), fun y z => absurd z (hne y), fun y z => ?_, ?_, fun m => ?_⟩
      · rw [same_at sm (S.dom y z)]; exact S.dom y z
      · obtain ⟨gs, f0, m, d, r1, r2, r3, r4, r5, r6, r7, r8, r9⟩ := hp
        exact ⟨gs, f0, m, d, r1, r2, r3, r4, r5, r6, r7, r8, by omega⟩
      · by_cases hmi : m = i
        · subst hmi
          rcases get_put_self (ρ := ρ) (i := m) (s := (.pl : Sl X.K)) with e | e
          · rw [e]
            have hlen := get_len (ρ := put ρ m (.pl : Sl X.K)) (i := m) (by rw [e]; intro z; cases z)
            rw [put_len, ← S.len] at hlen
            exact ⟨q, b, rfl, List.getElem?_set_self hlen⟩
          · rw [e]; exact True.intro
        · rw [get_put_ne hmi]
          have qq := S.slots m
          cases e : get ρ m with
          | nil => exact True.intro
          | sh en y =>
            rw [e] at qq
            obtain ⟨u, e2, r⟩ := qq
            exact ⟨u, by rw [List.getElem?_set_ne (Ne.symm hmi)]; exact e2, en.mono mv r⟩
          | ow y on z =>
            have z1 := owns_mem e
            rw [ho] at z1
            cases z1
          | pl =>
            rw [e] at qq
            obtain ⟨_, _, e3, _⟩ := qq
            cases e3
    · have np : ∀ y o, H y = some o → y ≠ q ∧ y ≠ b := fun y o e => ⟨ne_of_none e nq, ne_of_none e nb⟩
      cases fl with
      | rt r =>
        intro v keep _ rv
        refine kk (.rt r) H2 c2 z v (fun y o e _ _ => keep y o (sm y o e) (fun z => ?_) fun z => ?_) True.intro (er.mono (Mv.less fun y z => ?_) rv)
        · rcases (show y = q ∨ y = b from z) with z | z
          · exact (np y o e).1 z
          · exact (np y o e).2 z
        · rcases owns_put z with z | z
          · cases z
          · rw [ho] at z; cases z
        · rcases z with z | z
          · exact .inl z
          · exact z.elim
      | nx z => exact nomatch z
      | bk z => exact nomatch z
      | ct z => exact nomatch z
end
end Dc
/-! DcT: what a W does, said in triples; n bounds the pool's draws. -/
namespace Dc
open PySem PySem.Spec L2
section
variable {α β γ δ ε : Type}
def Tr (n : Nat) (w : W α) (S : α → Prop) : Prop := ∀ Φ Ψ c, c + n ≤ 2 ^ 1000 → (∀ r c', c' ≤ c + n → S r → Φ r c') → w Φ Ψ c
theorem Tr.ret {n : Nat} {x : α} {S : α → Prop} (h : S x) : Tr n (Dc.ret x) S := fun Φ Ψ c _ k => k x c (Nat.le_add_right _ _) h
theorem Tr.retE {x : α} : Tr 0 (Dc.ret x) (fun r => r = x) := Tr.ret rfl
theorem Tr.bnd {a b : Nat} {m : W α} {k : α → W β} {S : α → Prop} {T : β → Prop} (h : Tr a m S) (h2 : ∀ x, S x → Tr b (k x) T) : Tr (a + b) (bnd m k) T := fun Φ Ψ c hc kk =>
  h _ Ψ c (by omega) fun r c' h' s => h2 r s Φ Ψ c' (by omega) fun r' c2 h3 t => kk r' c2 (by omega) t
theorem Tr.mono {a b : Nat} {m : W α} {S T : α → Prop} (h : Tr a m S) (hab : a ≤ b) (hs : ∀ x, S x → T x) : Tr b m T := fun Φ Ψ c hc k => h Φ Ψ c (by omega) fun r c' h' s => k r c' (by omega) (hs r s)
theorem Tr.up {a b : Nat} {m : W α} {S : α → Prop} (h : Tr a m S) (hab : a ≤ b) : Tr b m S := h.mono hab fun _ s => s
theorem Tr.cons {a : Nat} {m : W α} {S T : α → Prop} (h : Tr a m S) (hs : ∀ x, S x → T x) : Tr a m T := h.mono (Nat.le_refl _) hs
theorem Tr.grd {n : Nat} {b : Bool} {m : W α} {S : α → Prop} (hb : b = true) (h : Tr n m S) : Tr n (grd b m) S := fun Φ Ψ c hc k => ⟨hb, h Φ Ψ c hc k⟩
theorem Tr.ite {n : Nat} {b : Bool} {m m2 : W α} {S : α → Prop} (h : b = true → Tr n m S) (h2 : b = false → Tr n m2 S) : Tr n (ite b m m2) S := fun Φ Ψ c hc k => by
  cases b
  · exact (h2 rfl) Φ Ψ c hc k
  · exact (h rfl) Φ Ψ c hc k
theorem Tr.pick {many : Int} (h : 0 < many := by decide) (hl : many.natAbs.log2 < 9000 := by decide) : Tr 1 (pickW many) (fun k => 0 ≤ k ∧ k < many) := fun Φ Ψ c hc k =>
  ⟨⟨h, hl, by omega⟩, fun x h1 h2 => k x (c + 1) (Nat.le_refl _) ⟨h1, h2⟩⟩
theorem Tr.map {n : Nat} {f : α → W β} {S : α → β → Prop} : ∀ {xs : List α}, (∀ x ∈ xs, Tr n (f x) (S x)) → Tr (xs.length * n) (mapW f xs) (fun ys => F2 (fun y x => S x y) ys xs)
  | [], _ => Tr.ret .nil
  | x :: r, h => by
    have e : (x :: r).length * n = n + (r.length * n + 0) := by simp [Nat.add_mul]; omega
    rw [e]
    refine Tr.bnd (h x (List.mem_cons_self ..)) fun y hy => Tr.bnd (Tr.map fun z hz => h z (List.mem_cons_of_mem _ hz)) fun ys hys => Tr.ret (.cons hy hys)
theorem mapW_eq {f : α → W β} {g : α → β} : ∀ {xs : List α}, (∀ x ∈ xs, f x = Dc.ret (g x)) → mapW f xs = Dc.ret (xs.map g)
  | [], _ => rfl
  | x :: r, h => by
    show bnd (f x) _ = _
    rw [h x (List.mem_cons_self ..), bnd_ret, mapW_eq fun z hz => h z (List.mem_cons_of_mem _ hz)]
    rfl
theorem forW_eq {f : γ → α → W (Fl γ γ β)} {g : γ → α → γ} : ∀ {xs : List α} {s : γ}, (∀ x ∈ xs, ∀ s, f s x = Dc.ret (.nx (g s x))) → forW (δ := δ) f s xs = Dc.ret (.nx (xs.foldl g s))
  | [], _, _ => rfl
  | x :: r, s, h => by
    show bnd (f s x) _ = _
    rw [h x (List.mem_cons_self ..) s, bnd_ret]
    exact forW_eq fun z hz => h z (List.mem_cons_of_mem _ hz)
/-- with an invariant kept by each step -/
theorem forW_inv {f : γ → α → W (Fl γ γ β)} {g : γ → α → γ} (I : γ → Prop) : ∀ {xs : List α} {s : γ}, I s → (∀ x ∈ xs, ∀ s, I s → f s x = Dc.ret (.nx (g s x)) ∧ I (g s x)) → forW (δ := δ) f s xs = Dc.ret (.nx (xs.foldl g s)) ∧ I (xs.foldl g s)
  | [], _, i, _ => ⟨rfl, i⟩
  | x :: r, s, i, h => by
    obtain ⟨e, i'⟩ := h x (List.mem_cons_self ..) s i
    show bnd (f s x) _ = _ ∧ _
    rw [e, bnd_ret]
    exact forW_inv I i' fun z hz => h z (List.mem_cons_of_mem _ hz)
theorem Tr.for {n : Nat} {f : γ → α → W (Fl γ γ β)} {R : γ → Prop} : ∀ {xs : List α} {s : γ}, R s → (∀ x ∈ xs, ∀ s, R s → Tr n (f s x) (fun fl => ∃ s', fl = .nx s' ∧ R s')) → Tr (xs.length * n) (forW (δ := δ) f s xs) (fun fl => ∃ s', fl = .nx s' ∧ R s')
  | [], s, i, _ => Tr.ret ⟨s, rfl, i⟩
  | x :: r, s, i, h => by
    have e : (x :: r).length * n = n + (r.length * n) := by simp [Nat.add_mul]; omega
    rw [e]
    refine Tr.bnd (h x (List.mem_cons_self ..) s i) fun fl hf => ?_
    obtain ⟨s', rfl, i'⟩ := hf
    exact Tr.for i' fun z hz => h z (List.mem_cons_of_mem _ hz)
theorem bnd_ifr {γ' : Type} (b : Bool) (r : β) (s : γ) (k : γ → W (Fl γ' δ β)) : Dc.bnd (Dc.ite b (Dc.ret (.rt r)) (Dc.ret (.nx s))) (sq k) = Dc.ite b (Dc.ret (.rt r)) (k s) := bnd_ite ..
theorem bnd_ifs {γ' : Type} (b : Bool) (s : γ) (k : γ → W (Fl γ' δ β)) : Dc.bnd (Dc.ite b stuck (Dc.ret (.nx s))) (sq k) = Dc.ite b stuck (k s) := bnd_ite ..
theorem sq_nx {γ' : Type} (k : γ → W (Fl γ' δ β)) (s : γ) : sq k (.nx s) = k s := (rfl)
theorem sq_rt {γ' : Type} (k : γ → W (Fl γ' δ β)) (r : β) : sq k (.rt r) = Dc.ret (.rt r) := (rfl)
theorem fnR_bnd (m : W α) (k : α → W (Fl Empty Empty β)) : fnR (bnd m k) = bnd m (fun x => fnR (k x)) := (rfl)
theorem fnR_ret (r : β) : fnR (Dc.ret (.rt r)) = Dc.ret r := (rfl)
theorem fnR_grd (b : Bool) (m : W (Fl Empty Empty β)) : fnR (grd b m) = grd b (fnR m) := (rfl)
theorem fnR_stuck : fnR (stuck : W (Fl Empty Empty β)) = stuck := (rfl)
theorem fnR_ite (b : Bool) (m n : W (Fl Empty Empty β)) : fnR (ite b m n) = ite b (fnR m) (fnR n) := bnd_ite ..
theorem fnU_bnd (m : W α) (k : α → W (Fl Unit Empty Unit)) : fnU (bnd m k) = bnd m (fun x => fnU (k x)) := (rfl)
theorem fnU_nx (u : Unit) : fnU (Dc.ret (.nx u)) = Dc.ret () := (rfl)
theorem fnU_rt (u : Unit) : fnU (Dc.ret (.rt u)) = Dc.ret u := (rfl)
theorem fnU_ite (b : Bool) (m n : W (Fl Unit Empty Unit)) : fnU (ite b m n) = ite b (fnU m) (fnU n) := bnd_ite ..
theorem fnU_grd (b : Bool) (m : W (Fl Unit Empty Unit)) : fnU (grd b m) = grd b (fnU m) := (rfl)
theorem grd_ok {b : Bool} (h : b = true) (m : W α) : grd b m = m := by rw [h, grd_true]
theorem ite_ok {b : Bool} (h : b = true) (m n : W α) : Dc.ite b m n = m := by rw [h, ite_true]
theorem ite_no {b : Bool} (h : b = false) (m n : W α) : Dc.ite b m n = n := by rw [h, ite_false]
/-- lists of the same length -/
theorem F2.len {R : α → β → Prop} {ys : List α} {xs : List β} (h : F2 R ys xs) : ys.length = xs.length := h.length
theorem F2.all {R : α → β → Prop} {ys : List α} {xs : List β} (h : F2 R ys xs) : ∀ y ∈ ys, ∃ x ∈ xs, R y x := by
  induction h with
  | nil => intro y hy; cases hy
  | cons r _ ih =>
    intro y hy
    rcases List.mem_cons.mp hy with e | hy
    · rw [e]; exact ⟨_, List.mem_cons_self .., r⟩
    · obtain ⟨x, hx, q⟩ := ih y hy
      exact ⟨x, List.mem_cons_of_mem _ hx, q⟩
end
/-! ### the sizes that the operations allow -/
theorem bits_le {i : Int} {n : Nat} (h : i.natAbs < 2 ^ n) : Builtin.Int.intBits i ≤ n := bits_lt h
theorem mulOk_of {i j : Int} {n m : Nat} (hi : i.natAbs < 2 ^ n) (hj : j.natAbs < 2 ^ m) (h : n + m ≤ 134217728 := by decide) : mulOk i j = true := by
  have := bits_lt hi
  have := bits_lt hj
  exact decide_eq_true (by omega)
theorem log2_lt {x n : Nat} (h : x < 2 ^ n) (hn : 0 < n) : x.log2 < n := by
  by_cases h0 : x = 0
  · rw [h0]; simpa using hn
  · exact (Nat.log2_lt h0).mpr h
theorem fdivOk_of {i j : Int} (h0 : j ≠ 0) (h : j.natAbs < 2 ^ 9000) : fdivOk i j = true := by
  simp only [fdivOk, Bool.and_eq_true, decide_eq_true_eq]
  exact ⟨h0, log2_lt h (by decide)⟩
theorem lcmOk_of {i j : Int} (hi : i.natAbs < 2 ^ 13000) (hj : j.natAbs < 2 ^ 13000) : lcmOk i j = true := by
  simp only [lcmOk, Bool.and_eq_true, decide_eq_true_eq]
  have h1 : (1 : Nat) < 2 ^ 13000 := Nat.one_lt_two_pow (by decide)
  refine ⟨Nat.lt_trans (log2_lt (n := 13000) ?_ (by decide)) (by decide), Nat.lt_trans (log2_lt (n := 13000) ?_ (by decide)) (by decide)⟩
  · exact Nat.max_lt.mpr ⟨h1, hi⟩
  · exact Nat.max_lt.mpr ⟨hi, hj⟩
end Dc
/-! DcK: instances of the program's own classes: read, made. -/
namespace Dc
open PySem PySem.Spec L2
section
variable {K : PySem.W.Frag} {α β γ δ : Type}
/-- fields by name -/
structure FE (K : PySem.W.Frag) (α : Type) where
  r : AS → Hp → List (Str × V) → α → Prop
  mono : ∀ {O O' : AS} {H H' : Hp} {fs : List (Str × V)} {x : α}, Mv O O' H H' → r O H fs x → r O' H' fs x
  keep : ∀ {O : AS} {H : Hp} {fs : List (Str × V)} {x : α} {f : Str} {v : V}, fs.lookup f = none → r O H fs x → r O H (putF f v fs) x
def fN : FE K Unit := ⟨fun _ _ _ _ => True, fun _ h => h, fun _ h => h⟩
def fC (f : Str) (e : En K α) (t : FE K β) : FE K (α × β) := ⟨fun O H fs x => (∃ v, fs.lookup f = some v ∧ e.r O H v x.1) ∧ t.r O H fs x.2, fun m ⟨⟨v, l, q⟩, h⟩ => ⟨⟨v, l, e.mono m q⟩, t.mono m h⟩, fun {O H fs x g u} n h => by
  obtain ⟨⟨v, l, q⟩, h⟩ := h
  have e : (putF g u fs).lookup f = some v := by
    rw [lookup_putF, if_neg]
    · exact l
    · intro z; rw [z, n] at l; cases l
  exact ⟨⟨v, e, q⟩, t.keep n h⟩⟩
/-- an instance whose fields are the names ns -/
def eIns (C : Addr) (ns : List Str) (t : FE K α) : En K α := ⟨fun O H v x => ∃ a dx fs, v = .ref a ∧ ¬ O a ∧ H a = some (.ins C dx fs) ∧ fs.map (·.1) = ns ∧ t.r O H fs x,
  fun m ⟨a, dx, fs, e, n, h, l, q⟩ => ⟨a, dx, fs, e, (m a _ n h).2, (m a _ n h).1, l, t.mono m q⟩⟩
def oIns (C : Addr) (ns : List Str) (t : FE K α) : On K α := ⟨fun O H a x => ∃ dx fs, H a = some (.ins C dx fs) ∧ fs.map (·.1) = ns ∧ t.r O H fs x,
  fun m h ⟨dx, fs, q, l, z⟩ => ⟨dx, fs, h.trans q, l, t.mono m z⟩, fun ⟨dx, fs, q, _⟩ z => by rw [q] at z; cases z⟩
/-- where a field stands -/
structure FAt (t : FE K α) (f : Str) (en : En K β) (π : α → β) : Prop where
  at_ : ∀ {O : AS} {H : Hp} {fs : List (Str × V)} {x : α}, t.r O H fs x → ∃ v, fs.lookup f = some v ∧ en.r O H v (π x)
theorem f0 {f : Str} {e : En K α} {t : FE K β} : FAt (fC f e t) f e (·.1) := ⟨fun h => h.1⟩
theorem fS {f g : Str} {e : En K α} {t : FE K β} {en : En K γ} {π : β → γ} (h : FAt t f en π) : FAt (fC g e t) f en (fun x => π x.2) := ⟨fun q => h.at_ q.2⟩
theorem look_none {m : Str} {fs : List (Str × V)} {ns : List Str} (h : fs.map (·.1) = ns) (hm : ns.contains m = false) : fs.lookup m = none := by
  subst h
  induction fs with
  | nil => rfl
  | cons p r ih =>
    obtain ⟨g, v⟩ := p
    simp only [List.map_cons, List.contains_cons, Bool.or_eq_false_iff] at hm
    rw [List.lookup_cons, hm.1]
    exact ih hm.2
end
section
variable {X : Cx} {PK : PoolK} {pp : PP} {ρ : List (Sl X.K)} {α β γ δ : Type} {e a b : Expr} {es : List Expr} {pos apos : Pos}
theorem xfld {C : Addr} {ns : List Str} {t : FE X.K α} {f : Str} {w : W α} {en : En X.K β} {π : α → β} (c : Cls X.K C) (n : NoAttr X.K C f) (F : FAt t f en π) (h : PX X PK pp ρ e w (eIns C ns t)) (hb : attributeBase e f X.env (eval e X.env) = eval e X.env := by rfl) :
    PX X PK pp ρ (.Attribute e f pos) (bnd w fun x => ret (π x)) en := (pe_fld h hb).weak fun σ H Q ⟨O, Φ, c0, S, hw, k⟩ => ⟨O, _, c0, S, hw, fun x v H' c' p ch S' r => by
  obtain ⟨a, dx, fs, e1, nO, hH, _, q⟩ := r
  obtain ⟨u, l, ru⟩ := F.at_ q
  exact ⟨a, C, dx, fs, u, e1, hH, c, n, l, k _ _ H' c' p ch S' ru⟩⟩
/-- e.f, a property -/
theorem xprop {C p g : Addr} {ns : List Str} {t : FE X.K α} {f : Str} {k : Nat} {fd : FuncData} {ps : List Str} {w : W α} {fw : α × Unit → W β} {er : En X.K β} (c : Cls X.K C) (hp : PropOf X.K C f p g) (F : FnOk X.prog X.w X.K X.mg X.base CX0 k g fd ps (spW PK (aC (eIns C ns t) aN) fw er)) (hr : Room (k + 1) X.A)
    (hb : Binds X.K fd ps []) (h : PX X PK pp ρ e w (eIns C ns t)) (hab : attributeBase e f X.env (eval e X.env) = eval e X.env := by rfl) : PX X PK pp ρ (.Attribute e f pos) (bnd w fun x => fw (x, ())) er :=
  (pe_prop h c hp F hr hb .nil pass0 hab).weak fun σ H Q ⟨O, Φ, c0, S, hw, kk⟩ => ⟨O, _, c0, S, hw, fun x v H1 c1 p1 ch1 S1 r => by
    have r0 := r
    obtain ⟨a, dx, fs, e1, nO, hH, _, q⟩ := r
    subst e1
    exact ⟨a, dx, fs, rfl, hH, pp, Av O pp ρ, (x, ()), Φ, c1, S1.av, fun a h => .inr (.inl h), S1.pool, ⟨_, [], rfl, r0, rfl⟩, p1, fun z v H2 c2 p2 ch2 pl2 rz => kk z v H2 c2 p2 (ch1.trans ch2) (S1.chg ch2 pl2) rz⟩⟩
/-- o.m(e, ..) -/
theorem xmeth {C g : Addr} {m : Str} {ns : List Str} {t : FE X.K α} {k : Nat} {fd : FuncData} {ps : List Str} {w : W α} {ea : EA X.K γ} {wa : W γ} {fw : α × γ → W β} {er : En X.K β} {pl : Sem Bool} (c : Cls X.K C) (hm : Meth X.K C m g) (hn : ns.contains m = false) (F : FnOk X.prog X.w X.K X.mg X.base CX0 k g fd ps (spW PK (aC (eIns C ns t) ea) fw er)) (hr : Room k X.A)
    (hb : Binds X.K fd ps []) (h : PX X PK pp ρ a w (eIns C ns t)) (ha : PAX X PK pp ρ (e :: es) wa ea)
    (hst : starEach (e :: es) X.env = (false, eval e X.env) :: starEach es X.env := by rfl) (hpl : (backTo pos (starEach es X.env)).any (·.1) = false := by rfl)
    (ht : eval (.Call (.Attribute a m apos) (e :: es) [] pos) X.env = (do
      let ov ← eval a X.env
      standAt apos.atName
      let (f, first) ← holding [ov] (getMethod ov m pl)
      callWith pos f first (backTo pos (starEach (e :: es) X.env)) (backToKw pos (keywordEach [] X.env))) := by rfl) : PX X PK pp ρ (.Call (.Attribute a m apos) (e :: es) [] pos) (bnd w fun x => bnd wa fun y => fw (x, y)) er :=
  (pe_meth h c hm F hr hb .nil pass0 ha hst hpl ht).weak fun σ H Q ⟨O, Φ, c0, S, hw, kk⟩ => ⟨O, _, c0, S, hw, fun x v H1 c1 p1 ch1 S1 r => by
    have r0 := r
    obtain ⟨a, dx, fs, e1, nO, hH, l, q⟩ := r
    refine ⟨a, dx, fs, e1, hH, look_none l hn, O, _, c1, S1, p1, fun y vs H2 c2 p2 ch2 S2 r2 => ?_⟩
    show spW PK (aC (eIns C ns t) ea) fw er (v :: (vs ++ [])) H2 Q E0
    rw [List.append_nil]
    exact ⟨pp, Av O pp ρ, (x, y), Φ, c2, S2.av, fun a h => .inr (.inl h), S2.pool, ⟨_, _, rfl, (eIns C ns t).mono ch2.mv r0, r2⟩, p2, fun z v H3 c3 p3 ch3 pl3 rz => kk z v H3 c3 p3 ((ch1.trans ch2).trans ch3) (S2.chg ch3 pl3) rz⟩⟩
/-- f(e, ..), f an instance whose class has __call__ -/
theorem xcallO {C g : Addr} {ns : List Str} {t : FE X.K α} {k : Nat} {fd : FuncData} {ps : List Str} {w : W α} {ea : EA X.K γ} {wa : W γ} {fw : α × γ → W β} {er : En X.K β} (cO : StX.CallO X.K C g) (F : FnOk X.prog X.w X.K X.mg X.base CX0 k g fd ps (spW PK (aC (eIns C ns t) ea) fw er)) (hr : Room k X.A)
    (hb : Binds X.K fd ps []) (h : PX X PK pp ρ a w (eIns C ns t)) (ha : PAX X PK pp ρ (e :: es) wa ea)
    (ht : eval (.Call a (e :: es) [] pos) X.env = (do callWith pos (← eval a X.env) [] (backTo pos (starEach (e :: es) X.env)) (backToKw pos (keywordEach [] X.env))) := by rfl)
    (hst : starEach (e :: es) X.env = (false, eval e X.env) :: starEach es X.env := by rfl) (hpl : (backTo pos (starEach es X.env)).any (·.1) = false := by rfl) : PX X PK pp ρ (.Call a (e :: es) [] pos) (bnd w fun x => bnd wa fun y => fw (x, y)) er :=
  (StX.pe_callO h cO (F.raw hb .nil) hr pass0 ha ht hst hpl).weak fun σ H Q ⟨O, Φ, c0, S, hw, kk⟩ => ⟨O, _, c0, S, hw, fun x v H1 c1 p1 ch1 S1 r => by
    have r0 := r
    obtain ⟨a, dx, fs, e1, nO, hH, l, q⟩ := r
    subst e1
    refine ⟨a, rfl, O, _, c1, S1, p1, fun y vs H2 c2 p2 ch2 S2 r2 => ?_⟩
    have r3 := (eIns C ns t).mono ch2.mv r0
    refine ⟨?_, ?_⟩
    · obtain ⟨a', dx', fs', e2, _, hH', _⟩ := r3
      cases e2
      exact .inr ⟨dx', fs', hH'⟩
    · show spW PK (aC (eIns C ns t) ea) fw er (V.ref a :: vs ++ []) H2 Q E0
      rw [List.append_nil]
      exact ⟨pp, Av O pp ρ, (x, y), Φ, c2, S2.av, fun a h => .inr (.inl h), S2.pool, ⟨_, _, rfl, r3, r2⟩, p2, fun z v H3 c3 p3 ch3 pl3 rz => kk z v H3 c3 p3 ((ch1.trans ch2).trans ch3) (S2.chg ch3 pl3) rz⟩⟩
end
/-! ### an instance made -/
def fnI {β : Type} (w : W (Fl β Empty Unit)) : W β := bnd w fun fl => match fl with | .nx y => ret y | .rt _ => stuck | .bk z => nomatch z | .ct z => nomatch z
section
variable {P : Program} {w : World} {K : PySem.W.Frag} {mg : Str → Option Value} {base : Heap} {PK : PoolK} {α β : Type}
def spI (PK : PoolK) (C : Addr) (ns : List Str) (t : FE K β) (ea : EA K α) (f : α → W β) : Sp := fun vs H Q _ => ∃ pp O a dx rest x Φ c, vs = .ref a :: rest ∧ H a = some (.ins C dx []) ∧ Dom O H ∧ ¬ O a ∧ (∀ b, foot pp b → O b) ∧ PoolOk PK pp H c ∧ ea.r pp (fun b => O b ∨ b = a) H rest x ∧ f x Φ noX c ∧
  ∀ y H' c', Φ y c' → (∀ b o, H b = some o → ¬ foot pp b → b ≠ a → H' b = some o) → PoolOk PK pp H' c' → (eIns C ns t).r O H' (.ref a) y → Q .non H'
theorem slot_up {A : AS} {pp : PP} {H : Hp} {σ : St} {u : Option V} {i : Nat} {sl : Sl K} (h : SlOk A pp H σ i sl) : SlOk A pp H (u :: σ) (i + 1) sl := by
  cases sl with
  | nil => exact True.intro
  | sh en x => obtain ⟨v, e, r⟩ := h; exact ⟨v, by rw [List.getElem?_cons_succ]; exact e, r⟩
  | ow a on x => exact ⟨by rw [List.getElem?_cons_succ]; exact h.1, h.2⟩
  | pl => obtain ⟨a, b, e, r⟩ := h; exact ⟨a, b, e, by rw [List.getElem?_cons_succ]; exact r⟩
theorem sat_self {pp : PP} {O : AS} {H : Hp} {a dx C : Addr} {rest : List V} {x : α} {ea : EA K α} {N : List Str} {c : Nat} (hH : H a = some (.ins C dx [])) (hd : Dom O H) (ha : ¬ O a) (hf : ∀ b, foot pp b → O b) (hp : PoolOk PK pp H c) (hr : ea.r pp (fun b => O b ∨ b = a) H rest x) (hN : ea.len + 1 ≤ N.length) :
    Sat PK O pp (.ow a (oIns C [] fN) () :: (ea.ents x ++ List.replicate (N.length - (ea.len + 1)) .nil)) c (L2.start N (.ref a :: rest)) H := by
  have e0 : owns (ea.ents x ++ List.replicate (N.length - (ea.len + 1)) (Sl.nil : Sl K)) = [] := owns_app.trans (ea.eown x)
  have e1 : owns (.ow a (oIns C [] fN) () :: (ea.ents x ++ List.replicate (N.length - (ea.len + 1)) (Sl.nil : Sl K))) = [a] := by
    show [a] ++ owns _ = [a]
    rw [e0]; rfl
  have hl := ea.hlen hr
  refine ⟨?_, by rw [e1]; simp, fun b hb => ?_, hd, hp, fun i => ?_⟩
  · unfold L2.start
    simp only [List.length_append, List.length_map, List.length_replicate, List.length_cons, ea.elen, hl]
    omega
  · rw [e1] at hb
    have : b = a := by simpa using hb
    subst this
    exact ⟨ha, fun z => ha (hf _ z)⟩
  · have e2 : L2.start N (.ref a :: rest) = some (.ref a) :: (rest.map some ++ List.replicate (N.length - (rest.length + 1)) none) := rfl
    rw [e2]
    cases i with
    | zero => exact ⟨rfl, dx, [], hH, rfl, True.intro⟩
    | succ i =>
      refine slot_up ?_
      show SlOk _ pp H _ i (get (ea.ents x ++ List.replicate (N.length - (ea.len + 1)) .nil) i)
      rcases get_app (l := ea.ents x) (n := N.length - (ea.len + 1)) (i := i) with e | e
      · rw [e]
        refine (ea.eok i hr).mv (Mv.less fun b z => ?_) fun _ _ => rfl
        rcases z with z | z | z
        · exact .inl z
        · exact .inl (hf _ z)
        · rw [e1] at z
          exact .inr (by simpa using z)
      · rw [e]; exact True.intro
theorem fn_I {x qual : Str} {st : Stmt} {f C : Addr} {fd : FuncData} {N ps ns : List Str} {k : Nat} {ea : EA K α} {t : FE K β} {wb : α → W (Fl β Empty Unit)} (F : Fun K x qual st f fd) (S : FnScope N ps (defScope st)) (hl : ea.len + 1 = ps.length) (hN : ea.len + 1 ≤ N.length) (n : Nat)
    (hbody : ∀ (cdv : Value) (A : Around) (outer : List Env) (s : Shared) (H : Hp) (E : XK) (pp : PP) (x : α) (a : Addr), Room k (A.deeper (PyProof.Rows.envOfC qual (defScope st) s.heap.objs.size f cdv)) →
      PSX (cxOf CX0 P w K mg base N qual (defScope st) f cdv A outer s H E).nox PK pp (.ow a (oIns C [] fN) () :: (ea.ents x ++ List.replicate (N.length - (ea.len + 1)) .nil)) (defBody st) (wb x) (fun y => .ow a (oIns C ns t) y :: List.replicate n .nil) (fun z : Empty => nomatch z) eU) :
    FnOk P w K mg base CX0 (k + 1) f fd ps (spI PK C ns t ea fun x => fnI (wb x)) := by
  refine F.ok S (fun vs H Q E h => ?_) (fun cdv A outer s H vs Q E hr h => ?_)
  · obtain ⟨pp, O, a, dx, rest, x, Φ, c, rfl, _, _, _, _, _, r, _⟩ := h
    rw [List.length_cons, ea.hlen r, hl]
  · obtain ⟨pp, O, a, dx, rest, x, Φ, c, rfl, hH, hd, ha, hf, hp, r, hw, q⟩ := h
    refine ⟨_, hbody cdv A outer s H E pp x a hr, O, _, c, sat_self hH hd ha hf hp r hN, hw, fun fl H' c' p => ?_⟩
    have own : ∀ b, b ∈ owns (.ow a (oIns C [] fN) () :: (ea.ents x ++ List.replicate (N.length - (ea.len + 1)) (Sl.nil : Sl K))) → b = a := fun b hb => by
      have e0 : owns (ea.ents x ++ List.replicate (N.length - (ea.len + 1)) (Sl.nil : Sl K)) = [] := owns_app.trans (ea.eown x)
      have : b ∈ [a] ++ owns (ea.ents x ++ List.replicate (N.length - (ea.len + 1)) (Sl.nil : Sl K)) := hb
      rw [e0] at this
      simpa using this
    cases fl with
    | rt r => exact p.elim
    | nx y =>
      intro σ' stp S'
      have s0 := S'.slots 0
      obtain ⟨_, dx', fs, h1, h2, h3⟩ := (show _ ∧ (oIns C ns t).r _ H' a y from s0)
      exact q y H' c' p (fun b o e n hb => stp.keep b o e n fun z => hb (own b z)) S'.pool ⟨a, dx', fs, rfl, ha, h1, h2, t.mono (Mv.less fun b z => .inl z) h3⟩
    | bk z => exact nomatch z
    | ct z => exact nomatch z
end
section
variable {X : Cx} {PK : PoolK} {pp : PP} {ρ : List (Sl X.K)} {α β γ δ : Type} {e a b : Expr} {es : List Expr} {pos apos : Pos}
/-- C(e, ..) -/
theorem xmake {C g : Addr} {ns : List Str} {t : FE X.K β} {k : Nat} {fd : FuncData} {ps : List Str} {x : Str} {p : Pos} {ea : EA X.K γ} {wa : W γ} {fw : γ → W β} (M : Mk X.K C g) (F : FnOk X.prog X.w X.K X.mg X.base CX0 k g fd ps (spI PK C ns t ea fw)) (hr : Room (k + 1) X.A) (hm : X.mg x = some (.ref C))
    (hb : Binds X.K fd ps []) (ha : PAX X PK pp ρ (e :: es) wa ea) (hg : Gl X x := by rfl) (hdb : (x == ("__debug__" : Str)) = false := by decide) (he : starEach (e :: es) X.env = (false, eval e X.env) :: starEach es X.env := by rfl) (hpl : (backTo pos (starEach es X.env)).any (·.1) = false := by rfl) :
    PX X PK pp ρ (.Call (.Name x p) (e :: es) [] pos) (bnd wa fw) (eIns C ns t) :=
  (pe_make M F hr hg hm hb .nil pass0 ha hdb he hpl).weak fun σ H Q ⟨O, Φ, c0, S, hw, kk⟩ => ⟨O, _, c0, S, hw, fun y vs H1 c1 p1 ch1 S1 r1 q dx hq hdx hne => by
    have sm : ∀ b o, H1 b = some o → upd (upd H1 dx (.own q)) q (.ins C dx []) b = some o := fun b o eb => by
      rw [upd_ne (ne_of_none eb hq), upd_ne (ne_of_none eb hdx)]; exact eb
    have nq : ¬ Av O pp ρ q := fun z => S1.av q z hq
    show spI PK C ns t ea fw (V.ref q :: (vs ++ [])) _ _ E0
    rw [List.append_nil]
    refine ⟨pp, Av O pp ρ, q, dx, vs, y, Φ, c1, rfl, upd_same, fun b hb => ?_, nq, fun b h => .inr (.inl h), ?_, ?_, p1, fun z H' c' p2 keep pl rz => ⟨rfl, ?_⟩⟩
    · intro z
      have := S1.av b hb
      cases e1 : H1 b with
      | none => exact this e1
      | some o => rw [sm b o e1] at z; cases z
    · exact (S1.same sm).pool
    · exact ea.mono (fun b o n eb => ⟨sm b o eb, fun z => by
        rcases z with z | z
        · exact n z
        · rw [z, hq] at eb; cases eb⟩) r1
    · have ch2 : Chg pp H1 H' := fun b o eb nf => keep b o (sm b o eb) nf (ne_of_none eb hq)
      exact kk z _ H' c' p2 (ch1.trans ch2) (S1.chg ch2 pl) rz⟩
theorem putF_names {f : Str} {v : V} : ∀ {fs : List (Str × V)}, fs.lookup f = none → (putF f v fs).map (·.1) = fs.map (·.1) ++ [f]
  | [], _ => rfl
  | (g, u) :: r, h => by
    rw [List.lookup_cons] at h
    cases e : (f == g) with
    | true => rw [e] at h; cases h
    | false =>
      rw [e] at h
      have ne : ¬ g = f := fun z => by rw [z] at e; simp at e
      show (if g = f then (g, v) :: r else (g, u) :: putF f v r).map (·.1) = _
      rw [if_neg ne, List.map_cons, List.map_cons, List.cons_append, putF_names h]
/-- self.f = e, in __init__ -/
theorem nattr (i : Nat) {x f : Str} {p' pos' : Pos} {w : W α} {en : En X.K α} {p C : Addr} {ns : List Str} {t : FE X.K β} {xs : β} (hc : Cls X.K C) (hnA : NoAttr X.K C f) (hg : get ρ i = .ow p (oIns C ns t) xs) (hf : ns.contains f = false) (h : PX X PK pp ρ e w en) (hl : ns.length < 1000 := by decide) (hN : X.N[i]? = some x := by rfl)
    (hv : Vis X.env.scope x := by first | exact Or.inl rfl | exact Or.inr (Or.inl rfl) | exact Or.inr (Or.inr rfl)) (hd : (x == ("__debug__" : Str)) = false := by decide) (hcd : (x == ("__classdict__" : Str)) = false := by decide)
    (hs : swapsWith e (some (.Attribute (.Name x p') f pos')) pos.line X.env = pure false := by rfl) :
    PS X (.Assign [.Attribute (.Name x p') f pos'] e pos) (rdN PK pp ρ w fun (_ : Unit) z => put ρ i (.ow p (oIns C (ns ++ [f]) (fC f en t)) (z, xs))) :=
  (ps_fld (pe_var hN hv hd hcd) h hs).weak fun D σ H ⟨O, Φ, c, S, hw, k⟩ => ⟨O, _, c, S, hw, fun y v H1 c1 p1 ch1 S1 r1 => by
    have q := S1.slots i
    rw [hg] at q
    obtain ⟨e1, dx, fs, e2, e3, e4⟩ := q
    have hn := look_none e3 hf
    refine ⟨_, e1, p, C, dx, fs, rfl, e2, hc, hnA, by rw [← e3, List.length_map] at hl; exact hl, ?_⟩
    have mv : Mv (Av O pp ρ) (Av O pp ρ) H1 (upd H1 p (.ins C dx (putF f v fs))) := fun b o n e => ⟨by rw [upd_ne (fun z => n (by rw [z]; exact .inr (.inr (owns_mem hg))))]; exact e, n⟩
    obtain ⟨S3, st⟩ := S1.chgOwn (o := .ins C dx (putF f v fs)) (on' := oIns C (ns ++ [f]) (fC f en t)) (y := (y, xs)) hg ⟨dx, _, upd_same, by rw [putF_names hn, e3], ⟨v, by rw [lookup_putF, if_pos rfl], en.mono mv r1⟩, t.mono mv (t.keep hn e4)⟩
    exact k () y _ c1 p1 σ ((Stp.of_chg ch1 fun _ z => z).trans st) S3⟩
/-- o.f as a target -/
def gAttr (K : PySem.W.Frag) (ta : TE) (f : Str) : TG := fun v σ H Q => ta σ H fun x H2 => ∃ a C dx fs, x = .ref a ∧ H2 a = some (.ins C dx fs) ∧ Cls K C ∧ NoAttr K C f ∧ fs.length < 1000 ∧ Q σ (upd H2 a (.ins C dx (putF f v fs)))
theorem pg_attr {o : Expr} {f : Str} {ta : TE} (ho : PE X o ta) : PG X (.Attribute o f pos) (gAttr X.K ta f) := by
  refine ⟨fun pins s σ H v u Q I r q => ?_⟩
  rw [assign_Attribute]
  refine wpAny_bind (wpAny_holding (thn (ho.run pins s σ H _ I q) fun ov s1 ⟨x, H1, I1, rx, a, C, dx, fs, ex, ea, c, n, l, q1⟩ => ?_))
  subst ex
  obtain rfl : ov = Value.ref a := rx
  refine wpAny_bind (wpAny_standAt (wpAny_bind (wpAny_holding (setattr_ok I1 ea c n l r fun s3 I3 => ?_))))
  exact wpAny_release ⟨σ, _, I3, q1⟩
theorem npairA (i j : Nat) {x y f : Str} {px py pa pt : Pos} {kt} {w : W (α × β)} {e1 : En X.K α} {e2 : En X.K β} {p C : Addr} {ns : List Str} {t : FE X.K γ} {xs : γ} (hc : X.calm = true) (hN : X.N.Nodup) (hC : Cls X.K C) (hnA : NoAttr X.K C f) (hg : get ρ j = .ow p (oIns C ns t) xs) (hf0 : ns.contains f = false) (h : PX X PK pp ρ e w (eP e1 e2)) (hij : j ≠ i := by decide) (hl : ns.length < 1000 := by decide) (hi : X.N[i]? = some x := by rfl) (hj : X.N[j]? = some y := by rfl)
    (hx : Loc X.env.scope x := by first | exact Or.inl rfl | exact Or.inr rfl) (hv : Vis X.env.scope y := by first | exact Or.inl rfl | exact Or.inr (Or.inl rfl) | exact Or.inr (Or.inr rfl)) (hd : (y == ("__debug__" : Str)) = false := by decide) (hcd : (y == ("__classdict__" : Str)) = false := by decide)
    (hf : X.fn x = true ∨ X.env.scope.names.lookup x = some .local := by first | exact .inl rfl | exact .inr rfl)
    (hs1 : (assignEach [Expr.Name x px, Expr.Attribute (.Name y py) f pa] X.env).map (·.2) = assign (.Name x px) X.env :: (assignEach [Expr.Attribute (.Name y py) f pa] X.env).map (·.2) := by rfl) (hs2 : (assignEach [Expr.Attribute (.Name y py) f pa] X.env).map (·.2) = assign (.Attribute (.Name y py) f pa) X.env :: (assignEach [] X.env).map (·.2) := by rfl)
    (hn : (assignEach [Expr.Name x px, Expr.Attribute (.Name y py) f pa] X.env).length = 2 := by rfl) (hst : (assignEach [Expr.Name x px, Expr.Attribute (.Name y py) f pa] X.env).findIdx? (·.1) = none := by rfl)
    (hsw : swapsWithSole [.Tuple [.Name x px, .Attribute (.Name y py) f pa] kt pt] e pos.line X.env = pure false := by rfl) (hww : swappedStores [.Tuple [.Name x px, .Attribute (.Name y py) f pa] kt pt] e X.env = pure none := by rfl) (h1 : (assignEach [.Tuple [.Name x px, .Attribute (.Name y py) f pa] kt pt] X.env).map (·.2) = [assign (.Tuple [.Name x px, .Attribute (.Name y py) f pa] kt pt) X.env] := by rfl) :
    PS X (.Assign [.Tuple [.Name x px, .Attribute (.Name y py) f pa] kt pt] e pos) (rdN PK pp ρ w fun (_ : Unit) z => put (put ρ i (.sh e1 z.1)) j (.ow p (oIns C (ns ++ [f]) (fC f e2 t)) (z.2, xs))) :=
  (ps_asg h (pg_tup hc (pgs_cons (pg_name hN hi hx hf) (pgs_cons (pg_attr (pe_var hj hv hd hcd)) pgs_nil hs2) hs1) hn hst) hsw hww h1).weak fun D σ H ⟨O, Φ, c, S, hw, k⟩ => ⟨O, _, c, S, hw, fun z v H1 c1 p1 ch S1 r => by
    obtain ⟨a, u, w, rfl, tt, q1, q2⟩ := r
    have S2 := S1.put (i := i) (en := e1) (x := z.1) q1
    have less : ∀ a, Av O pp (put ρ i (.sh e1 z.1)) a → Av O pp ρ a := fun a z => by
      rcases z with z | z | z
      · exact .inl z
      · exact .inr (.inl z)
      · exact .inr (.inr (own_put_sh z))
    have hg2 : get (put ρ i (.sh e1 z.1)) j = .ow p (oIns C ns t) xs := by rw [get_put_ne hij]; exact hg
    have q := S2.slots j
    rw [hg2] at q
    obtain ⟨e3, dx, fs, e4, e5, e6⟩ := q
    have hnn := look_none e5 hf0
    refine ⟨a, [u, w], rfl, tt.sq, rfl, u, [w], rfl, w, [], rfl, ⟨_, e3, p, C, dx, fs, rfl, e4, hC, hnA, by rw [← e5, List.length_map] at hl; exact hl, ?_⟩⟩
    have mv : Mv (Av O pp (put ρ i (.sh e1 z.1))) (Av O pp (put ρ i (.sh e1 z.1))) H1 (upd H1 p (.ins C dx (putF f w fs))) := fun b o n e => ⟨by rw [upd_ne (fun z => n (by rw [z]; exact .inr (.inr (owns_mem hg2))))]; exact e, n⟩
    obtain ⟨S3, st⟩ := S2.chgOwn (o := .ins C dx (putF f w fs)) (on' := oIns C (ns ++ [f]) (fC f e2 t)) (y := (z.2, xs)) hg2 ⟨dx, _, upd_same, by rw [putF_names hnn, e5], ⟨w, by rw [lookup_putF, if_pos rfl], e2.mono mv (e2.mono (Mv.less less) q2)⟩, t.mono mv (t.keep hnn e6)⟩
    exact ⟨rfl, k () z _ c1 p1 _ ((Stp.of_chg ch fun _ z => own_put_sh z).trans st) S3⟩⟩
end
/-! ### an instance called by keywords -/
theorem inst_kw {M : Model} {A : Around} {E : Value → Shared → Prop} {s : Shared} {q : Addr} {pos : Pos} {Q : Value → Shared → Prop} {xs : List (Bool × Sem Value)} {ks : List (Option Str × Sem Value)} (hp : (xs.any (·.1) || ks.any (·.1.isNone)) = false)
    (h : wpAny M A (evalArgs (.ref q) true xs ks) (fun z t => (∃ C ox od, PySem.W.InstAt t.heap q ox C od ∧ ox.data = .plain) ∧ wpAny M A (call (.ref q) ([] ++ z.pos) z.kw) Q E t) E s) : wpAny M A (callWith pos (.ref q) [] xs ks) Q E s := by
  have go : ∀ {m : Sem Value} {t : Shared}, wpAny M A m Q E t → wpAny M A (do let r ← m; holding [r] point; pure r) Q E t := fun g =>
    wpAny_bind (wpAny_mono g (fun _ _ hr => wpAny_bind (wpAny_holding (wpAny_point (wpAny_pure hr)))) fun _ _ z => z)
  unfold callWith
  refine wpAny_bind (wpAny_holding (wpAny_mono h (fun z t ht => wpAny_bind (wpAny_standAt ?_)) fun _ _ z => z))
  obtain ⟨⟨C, ox, od, J, hd⟩, g⟩ := ht
  simp only [hp]
  exact wpAny_bind ((PySem.W.kco_keeper (M := M) J hd).here (go (wpAny_operateT g)))
section
variable {X : Cx} {PK : PoolK} {pp : PP} {ρ : List (Sl X.K)} {α β γ δ : Type} {e a b : Expr} {es : List Expr} {pos apos : Pos}
theorem run_ikw {pins : List (Addr × Obj)} {σ : St} {H : Hp} {s : Shared} {Q : VK} {k : Nat} {q C f : Addr} {fd : FuncData} {ps ks : List Str} {sp : Sp} {us ws : List Value} {vs zs : List V} {g : List Value → List Value → List Value} {gV : List V → List V → List V} (cO : StX.CallO X.K C f) (F : FnOk X.prog X.w X.K X.mg X.base CX0 k f fd ps sp) (hr : Room k X.A)
    (hb : KBinds X.K fd ps ks g gV) (I : Inv X pins σ H s) (hi : StX.InsC X H q C) (r : Vals vs us) (rz : Vals zs ws) (h : sp (gV (.ref q :: vs) zs) H Q E0) : wpAny (model X.prog X.w) X.A (call (.ref q) us (ks.zip ws)) (EP X pins σ Q) X.xe s := by
  obtain ⟨ox, od, J, hd⟩ := StX.insC_at I hi
  have r1 : Vals (V.ref q :: vs) (Value.ref q :: us) := .cons rfl r
  have r2 := hb.rel r1 rz
  have hl : (g (.ref q :: us) ws).length = ps.length := r2.length.symm.trans (F.len _ _ _ _ h)
  refine wpAny_call (PySem.W.kco_code I.kIn J hd cO.at_ cO.fn cO.fi (codeAny_mono (F.run X.A X.stack s H ⟨.ref q :: us, ks.zip ws⟩ (g (.ref q :: us) ws) _ Q E0 hr I.env0 (hb.to s (.ref q :: us) ws I.kIn hl) r2 h) fun r t ht => ?_))
  cases r with
  | error z => exact pass0 pins σ H s z t I ht
  | ok fl => cases fl with
    | ret u => exact I.after ht
    | next => cases ht
    | brk => cases ht
    | cont => cases ht
def tIK (X : Cx) (C : Addr) (sp : Sp) (gV : List V → List V → List V) (ta : TE) (tk : TA) : TE := fun σ H Q => ta σ H fun y H1 => ∃ q, y = V.ref q ∧ tk σ H1 fun zs H2 => StX.InsC X H2 q C ∧ sp (gV [.ref q] zs) H2 Q E0
theorem pe_ikw {k : Nat} {C f : Addr} {fd : FuncData} {ps ks : List Str} {sp : Sp} {kws : List Keyword} {ta : TE} {tk : TA} {g : List Value → List Value → List Value} {gV : List V → List V → List V} (cO : StX.CallO X.K C f) (F : FnOk X.prog X.w X.K X.mg X.base CX0 k f fd ps sp) (hr : Room k X.A) (hb : KBinds X.K fd ps ks g gV)
    (ha : PE X a ta) (hk : L2.PK X kws tk) (ht : eval (.Call a [] kws pos) X.env = (do callWith pos (← eval a X.env) [] (backTo pos (starEach [] X.env)) (backToKw pos (keywordEach kws X.env))) := by rfl) (hall : (backToKw pos (keywordEach kws X.env)).all (·.1.isSome) = true := by rfl) (hks : (backToKw pos (keywordEach kws X.env)).filterMap (·.1) = ks := by rfl)
    (hpl : ((backTo pos (starEach [] X.env)).any (·.1) || (backToKw pos (keywordEach kws X.env)).any (·.1.isNone)) = false := by rfl) : PE X (.Call a [] kws pos) (tIK X C sp gV ta tk) := by
  refine ⟨fun pins s σ H Q I h => ?_⟩
  rw [ht]
  refine wpAny_bind (thn (ha.run pins s σ H _ I h) fun u s1 ⟨y, H1, I1, ry, q, ey, h1⟩ => ?_)
  subst ey
  obtain rfl : u = Value.ref q := ry
  refine inst_kw hpl (PyProof.Rows.evalArgs_kw2_nil hall (thn (hk.run pos pins s1 σ H1 _ I1 h1) fun ws s2 ⟨zs, H2, I2, rz, hi, h2⟩ => ?_))
  obtain ⟨ox, od, J, hd⟩ := StX.insC_at I2 hi
  refine ⟨⟨C, ox, od, J, hd⟩, ?_⟩
  rw [hks]
  exact run_ikw (us := []) (vs := []) cO F hr hb I2 hi .nil rz h2
theorem xcallOK {C g0 : Addr} {ns : List Str} {t : FE X.K α} {k : Nat} {fd : FuncData} {ps ks : List Str} {w : W α} {ea : EA X.K γ} {ek : EA X.K δ} {wa : W δ} {fw : α × γ → W β} {er : En X.K β} {kws : List Keyword} {g : List Value → List Value → List Value} {gV : List V → List V → List V} (pm : δ → γ) (cO : StX.CallO X.K C g0) (F : FnOk X.prog X.w X.K X.mg X.base CX0 k g0 fd ps (spW PK (aC (eIns C ns t) ea) fw er)) (hr : Room k X.A)
    (hb : KBinds X.K fd ps ks g gV) (h : PX X PK pp ρ a w (eIns C ns t)) (ha : PKX X PK pp ρ kws wa ek) (hpm : ∀ {pp O H q zs y}, ek.r pp O H zs y → ∃ r, gV [q] zs = q :: r ∧ ea.r pp O H r (pm y))
    (ht : eval (.Call a [] kws pos) X.env = (do callWith pos (← eval a X.env) [] (backTo pos (starEach [] X.env)) (backToKw pos (keywordEach kws X.env))) := by rfl) (hall : (backToKw pos (keywordEach kws X.env)).all (·.1.isSome) = true := by rfl) (hks : (backToKw pos (keywordEach kws X.env)).filterMap (·.1) = ks := by rfl)
    (hpl : ((backTo pos (starEach [] X.env)).any (·.1) || (backToKw pos (keywordEach kws X.env)).any (·.1.isNone)) = false := by rfl) : PX X PK pp ρ (.Call a [] kws pos) (bnd w fun x => bnd wa fun y => fw (x, pm y)) er :=
  (pe_ikw cO F hr hb h ha ht hall hks hpl).weak fun σ H Q ⟨O, Φ, c0, S, hw, kk⟩ => ⟨O, _, c0, S, hw, fun x v H1 c1 p1 ch1 S1 r => by
    have r0 := r
    obtain ⟨a, dx, fs, e1, nO, hH, l, q⟩ := r
    subst e1
    refine ⟨a, rfl, O, _, c1, S1, p1, fun y zs H2 c2 p2 ch2 S2 r2 => ?_⟩
    have r3 := (eIns C ns t).mono ch2.mv r0
    refine ⟨?_, ?_⟩
    · obtain ⟨a', dx', fs', e2, _, hH', _⟩ := r3
      cases e2
      exact .inr ⟨dx', fs', hH'⟩
    · obtain ⟨r, e4, r4⟩ := hpm (q := V.ref a) r2
      show spW PK (aC (eIns C ns t) ea) fw er (gV [V.ref a] zs) H2 Q E0
      rw [e4]
      exact ⟨pp, Av O pp ρ, (x, pm y), Φ, c2, S2.av, fun a h => .inr (.inl h), S2.pool, ⟨_, _, rfl, r3, r4⟩, p2, fun z v H3 c3 p3 ch3 pl3 rz => kk z v H3 c3 p3 ((ch1.trans ch2).trans ch3) (S2.chg ch3 pl3) rz⟩⟩
end
end Dc
/-! DcL: list comprehensions of any number of clauses. -/
namespace Dc
open PySem PySem.Spec L2 PyProof.Rows
section
variable {prog : Program} {w : World} {A : Around} {R : Result → Shared → Prop} {s : Shared} {elt : Expr} {scope : Scope} {pos : Pos} {it acc : Value} {env : Env} {gs : List Comprehension} {d : Nat} {t i : Expr}
/-- one turn of clause d -/
theorem turn_at {ifs : List Expr} (hg : gs[d]? = some ⟨t, i, ifs, 0⟩) : compTurn (.ListComp elt gs scope pos) d it acc env = (do
      standAt i.pos
      match ← pyNext it with
      | none => pure (.done .next)
      | some u =>
        letOwnedTupleGo t it u
        assign t env u
        let mut b := true
        for z in ifs do
          if b then b ← isTrue z env (eval z env)
        if b then
          match gs[d + 1]? with
          | some g =>
            let x ← eval g.iter env
            standAt g.iter.pos
            let x ← if g.is_async != 0 then foldedIterable g.iter x else foldedSetIterable g.iter env x
            let _ ← runOwn (.compStart (.ListComp elt gs scope pos) (d + 1) (← holding [x] (if g.is_async != 0 then asyncIter x else pyIter x)) acc env) env
          | none => (do let _ ← call (.builtin "list.append") [acc, ← eval elt env])
        again (.compLoop (.ListComp elt gs scope pos) d it acc env)) := by
  unfold compTurn
  simp only [hg]
  rfl
abbrev ErrT : Type := Value → Shared → Prop
/-- what clause d does behind its store: the next clause's loop, or the element -/
def restP (prog : Program) (w : World) (A : Around) (elt : Expr) (gs : List Comprehension) (scope : Scope) (pos : Pos) (d : Nat) (acc : Value) (env : Env) (Po : Shared → Prop) (E : ErrT) (s : Shared) : Prop :=
  match gs[d + 1]? with
  | some g => wpAny (model prog w) A (eval g.iter env) (fun x t4 => wpAny (model prog w) A (pyIter x) (fun j t5 => codeAny (model prog w) A (.compStart (.ListComp elt gs scope pos) (d + 1) j acc env) (fun r t6 => match r with | .ok _ => Po t6 | .error _ => False) t5) E t4) E s
  | none => wpAny (model prog w) A (eval elt env) (fun x t4 => wpAny (model prog w) A (call (.builtin "list.append") [acc, x]) (fun _ t5 => Po t5) E t4) E s
theorem loop_at {ifs : List Expr} (hg : gs[d]? = some ⟨t, i, ifs, 0⟩) (hn : ∀ g, gs[d + 1]? = some g → g.is_async = 0 ∧ ∀ x, foldedSetIterable g.iter env x = pure x) (I : Nat → Shared → Prop)
    (turn : ∀ n s, I n s → wpAny (model prog w) A (pyNext it) (fun r t1 => match r with
      | none => R (.ok .next) t1
      | some u => wpAny (model prog w) A (letOwnedTupleGo t it u) (fun _ t2 => wpAny (model prog w) A (assign t env u) (fun _ t3 => wpAny (model prog w) A (forIn ifs true fun z b => if b = true then do let ok ← isTrue z env (eval z env); pure (ForInStep.yield ok) else pure (ForInStep.yield b)) (fun b t4 =>
          if b = true then restP prog w A elt gs scope pos d acc env (fun t5 => ∃ m, m < n ∧ I m t5) (notedBy (model prog w) A env fun e s' => R (.error e) s') t4 else ∃ m, m < n ∧ I m t4)
          (notedBy (model prog w) A env fun e s' => R (.error e) s') t3) (notedBy (model prog w) A env fun e s' => R (.error e) s') t2) (notedBy (model prog w) A env fun e s' => R (.error e) s') t1) (notedBy (model prog w) A env fun e s' => R (.error e) s') s)
    (n : Nat) (h : I n s) : codeAny (model prog w) A (.compLoop (.ListComp elt gs scope pos) d it acc env) R s := by
  refine codeAny_loop rfl I (fun n s hI => ?_) n h
  show wpAny _ A ((compTurn (.ListComp elt gs scope pos) d it acc env).onRaise (fun x => do noteFrame x env; theTreesLotGoes x)) _ _ s
  refine wpAny_noted ?_
  rw [turn_at hg]
  refine wpAny_bind (wpAny_standAt (wpAny_bind (wpAny_mono (turn n s hI) (fun r t1 q => ?_) fun _ _ z => z)))
  cases r with
  | none => exact wpAny_pure q
  | some u =>
    refine wpAny_bind (wpAny_mono q (fun _ t2 q2 => ?_) fun _ _ z => z)
    refine wpAny_bind (wpAny_mono q2 (fun _ t3 q3 => wpAny_bind (wpAny_mono q3 (fun b t4 q4 => ?_) fun _ _ z => z)) fun _ _ z => z)
    cases b with
    | false => exact wpAny_pure ⟨rfl, q4⟩
    | true =>
      have q5 : restP prog w A elt gs scope pos d acc env (fun t5 => ∃ m, m < n ∧ I m t5) (notedBy (model prog w) A env fun e s' => R (.error e) s') t4 := q4
      unfold restP at q5
      cases hd : gs[d + 1]? with
      | none =>
        rw [hd] at q5
        exact wpAny_bind (wpAny_bind (wpAny_mono q5 (fun x t5 q6 => wpAny_bind (wpAny_mono q6 (fun _ t6 q7 => wpAny_pure (wpAny_pure ⟨rfl, q7⟩)) fun _ _ z => z)) fun _ _ z => z))
      | some g =>
        obtain ⟨h0, hs⟩ := hn g hd
        obtain ⟨t1', i1, ifs1, a1⟩ := g
        cases h0
        rw [hd] at q5
        refine wpAny_bind (wpAny_mono q5 (fun x t5 q6 => ?_) fun _ _ z => z)
        refine wpAny_bind (wpAny_standAt (wpAny_bind (wpAny_of_eq (hs x) (wpAny_bind (wpAny_holding (wpAny_mono q6 (fun j t6 q7 => ?_) fun _ _ z => z))))))
        refine wpAny_bind (wpAny_runOwn ?_)
        rw [Around.mark_none]
        refine codeAny_mono q7 fun r t7 hr => ?_
        cases r with
        | ok f =>
          first
            | exact wpAny_pure ⟨rfl, hr⟩
            | exact wpAny_bind (wpAny_pure (wpAny_pure ⟨rfl, hr⟩))
        | error e => exact hr.elim
/-- a later clause's start -/
theorem start_at {ifs : List Expr} (hg : gs[d]? = some ⟨t, i, ifs, 0⟩) (h0 : codeAny (model prog w) A (.compLoop (.ListComp elt gs scope pos) d it acc env) R s)
    (h : wpAny (model prog w) A (pyIter it) (fun j t1 => codeAny (model prog w) A (.compLoop (.ListComp elt gs scope pos) d j acc env) R t1) (notedBy (model prog w) A env fun x t1 => R (.error x) t1) s) :
    codeAny (model prog w) A (.compStart (.ListComp elt gs scope pos) d it acc env) R s := by
  refine codeAny_of_tree ?_
  show wpAny _ _ ((compStart (.ListComp elt gs scope pos) d it acc env).onRaise (fun x => do noteFrame x env; standAt theWindowsPlace)) _ _ s
  refine wpAny_notedAt ?_
  unfold compStart
  simp only [show clausesOf (.ListComp elt gs scope pos) = gs from rfl, hg]
  show wpAny _ _ (ask >>= _) _ _ s
  refine wpAny_bind (wpAny_askSetting (wpAny_ite ?_))
  split
  · first
      | exact wpAny_bind (wpAny_pure (wpAny_pure (And.intro rfl h0)))
      | exact wpAny_pure (And.intro rfl h0)
  · first
      | exact wpAny_bind (wpAny_rule (wpAny_bind (wpAny_standAt (wpAny_bind (wpAny_mono h (fun j t1 q => wpAny_pure (And.intro rfl q)) fun _ _ x => x)))))
      | (refine wpAny_bind (wpAny_rule ?_); show wpAny _ _ (standAt i.pos >>= _) _ _ s; exact wpAny_bind (wpAny_standAt (wpAny_bind (wpAny_mono h (fun j t1 q => wpAny_pure (And.intro rfl q)) fun _ _ x => x))))
end
/-- readings of what clause d does behind its store, the list at D -/
def TR : Type := L2.St → Hp → (Hp → Prop) → Prop
/-- from any state that is read so the rest of clause d comes through; slots in vs may be lost -/
structure PR (Y : Cx) (elt : Expr) (gs : List Comprehension) (scope : Scope) (pos : Pos) (d : Nat) (D : Addr) (vs : List Nat) (tr : TR) : Prop where
  run : ∀ (pins : List (Addr × Obj)) (s : Shared) (σ : L2.St) (H : Hp) (N : Hp → Prop), Inv Y pins σ H s → tr σ H N → ∀ E : ErrT, restP Y.prog Y.w Y.A elt gs scope pos d (.ref D) Y.env (fun t5 => ∃ H', Inv Y pins (wipe σ vs) H' t5 ∧ N H') E s
section
variable {Y : Cx} {elt : Expr} {gs : List Comprehension} {scope : Scope} {pos : Pos} {d : Nat} {D : Addr}
theorem PR.ex {ι : Type} {vs : List Nat} {tr : ι → TR} (h : ∀ x, PR Y elt gs scope pos d D vs (tr x)) : PR Y elt gs scope pos d D vs (fun σ H N => ∃ x, tr x σ H N) := ⟨fun pins s σ H N I ⟨x, q⟩ E => (h x).run pins s σ H N I q E⟩
theorem PR.weak {vs : List Nat} {tr tr' : TR} (h : PR Y elt gs scope pos d D vs tr) (f : ∀ σ H N, tr' σ H N → tr σ H N) : PR Y elt gs scope pos d D vs tr' := ⟨fun pins s σ H N I q E => h.run pins s σ H N I (f σ H N q) E⟩
theorem pr_end {te : TE} (hx : Y.xe = fun _ _ => False) (hg : gs[d + 1]? = none) (he : PE Y elt te) : PR Y elt gs scope pos d D [] (fun σ H N => te σ H fun y H1 => ∃ acc, H1 D = some (.lst acc) ∧ acc.length < sizeLine ∧ N (upd H1 D (.lst (acc ++ [y])))) := by
  refine ⟨fun pins s σ H N I q E => ?_⟩
  unfold restP
  rw [hg]
  have h1 := he.run pins s σ H _ I q
  rw [hx] at h1
  refine thnF h1 fun z t1 h2 => ?_
  obtain ⟨y, H1, I1, r1, acc, hD, hz, nx⟩ := h2
  exact app_ok I1 hD hz r1 fun t2 I2 => ⟨_, I2, nx⟩
theorem pr_mid {t i : Expr} {wi : TI} {g : TG} {vs ws : List Nat} {tr : TR} (hx : Y.xe = fun _ _ => False) (hc : Y.calm = true) (hg : gs[d + 1]? = some ⟨t, i, [], 0⟩) (hn : ∀ g, gs[d + 2]? = some g → g.is_async = 0 ∧ ∀ x, foldedSetIterable g.iter Y.env x = pure x) (hi : PI Y t i wi) (hp : PG Y t g) (hr : PR Y elt gs scope pos (d + 1) D ws tr) (hv : ∀ k ∈ ws, k ∈ vs) :
    PR Y elt gs scope pos d D vs (fun σ H N => wi σ H fun J H1 => ∃ V : Nat → Nat → Hp → Prop, (∃ m, V 0 m H1) ∧ ∀ j k H, V j k H → (J.stop j H ∧ N H) ∨ (J.go j H ∧ ∃ Nx : Hp → Prop, (∀ H', Nx H' → ∃ k', k' < k ∧ V (j + 1) k' H') ∧ ∀ x H', J.yld j H x H' → g x (wipe σ vs) H' fun σ2 H2 => wipe σ2 vs = wipe σ vs ∧ tr σ2 H2 Nx)) := by
  refine ⟨fun pins s σ H N I q E => ?_⟩
  unfold restP
  rw [hg]
  have h1 := hi.run pins s σ H _ I q
  rw [hx] at h1
  refine thnF h1 fun xv t1 h2 => thnF h2 fun itv t2 h2 => ?_
  obtain ⟨j0, fp, tn, J, H2, e, I2, T, st2, f2, V, ⟨m0, v0⟩, turn⟩ := h2
  subst e
  have stat : ∀ {H' : Hp}, (∀ b ∈ fp, H' b = none) → ∀ b ∈ fp, FpOk Y pins H' b := fun hn b hb => ⟨hn b hb, (f2 b hb).2⟩
  have loop : codeAny (model Y.prog Y.w) Y.A (.compLoop (.ListComp elt gs scope pos) (d + 1) (.ref j0) (.ref D) Y.env) (fun r t6 => match r with | .ok _ => ∃ H', Inv Y pins (wipe σ vs) H' t6 ∧ N H' | .error _ => False) t2 := by
    refine loop_at hg hn (fun k t3 => ∃ j H', Inv Y pins (wipe σ vs) H' t3 ∧ tn j t3.heap ∧ (∀ b ∈ fp, H' b = none) ∧ V j k H') ?_ m0 ⟨0, H2, I2.weak (wipe_length _ _) (fun j v e => (wipe_some e).1), st2, fun b hb => (f2 b hb).1, v0⟩
    rintro k t3 ⟨j, H3, I3, st3, n3, v3⟩
    rcases turn j k H3 v3 with ⟨stop, nx⟩ | ⟨go, Nx, hNx, step⟩
    · refine thnF (T.done Y rfl rfl rfl hc j _ t3 (wipe σ vs) H3 (fun _ _ => False) I3 (stat n3) st3 stop) fun r t4 ⟨hr, I4⟩ => ?_
      subst hr
      exact ⟨H3, I4, nx⟩
    · refine thnF (T.item Y rfl rfl rfl hc j _ t3 (wipe σ vs) H3 (fun _ _ => False) I3 (stat n3) st3 go) fun r t4 ⟨u, hr', h4⟩ => ?_
      subst hr'
      refine thnF h4 fun _ t5 ⟨x, H5, I5, r5, y5, st5, n5⟩ => ?_
      have I5' := I5.pinned (stat n5) (T.obj _ _ st5)
      have h5 := hp.run _ t5 (wipe σ vs) H5 x u _ I5' r5 (step x H5 y5)
      rw [hx] at h5
      refine thnF h5 fun _ t6 h6 => ?_
      obtain ⟨σ6, H6, I6, hw6, q6⟩ := h6
      have h7 := (pts_nil (X := Y)).run _ t6 σ6 H6 _ I6 (show tYes σ6 H6 (fun b H' => b = true ∧ tr σ6 H' Nx) from ⟨rfl, q6⟩)
      rw [hx] at h7
      refine thnF h7 fun b t7 h8 => ?_
      obtain ⟨H7, I7, hb, q7⟩ := h8
      subst hb
      simp only [if_true]
      have z := hr.run _ t7 σ6 H7 Nx I7 q7
      have fin : ∀ t8, (∃ H', Inv Y (pins ++ pinsAt fp t5.heap) (wipe σ6 ws) H' t8 ∧ Nx H') → ∃ m, m < k ∧ ∃ j H', Inv Y pins (wipe σ vs) H' t8 ∧ tn j t8.heap ∧ (∀ b ∈ fp, H' b = none) ∧ V j m H' := fun t8 ⟨H', I', nx⟩ => by
        obtain ⟨m', hm, w'⟩ := hNx H' nx
        have pin' : ∀ b ∈ fp, ∀ o, t5.heap.get? b = some o → t8.heap.get? b = some o ∧ H' b = none := fun b hb o e =>
          let z := I'.pin (b, o) (List.mem_append_right _ (List.mem_append_right _ (mem_pinsAt hb e)))
          ⟨z.1, z.2.1⟩
        refine ⟨m', hm, j + 1, H', I'.unpinned.weak (by rw [← hw6, wipe_length, wipe_length]) (fun l v e => ?_), T.keep _ _ _ st5 fun b hb o e => (pin' b hb o e).1, fun b hb => ?_, w'⟩
        · rw [← hw6] at e
          obtain ⟨e1, e2⟩ := wipe_some e
          rw [wipe_out fun z => e2 (hv l z)]
          exact e1
        · obtain ⟨o, e, _⟩ := T.obj _ _ st5 b hb
          exact (pin' b hb o e).2
      have z2 := z (notedBy (model Y.prog Y.w) Y.A Y.env fun e s' => (match (Except.error e : Result) with | .ok _ => ∃ H', Inv Y pins (wipe σ vs) H' s' ∧ N H' | .error _ => False))
      unfold restP at z2 ⊢
      revert z2
      cases gs[d + 1 + 1]? with
      | none => exact fun z2 => wpAny_mono z2 (fun _ _ q => wpAny_mono q (fun _ t8 q => fin t8 q) fun _ _ z => z) fun _ _ z => z
      | some g2 => exact fun z2 => wpAny_mono z2 (fun _ _ q => wpAny_mono q (fun _ _ q => codeAny_mono q fun r t8 q => (match r, q with | .ok _, q => fin t8 q | .error _, q => q)) fun _ _ z => z) fun _ _ z => z
  exact start_at hg loop (T.self Y.A 0 _ _ _ st2 loop)
end
section
variable {X : Cx}
/-- a comprehension's whole, from the rest of its first clause -/
theorem pe_lcN {elt tg iter : Expr} {gs : List Comprehension} {scope : Scope} {own : List (Str × Nat)} {vs : List Nat} {pos : Pos} {wi : TI} {g : TG} {tr : Addr → TR} (hc : X.calm = true) (hN : X.N.Nodup) (hi : PI X tg iter wi) (ok : BlkOk X.N X.env.scope scope own) (hv : ∀ k ∈ vs, k ∈ own.map (·.2))
    (hg : ∀ (s : Shared) (H : Hp) (C : Addr) (cl : List (Str × Addr)) (fp : List Addr), PG (X.blk s H scope (compEnvC scope cl C X.env) fp) tg g)
    (hr : ∀ (s : Shared) (H : Hp) (C : Addr) (cl : List (Str × Addr)) (fp : List Addr) (D : Addr), PR (X.blk s H scope (compEnvC scope cl C X.env) fp) elt (⟨tg, iter, [], 0⟩ :: gs) scope pos 0 D vs (tr D))
    (hn : ∀ env g, gs[0]? = some g → g.is_async = 0 ∧ ∀ x, foldedSetIterable g.iter env x = pure x) (hs : ∀ x, foldedSetIterable iter X.env x = pure x := by intro _; rfl) :
    PE X (.ListComp elt (⟨tg, iter, [], 0⟩ :: gs) scope pos) (fun σ H Q => wi σ H fun J H1 => ∀ D, H1 D = none → ∃ V : Nat → Nat → Hp → Prop, (∃ m, V 0 m (upd H1 D (.lst []))) ∧ ∀ i m H, V i m H →
      (J.stop i H ∧ Q (.ref D) H) ∨ (J.go i H ∧ ∃ Nx : Hp → Prop, (∀ H', Nx H' → ∃ m', m' < m ∧ V (i + 1) m' H') ∧ ∀ x H', J.yld i H x H' → g x (wipe σ (own.map (·.2))) H' fun σ2 H2 => wipe σ2 (own.map (·.2)) = wipe σ (own.map (·.2)) ∧ tr D σ2 H2 Nx)) := by
  refine ⟨fun pins s σ H Q I h => ?_⟩
  rw [eval_ListComp]
  have hfree : ∀ y ∈ scope.names, y.2 = .free → ∃ c, X.env.cells.lookup y.1 = some c := fun y hy e => (ok.free y hy e).elim (fun k => I.ok.has _ (.inl k)) (fun k => I.ok.has _ (.inr k))
  refine wpAny_comprehension_free (use := none) rfl hs (closure_ok hfree) ok.kind (fun y hy e => by rw [ok.uniq y hy, e]) (thn (hi.run pins s σ H _ I h) fun xv t1 hx => thn hx fun itv t2 h2 => ?_)
  obtain ⟨j0, fp, tn, J, H2, e, I2, T, st2, f2, q⟩ := h2
  subst e
  refine wpAny_newObj_type (newEnv_comp ?_) (by show 0 ≤ sizeLine; decide)
  generalize hD : t2.heap.objs.size = D
  have hDn : H2 D = none := I2.hok.fresh (Nat.le_of_eq hD)
  obtain ⟨V, ⟨m0, v0⟩, turn⟩ := q D hDn
  generalize ht3 : ({ t2 with heap := t2.heap.push { cls := .type "list", data := .seq ([] : List Value).toArray } } : Shared) = t3
  have h3 : t3.heap = t2.heap.push { cls := .type "list", data := .seq ([] : List Value).toArray } := by rw [← ht3]
  have I3 : Inv X pins σ (upd H2 D (.lst [])) t3 := by
    rw [← ht3]
    exact I2.laid (t' := t2.toks) (fun b o e => Heap.get?_push_of_some _ e) (Nat.le_of_eq hD) ⟨Nat.zero_le _, [], 0, .nil, by rw [← hD]; exact Heap.get?_push_size _ rfl⟩
  have f3 : ∀ b ∈ fp, FpOk X pins (upd H2 D (.lst [])) b ∧ b < t3.heap.objs.size := fun b hb => by
    obtain ⟨o, e, _⟩ := T.obj _ _ st2 b hb
    have hlt := Heap.lt_size e
    exact ⟨⟨by rw [upd_ne (by rw [← hD]; exact Nat.ne_of_lt hlt)]; exact (f2 b hb).1, (f2 b hb).2⟩, by rw [h3, Heap.size_push]; exact Nat.lt_succ_of_lt hlt⟩
  have st3 : tn 0 t3.heap := T.keep _ _ _ st2 fun b _ o e => by rw [h3]; exact Heap.get?_push_of_some _ e
  have I4 := block_start I3 ok hN f3
  have pg := hg t3 (upd H2 D (.lst [])) t3.heap.objs.size (cellsFrom (t3.heap.objs.size + 1) scope.names (cloFrom X.env.cells scope.names [])) fp
  have pr := hr t3 (upd H2 D (.lst [])) t3.heap.objs.size (cellsFrom (t3.heap.objs.size + 1) scope.names (cloFrom X.env.cells scope.names [])) fp D
  show codeAny _ _ (.compStart (.ListComp elt (⟨tg, iter, [], 0⟩ :: gs) scope pos) 0 (.ref j0) (.ref D) (compEnvC scope (cellsFrom (t3.heap.objs.size + 1) scope.names (cloFrom X.env.cells scope.names [])) t3.heap.objs.size X.env)) (compPost (model X.prog X.w) X.A X.xe none _ (.ref D) t3.heap.objs.size) { t3 with heap := pushCells (t3.heap.push { cls := .type "dict", data := .dict #[] }) scope.names }
  have nfp : ∀ b ∈ fp, (upd H2 D (.lst [])) b = none := fun b hb => (f3 b hb).1.1
  generalize hce : compEnvC scope (cellsFrom (t3.heap.objs.size + 1) scope.names (cloFrom X.env.cells scope.names [])) t3.heap.objs.size X.env = ce at I4 pg pr ⊢
  have cL : ce.locals = t3.heap.objs.size := by subst hce; rfl
  generalize hH3 : upd H2 D (.lst []) = H3 at I3 I4 pg pr v0 nfp f3
  generalize hs4 : ({ t3 with heap := pushCells (t3.heap.push { cls := .type "dict", data := .dict #[] }) scope.names } : Shared) = t4 at I4 ⊢
  have st4 : tn 0 t4.heap := T.keep _ _ _ st3 fun b _ o e => by rw [← hs4]; exact pushCells_keeps _ _ _ _ (Heap.get?_push_of_some _ e)
  have stat : ∀ {σ' : L2.St} {H' : Hp} {s' : Shared}, Inv (X.blk t3 H3 scope ce fp) [] σ' H' s' → (∀ b ∈ fp, H' b = none) → ∀ b ∈ fp, FpOk (X.blk t3 H3 scope ce fp) [] H' b := fun {σ' H' s'} I' hn b hb =>
    ⟨hn b hb, (I'.ok.exf b hb).1, I'.ok.exfs b hb, .inl hb, fun x c e => (I'.ok.exf b hb).2 x c e, fun p hp => absurd (show p ∈ ([] : List (Addr × Obj)) ++ [] from hp) (by simp)⟩
  have loop : codeAny (model X.prog X.w) X.A (.compLoop (.ListComp elt (⟨tg, iter, [], 0⟩ :: gs) scope pos) 0 (.ref j0) (.ref D) ce) (compPost (model X.prog X.w) X.A X.xe none (EP X pins σ Q) (.ref D) t3.heap.objs.size) t4 := by
    refine loop_at (ifs := []) rfl (fun g hg' => hn ce g hg') (fun n t5 => ∃ i H', Inv (X.blk t3 H3 scope ce fp) [] (wipe σ (own.map (·.2))) H' t5 ∧ tn i t5.heap ∧ (∀ b ∈ fp, H' b = none) ∧ V i n H') ?_ m0 ⟨0, H3, I4, st4, nfp, v0⟩
    rintro n t5 ⟨i, H5, I5, st5, n5, v5⟩
    rcases turn i n H5 v5 with ⟨stop, qq⟩ | ⟨go, Nx, hNx, step⟩
    · refine thnF (T.done (X.blk t3 H3 scope ce fp) rfl rfl rfl hc i [] t5 _ H5 (fun _ _ => False) I5 (stat I5 n5) st5 stop) fun r t6 ⟨hr', I6⟩ => ?_
      subst hr'
      have I7 : Inv X pins σ H5 t6 := I3.call' (ch := fp) I6.os I6.base I6.hok I6.bare fun b hb => ⟨(f3 b hb).1.2.2.2.1, (f3 b hb).1.2.1, (f3 b hb).1.2.2.2.2.1, (f3 b hb).1.2.2.2.2.2⟩
      have nC : H5 t3.heap.objs.size = none := by
        have z : H5 ce.locals = none := I6.free
        rw [cL] at z
        exact z
      obtain ⟨m, hm, _⟩ := I6.loc
      have hm : t6.heap.Ns ce.locals m := hm
      rw [cL] at hm
      obtain ⟨f0, f1, f2', f3', f4, f5⟩ := I3.fpOk (Nat.le_refl _) nC
      exact ⟨m, hm, fun h'' sb => ⟨.ref D, H5, I7.turned (t' := t6.toks) (fun b o hb e => (sb.2 b hb).trans e) f0 f1 f3' f4 f5, rfl, qq⟩⟩
    · refine thnF (T.item (X.blk t3 H3 scope ce fp) rfl rfl rfl hc i [] t5 _ H5 (fun _ _ => False) I5 (stat I5 n5) st5 go) fun r t6 ⟨u, hr', h6⟩ => ?_
      subst hr'
      refine thnF h6 fun _ t7 ⟨x, H7, I7, r7, y7, st7, n7⟩ => ?_
      have I7' := I7.pinned (stat I7 n7) (T.obj _ _ st7)
      refine thnF (pg.run _ t7 _ H7 x u _ I7' r7 (step x H7 y7)) fun _ t8 ⟨σ8, H8, I8, hw8, q8⟩ => ?_
      refine thnF ((pts_nil (X := X.blk t3 H3 scope ce fp)).run _ t8 σ8 H8 _ I8 (show tYes σ8 H8 (fun b H' => b = true ∧ tr D σ8 H' Nx) from ⟨rfl, q8⟩)) fun b t9 ⟨H9, I9, hb, q9⟩ => ?_
      subst hb
      simp only [if_true]
      have fin : ∀ t10, (∃ H', Inv (X.blk t3 H3 scope ce fp) ([] ++ pinsAt fp t7.heap) (wipe σ8 vs) H' t10 ∧ Nx H') → ∃ m, m < n ∧ ∃ i H', Inv (X.blk t3 H3 scope ce fp) [] (wipe σ (own.map (·.2))) H' t10 ∧ tn i t10.heap ∧ (∀ b ∈ fp, H' b = none) ∧ V i m H' := fun t10 ⟨H', I', nx⟩ => by
        obtain ⟨m', hm, w'⟩ := hNx H' nx
        have pin' : ∀ b ∈ fp, ∀ o, t7.heap.get? b = some o → t10.heap.get? b = some o ∧ H' b = none := fun b hb o e =>
          let z := I'.pin (b, o) (List.mem_append_right _ (List.mem_append_right _ (mem_pinsAt hb e)))
          ⟨z.1, z.2.1⟩
        refine ⟨m', hm, i + 1, H', (I'.unpinned (pins := [])).weak (by rw [← hw8, wipe_length, wipe_length]) (fun l v e => ?_), T.keep _ _ _ st7 fun b hb o e => (pin' b hb o e).1, fun b hb => ?_, w'⟩
        · rw [← hw8] at e
          obtain ⟨e1, e2⟩ := wipe_some e
          rw [wipe_out fun z => e2 (hv l z)]
          exact e1
        · obtain ⟨o, e, _⟩ := T.obj _ _ st7 b hb
          exact (pin' b hb o e).2
      have z := pr.run _ t9 σ8 H9 Nx I9 q9 (notedBy (model X.prog X.w) X.A ce fun e s' => compPost (model X.prog X.w) X.A X.xe none (EP X pins σ Q) (.ref D) t3.heap.objs.size (.error e) s')
      unfold restP at z ⊢
      revert z
      cases (⟨tg, iter, [], 0⟩ :: gs)[0 + 1]? with
      | none => exact fun z => wpAny_mono z (fun _ _ q => wpAny_mono q (fun _ t10 q => fin t10 q) fun _ _ z => z) fun _ _ z => z
      | some g2 => exact fun z => wpAny_mono z (fun _ _ q => wpAny_mono q (fun _ _ q => codeAny_mono q fun r t10 q => (match r, q with | .ok _, q => fin t10 q | .error _, q => q)) fun _ _ z => z) fun _ _ z => z
  exact codeAny_compStart_list loop (T.self X.A 0 _ _ _ st4 loop)
end
/-! ### what the clauses compute -/
section
variable {X : Cx} {PK : PoolK} {pp : PP} {ρ : List (Sl X.K)} {α β γ δ : Type}
def fldW (f : γ → α → W γ) : γ → List α → W γ
  | s, [] => ret s
  | s, x :: r => bnd (f s x) fun s' => fldW f s' r
def addW (w : W β) (acc : List β) : W (List β) := bnd w fun y => grd (decide (acc.length < 16777216)) (ret (acc ++ [y]))
/-- the rest of a clause, by what the list at D holds -/
def rdR {K : PySem.W.Frag} (PK : PoolK) (pp : PP) (ρ : List (Sl K)) (w : List β → W (List β)) (en : En K β) (D : Addr) : TR := fun σ H N => ∃ O Φ c acc vs, Sat PK (Ox O D) pp ρ c σ H ∧ ¬ foot pp D ∧ H D = some (.lst vs) ∧ F2 (en.r (Av (Ox O D) pp ρ) H) vs acc ∧ w acc Φ noX c ∧
  ∀ acc' vs' H' c', Φ acc' c' → H' D = some (.lst vs') → F2 (en.r (Av (Ox O D) pp ρ) H') vs' acc' → Chg pp (upd H D (.lst [])) (upd H' D (.lst [])) → Sat PK (Ox O D) pp ρ c' σ H' → N H'
theorem Sat.beside {K : PySem.W.Frag} {ρ : List (Sl K)} {O : AS} {D : Addr} {c c' : Nat} {σ : L2.St} {H H' : Hp} {vs vs' : List V} (S : Sat PK (Ox O D) pp ρ c σ H) (nf : ¬ foot pp D) (e : H D = some (.lst vs)) (e' : H' D = some (.lst vs')) (ch : Chg pp (upd H D (.lst [])) (upd H' D (.lst []))) (p : PoolOk PK pp H' c') : Sat PK (Ox O D) pp ρ c' σ H' := by
  have p2 : PoolOk PK pp (upd H' D (.lst vs)) c' := by
    cases pp with
    | none => exact True.intro
    | some q =>
      obtain ⟨a, b⟩ := q
      have q : PK.r H' a b c' := p
      exact PK.keep (upd_ne fun z => nf (.inl z.symm)) (upd_ne fun z => nf (.inr z.symm)) q
  have ch2 : Chg pp H (upd H' D (.lst vs)) := fun a o ea hf => by
    by_cases ne : a = D
    · subst ne; rw [upd_same]; rw [e] at ea; exact ea
    · have z := ch a o (by rw [upd_ne ne]; exact ea) hf
      rw [upd_ne ne] at z ⊢
      exact z
  have S2 := (S.chg ch2 p2).updO (o := .lst vs') (.inr rfl) nf
  have eq : upd (upd H' D (.lst vs)) D (.lst vs') = H' := by
    funext a
    by_cases ne : a = D
    · subst ne; rw [upd_same, e']
    · rw [upd_ne ne, upd_ne ne]
  rw [eq] at S2
  exact S2
theorem fold_V {K : PySem.W.Frag} {ρ : List (Sl K)} {xs : List α} {ext : List (Sl K) → α → List (Sl K)} {js vs : List Nat} {g : TG} {J : It} {A0 : AS} {H1 Hs : Hp} {O : AS} {D : Addr} {σ : L2.St} {wr : α → List β → W (List β)} {en : En K β} {Φ : List β → WB} {acc0 : List β} {vs0 : List V} {c0 : Nat} {Fin : Hp → Prop}
    (src : Src PK xs ext js g J A0 H1) (nf : ¬ foot pp D) (mvs : ∀ H', Chg pp (upd H1 D (.lst [])) (upd H' D (.lst [])) → Mv A0 (Av (Ox O D) pp ρ) H1 H') (hj : ∀ j ∈ js, j ∈ vs) (hn : ∀ i ∈ vs, get ρ i = .nil) (ho : ∀ x, owns (ext ρ x) = owns ρ)
    (e0 : Hs D = some (.lst vs0)) (f0 : F2 (en.r (Av (Ox O D) pp ρ) Hs) vs0 acc0) (ch0 : Chg pp (upd H1 D (.lst [])) (upd Hs D (.lst []))) (S0 : Sat PK (Ox O D) pp ρ c0 σ Hs) (w0 : fldW (fun acc x => wr x acc) acc0 xs Φ noX c0)
    (done : ∀ acc' vs' H' c', Φ acc' c' → H' D = some (.lst vs') → F2 (en.r (Av (Ox O D) pp ρ) H') vs' acc' → Chg pp (upd H1 D (.lst [])) (upd H' D (.lst [])) → Sat PK (Ox O D) pp ρ c' σ H' → Fin H') :
    ∃ V : Nat → Nat → Hp → Prop, (∃ m, V 0 m Hs) ∧ ∀ i m H, V i m H → (J.stop i H ∧ Fin H) ∨ (J.go i H ∧ ∃ Nx : Hp → Prop, (∀ H', Nx H' → ∃ m', m' < m ∧ V (i + 1) m' H') ∧ ∀ x H', J.yld i H x H' → g x (wipe σ vs) H' fun σ2 H2 => wipe σ2 vs = wipe σ vs ∧ ∃ y, rdR PK pp (ext ρ y) (wr y) en D σ2 H2 Nx) := by
  refine ⟨fun i m H' => m = xs.length - i ∧ i ≤ xs.length ∧ ∃ acc us c', H' D = some (.lst us) ∧ F2 (en.r (Av (Ox O D) pp ρ) H') us acc ∧ Chg pp (upd H1 D (.lst [])) (upd H' D (.lst [])) ∧ Sat PK (Ox O D) pp ρ c' σ H' ∧ fldW (fun acc x => wr x acc) acc (xs.drop i) Φ noX c',
    ⟨xs.length, by simp, Nat.zero_le _, acc0, vs0, c0, e0, f0, ch0, S0, by simpa using w0⟩, ?_⟩
  rintro i m H' ⟨rfl, hi', acc, us0, c', eD, fD, chD, S', hw'⟩
  have mv := mvs H' chD
  by_cases hlt : i < xs.length
  · refine .inr ⟨src.go i H' _ hlt mv, fun H3 => ∃ acc us c', H3 D = some (.lst us) ∧ F2 (en.r (Av (Ox O D) pp ρ) H3) us acc ∧ Chg pp (upd H1 D (.lst [])) (upd H3 D (.lst [])) ∧ Sat PK (Ox O D) pp ρ c' σ H3 ∧ fldW (fun acc x => wr x acc) acc (xs.drop (i + 1)) Φ noX c', fun H3 q => ⟨xs.length - (i + 1), by omega, rfl, hlt, q⟩, fun v H2 y => ?_⟩
    obtain ⟨us, H3, eus, sm, S3, hQ⟩ := src.yld i xs[i] H' v H2 pp ρ (Ox O D) c' (wipe σ vs) (List.getElem?_eq_getElem hlt) mv (S'.wipe hn) y
    refine hQ _ ⟨wipe_setAll fun u hu => hj _ (by rw [← eus]; exact List.mem_map.mpr ⟨u, hu, rfl⟩), xs[i], ?_⟩
    rw [List.drop_eq_getElem_cons hlt] at hw'
    have mva : Mv (Av (Ox O D) pp ρ) (Av (Ox O D) pp (ext ρ xs[i])) H' H3 := fun a o n e => ⟨sm a o e, fun z => n (by unfold Av at z ⊢; rw [ho] at z; exact z)⟩
    refine ⟨O, _, c', acc, us0, S3, nf, sm D _ eD, fD.imp fun _ _ => en.mono mva, hw', fun acc2 vs2 H4 c4 p4 e4 f4 ch4 S4 => ?_⟩
    have ch5 : Chg pp (upd H' D (.lst [])) (upd H4 D (.lst [])) := fun a o e hf => ch4 a o (by
      by_cases ne : a = D
      · subst ne; rw [upd_same] at e ⊢; exact e
      · rw [upd_ne ne] at e ⊢; exact sm a o e) hf
    exact ⟨acc2, vs2, c4, e4, f4.imp fun _ _ => en.mono (Mv.less fun a z => by unfold Av at z ⊢; rw [ho]; exact z), chD.trans ch5, S'.beside nf eD e4 ch5 S4.pool, p4⟩
  · have e : i = xs.length := by omega
    subst e
    rw [List.drop_length] at hw'
    exact .inl ⟨src.stop H' _ mv, done acc us0 H' c' hw' eD fD chD S'⟩
variable {elt : Expr} {gs : List Comprehension} {scope : Scope} {pos : Pos} {d : Nat} {D : Addr}
theorem px_end {w : W β} {en : En X.K β} (hx : X.xe = fun _ _ => False) (hg : gs[d + 1]? = none) (he : PX X PK pp ρ elt w en) : PR X elt gs scope pos d D [] (rdR PK pp ρ (addW w) en D) :=
  (pr_end hx hg he).weak fun σ H N ⟨O, Φ, c, acc, vs, S, nf, eD, fD, hw, k⟩ => ⟨Ox O D, _, c, S, hw, fun y v H1 c1 p1 ch S1 r => by
    have e1 := ch D _ eD nf
    refine ⟨vs, e1, by rw [fD.length, sizeLine_eq]; exact of_decide_eq_true p1.1, k (acc ++ [y]) (vs ++ [v]) _ c1 p1.2 upd_same ?_ ?_ (S1.updO (.inr rfl) nf)⟩
    · have mv1 : Mv (Av (Ox O D) pp ρ) (Av (Ox O D) pp ρ) H1 (upd H1 D (.lst (vs ++ [v]))) := fun a o n e => ⟨by rw [upd_ne (fun z => n (by rw [z]; exact .inl (.inr rfl)))]; exact e, n⟩
      exact (fD.imp fun _ _ => en.mono (ch.mv.trans mv1)).append (.cons (en.mono mv1 r) .nil)
    · intro a o e hf
      rw [upd_upd]
      by_cases ne : a = D
      · subst ne; rw [upd_same] at e ⊢; exact e
      · rw [upd_ne ne] at e ⊢; exact ch a o e hf⟩
theorem mv_beside {O : AS} {H1 : Hp} : ∀ H', Chg pp (upd H1 D (.lst [])) (upd H' D (.lst [])) → Mv (Av (Ox O D) pp ρ) (Av (Ox O D) pp ρ) H1 H' := fun H' ch a o n e => by
  have ne : a ≠ D := fun z => n (by rw [z]; exact .inl (.inr rfl))
  have z := ch a o (by rw [upd_ne ne]; exact e) fun z => n (.inr (.inl z))
  rw [upd_ne ne] at z
  exact ⟨z, n⟩
theorem px_mid {t i : Expr} {wi : W (List α)} {ext : List (Sl X.K) → α → List (Sl X.K)} {js vs ws : List Nat} {g : TG} {wr : α → List β → W (List β)} {en : En X.K β} (hx : X.xe = fun _ _ => False) (hc : X.calm = true) (hg : gs[d + 1]? = some ⟨t, i, [], 0⟩) (hn : ∀ g, gs[d + 2]? = some g → g.is_async = 0 ∧ ∀ x, foldedSetIterable g.iter X.env x = pure x)
    (hi : PI X t i (rdI PK pp ρ wi ext js g)) (hp : PG X t g) (hr : ∀ x, PR X elt gs scope pos (d + 1) D ws (rdR PK pp (ext ρ x) (wr x) en D)) (hv : ∀ k ∈ ws, k ∈ vs) (hj : ∀ j ∈ js, j ∈ vs) (hnn : ∀ i ∈ vs, get ρ i = .nil) (ho : ∀ x, owns (ext ρ x) = owns ρ) :
    PR X elt gs scope pos d D vs (rdR PK pp ρ (fun acc => bnd wi fun xs => fldW (fun acc x => wr x acc) acc xs) en D) :=
  (pr_mid hx hc hg hn hi hp (PR.ex hr) hv).weak fun σ H N ⟨O, Φ, c, acc, us, S, nf, eD, fD, hw, k⟩ => ⟨Ox O D, _, c, S, hw, fun xs J H1 c1 p1 ch S1 src hz => by
    have ch' : Chg pp (upd H D (.lst [])) (upd H1 D (.lst [])) := fun a o e hf => by
      by_cases ne : a = D
      · subst ne; rw [upd_same] at e ⊢; exact e
      · rw [upd_ne ne] at e ⊢; exact ch a o e hf
    exact fold_V src nf mv_beside hj hnn ho (ch D _ eD nf) (fD.imp fun _ _ => en.mono ch.mv) .refl S1 p1 fun acc' vs' H' c' p e f ch2 S' => k acc' vs' H' c' p e f (ch'.trans ch2) S'⟩
theorem px_top {tg iter : Expr} {own : List (Str × Nat)} {wi : W (List α)} {ext : List (Sl X.K) → α → List (Sl X.K)} {js vs : List Nat} {g : TG} {wr : α → List β → W (List β)} {en : En X.K β} (hc : X.calm = true) (hN : X.N.Nodup) (hi : PI X tg iter (rdI PK pp ρ wi ext js g)) (ok : BlkOk X.N X.env.scope scope own) (hv : ∀ k ∈ vs, k ∈ own.map (·.2))
    (hg : ∀ (s : Shared) (H : Hp) (C : Addr) (cl : List (Str × Addr)) (fp : List Addr), PG (X.blk s H scope (compEnvC scope cl C X.env) fp) tg g)
    (hr : ∀ (s : Shared) (H : Hp) (C : Addr) (cl : List (Str × Addr)) (fp : List Addr) (D : Addr) (x : α), PR (X.blk s H scope (compEnvC scope cl C X.env) fp) elt (⟨tg, iter, [], 0⟩ :: gs) scope pos 0 D vs (rdR PK pp (ext ρ x) (wr x) en D))
    (hn : ∀ env g, gs[0]? = some g → g.is_async = 0 ∧ ∀ x, foldedSetIterable g.iter env x = pure x) (hj : ∀ j ∈ js, j ∈ own.map (·.2)) (hnn : ∀ i ∈ own.map (·.2), get ρ i = .nil) (ho : ∀ x, owns (ext ρ x) = owns ρ) (hs : ∀ x, foldedSetIterable iter X.env x = pure x := by intro _; rfl) :
    PE X (.ListComp elt (⟨tg, iter, [], 0⟩ :: gs) scope pos) (rdF PK pp ρ (bnd wi fun xs => fldW (fun acc x => wr x acc) [] xs) en) :=
  (pe_lcN (tr := fun D σ H N => ∃ x, rdR PK pp (ext ρ x) (wr x) en D σ H N) hc hN hi ok hv hg (fun s H C cl fp D => PR.ex (hr s H C cl fp D)) hn hs).weak fun σ H Q ⟨O, Φ, c, S, hw, k⟩ => ⟨O, _, c, S, hw, fun xs J H1 c1 p1 ch S1 src hz D hD => by
    have nf := nfoot S1 hD
    have mv0 : Mv (Av O pp ρ) (Av (Ox O D) pp ρ) H1 (upd H1 D (.lst [])) := Mv.newA hD
    refine fold_V src nf (fun H' ch2 a o n e => ?_) hj hnn ho upd_same .nil (by rw [upd_upd]; exact .refl) (S1.newO hD) p1 fun acc' vs' H' c' p e f ch2 S' => ?_
    · obtain ⟨e1, n1⟩ := mv0 a o n e
      have ne : a ≠ D := ne_of_none e hD
      have z := ch2 a o e1 fun z => n (.inr (.inl z))
      rw [upd_ne ne] at z
      exact ⟨z, n1⟩
    · refine k acc' D vs' H' c' p (chg_none S1 ch hD) (fun a o ea hf => ?_) S' e f
      have ne : a ≠ D := ne_of_none ea (chg_none S1 ch hD)
      have z := ch2 a o (by rw [upd_ne ne]; exact ch a o ea hf) hf
      rw [upd_ne ne] at z
      exact z⟩
end
end Dc
/-! DcR: ranges kept in a name; data of any kind walked; from data back to typed values. -/
namespace Dc
open PySem PySem.Spec L2 PyProof.Rows
section
variable {K : PySem.W.Frag} {α β γ δ : Type}
def rngH (p : Addr) (i j c : Int) : HO := .ext fun h => ∃ t u v, h.get? p = some { cls := .type "range", data := .fields #[.int i t, .int j u, .int c v] }
def stepF (i c : Int) : Nat → List Int
  | 0 => []
  | n + 1 => i :: stepF (i + c) c n
theorem stepF_len : ∀ (i c : Int) (n : Nat), (stepF i c n).length = n
  | _, _, 0 => rfl
  | i, c, n + 1 => by simp [stepF, stepF_len (i + c) c n]
theorem stepF_get : ∀ (i c : Int) (n k : Nat) (y : Int), (stepF i c n)[k]? = some y → y = i + (k : Nat) * c
  | _, _, 0, k, y, h => by simp [stepF] at h
  | i, c, n + 1, 0, y, h => by
    simp [stepF] at h
    subst h
    simp
  | i, c, n + 1, k + 1, y, h => by
    have h : (stepF (i + c) c n)[k]? = some y := by simpa [stepF] using h
    rw [stepF_get (i + c) c n k y h]
    rw [Int.natCast_succ, Int.add_mul, Int.one_mul]
    omega
def rgN (i j c : Int) : Nat := (Builtin.Range.rangeSize i j c).toNat
def rgOk (i j c : Int) : Bool := decide (c ≠ 0) && decide (c.natAbs < 1073741824) && Builtin.Range.small i j c && decide (Builtin.Range.rangeSize i j c = (rgN i j c : Int)) && decide (rgN i j c ≤ 16777216)
theorem rgOk_C {i j c : Int} (h : rgOk i j c = true) : RgC i j c (rgN i j c) ∧ rgN i j c ≤ 16777216 := by
  simp only [rgOk, Bool.and_eq_true, decide_eq_true_eq] at h
  exact ⟨⟨h.1.1.1.1, h.1.1.1.2, h.1.1.2, h.1.2⟩, h.2⟩
/-- a range object -/
def eG : En K (List Int) := ⟨fun O H v xs => ∃ p i j c n, v = .ref p ∧ ¬ O p ∧ H p = some (rngH p i j c) ∧ RgC i j c n ∧ n ≤ 16777216 ∧ xs = stepF i c n, fun m ⟨p, i, j, c, n, e, nO, h, r, z, q⟩ => ⟨p, i, j, c, n, e, (m p _ nO h).2, (m p _ nO h).1, r, z, q⟩⟩
/-- data told back as a typed value -/
structure FrD (en : En K α) (to : α → D) : Prop where
  d : ∀ {O : AS} {H : Hp} {v : V} {x : α}, rD K O H v (to x) → en.r O H v x
  inj : ∀ x y, to x = to y → x = y
theorem frI : FrD (eI : En K Int) .int := ⟨fun h => h, fun _ _ e => D.int.inj e⟩
theorem frB : FrD (eB : En K Bool) .bl := ⟨fun h => h, fun _ _ e => D.bl.inj e⟩
theorem frS : FrD (eS : En K Str) .str := ⟨fun h => h, fun _ _ e => D.str.inj e⟩
theorem frAll {en : En K α} {to : α → D} (d : FrD en to) {O : AS} {H : Hp} : ∀ {vs : List V} {xs : List α}, rDs K O H vs (xs.map to) → F2 (en.r O H) vs xs
  | _, [], h => by rw [show _ = _ from h]; exact .nil
  | _, x :: r, h => by
    obtain ⟨v, us, e, p, q⟩ := (by simpa only [List.map_cons, rDs] using h : ∃ v r, _)
    rw [e]; exact .cons (d.d p) (frAll d q)
theorem frL {en : En K α} {to : α → D} (d : FrD en to) : FrD (eL en) (fun xs => .lst (xs.map to)) := ⟨fun {O H v x} h => by
  obtain ⟨a, vs, e, l, r⟩ := (by simpa only [rD] using h : ∃ a vs, _)
  exact ⟨a, vs, e, l, frAll d r⟩, fun x y e => by
  have e := D.lst.inj e
  induction x generalizing y with
  | nil => cases y with
    | nil => rfl
    | cons b m => cases e
  | cons a l ih => cases y with
    | nil => cases e
    | cons b m =>
      simp only [List.map_cons, List.cons.injEq] at e
      rw [d.inj _ _ e.1, ih m (congrArg D.lst e.2) e.2]⟩
theorem frP {e1 : En K α} {e2 : En K β} {to : α → D} {to2 : β → D} (d : FrD e1 to) (d2 : FrD e2 to2) : FrD (eP e1 e2) (fun x => .tup [to x.1, to2 x.2]) := ⟨fun {O H v x} h => by
  obtain ⟨a, vs, e, l, r⟩ := (by simpa only [rD] using h : ∃ a vs, _)
  obtain ⟨u, r1, rfl, p1, r⟩ := (by simpa only [rDs] using r : ∃ v r, _)
  obtain ⟨w, r2, rfl, p2, rfl⟩ := (by simpa only [rDs] using r : ∃ v r, _)
  exact ⟨a, u, w, e, l, d.d p1, d2.d p2⟩, fun x y e => by
  have e := D.tup.inj e
  simp only [List.cons.injEq, and_true] at e
  exact Prod.ext (d.inj _ _ e.1) (d2.inj _ _ e.2)⟩
theorem tdD : ToD (eD : En K D) (fun x => x) := ⟨fun h => h⟩
end
section
variable {X : Cx} {PK : PoolK} {pp : PP} {ρ : List (Sl X.K)} {α β γ δ : Type} {e a b : Expr} {es : List Expr} {pos : Pos}
theorem Vals.consR {v : V} {vs : List V} {us : List Value} (r : Vals (v :: vs) us) : ∃ u us', us = u :: us' ∧ RelV v u ∧ Vals vs us' := by
  cases r with
  | cons r1 r2 => exact ⟨_, _, rfl, r1, r2⟩
theorem laid_rng {pins : List (Addr × Obj)} {σ : L2.St} {H : Hp} {s : Shared} {i j c : Int} {t u v : Tok} {k : Nat} (I : Inv X pins σ H s) : Inv X pins σ (upd H s.heap.objs.size (rngH s.heap.objs.size i j c)) { s with heap := s.heap.push { cls := .type "range", data := .fields #[.int i t, .int j u, .int c v] }, toks := k } :=
  I.laid (t' := k) (fun b o e => Heap.get?_push_of_some _ e) (Nat.le_refl _) ⟨⟨t, u, v, Heap.get?_push_size _ rfl⟩, ⟨_, Heap.get?_push_size _ rfl⟩, fun h1 h2 ⟨t, u, v, q⟩ k => ⟨t, u, v, k _ q⟩⟩
theorem c_range1 : CallW X (.type "range") (a1 (eI : En X.K Int)) eG (fun x => rgOk 0 x.1 1) (fun x => stepF 0 1 (rgN 0 x.1 1)) := by
  rintro pins s σ H xs us Q I r ⟨pp, A, x, d, ⟨v, _, rfl, rfl, rfl⟩, p, k⟩
  obtain ⟨u1, rfl, r1⟩ := vals1 r
  obtain ⟨t, rfl⟩ := r1
  refine call_range_1 ⟨.ref s.heap.objs.size, _, laid_rng I, rfl, k _ _ (same_new (I.hok.fresh (Nat.le_refl _))) ?_⟩
  obtain ⟨h1, h2⟩ := rgOk_C p
  exact ⟨_, _, _, _, _, rfl, new_at d (I.hok.fresh (Nat.le_refl _)), upd_same, h1, h2, rfl⟩
theorem c_range3 : CallW X (.type "range") (aC (eI : En X.K Int) (aC eI (aC eI aN))) eG (fun x => rgOk x.1 x.2.1 x.2.2.1) (fun x => stepF x.1 x.2.2.1 (rgN x.1 x.2.1 x.2.2.1)) := by
  rintro pins s σ H xs us Q I r ⟨pp, A, x, d, ⟨v, _, rfl, rfl, v2, _, rfl, rfl, v3, _, rfl, rfl, rfl⟩, p, k⟩
  obtain ⟨u1, rs, rfl, r1, r⟩ := Vals.consR r
  obtain ⟨u2, u3, rfl, r2, r3⟩ := vals2 r
  obtain ⟨t, rfl⟩ := r1
  obtain ⟨t2, rfl⟩ := r2
  obtain ⟨t3, rfl⟩ := r3
  obtain ⟨h1, h2⟩ := rgOk_C p
  refine call_range_3 h1.1 ⟨.ref s.heap.objs.size, _, laid_rng I, rfl, k _ _ (same_new (I.hok.fresh (Nat.le_refl _))) ?_⟩ (.inl (PyProof.noPylong_small h1.2.1))
  exact ⟨_, _, _, _, _, rfl, new_at d (I.hok.fresh (Nat.le_refl _)), upd_same, h1, h2, rfl⟩
theorem pi_rng {tg : Expr} {te : TE} (h : PE X e te) : PI X tg e (fun σ H R => te σ H fun v H1 => ∃ p i j c n, v = .ref p ∧ H1 p = some (rngH p i j c) ∧ RgC i j c n ∧ R (Itc i c n) H1) := by
  refine ⟨fun pins s σ H R I h0 => thn (h.run pins s σ H _ I h0) fun v s1 ⟨x, H1, I1, r1, p, i, j, c, n, ex, hp, rg, q⟩ => ?_⟩
  subst ex
  cases r1
  obtain ⟨⟨t, u, v', ho⟩, _, _⟩ := I1.hok p _ hp
  refine wpAny_pyIter_range ho rg.2.2.1 (pi_one (tk := s1.toks) I1 _ (turn_rangeC _ i c n) ?_ q)
  have e1 : i + ((0 : Nat) : Int) * c = i := by simp
  have e2 : (n : Int) - ((0 : Nat) : Int) = Builtin.Range.rangeSize i j c := by rw [rg.2.2.2]; simp
  show IsRangeIter _ _ (i + ((0 : Nat) : Int) * c) ((n : Int) - ((0 : Nat) : Int)) c
  rw [e1, e2]
  exact Heap.get?_push_size _ rfl
/-- for x in r, r a range object -/
theorem wG (i : Nat) {nm : Str} {p : Pos} {w : W (List Int)} (h : PX X PK pp ρ e w eG) : PI X (.Name nm p) e (rdI PK pp ρ w (fun ρ x => put ρ i (.sh eI x)) [i] (gName i)) :=
  (pi_rng h).weak fun σ H R ⟨O, Φ, c, S, hw, k⟩ => ⟨O, _, c, S, hw, fun xs v H1 c1 p1 ch S1 r1 => by
    obtain ⟨p, lo, j, st, n, rfl, nO, hp, rg, z, rfl⟩ := r1
    refine ⟨p, lo, j, st, n, rfl, hp, rg, k _ _ H1 c1 p1 ch S1 ⟨fun j H' A' hj m => ?_, fun H' A' m => ?_, fun _ _ _ z => own_put_sh z, fun j y H' v H'' pp' ρ' O' c' σ' hx m S' yy => ?_⟩ ?_⟩
    · rw [stepF_len] at hj; exact hj
    · rw [stepF_len]; exact Nat.le_refl _
    · obtain ⟨rfl, rfl⟩ := yy
      have h1 := stepF_get _ _ _ _ _ hx
      exact ⟨[(i, .int (lo + (j : Nat) * st))], H'', rfl, .refl _, S'.put (by rw [h1]; rfl), fun Q q => q⟩
    · rw [stepF_len, sizeLine_eq]; exact z⟩
/-! data walked -/
def isLst : D → Bool
  | .lst _ => true
  | _ => false
def isTup : D → Bool
  | .tup _ => true
  | _ => false
theorem xDl {w : W D} (h : PX X PK pp ρ e w eD) : PX X PK pp ρ e (bnd w fun x => grd (isLst x) (ret (itemsD x))) (eL eD) :=
  h.weak fun σ H Q ⟨O, Φ, c, S, hw, k⟩ => ⟨O, _, c, S, hw, fun x v H' c' p ch S' r => k _ v H' c' p.2 ch S' (by
    have p1 := p.1
    cases x with
    | lst ds =>
      obtain ⟨a, vs, e, l, q⟩ := (by simpa only [rD] using (show rD X.K _ H' v (.lst ds) from r) : ∃ a vs, _)
      exact ⟨a, vs, e, l, rDs_F2 q⟩
    | _ => cases p1)⟩
theorem wtupD (i : Nat) {nm : Str} {p : Pos} {w : W D} (h : PX X PK pp ρ e w eD) : PI X (.Name nm p) e (rdI PK pp ρ (bnd w fun x => grd (isTup x && decide ((itemsD x).length ≤ 16777216)) (ret (itemsD x))) (fun ρ x => put ρ i (.sh eD x)) [i] (gName i)) :=
  (pi_tup h).weak fun σ H R ⟨O, Φ, c, S, hw, k⟩ => ⟨O, _, c, S, hw, fun x v H1 c1 p1 ch S1 r1 => by
    obtain ⟨p10, p11⟩ := p1
    rw [Bool.and_eq_true, decide_eq_true_eq] at p10
    cases x with
    | tup ds =>
      obtain ⟨a, vs, rfl, l, q⟩ := (by simpa only [rD] using (show rD X.K _ H1 v (.tup ds) from r1) : ∃ a vs, _)
      have f := rDs_F2 q
      refine ⟨a, rfl, ⟨vs, l.sq⟩, k ds _ H1 c1 p11 ch S1 ⟨fun j H' A' hj m => ?_, fun H' A' m => ?_, fun _ _ _ z => own_put_sh z, fun j x H' v H'' pp' ρ' O' c' σ' hx m S' y => ?_⟩ ?_⟩
      · have hv : j < vs.length := by rw [f.length]; exact hj
        exact ⟨vs, vs[j], (l.mv m).sq, List.getElem?_eq_getElem hv⟩
      · exact ⟨vs, (l.mv m).sq, by rw [f.length]; exact Nat.le_refl _⟩
      · obtain ⟨rfl, hy⟩ := y
        obtain ⟨u, hu, ru⟩ := f.get hx
        have e := hy vs (l.mv m).sq
        rw [hu] at e
        cases e
        exact ⟨[(i, v)], H'', rfl, .refl _, S'.put (eD.mono m ru), fun Q q => q⟩
      · rw [sizeLine_eq]; exact p10.2
    | _ => cases p10.1⟩
/-- tuple(xs) -/
theorem c_tupD : CallW X (.type "tuple") (a1 (eL (eD : En X.K D))) eD (fun _ => true) (fun x => .tup x.1) := by
  rintro pins s σ H xs us Q I r ⟨pp, A, x, d, ⟨v, _, rfl, ⟨a, vs, rfl, l, f⟩, rfl⟩, _, k⟩
  refine call_tuple_of pins s σ H _ us Q I r ⟨a, vs, rfl, .inl ⟨l.sq, fun p np => ?_⟩⟩
  have s := same_new (o := .tup vs) np
  refine k _ _ s ?_
  have g : ∀ {vs : List V} {ds : List D}, F2 (rD X.K A H) vs ds → rDs X.K A (upd H p (.tup vs)) vs ds ∨ True := fun _ => .inr trivial
  show rD X.K A _ (.ref p) (.tup x.1)
  simp only [rD]
  refine ⟨p, vs, rfl, .inl ⟨new_at d np, .inl upd_same⟩, ?_⟩
  have g2 : ∀ {us : List V} {ds : List D}, F2 (rD X.K A H) us ds → rDs X.K A (upd H p (.tup vs)) us ds := fun f => by
    induction f with
    | nil => rfl
    | cons r _ ih =>
      simp only [rDs]
      exact ⟨_, _, rfl, rD.mono (Mv.same s) _ r, ih⟩
  exact g2 f
/-- what a function of data makes of typed values is typed -/
theorem xcastF {wa : W α} {g : D × Unit → W D} {to1 : α → D} {to2 : β → D} {f : α → β} {e2 : En X.K β} (fr : FrD e2 to2) (hg : ∀ x, g (to1 x, ()) = ret (to2 (f x))) (h : PX X PK pp ρ e (bnd (bnd (bnd wa fun x => ret (to1 x)) fun t => bnd (ret ()) fun u => ret (t, u)) g) eD) : PX X PK pp ρ e (bnd wa fun x => ret (f x)) e2 :=
  h.weak fun σ H Q ⟨O, Φ, c, S, hw, k⟩ => ⟨O, fun d c' => ∃ y, d = to2 y ∧ Φ y c', c, S, by
    have e : (bnd (bnd (bnd wa fun x => ret (to1 x)) fun t => bnd (ret ()) fun u => ret (t, u)) g) = bnd wa fun x => ret (to2 (f x)) := by
      show (bnd wa fun x => g (to1 x, ())) = _
      exact congrArg _ (funext hg)
    rw [e]
    have e2 : (fun (x : α) (c' : Nat) => ∃ y, to2 (f x) = to2 y ∧ Φ y c') = fun x c' => Φ (f x) c' := by
      funext x c'
      exact propext ⟨fun ⟨y, e, q⟩ => by rw [fr.inj _ _ e]; exact q, fun q => ⟨_, rfl, q⟩⟩
    show wa (fun (x : α) (c' : Nat) => ∃ y, to2 (f x) = to2 y ∧ Φ y c') noX c
    rw [e2]
    exact hw, fun d v H' c' ⟨y, e, p⟩ ch S' r => k y v H' c' p ch S' (fr.d (e ▸ r))⟩
/-- a comprehension within a comprehension: the outer block's names as they are told there -/
def relS (scope sc : Scope) : Scope := { scope with names := scope.names.map fun q => match q with
  | (n, k) => if (k == .free && sc.kind == .function && sc.names.lookup n == some .cell) then (n, .cell) else (n, k) }
theorem blk_in {X0 : Cx} {N : List Str} {s : Shared} {H : Hp} {scope0 scope sc : Scope} {C : Addr} {cl : List (Str × Addr)} {fp : List Addr} {own : List (Str × Nat)} (hN : X0.N = N) (hs : X0.env.scope = sc) (h : blkC N (relS scope0 sc) scope own = true) : BlkOk (X0.blk s H scope0 (compEnvC scope0 cl C X0.env) fp).N (X0.blk s H scope0 (compEnvC scope0 cl C X0.env) fp).env.scope scope own := by
  subst hN hs
  exact blkOk_by h
/-- isinstance(e, C), C an own class, e an instance of it -/
theorem xisC {C : Addr} {cn : Str} {ns : List Str} {t : FE X.K α} {p p2 : Pos} {w : W α} (hm : X.mg "isinstance" = none) (hC : X.mg cn = some (.ref C)) (c : C8.InsC X.K C) (h : PX X PK pp ρ a w (eIns C ns t)) (hg : Gl X "isinstance" := by rfl) (hgc : Gl X cn := by rfl) (hdb : (cn == ("__debug__" : Str)) = false := by decide)
    (he : starEach [a, .Name cn p2] X.env = (false, eval a X.env) :: starEach [.Name cn p2] X.env := by rfl) (he2 : starEach [.Name cn p2] X.env = (false, eval (.Name cn p2) X.env) :: starEach [] X.env := by rfl) (hpl : (backTo pos (starEach [.Name cn p2] X.env)).any (·.1) = false := by rfl) :
    PX X PK pp ρ (.Call (.Name "isinstance" p) [a, .Name cn p2] [] pos) (bnd w fun _ => ret true) eB :=
  (pe_callB (C8.call_isC c) hg hm (by decide +kernel) (pa_cons h (pa_cons (pe_glob (v := .ref C) hgc hC rfl hdb) pa_nil he2) he) (by decide) (by decide) he hpl).weak fun σ H Q ⟨O, Φ, c0, S, hw, k⟩ => ⟨O, _, c0, S, hw, fun x v H' c' p ch S' r => by
    obtain ⟨a, dx, fs, e1, nO, hH, l, q⟩ := r
    subst e1
    exact ⟨a, dx, fs, rfl, hH, k _ _ H' c' p ch S' rfl⟩⟩
/-- x, ys = e, [], ys one's own -/
theorem nparO (i j : Nat) {x y : Str} {px py pt : Pos} {kt k2 pt2} {lp : Pos} {w : W α} {e1 : En X.K α} (en : En X.K β) (hc : X.calm = true) (hN : X.N.Nodup) (h : PX X PK pp ρ a w e1) (hij : i ≠ j := by decide) (hi : X.N[i]? = some x := by rfl) (hj : X.N[j]? = some y := by rfl)
    (hx : X.env.scope.names.lookup x = some .local := by rfl) (hy : X.env.scope.names.lookup y = some .local := by rfl) (hw : swappedStores [.Tuple [.Name x px, .Name y py] kt pt] (.Tuple [a, .List [] lp] k2 pt2) X.env = pure (some [x, y]) := by rfl)
    (hs : swapsWithSole [.Tuple [.Name x px, .Name y py] kt pt] (.Tuple [a, .List [] lp] k2 pt2) pos.line X.env = pure false := by rfl)
    (hs1 : starEach [a, .List [] lp] X.env = (false, eval a X.env) :: starEach [.List [] lp] X.env := by rfl) (hs2 : starEach [Expr.List [] lp] X.env = (false, eval (.List [] lp) X.env) :: starEach [] X.env := by rfl) :
    PS X (.Assign [.Tuple [.Name x px, .Name y py] kt pt] (.Tuple [a, .List [] lp] k2 pt2) pos) (rdN PK pp ρ w fun (p : Addr) z => put (put ρ i (.sh e1 z)) j (.ow p (oL en) [])) :=
  (ps_par hc hN hi hj hij hx hy (pa_cons h (pa_cons (pe_lst pa_nil) pa_nil hs2) hs1) hw hs).weak fun D σ H ⟨O, Φ, c, S, hw, k⟩ => ⟨O, _, c, S, hw, fun z v H1 c1 p1 ch S1 r => ⟨Nat.zero_le _, fun p np => by
    have r1 := e1.mono (Mv.newA (O := O) (pp := pp) (ρ := ρ) (o := .lst []) np) r
    have S2 := ((S1.newO (o := .lst []) np).put (i := i) r1)
    have np2 : ¬ foot pp p := nfoot S1 np
    have nO : ¬ O p := fun z => S1.av p (.inl z) np
    have S3 := S2.own (i := j) (on := oL en) (x := []) np2 nO ⟨[], upd_same, .nil⟩
    have hn : H p = none := chg_none S1 ch np
    refine ⟨v, .ref p, rfl, k p z _ c1 p1 _ ⟨fun b o e n _ => ?_, fun b z => ?_⟩ S3⟩
    · rw [upd_ne (ne_of_none e hn)]; exact ch b o e n
    · rcases owns_put z with z | z
      · have z : b = p := by simpa [own1] using z
        rw [z]; exact .inr ⟨hn, np2⟩
      · exact .inl (own_put_sh z)⟩⟩
end
/-- data that a walk of depth n goes through -/
def Tame : Nat → D → Prop
  | 0, _ => False
  | n + 1, .lst ds => ∀ d ∈ ds, Tame n d
  | n + 1, .tup ds => ds.length ≤ 16777216 ∧ ∀ d ∈ ds, Tame n d
  | _ + 1, _ => True
def TmD {α : Type} (n : Nat) (to : α → D) : Prop := ∀ x, Tame n (to x)
theorem tmI {n : Nat} : TmD (n + 1) D.int := fun _ => trivial
theorem tmB {n : Nat} : TmD (n + 1) D.bl := fun _ => trivial
theorem tmL {α : Type} {n : Nat} {to : α → D} (h : TmD n to) : TmD (n + 1) (fun xs : List α => D.lst (xs.map to)) := fun xs d hd => by
  obtain ⟨x, _, rfl⟩ := List.mem_map.mp hd
  exact h x
theorem tmP {α β : Type} {n : Nat} {to : α → D} {to2 : β → D} (h : TmD n to) (h2 : TmD n to2) : TmD (n + 1) (fun x : α × β => D.tup [to x.1, to2 x.2]) := fun x => by
  refine ⟨by show 2 ≤ 16777216; decide, fun d hd => ?_⟩
  simp only [List.mem_cons, List.not_mem_nil, or_false] at hd
  rcases hd with rfl | rfl
  · exact h _
  · exact h2 _
end Dc
/-! DcS: == of instances by an own __eq__; lists taken apart. -/
namespace Dc
open PySem PySem.Spec L2 PyProof.Rows
section
variable {X : Cx} {PK : PoolK} {pp : PP} {ρ : List (Sl X.K)} {α β γ δ : Type} {e a b : Expr} {es : List Expr} {pos : Pos}
theorem kit_self {K : PySem.W.Frag} (C : Addr) : PySem.W.kitOne K (.ref C) (.ref C) = some true := by
  unfold PySem.W.kitOne
  rw [if_pos]
  first
  | exact beq_self_eq_true _
  | simp
/-- the own __eq__ of a class -/
structure EqO (K : PySem.W.Frag) (C f : Addr) : Prop where
  at_ : PySem.W.findIn K (.ref C) "__eq__" = some (some (.ref f))
  fn : PySem.W.isFn K (.ref f) = true
def rEqO (C : Addr) (sp : Sp) : R2 := fun x y H Q => ∃ a b dx dy fs gs, x = .ref a ∧ y = .ref b ∧ H a = some (.ins C dx fs) ∧ H b = some (.ins C dy gs) ∧ sp [.ref a, .ref b] H (fun v H' => (∃ t, v = .bl t) ∧ Q v H') E0
theorem op_eqO {k : Nat} {C f : Addr} {fd : FuncData} {ps : List Str} {sp : Sp} (q : EqO X.K C f) (F : FnOk X.prog X.w X.K X.mg X.base CX0 k f fd ps sp) (hr : Room k X.A) (hb : Binds X.K fd ps []) : OpR X (compareOp .Eq) (rEqO C sp) := by
  intro pins s σ H x y v u Q I rx ry h
  obtain ⟨a, b, dx, dy, fs, gs, rfl, rfl, ha, hb', hsp⟩ := h
  cases rx
  cases ry
  show wpAny (model X.prog X.w) X.A (richCompare .Eq (.ref a) (.ref b)) (EP X pins σ Q) X.xe s
  obtain ⟨mA, J, _⟩ := ins_get I.hok ha
  obtain ⟨mB, J', _⟩ := ins_get I.hok hb'
  obtain ⟨od, J, _⟩ := J.look
  obtain ⟨od', J', _⟩ := J'.look
  obtain ⟨m, hF⟩ := I.fr
  refine PySem.W.cmp_K (op := .Eq) (tb := .ref C) hr.units0 hF I.ok.mod.kin J J'.type (by simp [PySem.W.notFirst]) q.at_ q.fn ?_
  have hl := F.len _ _ _ _ hsp
  have r2 : Vals [V.ref a, V.ref b] [Value.ref a, Value.ref b] := .cons rfl (.cons rfl .nil)
  refine wpAny_call (codeAny_mono (F.run X.A X.stack s H ⟨[.ref a, .ref b], []⟩ [.ref a, .ref b] [.ref a, .ref b] _ E0 hr I.env0 (by
    have := hb s [.ref a, .ref b] I.kIn (by simpa using hl)
    simpa using this) r2 hsp) fun r s' hq => ?_)
  cases r with
  | error e => exact pass0 pins σ H s e s' I hq
  | ok fl =>
    cases fl with
    | ret w =>
      obtain ⟨z, H', I', rz, ⟨t, ez⟩, ex⟩ := I.after hq
      subst ez
      cases rz
      exact ⟨.bl t, H', I', rfl, ex⟩
    | next => exact False.elim hq
    | brk => exact False.elim hq
    | cont => exact False.elim hq
theorem rd_eqO {C : Addr} {ns : List Str} {t : FE X.K α} {wa wb : W α} {fw : α × α × Unit → W Bool} {σ : L2.St} {H : Hp} {Q : V → Hp → Prop} {O : AS} {c : Nat} {Φ : Bool → WB} (S : Sat PK O pp ρ c σ H) (hw : (bnd wa fun x => bnd wb fun y => fw (x, y, ())) Φ noX c) (k : ∀ x v H' c', Φ x c' → Chg pp H H' → Sat PK O pp ρ c' σ H' → v = .bl x → Q v H') :
    rdE PK pp ρ wa (eIns C ns t) σ H fun v H1 => rdE PK pp ρ wb (eIns C ns t) σ H1 fun u H2 => rEqO C (spW PK (aC (eIns C ns t) (aC (eIns C ns t) aN)) fw eB) v u H2 Q :=
  two S hw fun x y v u H2 c2 p2 ch2 S2 r1 r2 => by
    have q1 := r1
    have q2 := r2
    obtain ⟨a, dx, fs, e1, nO, hH, _⟩ := r1
    obtain ⟨b, dy, gs, e2, nO2, hH2, _⟩ := r2
    subst e1 e2
    refine ⟨a, b, dx, dy, fs, gs, rfl, rfl, hH, hH2, pp, Av O pp ρ, (x, y, ()), Φ, c2, S2.av, fun a h => .inr (.inl h), S2.pool, ⟨_, _, rfl, q1, _, _, rfl, q2, rfl⟩, p2, fun z v H3 c3 p3 ch3 pl3 rz => ⟨⟨z, rz⟩, k z v H3 c3 p3 (ch2.trans ch3) (S2.chg ch3 pl3) rz⟩⟩
theorem xcmpO {k : Nat} {C f : Addr} {fd : FuncData} {ps : List Str} {ns : List Str} {t : FE X.K α} {wa wb : W α} {fw : α × α × Unit → W Bool} (q : EqO X.K C f) (F : FnOk X.prog X.w X.K X.mg X.base CX0 k f fd ps (spW PK (aC (eIns C ns t) (aC (eIns C ns t) aN)) fw eB)) (hr : Room k X.A) (hb : Binds X.K fd ps [])
    (ha : PX X PK pp ρ a wa (eIns C ns t)) (hb2 : PX X PK pp ρ b wb (eIns C ns t)) (hm : behindInMarks .Eq b = false := by first | exact nomark _ | rfl) : PX X PK pp ρ (.Compare a [.Eq] [b] pos) (bnd wa fun x => bnd wb fun y => fw (x, y, ())) eB :=
  (pe_cmpR (op_eqO q F hr hb) ha hb2 hm).weak fun σ H Q ⟨O, Φ, c, S, hw, kk⟩ => rd_eqO S hw fun x v H' c' p ch S' e => kk x v H' c' p ch S' e
theorem tcmpO {k : Nat} {C f : Addr} {fd : FuncData} {ps : List Str} {ns : List Str} {t : FE X.K α} {wa wb : W α} {fw : α × α × Unit → W Bool} (q : EqO X.K C f) (F : FnOk X.prog X.w X.K X.mg X.base CX0 k f fd ps (spW PK (aC (eIns C ns t) (aC (eIns C ns t) aN)) fw eB)) (hr : Room k X.A) (hb : Binds X.K fd ps [])
    (ha : PX X PK pp ρ a wa (eIns C ns t)) (hb2 : PX X PK pp ρ b wb (eIns C ns t)) (hm : behindInMarks .Eq b = false := by first | exact nomark _ | rfl) : PTX X PK pp ρ (.Compare a [.Eq] [b] pos) (bnd wa fun x => bnd wb fun y => fw (x, y, ())) :=
  (pt_cmpR (op_eqO q F hr hb) ha hb2 hm).weak fun σ H Q ⟨O, Φ, c, S, hw, kk⟩ => rd_eqO S hw fun x v H' c' p ch S' e => ⟨x, e, kk x H' c' p ch S'⟩
theorem w_neB : OpW X (compareOp .NotEq) (eB : En X.K Bool) eB eB (fun _ _ => true) (fun i j => !(i == j)) := by
  intro pins s σ H x y v u Q I rx ry ⟨A, i, j, _, r1, r2, _, k⟩
  cases r1; cases r2
  exact op_ne pins s σ H _ _ v u Q I rx ry ⟨rfl, k _ _ (.refl _) (congrArg V.bl (by cases i <;> cases j <;> decide))⟩
/-- x, y = xs, xs a list of two -/
def pairL {α : Type} (xs : List α) : W (α × α) := match xs with
  | [x, y] => ret (x, y)
  | _ => stuck
theorem npairL (i j : Nat) {x y : Str} {px py pt : Pos} {kt} {w : W (List α)} {en : En X.K α} (hc : X.calm = true) (hN : X.N.Nodup) (h : PX X PK pp ρ e w (eL en)) (hi : X.N[i]? = some x := by rfl) (hj : X.N[j]? = some y := by rfl)
    (hx : Loc X.env.scope x := by first | exact Or.inl rfl | exact Or.inr rfl) (hy : Loc X.env.scope y := by first | exact Or.inl rfl | exact Or.inr rfl)
    (hf : X.fn x = true ∨ X.env.scope.names.lookup x = some .local := by first | exact .inl rfl | exact .inr rfl) (hf2 : X.fn y = true ∨ X.env.scope.names.lookup y = some .local := by first | exact .inl rfl | exact .inr rfl)
    (hs1 : (assignEach [Expr.Name x px, Expr.Name y py] X.env).map (·.2) = assign (.Name x px) X.env :: (assignEach [Expr.Name y py] X.env).map (·.2) := by rfl) (hs2 : (assignEach [Expr.Name y py] X.env).map (·.2) = assign (.Name y py) X.env :: (assignEach [] X.env).map (·.2) := by rfl)
    (hn : (assignEach [Expr.Name x px, Expr.Name y py] X.env).length = 2 := by rfl) (hst : (assignEach [Expr.Name x px, Expr.Name y py] X.env).findIdx? (·.1) = none := by rfl)
    (hsw : swapsWithSole [.Tuple [.Name x px, .Name y py] kt pt] e pos.line X.env = pure false := by rfl) (hww : swappedStores [.Tuple [.Name x px, .Name y py] kt pt] e X.env = pure none := by rfl) (h1 : (assignEach [.Tuple [.Name x px, .Name y py] kt pt] X.env).map (·.2) = [assign (.Tuple [.Name x px, .Name y py] kt pt) X.env] := by rfl) :
    PS X (.Assign [.Tuple [.Name x px, .Name y py] kt pt] e pos) (rdN PK pp ρ (bnd w pairL) fun (_ : Unit) z => put (put ρ i (.sh en z.1)) j (.sh en z.2)) :=
  (ps_asg h (pg_lst hc (pgs_cons (pg_name hN hi hx hf) (pgs_cons (pg_name hN hj hy hf2) pgs_nil hs2) hs1) hn hst) hsw hww h1).weak fun D σ H ⟨O, Φ, c, S, hw, k⟩ => ⟨O, _, c, S, hw, fun z v H1 c1 p1 ch S1 r => by
    obtain ⟨a, vs, rfl, l, f⟩ := r
    match z, p1, vs, f, l with
    | [z1, z2], p1, [v1, v2], .cons q1 (.cons q2 .nil), l =>
      have less : ∀ a, Av O pp (put ρ i (.sh en z1)) a → Av O pp ρ a := fun a z => by
        rcases z with z | z | z
        · exact .inl z
        · exact .inr (.inl z)
        · exact .inr (.inr (own_put_sh z))
      exact ⟨a, [v1, v2], rfl, l.sq, rfl, v1, [v2], rfl, v2, [], rfl, rfl, k () (z1, z2) H1 c1 p1 _ (.of_chg ch fun a z => own_put_sh (own_put_sh z)) ((S1.put q1).put (en.mono (Mv.less less) q2))⟩⟩
end
end Dc
/-! DcU: a list of four unlike things. -/
namespace Dc
open PySem PySem.Spec L2 PyProof.Rows
section
variable {K : PySem.W.Frag} {α β γ δ : Type}
def eQ (e1 : En K α) (e2 : En K β) (e3 : En K γ) (e4 : En K δ) : En K (α × β × γ × δ) := ⟨fun O H v x => ∃ a u1 u2 u3 u4, v = .ref a ∧ LstAt O H a [u1, u2, u3, u4] ∧ e1.r O H u1 x.1 ∧ e2.r O H u2 x.2.1 ∧ e3.r O H u3 x.2.2.1 ∧ e4.r O H u4 x.2.2.2,
  fun m ⟨a, u1, u2, u3, u4, e, l, p1, p2, p3, p4⟩ => ⟨a, u1, u2, u3, u4, e, l.mv m, e1.mono m p1, e2.mono m p2, e3.mono m p3, e4.mono m p4⟩⟩
end
section
variable {X : Cx} {PK : PoolK} {pp : PP} {ρ : List (Sl X.K)} {α β γ δ : Type} {e a b : Expr} {es : List Expr} {pos : Pos} {e1 : En X.K α} {e2 : En X.K β} {e3 : En X.K γ} {e4 : En X.K δ}
theorem xlst4 {w : W (α × β × γ × δ × Unit)} (h : PAX X PK pp ρ es w (aC e1 (aC e2 (aC e3 (aC e4 aN))))) : PX X PK pp ρ (.List es pos) (bnd w fun x => ret (x.1, x.2.1, x.2.2.1, x.2.2.2.1)) (eQ e1 e2 e3 e4) := (pe_lst h).weak fun σ H Q ⟨O, Φ, c, S, hw, k⟩ =>
  ⟨O, _, c, S, hw, fun x vs H1 c1 p1 ch1 S1 r1 => by
    obtain ⟨u1, _, rfl, q1, u2, _, rfl, q2, u3, _, rfl, q3, u4, _, rfl, q4, rfl⟩ := r1
    refine ⟨by show 4 ≤ sizeLine; decide, fun p np => ?_⟩
    have s := same_new (o := .lst [u1, u2, u3, u4]) np
    exact k _ _ _ c1 p1 (ch1.trans (.of s)) (S1.same s) ⟨p, u1, u2, u3, u4, rfl, ⟨new_at S1.av np, upd_same⟩, e1.mono (Mv.same s) q1, e2.mono (Mv.same s) q2, e3.mono (Mv.same s) q3, e4.mono (Mv.same s) q4⟩⟩
theorem xq0 {w : W (α × β × γ × δ)} {j p'} (h : PX X PK pp ρ a w (eQ e1 e2 e3 e4)) : PX X PK pp ρ (.Subscript a (.Constant (.int 0) j p') pos) (bnd w fun x => ret x.1) e1 :=
  (pe_ix ix_list h pe_int (fun _ _ => rfl)).weak fun σ H Q ⟨O, Φ, c, S, hw, k⟩ => ⟨O, _, c, S, hw, fun x v H' c' p ch S' r => by
    obtain ⟨a, u1, u2, u3, u4, rfl, l, q1, q2, q3, q4⟩ := r
    exact ⟨a, [u1, u2, u3, u4], 0, u1, rfl, rfl, l.sq, rfl, k _ _ H' c' p ch S' q1⟩⟩
theorem xq1 {w : W (α × β × γ × δ)} {j p'} (h : PX X PK pp ρ a w (eQ e1 e2 e3 e4)) : PX X PK pp ρ (.Subscript a (.Constant (.int 1) j p') pos) (bnd w fun x => ret x.2.1) e2 :=
  (pe_ix ix_list h pe_int (fun _ _ => rfl)).weak fun σ H Q ⟨O, Φ, c, S, hw, k⟩ => ⟨O, _, c, S, hw, fun x v H' c' p ch S' r => by
    obtain ⟨a, u1, u2, u3, u4, rfl, l, q1, q2, q3, q4⟩ := r
    exact ⟨a, [u1, u2, u3, u4], 1, u2, rfl, rfl, l.sq, rfl, k _ _ H' c' p ch S' q2⟩⟩
theorem xq2 {w : W (α × β × γ × δ)} {j p'} (h : PX X PK pp ρ a w (eQ e1 e2 e3 e4)) : PX X PK pp ρ (.Subscript a (.Constant (.int 2) j p') pos) (bnd w fun x => ret x.2.2.1) e3 :=
  (pe_ix ix_list h pe_int (fun _ _ => rfl)).weak fun σ H Q ⟨O, Φ, c, S, hw, k⟩ => ⟨O, _, c, S, hw, fun x v H' c' p ch S' r => by
    obtain ⟨a, u1, u2, u3, u4, rfl, l, q1, q2, q3, q4⟩ := r
    exact ⟨a, [u1, u2, u3, u4], 2, u3, rfl, rfl, l.sq, rfl, k _ _ H' c' p ch S' q3⟩⟩
theorem xq3 {w : W (α × β × γ × δ)} {j p'} (h : PX X PK pp ρ a w (eQ e1 e2 e3 e4)) : PX X PK pp ρ (.Subscript a (.Constant (.int 3) j p') pos) (bnd w fun x => ret x.2.2.2) e4 :=
  (pe_ix ix_list h pe_int (fun _ _ => rfl)).weak fun σ H Q ⟨O, Φ, c, S, hw, k⟩ => ⟨O, _, c, S, hw, fun x v H' c' p ch S' r => by
    obtain ⟨a, u1, u2, u3, u4, rfl, l, q1, q2, q3, q4⟩ := r
    exact ⟨a, [u1, u2, u3, u4], 3, u4, rfl, rfl, l.sq, rfl, k _ _ H' c' p ch S' q4⟩⟩
/-- the first two, alike -/
theorem xqS {f3 : En X.K γ} {f4 : En X.K δ} {w : W (α × α × γ × δ)} {j p' p2} (h : PX X PK pp ρ a w (eQ e1 e1 f3 f4)) : PX X PK pp ρ (.Subscript a (.Slice none (some (.Constant (.int 2) j p')) none p2) pos) (bnd w fun x => ret [x.1, x.2.1]) (eL e1) :=
  (pe_slice sl_list h po_none (po_some pe_int)).weak fun σ H Q ⟨O, Φ, c, S, hw, k⟩ => ⟨O, _, c, S, hw, fun x v H1 c1 p1 ch1 S1 r1 => by
    obtain ⟨a, u1, u2, u3, u4, rfl, l, q1, q2, q3, q4⟩ := r1
    refine ⟨2, rfl, a, [u1, u2, u3, u4], rfl, l.sq, fun p np => ?_⟩
    have s := same_new (o := .lst (cutV [u1, u2, u3, u4] none (some 2))) np
    exact k _ _ _ c1 p1 (ch1.trans (.of s)) (S1.same s) ⟨p, [u1, u2], rfl, ⟨new_at S1.av np, upd_same⟩, .cons (e1.mono (Mv.same s) q1) (.cons (e1.mono (Mv.same s) q2) .nil)⟩⟩
end
end Dc
/-! DcV: != of instances by an own __eq__; zip kept in a name. -/
namespace Dc
open PySem PySem.Spec L2 PyProof.Rows
/-! ### != -/
section
variable {X : Cx} {PK : PoolK} {pp : PP} {ρ : List (Sl X.K)} {α β γ δ : Type} {e a b : Expr} {es : List Expr} {pos : Pos}
/-- a class without an own __ne__ -/
structure NeO (K : PySem.W.Frag) (C : Addr) : Prop where
  at_ : PySem.W.findIn K (.ref C) "__ne__" = some (some (.builtin "object.__ne__"))
  ob : PySem.W.mroIn K C (.type "object") = some true
theorem eq_in {k : Nat} {C f : Addr} {fd : FuncData} {ps : List Str} {sp : Sp} {A : Around} {pins : List (Addr × Obj)} {s : Shared} {σ : L2.St} {H : Hp} {Q : VK} {a b dx : Addr} {fs : List (Str × V)} (q : EqO X.K C f) (F : FnOk X.prog X.w X.K X.mg X.base CX0 k f fd ps sp) (sb : Sub X k A) (hb : Binds X.K fd ps [])
    (I : Inv X pins σ H s) (ha : H a = some (.ins C dx fs)) (hsp : sp [.ref a, .ref b] H (fun v H' => (∃ t, v = .bl t) ∧ Q v H') E0) : wpAny (model X.prog X.w) A (callSpecialIfBound? (.ref a) "__eq__" [.ref b]) (fun r s' => ∃ t H', r = some (.bool t) ∧ Inv X pins σ H' s' ∧ Q (.bl t) H') X.xe s := by
  obtain ⟨mA, J, _⟩ := ins_get I.hok ha
  obtain ⟨od, J, _⟩ := J.look
  have hl := F.len _ _ _ _ hsp
  have r2 : Vals [V.ref a, V.ref b] [Value.ref a, Value.ref b] := .cons rfl (.cons rfl .nil)
  have e0 : Env0 X.prog X.w X.K X.mg X.base A X.stack s H := by
    have e := I.env0
    exact ⟨by rw [sb.fr]; exact e.frames, e.mod, e.bs, e.bsz, e.funs, e.frf, e.hok, e.bare⟩
  refine PySem.W.ifBound_K I.kIn J q.at_ q.fn (wpAny_call (codeAny_mono (F.run A X.stack s H ⟨[.ref a, .ref b], []⟩ [.ref a, .ref b] [.ref a, .ref b] _ E0 sb.room e0 (by
    have := hb s [.ref a, .ref b] I.kIn (by simpa using hl)
    simpa using this) r2 hsp) fun r s' hq => ?_))
  cases r with
  | error e => exact pass0 pins σ H s e s' I hq
  | ok fl =>
    cases fl with
    | ret w =>
      obtain ⟨z, H', I', rz, ⟨t, ez⟩, ex⟩ := I.after hq
      subst ez
      cases rz
      exact ⟨t, H', rfl, I', ex⟩
    | next => exact False.elim hq
    | brk => exact False.elim hq
    | cont => exact False.elim hq
theorem ifBound_ne {M : Model} {A : Around} {E : Value → Shared → Prop} {s : Shared} {K : PySem.W.Frag} {x C : Addr} {ox : Obj} {od : Option Obj} {args : List Value} {Q : Option Value → Shared → Prop} (XK : K.In s.heap) (I : PySem.W.InstAt s.heap x ox C od) (hs : PySem.W.findIn K (.ref C) "__ne__" = some (some (.builtin "object.__ne__")))
    (h : wpAny M A (call (.builtin "object.__ne__") (.ref x :: args)) (fun v => Q (some v)) E s) : wpAny M A (callSpecialIfBound? (.ref x) "__ne__" args) Q E s := by
  simp only [callSpecialIfBound?, bindSpecialIfBound?]
  refine wpAny_holding (wpAny_bind (wpAny_bind (wpAny_bind (I.type.here ((PySem.W.looks_findIn XK hs).here ?_)))))
  refine wpAny_bind (wpAny_askSetting (wpAny_ite ?_))
  have go : wpAny M A (call (.builtin "object.__ne__") ([.ref x] ++ args) >>= fun v => pure (some v)) Q E s := wpAny_bind (wpAny_mono h (fun v t q => wpAny_pure q) fun _ _ z => z)
  split
  · exact wpAny_bind (wpAny_of_eq (F.cmp_object.ne.bind _) (wpAny_pure (by exact go)))
  · exact wpAny_tryCatch (wpAny_bind (wpAny_of_eq (F.cmp_object.ne.bind _) (wpAny_pure (by exact go))))
def rNeO (C : Addr) (sp : Sp) : R2 := fun x y H Q => ∃ a b dx dy fs gs, x = .ref a ∧ y = .ref b ∧ H a = some (.ins C dx fs) ∧ H b = some (.ins C dy gs) ∧ sp [.ref a, .ref b] H (fun v H' => (∃ t, v = .bl t) ∧ ∀ t, v = .bl t → Q (.bl (!t)) H') E0
theorem ne_one {k : Nat} {C f : Addr} {fd : FuncData} {ps : List Str} {sp : Sp} {pins : List (Addr × Obj)} {s : Shared} {σ : L2.St} {H : Hp} {Q : VK} {a b dx : Addr} {fs : List (Str × V)} (q : EqO X.K C f) (nq : NeO X.K C) (G : FnOk X.prog X.w X.K X.mg X.base CX0 k f fd ps sp) (hr : Room (k + 1) X.A) (hb : Binds X.K fd ps [])
    (I : Inv X pins σ H s) (ha : H a = some (.ins C dx fs)) (hsp : sp [.ref a, .ref b] H (fun v H' => (∃ t, v = .bl t) ∧ ∀ t, v = .bl t → Q (.bl (!t)) H') E0) : wpAny (model X.prog X.w) X.A (tryCompare (.ref a) "__ne__" (.ref b)) (fun r s' => ∃ t H', r = some (.bool t) ∧ Inv X pins σ H' s' ∧ Q (.bl t) H') X.xe s := by
  obtain ⟨mA, J, _⟩ := ins_get I.hok ha
  obtain ⟨od, J, _⟩ := J.look
  have sb : Sub X (k + 1) X.A := ⟨hr, rfl⟩
  unfold tryCompare
  refine wpAny_bind (ifBound_ne I.kIn J nq.at_ (wpAny_call (codeAny_call_builtin F.cmp_object.ne.plain F.cmpEntry_ne (PySem.W.check_slot F.cmpKind_ne F.cmpSplit_ne (J.type.andThen (PySem.W.looks_mroIn I.kIn nq.ob)) (F.cmpArgs_ne _ _) ?_))))
  unfold Builtin.«object.__ne__»
  refine wpAny_bind (m := slotArgs "__ne__" 1 _) (wpAny_of_eq (a := (Value.ref a, [Value.ref b])) (by first | rfl | (simp only [slotArgs]; rfl)) ?_)
  dsimp only
  refine wpAny_bind (wpAny_cRoomFor sb.in1.room.units0 ?_)
  refine wpAny_bind (wpAny_mono (eq_in q G sb.in1 hb I ha (Q := fun v H' => ∀ t, v = .bl t → Q (.bl (!t)) H') hsp) (fun r s' z => ?_) fun _ _ z => z)
  obtain ⟨t, H', rfl, I', ex⟩ := z
  dsimp only
  refine wpAny_bind (wpAny_truthy_bool ?_)
  exact wpAny_pure (wpAny_pure ⟨!t, H', rfl, I', ex t rfl⟩)
theorem op_neO {k : Nat} {C f : Addr} {fd : FuncData} {ps : List Str} {sp : Sp} (q : EqO X.K C f) (nq : NeO X.K C) (G : FnOk X.prog X.w X.K X.mg X.base CX0 k f fd ps sp) (hr : Room (k + 1) X.A) (hb : Binds X.K fd ps []) : OpR X (compareOp .NotEq) (rNeO C sp) := by
  intro pins s σ H x y v u Q I rx ry h
  obtain ⟨a, b, dx, dy, fs, gs, rfl, rfl, ha, hb', hsp⟩ := h
  cases rx
  cases ry
  show wpAny (model X.prog X.w) X.A (richCompare .NotEq (.ref a) (.ref b)) (EP X pins σ Q) X.xe s
  have one := ne_one q nq G hr hb I ha hsp
  obtain ⟨mA, J, _⟩ := ins_get I.hok ha
  obtain ⟨mB, J', _⟩ := ins_get I.hok hb'
  obtain ⟨od, J, _⟩ := J.look
  obtain ⟨od', J', _⟩ := J'.look
  unfold richCompare
  simp only [oneThing_ref]
  refine wpAny_holding (wpAny_bind (wpAny_cRoomFor hr.units0 ?_))
  refine wpAny_bind (J.type.here (wpAny_bind (J'.type.here ?_)))
  split
  · rename_i z
    simp at z
  · refine wpAny_bind (wpAny_pure ?_)
    simp only [Bool.false_eq_true, if_false]
    refine wpAny_bind (wpAny_mono one (fun r s' z => ?_) fun _ _ z => z)
    obtain ⟨t, H', rfl, I', ex⟩ := z
    exact wpAny_pure ⟨.bl t, H', I', rfl, ex⟩
theorem rd_neO {C : Addr} {ns : List Str} {t : FE X.K α} {wa wb : W α} {fw : α × α × Unit → W Bool} {σ : L2.St} {H : Hp} {Q : V → Hp → Prop} {O : AS} {c : Nat} {Φ : Bool → WB} (S : Sat PK O pp ρ c σ H) (hw : (bnd wa fun x => bnd wb fun y => bnd (fw (x, y, ())) fun z => ret (!z)) Φ noX c) (k : ∀ x v H' c', Φ x c' → Chg pp H H' → Sat PK O pp ρ c' σ H' → v = .bl x → Q v H') :
    rdE PK pp ρ wa (eIns C ns t) σ H fun v H1 => rdE PK pp ρ wb (eIns C ns t) σ H1 fun u H2 => rNeO C (spW PK (aC (eIns C ns t) (aC (eIns C ns t) aN)) fw eB) v u H2 Q :=
  two S hw fun x y v u H2 c2 p2 ch2 S2 r1 r2 => by
    have q1 := r1
    have q2 := r2
    obtain ⟨a, dx, fs, e1, nO, hH, _⟩ := r1
    obtain ⟨b, dy, gs, e2, nO2, hH2, _⟩ := r2
    subst e1 e2
    refine ⟨a, b, dx, dy, fs, gs, rfl, rfl, hH, hH2, pp, Av O pp ρ, (x, y, ()), _, c2, S2.av, fun a h => .inr (.inl h), S2.pool, ⟨_, _, rfl, q1, _, _, rfl, q2, rfl⟩, p2, fun z v H3 c3 p3 ch3 pl3 rz => ⟨⟨z, rz⟩, fun t et => ?_⟩⟩
    have e3 : z = t := V.bl.inj ((show v = V.bl z from rz).symm.trans et)
    subst e3
    exact k (!z) _ H3 c3 p3 (ch2.trans ch3) (S2.chg ch3 pl3) rfl
theorem xneO {k : Nat} {C f : Addr} {fd : FuncData} {ps : List Str} {ns : List Str} {t : FE X.K α} {wa wb : W α} {fw : α × α × Unit → W Bool} (q : EqO X.K C f) (nq : NeO X.K C) (G : FnOk X.prog X.w X.K X.mg X.base CX0 k f fd ps (spW PK (aC (eIns C ns t) (aC (eIns C ns t) aN)) fw eB)) (hr : Room (k + 1) X.A) (hb : Binds X.K fd ps [])
    (ha : PX X PK pp ρ a wa (eIns C ns t)) (hb2 : PX X PK pp ρ b wb (eIns C ns t)) (hm : behindInMarks .NotEq b = false := by first | exact nomark _ | rfl) : PX X PK pp ρ (.Compare a [.NotEq] [b] pos) (bnd wa fun x => bnd wb fun y => bnd (fw (x, y, ())) fun z => ret (!z)) eB :=
  (pe_cmpR (op_neO q nq G hr hb) ha hb2 hm).weak fun σ H Q ⟨O, Φ, c, S, hw, kk⟩ => rd_neO S hw fun x v H' c' p ch S' e => kk x v H' c' p ch S' e
/-! ### list(range(n)) -/
theorem rgV_F2 {K : PySem.W.Frag} {O : AS} {H : Hp} (n : Nat) : F2 ((eI : En K Int).r O H) (rgV 0 (n : Int)) (rangeF 0 n) := by
  have e : rgV 0 (n : Int) = (rangeF 0 n).map V.int := by
    unfold rgV
    have : ∀ m lo : Nat, ((List.range' lo m).map fun i => V.int (0 + (i : Nat))) = (rangeF (lo : Int) m).map V.int := fun m => by
      induction m with
      | zero => intro lo; rfl
      | succ m ih =>
        intro lo
        rw [List.range'_succ, List.map_cons, ih (lo + 1)]
        show _ = V.int (lo : Int) :: (rangeF ((lo : Int) + 1) m).map V.int
        rw [Int.zero_add]
        rfl
    rw [show ((n : Int) - 0).toNat = n by omega, List.range_eq_range']
    exact this n 0
  rw [e]
  generalize rangeF 0 n = l
  induction l with
  | nil => exact .nil
  | cons x r ih => exact .cons rfl ih
theorem xlistRg {p p2 pos2 : Pos} {w : W Int} (hc : X.calm = true) (hm : X.mg "list" = none) (hm2 : X.mg "range" = none) (h : PX X PK pp ρ a w eI) (hg : Gl X "list" := by rfl) (hg2 : Gl X "range" := by rfl) (na : starEach [a] X.env = (false, eval a X.env) :: starEach [] X.env := by rfl)
    (he : starEach [Expr.Call (.Name "range" p2) [a] [] pos2] X.env = (false, eval (.Call (.Name "range" p2) [a] [] pos2) X.env) :: starEach [] X.env := by rfl) :
    PX X PK pp ρ (.Call (.Name "list" p) [.Call (.Name "range" p2) [a] [] pos2] [] pos) (bnd w fun x => grd (rngOk 0 x) (ret (rangeF 0 x.toNat))) (eL eI) :=
  (pe_listRg hc hg hm (prg_1 hg2 hm2 h na)).weak fun σ H Q ⟨O, Φ, c, S, hw, k⟩ => ⟨O, _, c, S, hw, fun x v H1 c1 p1 ch S1 r1 => by
    obtain ⟨q0, q2⟩ := p1
    simp only [rngOk, Bool.and_eq_true, decide_eq_true_eq] at q0
    refine ⟨x, r1, ⟨by omega, by omega, by omega, by omega, by omega⟩, fun q nq => ?_⟩
    have s := same_new (o := .lst (rgV 0 x)) nq
    refine k _ _ _ c1 q2 (ch.trans (.of s)) (S1.same s) ⟨q, _, rfl, ⟨new_at S1.av nq, upd_same⟩, ?_⟩
    by_cases h0 : 0 ≤ x
    · obtain ⟨n, rfl⟩ : ∃ n : Nat, x = (n : Int) := ⟨x.toNat, by omega⟩
      exact rgV_F2 n
    · have e1 : rgV 0 x = [] := by
        unfold rgV
        rw [show (x - 0).toNat = 0 by omega]
        rfl
      have e2 : x.toNat = 0 := by omega
      rw [e1, e2]
      exact .nil⟩
end
end Dc
/-! DcW: zip of two lists kept in a name, walked once behind it. -/
namespace Dc
open PySem PySem.Spec L2 PyProof.Rows
/-! ### the five things of a zip object, tracked -/
def zO (n : Nat) : HO := .ext fun h => IsZip h (n + 4) (n + 2) (n + 3) .none
def pO (p : Nat) (x y : Value) : HO := .ext fun h => IsPair h p x y
def iO (i l : Nat) : HO := .ext fun h => h.IsListIter i l 0
def up1 (H : Hp) (n a : Nat) : Hp := upd H n (iO n a)
def up2 (H : Hp) (n a b : Nat) : Hp := upd (up1 H n a) (n + 1) (iO (n + 1) b)
def up3 (H : Hp) (n a b : Nat) : Hp := upd (up2 H n a b) (n + 2) (pO (n + 2) (.ref n) (.ref (n + 1)))
def up4 (H : Hp) (n a b : Nat) : Hp := upd (up3 H n a b) (n + 3) (pO (n + 3) .none .none)
def up5 (H : Hp) (n a b : Nat) : Hp := upd (up4 H n a b) (n + 4) (zO n)
structure No5 (H : Hp) (n : Nat) : Prop where
  n0 : H n = none
  n1 : H (n + 1) = none
  n2 : H (n + 2) = none
  n3 : H (n + 3) = none
  n4 : H (n + 4) = none
section
variable {H : Hp} {n a b c : Nat}
theorem up5_lt (h : c < n) : up5 H n a b c = H c := by
  unfold up5 up4 up3 up2 up1
  rw [upd_ne (show c ≠ n + 4 by omega), upd_ne (show c ≠ n + 3 by omega), upd_ne (show c ≠ n + 2 by omega), upd_ne (show c ≠ n + 1 by omega), upd_ne (show c ≠ n by omega)]
theorem up5_other (n5 : No5 H n) {o : HO} (h : H c = some o) : up5 H n a b c = some o := by
  have h0 : c ≠ n := ne_of_none h n5.n0
  have h1 : c ≠ n + 1 := ne_of_none h n5.n1
  have h2 : c ≠ n + 2 := ne_of_none h n5.n2
  have h3 : c ≠ n + 3 := ne_of_none h n5.n3
  have h4 : c ≠ n + 4 := ne_of_none h n5.n4
  unfold up5 up4 up3 up2 up1
  rw [upd_ne h4, upd_ne h3, upd_ne h2, upd_ne h1, upd_ne h0]
  exact h
theorem up5_cases {o : HO} (h : up5 H n a b c = some o) : (c = n + 4 ∧ o = zO n) ∨ (c = n + 3 ∧ o = pO (n + 3) .none .none) ∨ (c = n + 2 ∧ o = pO (n + 2) (.ref n) (.ref (n + 1))) ∨ (c = n + 1 ∧ o = iO (n + 1) b) ∨ (c = n ∧ o = iO n a) ∨ H c = some o := by
  by_cases h4 : c = n + 4
  · subst h4; unfold up5 at h; rw [upd_same] at h; exact .inl ⟨rfl, (Option.some.inj h).symm⟩
  by_cases h3 : c = n + 3
  · subst h3; unfold up5 up4 at h; rw [upd_ne h4, upd_same] at h; exact .inr (.inl ⟨rfl, (Option.some.inj h).symm⟩)
  by_cases h2 : c = n + 2
  · subst h2; unfold up5 up4 up3 at h; rw [upd_ne h4, upd_ne h3, upd_same] at h; exact .inr (.inr (.inl ⟨rfl, (Option.some.inj h).symm⟩))
  by_cases h1 : c = n + 1
  · subst h1; unfold up5 up4 up3 up2 at h; rw [upd_ne h4, upd_ne h3, upd_ne h2, upd_same] at h; exact .inr (.inr (.inr (.inl ⟨rfl, (Option.some.inj h).symm⟩)))
  by_cases h0 : c = n
  · subst h0; unfold up5 up4 up3 up2 up1 at h; rw [upd_ne h4, upd_ne h3, upd_ne h2, upd_ne h1, upd_same] at h; exact .inr (.inr (.inr (.inr (.inl ⟨rfl, (Option.some.inj h).symm⟩))))
  · unfold up5 up4 up3 up2 up1 at h; rw [upd_ne h4, upd_ne h3, upd_ne h2, upd_ne h1, upd_ne h0] at h; exact .inr (.inr (.inr (.inr (.inr h))))
end
section
variable {X : Cx} {pins : List (Addr × Obj)} {σ : L2.St} {H : Hp} {s : Shared} {n a b : Nat}
theorem inv_zip {h' : Heap} {t' : Nat} (I : Inv X pins σ H s) (en : s.heap.objs.size = n) (hz : IsZip h' (n + 4) (n + 2) (n + 3) .none) (hTI : IsPair h' (n + 2) (.ref n) (.ref (n + 1))) (hTO : IsPair h' (n + 3) .none .none)
    (h1 : h'.IsListIter n a 0) (h2 : h'.IsListIter (n + 1) b 0) (hk : ∀ c o, s.heap.get? c = some o → h'.get? c = some o) : No5 H n ∧ Inv X pins σ (up5 H n a b) { s with heap := h', toks := t' } := by
  have fr : ∀ k, H (n + k) = none := fun k => I.hok.fresh (by omega)
  have n5 : No5 H n := ⟨fr 0, fr 1, fr 2, fr 3, fr 4⟩
  refine ⟨n5, I.un ⟨fun c o e _ _ _ => hk c o e, fun c o e _ _ _ => ⟨o.slots, hk c o e⟩, fun c o e z _ => by rw [up5_lt (by rw [← en]; exact Heap.lt_size e)]; exact z, fun c o e _ => ⟨o, hk c o e⟩, fun c xs z => up5_other n5 z, fun c o x z => up5_other n5 z, fun c ps z => ⟨#[], by rw [up5_other n5 z]; simp⟩⟩ fun c u e => ?_⟩
  rcases up5_cases e with ⟨rfl, rfl⟩ | ⟨rfl, rfl⟩ | ⟨rfl, rfl⟩ | ⟨rfl, rfl⟩ | ⟨rfl, rfl⟩ | e
  · exact ⟨hz, ⟨_, hz⟩, fun h1 h2 q k => k _ q⟩
  · exact ⟨hTO, ⟨_, hTO⟩, fun h1 h2 q k => k _ q⟩
  · exact ⟨hTI, ⟨_, hTI⟩, fun h1 h2 q k => k _ q⟩
  · obtain ⟨o, eo, q⟩ := id h2
    exact ⟨h2, ⟨o, eo⟩, fun h1 h2 ⟨o, eo, q⟩ k => ⟨o, k _ eo, q⟩⟩
  · obtain ⟨o, eo, q⟩ := id h1
    exact ⟨h1, ⟨o, eo⟩, fun h1 h2 ⟨o, eo, q⟩ k => ⟨o, k _ eo, q⟩⟩
  · exact (I.hok c u e).stay (fun b o _ z => hk b o z) (fun d z => up5_other n5 z) fun d xs z => up5_other n5 z
theorem inv_off {G : Hp} {c : Addr} {φ : Heap → Prop} (I : Inv X pins σ (upd G c (.ext φ)) s) (hG : G c = none) : Inv X pins σ G s := by
  have J := ItX.inv_drop I upd_same
  rw [ItX.dropH_upd hG] at J
  exact J
theorem fp_off {G H0 : Hp} {c : Addr} {u : HO} (I : Inv X pins σ (upd G c u) s) (hn : X.s_0.heap.objs.size ≤ c) (h0 : H0 c = none) : FpOk X pins H0 c :=
  ⟨h0, (ItX.inv_fp I upd_same hn).2⟩
theorem up4_none (n5 : No5 H n) : up4 H n a b (n + 4) = none := by
  unfold up4 up3 up2 up1
  rw [upd_ne (show n + 4 ≠ n + 3 by omega), upd_ne (show n + 4 ≠ n + 2 by omega), upd_ne (show n + 4 ≠ n + 1 by omega), upd_ne (show n + 4 ≠ n by omega)]
  exact n5.n4
theorem up3_none (n5 : No5 H n) : up3 H n a b (n + 3) = none := by
  unfold up3 up2 up1
  rw [upd_ne (show n + 3 ≠ n + 2 by omega), upd_ne (show n + 3 ≠ n + 1 by omega), upd_ne (show n + 3 ≠ n by omega)]
  exact n5.n3
theorem up2_none (n5 : No5 H n) : up2 H n a b (n + 2) = none := by
  unfold up2 up1
  rw [upd_ne (show n + 2 ≠ n + 1 by omega), upd_ne (show n + 2 ≠ n by omega)]
  exact n5.n2
theorem up1_none (n5 : No5 H n) : up1 H n a (n + 1) = none := by
  unfold up1
  rw [upd_ne (show n + 1 ≠ n by omega)]
  exact n5.n1
theorem inv_unzip (n5 : No5 H n) (I : Inv X pins σ (up5 H n a b) s) (hn : X.s_0.heap.objs.size ≤ n) : Inv X pins σ H s ∧ (IsZip s.heap (n + 4) (n + 2) (n + 3) .none ∧ IsPair s.heap (n + 2) (.ref n) (.ref (n + 1)) ∧ (∃ x y, IsPair s.heap (n + 3) x y) ∧ s.heap.IsListIter n a 0 ∧ s.heap.IsListIter (n + 1) b 0) ∧
    ∀ c ∈ [n + 4, n + 2, n + 3, n, n + 1], FpOk X pins H c := by
  have e5 := (I.hok (n + 4) (zO n) upd_same).1
  have f5 := fp_off I (Nat.le_trans hn (Nat.le_add_right _ _)) n5.n4
  have I4 : Inv X pins σ (up4 H n a b) s := inv_off I (up4_none n5)
  have e4 := (I4.hok (n + 3) (pO (n + 3) .none .none) upd_same).1
  have f4 := fp_off I4 (Nat.le_trans hn (Nat.le_add_right _ _)) n5.n3
  have I3 : Inv X pins σ (up3 H n a b) s := inv_off I4 (up3_none n5)
  have e3 := (I3.hok (n + 2) (pO (n + 2) (.ref n) (.ref (n + 1))) upd_same).1
  have f3 := fp_off I3 (Nat.le_trans hn (Nat.le_add_right _ _)) n5.n2
  have I2 : Inv X pins σ (up2 H n a b) s := inv_off I3 (up2_none n5)
  have e2 := (I2.hok (n + 1) (iO (n + 1) b) upd_same).1
  have f2 := fp_off I2 (Nat.le_trans hn (Nat.le_add_right _ _)) n5.n1
  have I1 : Inv X pins σ (up1 H n a) s := inv_off I2 (up1_none n5)
  have e1 := (I1.hok n (iO n a) upd_same).1
  have f1 := fp_off I1 hn n5.n0
  refine ⟨inv_off I1 n5.n0, ⟨e5, e3, ⟨_, _, e4⟩, e1, e2⟩, fun c hc => ?_⟩
  have e' : c = n + 4 ∨ c = n + 2 ∨ c = n + 3 ∨ c = n ∨ c = n + 1 := by simpa using hc
  rcases e' with rfl | rfl | rfl | rfl | rfl
  · exact f5
  · exact f3
  · exact f4
  · exact f1
  · exact f2
end
/-! ### zip(a, b) as a value -/
section
variable {X : Cx} {e e2 : Expr} {ta : TA} {p pos tpos : Pos} {elts : List Expr} {kk : Nat}
theorem pe_zipv (hg : Gl X "zip") (hm : X.mg "zip" = none) (ha : PA X [e, e2] ta)
    (hs : starEach [e, e2] X.env = (false, eval e X.env) :: starEach [e2] X.env := by rfl) (hpl : (backTo pos (starEach [e2] X.env)).any (·.1) = false := by rfl) :
    PE X (.Call (.Name "zip" p) [e, e2] [] pos) (fun σ H Q => ta σ H fun vs H1 => ∃ a b xs ys, vs = [.ref a, .ref b] ∧ SqL X.K H1 a xs ∧ SqL X.K H1 b ys ∧ ∀ n, No5 H1 n → X.s_0.heap.objs.size ≤ n → a < n → b < n → Q (.ref (n + 4)) (up5 H1 n a b)) := by
  refine ⟨fun pins s σ H Q I h => ?_⟩
  refine Call_ (ld_blt I hg hm PyProof.Rows.boot_zip (PyProof.Rows.callWith_type1 (thn (ha.run pos pins s σ H _ I h) fun us s1 ⟨vs, H1, I1, r1, q1⟩ => ?_) hs hpl))
  obtain ⟨a, b, xs, ys, ex, hqx, hqy, q⟩ := q1
  subst ex
  cases r1 with
  | cons r rr =>
    cases rr with
    | cons r' rr =>
      cases rr
      cases r
      cases r'
      obtain ⟨its, rv, p1, _⟩ := I1.list hqx
      obtain ⟨its2, rv2, p2, _⟩ := I1.list hqy
      have la : a < s1.heap.objs.size := p1.lt
      have lb : b < s1.heap.objs.size := p2.lt
      refine call_zip_2 p1.isList p2.isList fun h' hz hTI hTO h1 h2 hsz hk => ?_
      obtain ⟨n5, I2⟩ := inv_zip (a := a) (b := b) (t' := s1.toks) I1 rfl hz hTI hTO h1 h2 hk
      exact ⟨.ref (s1.heap.objs.size + 4), _, I2, rfl, q _ n5 I1.sz la lb⟩
/-- walked by its name, once; behind the walk it is forgotten -/
def iZv (K : PySem.W.Frag) (m i : Nat) : TI := fun σ H R => ∃ n a b H0, H = up5 H0 n a b ∧ No5 H0 n ∧ m ≤ n ∧ a < n ∧ b < n ∧ σ[i]? = some (some (.ref (n + 4))) ∧ R (Itz K a b) H0
theorem pi_zv {i : Nat} {x : Str} (hN : X.N[i]? = some x) (hv : Vis X.env.scope x) (hd : (x == ("__debug__" : Str)) = false := by decide) (hcd : (x == ("__classdict__" : Str)) = false := by decide) : PI X (.Tuple elts kk tpos) (.Name x p) (iZv X.K X.s_0.heap.objs.size i) := by
  refine ⟨fun pins s σ H R I h => ?_⟩
  obtain ⟨n, a, b, H0, rfl, n5, hn, la, lb, hs, q⟩ := h
  refine thn ((pe_var (pos := p) (i := i) hN hv hd hcd).run pins s σ _ (fun v H1 => v = .ref (n + 4) ∧ H1 = up5 H0 n a b) I ⟨_, hs, rfl, rfl⟩) fun u s1 ⟨v, H1, I1, r1, ev, eH⟩ => ?_
  subst ev
  rw [eH] at I1
  cases r1
  obtain ⟨I2, st, fp⟩ := inv_unzip n5 I1 hn
  exact wpAny_pyIter_zip st.1 ⟨n + 4, [n + 4, n + 2, n + 3, n, n + 1], _, _, H0, rfl, I2, turn_zip (PySem.W.ktu_apart n a b la lb), st, fp, q⟩
end
/-! ### typed -/
section
variable {X : Cx} {PK : PoolK} {pp : PP} {ρ : List (Sl X.K)} {α β γ δ ι : Type} {e a b : Expr} {es : List Expr} {pos : Pos}
theorem Sat.junk {K : PySem.W.Frag} {PK : PoolK} {pp : PP} {ρ : List (Sl K)} {O : AS} {c : Nat} {σ : L2.St} {H : Hp} {i : Nat} {v : V} (S : Sat PK O pp ρ c σ H) (hn : get ρ i = .nil) : Sat PK O pp ρ c (σ.set i (some v)) H := by
  refine ⟨by rw [List.length_set]; exact S.len, S.nd, S.new, S.dom, S.pool, fun j => ?_⟩
  by_cases hj : j = i
  · subst hj; rw [hn]; exact True.intro
  · have q := S.slots j
    cases e : get ρ j with
    | nil => exact True.intro
    | sh en2 y =>
      rw [e] at q
      obtain ⟨v2, e2, r2⟩ := q
      exact ⟨v2, by rw [List.getElem?_set_ne (Ne.symm hj)]; exact e2, r2⟩
    | ow a on y =>
      rw [e] at q
      exact ⟨by rw [List.getElem?_set_ne (Ne.symm hj)]; exact q.1, q.2⟩
    | pl =>
      rw [e] at q
      obtain ⟨a, b, e2, e3⟩ := q
      exact ⟨a, b, e2, by rw [List.getElem?_set_ne (Ne.symm hj)]; exact e3⟩
/-- a comprehension's whole from a source that is there -/
theorem lc_body {own : List (Str × Nat)} {ext : List (Sl X.K) → α → List (Sl X.K)} {js : List Nat} {g : TG} {f : α → W β} {en : En X.K β} {xs : List α} {J : It} {O : AS} {σ : L2.St} {H1 : Hp} {c1 : Nat} {Φ : List β → WB} {Q : V → Hp → Prop} (hj : ∀ j ∈ js, j ∈ own.map (·.2)) (hn : ∀ i ∈ own.map (·.2), get ρ i = .nil) (ho : ∀ x, owns (ext ρ x) = owns ρ)
    (S1 : Sat PK O pp ρ c1 σ H1) (p1 : mapW f xs Φ noX c1) (src : Src PK xs ext js g J (Av O pp ρ) H1) (hz : xs.length ≤ sizeLine)
    (k : ∀ ys p vs H' c', Φ ys c' → H1 p = none → Chg pp H1 H' → Sat PK (Ox O p) pp ρ c' σ H' → H' p = some (.lst vs) → F2 (en.r (Av (Ox O p) pp ρ) H') vs ys → Q (.ref p) H') (D : Addr) (hD : H1 D = none) :
    ∃ W : Nat → Nat → Hp → Prop, (∃ m, W 0 m (upd H1 D (.lst []))) ∧ ∀ i m H, W i m H →
      (J.stop i H ∧ Q (.ref D) H) ∨ (J.go i H ∧ ∃ Nx : Hp → Prop, (∀ H', Nx H' → ∃ m', m' < m ∧ W (i + 1) m' H') ∧ ∀ x H', J.yld i H x H' → g x (wipe σ (own.map (·.2))) H' fun σ2 H2 => wipe σ2 (own.map (·.2)) = wipe σ (own.map (·.2)) ∧ tYes σ2 H2 fun b H3 =>
        if b = true then (∃ y, rdE PK pp (ext ρ y) (f y) en σ2 H3 fun y H4 => ∃ acc, H4 D = some (.lst acc) ∧ acc.length < sizeLine ∧ Nx (upd H4 D (.lst (acc ++ [y])))) else Nx H3) := by
  have nf := nfoot S1 hD
  have mv0 : Mv (Av O pp ρ) (Av (Ox O D) pp ρ) H1 (upd H1 D (.lst [])) := Mv.newA hD
  refine ⟨fun i m H' => m = xs.length - i ∧ i ≤ xs.length ∧ ∃ acc vs c', H' D = some (.lst vs) ∧ F2 (en.r (Av (Ox O D) pp ρ) H') vs acc ∧ vs.length ≤ i ∧ Chg pp (upd H1 D (.lst [])) (upd H' D (.lst [])) ∧ Sat PK (Ox O D) pp ρ c' σ H' ∧ mapW f (xs.drop i) (fun ys c => Φ (acc ++ ys) c) noX c',
    ⟨xs.length, by simp, Nat.zero_le _, [], [], c1, upd_same, .nil, Nat.zero_le _, by rw [upd_upd]; exact .refl, S1.newO hD, by simpa using p1⟩, ?_⟩
  rintro i m H' ⟨rfl, hi', acc, vs, c', eD, fD, lD, chD, S', hw'⟩
  have mv : Mv (Av O pp ρ) (Av (Ox O D) pp ρ) H1 H' := fun a o n e => by
    obtain ⟨e1, n1⟩ := mv0 a o n e
    have ne : a ≠ D := ne_of_none e hD
    have := chD a o e1 fun z => n (.inr (.inl z))
    rw [upd_ne ne] at this
    exact ⟨this, n1⟩
  by_cases hlt : i < xs.length
  · refine .inr ⟨src.go i H' _ hlt mv, fun H3 => ∃ acc vs c', H3 D = some (.lst vs) ∧ F2 (en.r (Av (Ox O D) pp ρ) H3) vs acc ∧ vs.length ≤ i + 1 ∧ Chg pp (upd H1 D (.lst [])) (upd H3 D (.lst [])) ∧ Sat PK (Ox O D) pp ρ c' σ H3 ∧ mapW f (xs.drop (i + 1)) (fun ys c => Φ (acc ++ ys) c) noX c', fun H3 q => ⟨xs.length - (i + 1), by omega, rfl, hlt, q⟩, fun v H2 y => ?_⟩
    obtain ⟨us, H3, eus, sm, S3, hQ⟩ := src.yld i xs[i] H' v H2 pp ρ (Ox O D) c' (wipe σ (own.map (·.2))) (List.getElem?_eq_getElem hlt) mv (S'.wipe hn) y
    refine hQ _ ⟨wipe_setAll fun u hu => hj _ (by rw [← eus]; exact List.mem_map.mpr ⟨u, hu, rfl⟩), ?_⟩
    unfold tYes
    simp only [if_true]
    rw [List.drop_eq_getElem_cons hlt] at hw'
    refine ⟨xs[i], Ox O D, _, c', S3, hw', fun y v4 H4 c4 q ch4 S4 r4 => ?_⟩
    have e4 : H4 D = some (.lst vs) := ch4 D _ (sm D _ eD) nf
    refine ⟨vs, e4, Nat.lt_of_le_of_lt lD (Nat.lt_of_lt_of_le hlt hz), acc ++ [y], vs ++ [v4], c4, upd_same, ?_, by rw [List.length_append]; exact Nat.succ_le_succ lD, ?_, ?_, ?_⟩
    · have mv4 : Mv (Av (Ox O D) pp ρ) (Av (Ox O D) pp ρ) H' (upd H4 D (.lst (vs ++ [v4]))) := fun a o n e => by
        have ne : a ≠ D := fun z => n (by rw [z]; exact .inl (.inr rfl))
        rw [upd_ne ne]
        exact ⟨ch4 a o (sm a o e) fun z => n (.inr (.inl z)), n⟩
      have mv5 : Mv (Av (Ox O D) pp (ext ρ xs[i])) (Av (Ox O D) pp ρ) H4 (upd H4 D (.lst (vs ++ [v4]))) := fun a o n e => by
        have ne : a ≠ D := fun z => n (by rw [z]; exact .inl (.inr rfl))
        rw [upd_ne ne]
        refine ⟨e, fun z => n ?_⟩
        rcases z with z | z | z
        · exact .inl z
        · exact .inr (.inl z)
        · exact .inr (.inr (by rw [ho]; exact z))
      exact (fD.imp fun _ _ => en.mono mv4).append (.cons (en.mono mv5 r4) .nil)
    · intro a o e hf
      have z := chD a o e hf
      rw [upd_upd]
      by_cases ne : a = D
      · subst ne; rw [upd_same] at z ⊢; exact z
      · rw [upd_ne ne] at z ⊢
        exact ch4 a o (sm a o z) hf
    · exact (S'.chg (fun a o e hf => ch4 a o (sm a o e) hf) S4.pool).updO (.inr rfl) nf
    · have q2 : mapW f (xs.drop (i + 1)) (fun ys c => Φ (acc ++ (y :: ys)) c) noX c4 := q
      simpa [List.append_assoc] using q2
  · have e : i = xs.length := by omega
    subst e
    rw [List.drop_length] at hw'
    have hw2 : Φ (acc ++ []) c' := hw'
    rw [List.append_nil] at hw2
    refine .inl ⟨src.stop H' _ mv, k acc D vs H' c' hw2 hD (fun a o e hf => ?_) S' eD fD⟩
    have ne : a ≠ D := ne_of_none e hD
    have z := chD a o (by rw [upd_ne ne]; exact e) hf
    rw [upd_ne ne] at z
    exact z
theorem src_zip {K : PySem.W.Frag} {PK : PoolK} {O : AS} {pp : PP} {ρ : List (Sl K)} {H1 : Hp} {a b : Addr} {vs us : List V} {xs : List α} {ys : List β} {e1 : En K α} {e2 : En K β} (i j : Nat) (l : LstAt (Av O pp ρ) H1 a vs) (f : F2 (e1.r (Av O pp ρ) H1) vs xs) (l2 : LstAt (Av O pp ρ) H1 b us) (f2 : F2 (e2.r (Av O pp ρ) H1) us ys) :
    Src (K := K) PK (xs.zip ys) (fun ρ x => put (put ρ i (.sh e1 x.1)) j (.sh e2 x.2)) [i, j] (gTup K 2 (gCons (gName i) (gCons (gName j) gNil))) (Itz K a b) (Av O pp ρ) H1 := by
  have hl := f.length
  have hl2 := f2.length
  refine ⟨fun j H' A' hj m => ?_, fun H' A' m => ?_, fun _ _ _ z => own_put_sh (own_put_sh z), fun j y H' v H'' pp' ρ' O' c' σ' hx m S' yy => ?_⟩
  · rw [List.length_zip] at hj
    have h1 : j < vs.length := by omega
    have h2 : j < us.length := by omega
    exact ⟨vs, us, vs[j], us[j], (l.mv m).sq, (l2.mv m).sq, List.getElem?_eq_getElem h1, List.getElem?_eq_getElem h2⟩
  · refine ⟨vs, us, (l.mv m).sq, (l2.mv m).sq, ?_⟩
    rw [List.length_zip]
    omega
  · obtain ⟨T, u, w, rfl, nT, rfl, hu, hw'⟩ := yy
    rw [List.getElem?_zip_eq_some] at hx
    obtain ⟨u1, g1, q1⟩ := f.get hx.1
    obtain ⟨u2, g2, q2⟩ := f2.get hx.2
    have z1 := hu vs (l.mv m).sq
    have z2 := hw' us (l2.mv m).sq
    rw [g1] at z1
    rw [g2] at z2
    cases z1
    cases z2
    exact gpair S' nT (e1.mono m q1) (e2.mono m q2)
/-- the state behind x = zip(..), ahead of the walk; W: what is wished from there -/
def atZ {K : PySem.W.Frag} (m i : Nat) (PK : PoolK) (pp : PP) (ρ : List (Sl K)) (e1 : En K α) (e2 : En K β) (w : List (α × β) → W γ) (N : AS → Hp → γ → Nat → Prop) (σ : L2.St) (H : Hp) : Prop :=
  ∃ n a b H0 O Φ c vs us xs ys, H = up5 H0 n a b ∧ No5 H0 n ∧ m ≤ n ∧ a < n ∧ b < n ∧ σ[i]? = some (some (.ref (n + 4))) ∧ Sat PK O pp ρ c σ H0 ∧ LstAt (Av O pp ρ) H0 a vs ∧ F2 (e1.r (Av O pp ρ) H0) vs xs ∧ LstAt (Av O pp ρ) H0 b us ∧ F2 (e2.r (Av O pp ρ) H0) us ys ∧
    (xs.zip ys).length ≤ sizeLine ∧ w (xs.zip ys) Φ noX c ∧ ∀ y H' c', Φ y c' → Chg pp H0 H' → Sat PK O pp ρ c' σ H' → N O H' y c'
/-- x = zip(a, b); return C([elt for p, q in x]) -/
theorem szip (i j1 j2 : Nat) {C g : Addr} {ns : List Str} {t : FE X.K δ} {k : Nat} {fd : FuncData} {ps : List Str} {x cn : Str} {p0 p1 p2 p3 pos1 pos2 pos3 pos4 pos5 tpos : Pos} {elts : List Expr} {kk : Nat} {elt : Expr} {scope : Scope} {own : List (Str × Nat)} {rest : List Stmt}
    {wa : W (List α × List β × Unit)} {e1 : En X.K α} {e2 : En X.K β} {f : α × β → W γ} {en : En X.K γ} {fw : List γ × Unit → W δ} {ι' κ : Type} {ρ' : ι' → List (Sl X.K)} {ρl : κ → List (Sl X.K)}
    (hc : X.calm = true) (hN : X.N.Nodup) (hnil : get ρ i = .nil) (hm : X.mg "zip" = none) (hz : PAX X PK pp ρ [a, b] wa (a2 (eL e1) (eL e2)))
    (M : Mk X.K C g) (F : FnOk X.prog X.w X.K X.mg X.base CX0 k g fd ps (spI PK C ns t (aC (eL en) aN) fw)) (hr : Room (k + 1) X.A) (hmC : X.mg cn = some (.ref C)) (hb : Binds X.K fd ps [])
    (ok : BlkOk X.N X.env.scope scope own) (hj : ∀ j ∈ [j1, j2], j ∈ own.map (·.2)) (hn : ∀ i ∈ own.map (·.2), get ρ i = .nil) (ho : ∀ x : α × β, owns (put (put ρ j1 (.sh e1 x.1)) j2 (.sh e2 x.2)) = owns ρ)
    (hgt : ∀ (s : Shared) (H : Hp) (C : Addr) (cl : List (Str × Addr)) (fp : List Addr), PG (X.blk s H scope (compEnvC scope cl C X.env) fp) (.Tuple elts kk tpos) (gTup X.K 2 (gCons (gName j1) (gCons (gName j2) gNil))))
    (he : ∀ (s : Shared) (H : Hp) (C : Addr) (cl : List (Str × Addr)) (fp : List Addr) (x : α × β), PX (X.blk s H scope (compEnvC scope cl C X.env) fp) PK pp (put (put ρ j1 (.sh e1 x.1)) j2 (.sh e2 x.2)) elt (f x) en)
    (hlr : Nat.blt i ρ.length = true := by rfl) (hi : X.N[i]? = some x := by rfl) (hx : Loc X.env.scope x := by first | exact Or.inl rfl | exact Or.inr rfl) (hv : Vis X.env.scope x := by first | exact Or.inl rfl | exact Or.inr rfl) (hs : swapsWith (.Call (.Name "zip" p1) [a, b] [] pos1) (some (.Name x p0)) pos2.line X.env = pure false := by rfl)
    (hf : X.fn x = true ∨ X.env.scope.names.lookup x = some .local := by first | exact .inl rfl | exact .inr rfl)
    (hg : Gl X "zip" := by rfl) (hgC : Gl X cn := by rfl) (hd : (x == ("__debug__" : Str)) = false := by decide) (hcd : (x == ("__classdict__" : Str)) = false := by decide) (hdb : (cn == ("__debug__" : Str)) = false := by decide)
    (hs1 : starEach [a, b] X.env = (false, eval a X.env) :: starEach [b] X.env := by rfl) (hpl : (backTo pos1 (starEach [b] X.env)).any (·.1) = false := by rfl)
    (hse : ∀ y, foldedSetIterable (.Name x p3) X.env y = pure y := by intro _; rfl) (hst : starEach [.ListComp elt [⟨.Tuple elts kk tpos, .Name x p3, [], 0⟩] scope pos3] X.env = (false, eval (.ListComp elt [⟨.Tuple elts kk tpos, .Name x p3, [], 0⟩] scope pos3) X.env) :: starEach [] X.env := by rfl) :
    PSX X PK pp ρ (.Assign [.Name x p0] (.Call (.Name "zip" p1) [a, b] [] pos1) pos2 :: .Return (some (.Call (.Name cn p2) [.ListComp elt [⟨.Tuple elts kk tpos, .Name x p3, [], 0⟩] scope pos3] [] pos4)) pos5 :: rest)
      (bnd wa fun z => bnd (mapW f (z.1.zip z.2.1)) fun l => bnd (fw (l, ())) fun y => ret (.rt y)) ρ' ρl (eIns C ns t) := by
  have lc := pe_lc (te := fun σ H Q => ∃ y : α × β, rdE PK pp (put (put ρ j1 (.sh e1 y.1)) j2 (.sh e2 y.2)) (f y) en σ H Q) hc hN (pi_zv (p := p3) (elts := elts) (kk := kk) (tpos := tpos) hi hv hd hcd) ok hgt (fun _ _ _ _ _ => pts_nil) (fun s H C cl fp => ⟨fun pins s' σ H Q I ⟨x, q⟩ => (he s _ C cl fp x).run pins s' σ H Q I q⟩) hse (pos := pos3)
  have mk := pe_make (pos := pos4) (p := p2) M F hr hgC hmC hb .nil pass0 (pa_cons lc pa_nil hst) hdb hst (by rfl)
  refine (pss_cons (ps_set (pos := pos2) (pos' := p0) hN hi hx (pe_zipv hg hm (pa_len hz) hs1 hpl) hs hf) (pss_cons (ps_ret (pos := pos5) mk) pss_never)).weak fun D σ H ⟨O, Φ, c, S, hw, kD⟩ => ?_
  refine ⟨O, _, c, S, hw, fun z vs0 H1 c1 q1 ch S1 r1 hlen => ?_⟩
  obtain ⟨_, _, rfl, ⟨a', vs, rfl, l, f1⟩, _, _, rfl, ⟨b', us, rfl, l2, f2⟩, rfl⟩ := r1
  refine ⟨a', b', vs, us, rfl, l.sq, l2.sq, fun n n5 hsz la lb => ?_⟩
  have hlz : (z.1.zip z.2.1).length ≤ sizeLine := by
    have := hlen a' vs (by simp) l.sq
    have hl := f1.length
    rw [List.length_zip]
    omega
  have hli : (σ.set i (some (.ref (n + 4))))[i]? = some (some (.ref (n + 4))) := by
    exact List.getElem?_set_self (by rw [S1.len]; exact Nat.blt_eq ▸ hlr)
  have body := lc_body (Q := fun v H2 => ∀ (q dx : Addr), H2 q = none → H2 dx = none → dx ≠ q → spI PK C ns t (aC (eL en) aN) fw (V.ref q :: [v]) (upd (upd H2 dx (.own q)) q (.ins C dx [])) (fun u H3 => u = V.non ∧ D.rt (V.ref q) H3) E0) (σ := σ.set i (some (.ref (n + 4)))) (en := en) hj hn ho (S1.junk hnil) q1 (src_zip j1 j2 l f1 l2 f2) hlz (fun ys p vs' H' c' q hp ch2 S2 ep fp => ?_)
  exact ⟨n, a', b', H1, rfl, n5, hsz, la, lb, hli, fun D1 hD1 => body D1 hD1⟩
  intro q3 dx hq hdx hne
  have less : ∀ a, Av O pp ρ a → Av (Ox O p) pp ρ a := fun a h => by
    rcases h with h | h | h
    · exact .inl (.inl h)
    · exact .inr (.inl h)
    · exact .inr (.inr h)
  have S3 : Sat PK O pp ρ c' _ H' := S2.lessO
  have r3 : (eL en).r (Av O pp ρ) H' (.ref p) ys := ⟨p, vs', rfl, ⟨fun z => S1.av p z hp, ep⟩, fp.imp fun _ _ => en.mono (Mv.less less)⟩
  have sm : ∀ b o, H' b = some o → upd (upd H' dx (.own q3)) q3 (.ins C dx []) b = some o := fun b o eb => by
    rw [upd_ne (ne_of_none eb hq), upd_ne (ne_of_none eb hdx)]; exact eb
  have nq : ¬ Av O pp ρ q3 := fun z => S3.av q3 z hq
  refine ⟨pp, Av O pp ρ, q3, dx, [V.ref p], (ys, ()), _, c', rfl, upd_same, fun b hb => ?_, nq, fun b h => .inr (.inl h), ?_, ?_, q, fun z H4 c4 p4 keep pl rz => ⟨rfl, ?_⟩⟩
  · intro z
    have := S3.av b hb
    cases e1 : H' b with
    | none => exact this e1
    | some o => rw [sm b o e1] at z; cases z
  · exact (S3.same sm).pool
  · exact (aC (eL en) aN).mono (fun b o n eb => ⟨sm b o eb, fun z => by
      rcases z with z | z
      · exact n z
      · rw [z, hq] at eb; cases eb⟩) (show (aC (eL en) aN).r pp (Av O pp ρ) H' [V.ref p] (ys, ()) from ⟨_, _, rfl, r3, rfl⟩)
  · have ch4 : Chg pp H' H4 := fun b o eb nf => keep b o (sm b o eb) nf (ne_of_none eb hq)
    have ch5 := (ch.trans ch2).trans ch4
    exact kD (.rt z) H4 c4 p4 (V.ref q3) (fun a o e n _ => ch5 a o e n) pl ((eIns C ns t).mono (Mv.less fun a h => by
      rcases h with h | h
      · exact .inl h
      · exact .inr (.inl h)) rz)
end
end Dc
/-! Dm: fractions as pairs, by the library's Rat (no program in sight). -/
namespace Dc
abbrev Fr := Int × Int
def toQ (x : Fr) : Rat := Rat.divInt x.1 x.2
def ofQ (q : Rat) : Fr := (q.num, (q.den : Int))
theorem toQ_ofQ (q : Rat) : toQ (ofQ q) = q := Rat.num_divInt_den q
theorem ofQ_inj {q r : Rat} (h : ofQ q = ofQ r) : q = r := by rw [← toQ_ofQ q, h, toQ_ofQ]
def Red (x : Fr) : Prop := 1 ≤ x.2 ∧ Nat.gcd x.1.natAbs x.2.natAbs = 1
theorem red_ofQ (q : Rat) : Red (ofQ q) := ⟨by have := q.den_pos; show (1 : Int) ≤ (q.den : Int); omega, by
  have := q.reduced
  show Nat.gcd q.num.natAbs ((q.den : Int)).natAbs = 1
  rw [Int.natAbs_natCast]; exact this⟩
theorem low_pos {a b : Int} (h : 0 < b) : (a / ((Nat.gcd a.natAbs b.natAbs : Nat) : Int), b / ((Nat.gcd a.natAbs b.natAbs : Nat) : Int)) = ofQ (Rat.divInt a b) := by
  have e1 := Rat.num_divInt a b
  have e2 := Rat.den_divInt a b
  have hb : b ≠ 0 := by omega
  have hg : b.gcd a = Nat.gcd a.natAbs b.natAbs := by rw [Int.gcd, Nat.gcd_comm]
  rw [hg, Int.sign_eq_one_of_pos h, Int.one_mul] at e1
  rw [hg, if_neg hb] at e2
  unfold ofQ
  rw [e1, e2, Int.natCast_ediv, Int.natAbs_of_nonneg (by omega)]
theorem low_neg {a b : Int} (h : b < 0) : (-a / ((Nat.gcd a.natAbs b.natAbs : Nat) : Int), -b / ((Nat.gcd a.natAbs b.natAbs : Nat) : Int)) = ofQ (Rat.divInt a b) := by
  have := low_pos (a := -a) (b := -b) (by omega)
  rw [Int.natAbs_neg, Int.natAbs_neg, Rat.neg_divInt_neg] at this
  exact this
theorem ofQ_toQ {x : Fr} (h : Red x) : ofQ (toQ x) = x := by
  have := low_pos (a := x.1) (b := x.2) (by have := h.1; omega)
  rw [h.2] at this
  rw [toQ, ← this]
  simp
theorem red_iff {x : Fr} : Red x ↔ ofQ (toQ x) = x := ⟨ofQ_toQ, fun h => h ▸ red_ofQ _⟩
/-- how great the parts are -/
theorem low_le {a b : Int} (h : b ≠ 0) : (ofQ (Rat.divInt a b)).1.natAbs ≤ a.natAbs ∧ (ofQ (Rat.divInt a b)).2.natAbs ≤ b.natAbs := by
  have hd : ∀ (m n : Int) (g : Nat), (m / (g : Int)).natAbs ≤ m.natAbs := fun m n g => Int.natAbs_ediv_le_natAbs _ _
  rcases Int.lt_or_gt_of_ne h with q | q
  · rw [← low_neg q]
    exact ⟨by simpa using hd (-a) 0 _, by simpa using hd (-b) 0 _⟩
  · rw [← low_pos q]
    exact ⟨hd a 0 _, hd b 0 _⟩
theorem toQ_add {x y : Fr} (hx : x.2 ≠ 0) (hy : y.2 ≠ 0) : Rat.divInt (x.1 * y.2 + y.1 * x.2) (x.2 * y.2) = toQ x + toQ y := (Rat.divInt_add_divInt _ _ hx hy).symm
theorem toQ_mul (x y : Fr) : Rat.divInt (x.1 * y.1) (x.2 * y.2) = toQ x * toQ y := (Rat.divInt_mul_divInt _ _).symm
theorem toQ_neg (x : Fr) : toQ (-x.1, x.2) = - toQ x := (Rat.neg_divInt _ _).symm
theorem ofQ_neg (q : Rat) : ofQ (-q) = (-(ofQ q).1, (ofQ q).2) := rfl
theorem red_ne {x : Fr} (h : Red x) : x.2 ≠ 0 := by have := h.1; omega
/-- scaling by a common denominator -/
theorem divInt_of_mul {a b m : Int} (hm : m ≠ 0) : Rat.divInt (a * m) (b * m) = Rat.divInt a b := Rat.divInt_mul_right hm
theorem red_neg {x : Fr} (h : Red x) : Red (-x.1, x.2) := ⟨h.1, by simpa using h.2⟩
theorem red_zero : Red (0, 1) := ⟨by decide, by decide⟩
theorem red_int (n : Int) : Red (n, 1) := ⟨by show (1 : Int) ≤ 1; omega, by simp⟩
theorem toQ_int (n : Int) : toQ (n, 1) = (n : Rat) := by
  have := Rat.num_divInt_den (n : Rat)
  show Rat.divInt n 1 = _
  simpa using this
end Dc
set_option maxHeartbeats 4000000
namespace Dc
open PySem PySem.Spec L2
def topS (i : Nat) : Stmt := PySem.Challenge.pw_toldproducts_k10_both_ways_blended_chang.main.body.getD i (.Pass ⟨0, 0, 0, 0⟩)
abbrev s_law_pool : Stmt := topS 31
abbrev N_law_pool : List Str := [Str.ofString "_law_script", Str.ofString "_law_mark", Str.ofString "_law_great", Str.ofString "_law_spot", Str.ofString "_law_cell"]
abbrev P_law_pool : List Str := [Str.ofString "_law_script"]
theorem sc_law_pool : FnScope N_law_pool P_law_pool (defScope s_law_pool) := ⟨rfl, rfl, rfl, by decide +kernel, rfl, by decide +kernel, by decide +kernel⟩
abbrev s_law_pick : Stmt := topS 32
abbrev N_law_pick : List Str := [Str.ofString "_law_pool_here", Str.ofString "_law_many", Str.ofString "_law_found", Str.ofString "_law_stir"]
abbrev P_law_pick : List Str := [Str.ofString "_law_pool_here", Str.ofString "_law_many"]
theorem sc_law_pick : FnScope N_law_pick P_law_pick (defScope s_law_pick) := ⟨rfl, rfl, rfl, by decide +kernel, rfl, by decide +kernel, by decide +kernel⟩
abbrev s_lowest : Stmt := topS 9
abbrev N_lowest : List Str := [Str.ofString "above", Str.ofString "below", Str.ofString "common"]
abbrev P_lowest : List Str := [Str.ofString "above", Str.ofString "below"]
theorem sc_lowest : FnScope N_lowest P_lowest (defScope s_lowest) := ⟨rfl, rfl, rfl, by decide +kernel, rfl, by decide +kernel, by decide +kernel⟩
abbrev s_sum_two : Stmt := topS 10
abbrev N_sum_two : List Str := [Str.ofString "one", Str.ofString "other"]
abbrev P_sum_two : List Str := [Str.ofString "one", Str.ofString "other"]
theorem sc_sum_two : FnScope N_sum_two P_sum_two (defScope s_sum_two) := ⟨rfl, rfl, rfl, by decide +kernel, rfl, by decide +kernel, by decide +kernel⟩
abbrev s_product_two : Stmt := topS 11
abbrev N_product_two : List Str := [Str.ofString "one", Str.ofString "other"]
abbrev P_product_two : List Str := [Str.ofString "one", Str.ofString "other"]
theorem sc_product_two : FnScope N_product_two P_product_two (defScope s_product_two) := ⟨rfl, rfl, rfl, by decide +kernel, rfl, by decide +kernel, by decide +kernel⟩
abbrev s_is_number : Stmt := topS 12
abbrev N_is_number : List Str := [Str.ofString "value"]
abbrev P_is_number : List Str := [Str.ofString "value"]
theorem sc_is_number : FnScope N_is_number P_is_number (defScope s_is_number) := ⟨rfl, rfl, rfl, by decide +kernel, rfl, by decide +kernel, by decide +kernel⟩
abbrev s_checked : Stmt := topS 13
abbrev N_checked : List Str := [Str.ofString "value"]
abbrev P_checked : List Str := [Str.ofString "value"]
theorem sc_checked : FnScope N_checked P_checked (defScope s_checked) := ⟨rfl, rfl, rfl, by decide +kernel, rfl, by decide +kernel, by decide +kernel⟩
abbrev s_check_numbers : Stmt := topS 14
abbrev N_check_numbers : List Str := [Str.ofString "numbers", Str.ofString "number"]
abbrev P_check_numbers : List Str := [Str.ofString "numbers"]
theorem sc_check_numbers : FnScope N_check_numbers P_check_numbers (defScope s_check_numbers) := ⟨rfl, rfl, rfl, by decide +kernel, rfl, by decide +kernel, by decide +kernel⟩
abbrev s_integers_of : Stmt := topS 15
abbrev N_integers_of : List Str := [Str.ofString "row", Str.ofString "below", Str.ofString "number"]
abbrev P_integers_of : List Str := [Str.ofString "row"]
theorem sc_integers_of : FnScope N_integers_of P_integers_of (defScope s_integers_of) := ⟨rfl, rfl, rfl, by decide +kernel, rfl, by decide +kernel, by decide +kernel⟩
abbrev s_numbers_of : Stmt := topS 16
abbrev N_numbers_of : List Str := [Str.ofString "integers", Str.ofString "below", Str.ofString "integer"]
abbrev P_numbers_of : List Str := [Str.ofString "integers", Str.ofString "below"]
theorem sc_numbers_of : FnScope N_numbers_of P_numbers_of (defScope s_numbers_of) := ⟨rfl, rfl, rfl, by decide +kernel, rfl, by decide +kernel, by decide +kernel⟩
abbrev s_fresh : Stmt := topS 17
abbrev N_fresh : List Str := [Str.ofString "thing", Str.ofString "piece"]
abbrev P_fresh : List Str := [Str.ofString "thing"]
theorem sc_fresh : FnScope N_fresh P_fresh (defScope s_fresh) := ⟨rfl, rfl, rfl, by decide +kernel, rfl, by decide +kernel, by decide +kernel⟩
abbrev s_plus_row : Stmt := topS 19
abbrev N_plus_row : List Str := [Str.ofString "one", Str.ofString "other", Str.ofString "left", Str.ofString "right"]
abbrev P_plus_row : List Str := [Str.ofString "one", Str.ofString "other"]
theorem sc_plus_row : FnScope N_plus_row P_plus_row (defScope s_plus_row) := ⟨rfl, rfl, rfl, by decide +kernel, rfl, by decide +kernel, by decide +kernel⟩
abbrev s_scaled_row : Stmt := topS 20
abbrev N_scaled_row : List Str := [Str.ofString "factor", Str.ofString "row", Str.ofString "number"]
abbrev P_scaled_row : List Str := [Str.ofString "factor", Str.ofString "row"]
theorem sc_scaled_row : FnScope N_scaled_row P_scaled_row (defScope s_scaled_row) := ⟨rfl, rfl, rfl, by decide +kernel, rfl, by decide +kernel, by decide +kernel⟩
abbrev s_check_rows : Stmt := topS 21
abbrev N_check_rows : List Str := [Str.ofString "rows", Str.ofString "size", Str.ofString "row"]
abbrev P_check_rows : List Str := [Str.ofString "rows", Str.ofString "size"]
theorem sc_check_rows : FnScope N_check_rows P_check_rows (defScope s_check_rows) := ⟨rfl, rfl, rfl, by decide +kernel, rfl, by decide +kernel, by decide +kernel⟩
abbrev s_Table_init : Stmt := inClass (topS 23) 0
abbrev N_Table_init : List Str := [Str.ofString "self", Str.ofString "products", Str.ofString "rows", Str.ofString "row", Str.ofString "size", Str.ofString "right", Str.ofString "integers", Str.ofString "number", Str.ofString "starts", Str.ofString "start"]
abbrev P_Table_init : List Str := [Str.ofString "self", Str.ofString "products"]
theorem sc_Table_init : FnScope N_Table_init P_Table_init (defScope s_Table_init) := ⟨rfl, rfl, rfl, by decide +kernel, rfl, by decide +kernel, by decide +kernel⟩
abbrev s_Table_size : Stmt := inClass (topS 23) 1
abbrev N_Table_size : List Str := [Str.ofString "self"]
abbrev P_Table_size : List Str := [Str.ofString "self"]
theorem sc_Table_size : FnScope N_Table_size P_Table_size (defScope s_Table_size) := ⟨rfl, rfl, rfl, by decide +kernel, rfl, by decide +kernel, by decide +kernel⟩
abbrev s_Table_products : Stmt := inClass (topS 23) 2
abbrev N_Table_products : List Str := [Str.ofString "self"]
abbrev P_Table_products : List Str := [Str.ofString "self"]
theorem sc_Table_products : FnScope N_Table_products P_Table_products (defScope s_Table_products) := ⟨rfl, rfl, rfl, by decide +kernel, rfl, by decide +kernel, by decide +kernel⟩
abbrev s_Table_eq : Stmt := inClass (topS 23) 3
abbrev N_Table_eq : List Str := [Str.ofString "self", Str.ofString "other"]
abbrev P_Table_eq : List Str := [Str.ofString "self", Str.ofString "other"]
theorem sc_Table_eq : FnScope N_Table_eq P_Table_eq (defScope s_Table_eq) := ⟨rfl, rfl, rfl, by decide +kernel, rfl, by decide +kernel, by decide +kernel⟩
abbrev s_Table_product_without_checks : Stmt := inClass (topS 23) 5
abbrev N_Table_product_without_checks : List Str := [Str.ofString "self", Str.ofString "one", Str.ofString "other", Str.ofString "left", Str.ofString "left_below", Str.ofString "right", Str.ofString "right_below", Str.ofString "size", Str.ofString "totals", Str.ofString "i", Str.ofString "j", Str.ofString "share", Str.ofString "place", Str.ofString "integer"]
abbrev P_Table_product_without_checks : List Str := [Str.ofString "self", Str.ofString "one", Str.ofString "other"]
theorem sc_Table_product_without_checks : FnScope N_Table_product_without_checks P_Table_product_without_checks (defScope s_Table_product_without_checks) := ⟨rfl, rfl, rfl, by decide +kernel, rfl, by decide +kernel, by decide +kernel⟩
abbrev s_Table_call : Stmt := inClass (topS 23) 4
abbrev N_Table_call : List Str := [Str.ofString "self", Str.ofString "one", Str.ofString "other"]
abbrev P_Table_call : List Str := [Str.ofString "self", Str.ofString "one", Str.ofString "other"]
theorem sc_Table_call : FnScope N_Table_call P_Table_call (defScope s_Table_call) := ⟨rfl, rfl, rfl, by decide +kernel, rfl, by decide +kernel, by decide +kernel⟩
abbrev s_product_of : Stmt := topS 24
abbrev N_product_of : List Str := [Str.ofString "table", Str.ofString "one", Str.ofString "other"]
abbrev P_product_of : List Str := [Str.ofString "table", Str.ofString "one", Str.ofString "other"]
theorem sc_product_of : FnScope N_product_of P_product_of (defScope s_product_of) := ⟨rfl, rfl, rfl, by decide +kernel, rfl, by decide +kernel, by decide +kernel⟩
abbrev s_opposite : Stmt := topS 25
abbrev N_opposite : List Str := [Str.ofString "table", Str.ofString "products", Str.ofString "units", Str.ofString "j", Str.ofString "i"]
abbrev P_opposite : List Str := [Str.ofString "table"]
theorem sc_opposite : FnScope N_opposite P_opposite (defScope s_opposite) := ⟨rfl, rfl, rfl, by decide +kernel, rfl, by decide +kernel, by decide +kernel⟩
abbrev s_blended : Stmt := topS 27
abbrev N_blended : List Str := [Str.ofString "one", Str.ofString "other", Str.ofString "number", Str.ofString "pairs", Str.ofString "a", Str.ofString "b", Str.ofString "rows", Str.ofString "others"]
abbrev P_blended : List Str := [Str.ofString "one", Str.ofString "other", Str.ofString "number"]
theorem sc_blended : FnScope N_blended P_blended (defScope s_blended) := ⟨rfl, rfl, rfl, by decide +kernel, rfl, by decide +kernel, by decide +kernel⟩
abbrev s_both_ways : Stmt := topS 26
abbrev N_both_ways : List Str := [Str.ofString "table", Str.ofString "number"]
abbrev P_both_ways : List Str := [Str.ofString "table", Str.ofString "number"]
theorem sc_both_ways : FnScope N_both_ways P_both_ways (defScope s_both_ways) := ⟨rfl, rfl, rfl, by decide +kernel, rfl, by decide +kernel, by decide +kernel⟩
abbrev s_check_square : Stmt := topS 28
abbrev N_check_square : List Str := [Str.ofString "told", Str.ofString "size", Str.ofString "row"]
abbrev P_check_square : List Str := [Str.ofString "told", Str.ofString "size"]
theorem sc_check_square : FnScope N_check_square P_check_square (defScope s_check_square) := ⟨rfl, rfl, rfl, by decide +kernel, rfl, by decide +kernel, by decide +kernel⟩
abbrev s_changed : Stmt := topS 29
abbrev N_changed : List Str := [Str.ofString "table", Str.ofString "left", Str.ofString "right", Str.ofString "row", Str.ofString "other", Str.ofString "one"]
abbrev P_changed : List Str := [Str.ofString "table", Str.ofString "left", Str.ofString "right"]
theorem sc_changed : FnScope N_changed P_changed (defScope s_changed) := ⟨rfl, rfl, rfl, by decide +kernel, rfl, by decide +kernel, by decide +kernel⟩
abbrev s_law_low : Stmt := topS 33
abbrev N_law_low : List Str := [Str.ofString "_law_above", Str.ofString "_law_below", Str.ofString "_law_one", Str.ofString "_law_two"]
abbrev P_law_low : List Str := [Str.ofString "_law_above", Str.ofString "_law_below"]
theorem sc_law_low : FnScope N_law_low P_law_low (defScope s_law_low) := ⟨rfl, rfl, rfl, by decide +kernel, rfl, by decide +kernel, by decide +kernel⟩
abbrev s_law_add : Stmt := topS 34
abbrev N_law_add : List Str := [Str.ofString "_law_one", Str.ofString "_law_two"]
abbrev P_law_add : List Str := [Str.ofString "_law_one", Str.ofString "_law_two"]
theorem sc_law_add : FnScope N_law_add P_law_add (defScope s_law_add) := ⟨rfl, rfl, rfl, by decide +kernel, rfl, by decide +kernel, by decide +kernel⟩
abbrev s_law_mul : Stmt := topS 35
abbrev N_law_mul : List Str := [Str.ofString "_law_one", Str.ofString "_law_two"]
abbrev P_law_mul : List Str := [Str.ofString "_law_one", Str.ofString "_law_two"]
theorem sc_law_mul : FnScope N_law_mul P_law_mul (defScope s_law_mul) := ⟨rfl, rfl, rfl, by decide +kernel, rfl, by decide +kernel, by decide +kernel⟩
abbrev s_law_number : Stmt := topS 36
abbrev N_law_number : List Str := [Str.ofString "_law_pool_here", Str.ofString "_law_great", Str.ofString "_law_kind", Str.ofString "_law_most", Str.ofString "_law_above", Str.ofString "_law_below"]
abbrev P_law_number : List Str := [Str.ofString "_law_pool_here", Str.ofString "_law_great"]
theorem sc_law_number : FnScope N_law_number P_law_number (defScope s_law_number) := ⟨rfl, rfl, rfl, by decide +kernel, rfl, by decide +kernel, by decide +kernel⟩
abbrev s_law_alike : Stmt := topS 37
abbrev N_law_alike : List Str := [Str.ofString "_law_told", Str.ofString "_law_due", Str.ofString "_law_kind", Str.ofString "_law_k"]
abbrev P_law_alike : List Str := [Str.ofString "_law_told", Str.ofString "_law_due"]
theorem sc_law_alike : FnScope N_law_alike P_law_alike (defScope s_law_alike) := ⟨rfl, rfl, rfl, by decide +kernel, rfl, by decide +kernel, by decide +kernel⟩
abbrev s_law_products : Stmt := topS 38
abbrev N_law_products : List Str := [Str.ofString "_law_pool_here", Str.ofString "_law_size", Str.ofString "_law_great", Str.ofString "_law_kind", Str.ofString "_law_found", Str.ofString "_law_i", Str.ofString "_law_lines", Str.ofString "_law_j", Str.ofString "_law_line", Str.ofString "_law_k"]
abbrev P_law_products : List Str := [Str.ofString "_law_pool_here", Str.ofString "_law_size", Str.ofString "_law_great"]
theorem sc_law_products : FnScope N_law_products P_law_products (defScope s_law_products) := ⟨rfl, rfl, rfl, by decide +kernel, rfl, by decide +kernel, by decide +kernel⟩
abbrev s_law_times : Stmt := topS 39
abbrev N_law_times : List Str := [Str.ofString "_law_products_here", Str.ofString "_law_one", Str.ofString "_law_other", Str.ofString "_law_found", Str.ofString "_law_i", Str.ofString "_law_j", Str.ofString "_law_share", Str.ofString "_law_a", Str.ofString "_law_b"]
abbrev P_law_times : List Str := [Str.ofString "_law_products_here", Str.ofString "_law_one", Str.ofString "_law_other"]
theorem sc_law_times : FnScope N_law_times P_law_times (defScope s_law_times) := ⟨rfl, rfl, rfl, by decide +kernel, rfl, by decide +kernel, by decide +kernel⟩
abbrev s_law_copied : Stmt := topS 40
abbrev N_law_copied : List Str := [Str.ofString "_law_thing", Str.ofString "_law_part"]
abbrev P_law_copied : List Str := [Str.ofString "_law_thing"]
theorem sc_law_copied : FnScope N_law_copied P_law_copied (defScope s_law_copied) := ⟨rfl, rfl, rfl, by decide +kernel, rfl, by decide +kernel, by decide +kernel⟩
abbrev s_law_plus : Stmt := topS 41
abbrev N_law_plus : List Str := [Str.ofString "_law_one", Str.ofString "_law_fee", Str.ofString "_law_other", Str.ofString "_law_a", Str.ofString "_law_b"]
abbrev P_law_plus : List Str := [Str.ofString "_law_one", Str.ofString "_law_fee", Str.ofString "_law_other"]
theorem sc_law_plus : FnScope N_law_plus P_law_plus (defScope s_law_plus) := ⟨rfl, rfl, rfl, by decide +kernel, rfl, by decide +kernel, by decide +kernel⟩
abbrev s_law_image : Stmt := topS 42
abbrev N_law_image : List Str := [Str.ofString "_law_told", Str.ofString "_law_line", Str.ofString "_law_found", Str.ofString "_law_fee", Str.ofString "_law_image_here"]
abbrev P_law_image : List Str := [Str.ofString "_law_told", Str.ofString "_law_line"]
theorem sc_law_image : FnScope N_law_image P_law_image (defScope s_law_image) := ⟨rfl, rfl, rfl, by decide +kernel, rfl, by decide +kernel, by decide +kernel⟩
abbrev s_law_map : Stmt := topS 43
abbrev N_law_map : List Str := [Str.ofString "_law_pool_here", Str.ofString "_law_size", Str.ofString "_law_kind", Str.ofString "_law_lines", Str.ofString "_law_k", Str.ofString "_law_spot"]
abbrev P_law_map : List Str := [Str.ofString "_law_pool_here", Str.ofString "_law_size"]
theorem sc_law_map : FnScope N_law_map P_law_map (defScope s_law_map) := ⟨rfl, rfl, rfl, by decide +kernel, rfl, by decide +kernel, by decide +kernel⟩
abbrev s_law_is : Stmt := topS 44
abbrev N_law_is : List Str := [Str.ofString "_law_told", Str.ofString "_law_due", Str.ofString "_law_size"]
abbrev P_law_is : List Str := [Str.ofString "_law_told", Str.ofString "_law_due", Str.ofString "_law_size"]
theorem sc_law_is : FnScope N_law_is P_law_is (defScope s_law_is) := ⟨rfl, rfl, rfl, by decide +kernel, rfl, by decide +kernel, by decide +kernel⟩
abbrev s_law_wholes : Stmt := topS 47
abbrev N_law_wholes : List Str := [Str.ofString "_law_thing", Str.ofString "_law_part"]
abbrev P_law_wholes : List Str := [Str.ofString "_law_thing"]
theorem sc_law_wholes : FnScope N_law_wholes P_law_wholes (defScope s_law_wholes) := ⟨rfl, rfl, rfl, by decide +kernel, rfl, by decide +kernel, by decide +kernel⟩
abbrev s_law_changed_right : Stmt := topS 45
abbrev N_law_changed_right : List Str := [Str.ofString "_law_pool_here", Str.ofString "_law_made", Str.ofString "_law_products_here", Str.ofString "_law_size", Str.ofString "_law_left", Str.ofString "_law_right_here", Str.ofString "_law_due", Str.ofString "_law_other", Str.ofString "_law_one", Str.ofString "_law_handed", Str.ofString "_law_beside", Str.ofString "_law_told", Str.ofString "_law_k", Str.ofString "_law_turn"]
abbrev P_law_changed_right : List Str := [Str.ofString "_law_pool_here", Str.ofString "_law_made", Str.ofString "_law_products_here"]
theorem sc_law_changed_right : FnScope N_law_changed_right P_law_changed_right (defScope s_law_changed_right) := ⟨rfl, rfl, rfl, by decide +kernel, rfl, by decide +kernel, by decide +kernel⟩
abbrev s_law_portion_right : Stmt := topS 46
abbrev N_law_portion_right : List Str := [Str.ofString "_law_pool_here", Str.ofString "_law_made", Str.ofString "_law_products_here", Str.ofString "_law_size", Str.ofString "_law_share", Str.ofString "_law_due", Str.ofString "_law_j", Str.ofString "_law_i", Str.ofString "_law_portion"]
abbrev P_law_portion_right : List Str := [Str.ofString "_law_pool_here", Str.ofString "_law_made", Str.ofString "_law_products_here"]
theorem sc_law_portion_right : FnScope N_law_portion_right P_law_portion_right (defScope s_law_portion_right) := ⟨rfl, rfl, rfl, by decide +kernel, rfl, by decide +kernel, by decide +kernel⟩
abbrev s_law_right : Stmt := topS 48
abbrev N_law_right : List Str := [Str.ofString "_law_pool_here", Str.ofString "_law_most", Str.ofString "_law_size", Str.ofString "_law_great", Str.ofString "_law_lots", Str.ofString "_law_k", Str.ofString "_law_first", Str.ofString "_law_second", Str.ofString "_law_fee", Str.ofString "_law_units", Str.ofString "_law_due", Str.ofString "_law_j", Str.ofString "_law_i", Str.ofString "_law_turn"]
abbrev P_law_right : List Str := [Str.ofString "_law_pool_here", Str.ofString "_law_most"]
theorem sc_law_right : FnScope N_law_right P_law_right (defScope s_law_right) := ⟨rfl, rfl, rfl, by decide +kernel, rfl, by decide +kernel, by decide +kernel⟩
abbrev s_law : Stmt := topS 49
abbrev N_law : List Str := [Str.ofString "_law_script", Str.ofString "_law_pool_here"]
abbrev P_law : List Str := [Str.ofString "_law_script"]
theorem sc_law : FnScope N_law P_law (defScope s_law) := ⟨rfl, rfl, rfl, by decide +kernel, rfl, by decide +kernel, by decide +kernel⟩
abbrev ns_Table : List Str := [Str.ofString "_products", Str.ofString "_below", Str.ofString "_cells"]
abbrev fe_Table (K : PySem.W.Frag) : FE K ((List (List Int)) × Int × (List (List (List (Int × Int)))) × Unit) := (fC (Str.ofString "_cells") (eL (eL eI)) (fC (Str.ofString "_below") eI (fC (Str.ofString "_products") (eL (eL (eL eN))) fN)))
/-- where all stands -/
structure Txt (K : PySem.W.Frag) (mg : Str → Option Value) where
  a_law_pool : Addr
  d_law_pool : FuncData
  F_law_pool : Fun K (Str.ofString "_law_pool") (Str.ofString "_law_pool") s_law_pool a_law_pool d_law_pool
  m_law_pool : mg (Str.ofString "_law_pool") = some (.ref a_law_pool)
  a_law_pick : Addr
  d_law_pick : FuncData
  F_law_pick : Fun K (Str.ofString "_law_pick") (Str.ofString "_law_pick") s_law_pick a_law_pick d_law_pick
  m_law_pick : mg (Str.ofString "_law_pick") = some (.ref a_law_pick)
  a_lowest : Addr
  d_lowest : FuncData
  F_lowest : Fun K (Str.ofString "lowest") (Str.ofString "lowest") s_lowest a_lowest d_lowest
  m_lowest : mg (Str.ofString "lowest") = some (.ref a_lowest)
  a_sum_two : Addr
  d_sum_two : FuncData
  F_sum_two : Fun K (Str.ofString "sum_two") (Str.ofString "sum_two") s_sum_two a_sum_two d_sum_two
  m_sum_two : mg (Str.ofString "sum_two") = some (.ref a_sum_two)
  a_product_two : Addr
  d_product_two : FuncData
  F_product_two : Fun K (Str.ofString "product_two") (Str.ofString "product_two") s_product_two a_product_two d_product_two
  m_product_two : mg (Str.ofString "product_two") = some (.ref a_product_two)
  a_is_number : Addr
  d_is_number : FuncData
  F_is_number : Fun K (Str.ofString "is_number") (Str.ofString "is_number") s_is_number a_is_number d_is_number
  m_is_number : mg (Str.ofString "is_number") = some (.ref a_is_number)
  a_checked : Addr
  d_checked : FuncData
  F_checked : Fun K (Str.ofString "checked") (Str.ofString "checked") s_checked a_checked d_checked
  m_checked : mg (Str.ofString "checked") = some (.ref a_checked)
  a_check_numbers : Addr
  d_check_numbers : FuncData
  F_check_numbers : Fun K (Str.ofString "check_numbers") (Str.ofString "check_numbers") s_check_numbers a_check_numbers d_check_numbers
  m_check_numbers : mg (Str.ofString "check_numbers") = some (.ref a_check_numbers)
  a_integers_of : Addr
  d_integers_of : FuncData
  F_integers_of : Fun K (Str.ofString "integers_of") (Str.ofString "integers_of") s_integers_of a_integers_of d_integers_of
  m_integers_of : mg (Str.ofString "integers_of") = some (.ref a_integers_of)
  a_numbers_of : Addr
  d_numbers_of : FuncData
  F_numbers_of : Fun K (Str.ofString "numbers_of") (Str.ofString "numbers_of") s_numbers_of a_numbers_of d_numbers_of
  m_numbers_of : mg (Str.ofString "numbers_of") = some (.ref a_numbers_of)
  a_fresh : Addr
  d_fresh : FuncData
  F_fresh : Fun K (Str.ofString "fresh") (Str.ofString "fresh") s_fresh a_fresh d_fresh
  m_fresh : mg (Str.ofString "fresh") = some (.ref a_fresh)
  a_plus_row : Addr
  d_plus_row : FuncData
  F_plus_row : Fun K (Str.ofString "plus_row") (Str.ofString "plus_row") s_plus_row a_plus_row d_plus_row
  m_plus_row : mg (Str.ofString "plus_row") = some (.ref a_plus_row)
  a_scaled_row : Addr
  d_scaled_row : FuncData
  F_scaled_row : Fun K (Str.ofString "scaled_row") (Str.ofString "scaled_row") s_scaled_row a_scaled_row d_scaled_row
  m_scaled_row : mg (Str.ofString "scaled_row") = some (.ref a_scaled_row)
  a_check_rows : Addr
  d_check_rows : FuncData
  F_check_rows : Fun K (Str.ofString "check_rows") (Str.ofString "check_rows") s_check_rows a_check_rows d_check_rows
  m_check_rows : mg (Str.ofString "check_rows") = some (.ref a_check_rows)
  a_Table_init : Addr
  d_Table_init : FuncData
  F_Table_init : Fun K (Str.ofString "__init__") (Str.ofString "Table.__init__") s_Table_init a_Table_init d_Table_init
  a_Table_size : Addr
  d_Table_size : FuncData
  F_Table_size : Fun K (Str.ofString "size") (Str.ofString "Table.size") s_Table_size a_Table_size d_Table_size
  a_Table_products : Addr
  d_Table_products : FuncData
  F_Table_products : Fun K (Str.ofString "products") (Str.ofString "Table.products") s_Table_products a_Table_products d_Table_products
  a_Table_eq : Addr
  d_Table_eq : FuncData
  F_Table_eq : Fun K (Str.ofString "__eq__") (Str.ofString "Table.__eq__") s_Table_eq a_Table_eq d_Table_eq
  a_Table_product_without_checks : Addr
  d_Table_product_without_checks : FuncData
  F_Table_product_without_checks : Fun K (Str.ofString "product_without_checks") (Str.ofString "Table.product_without_checks") s_Table_product_without_checks a_Table_product_without_checks d_Table_product_without_checks
  a_Table_call : Addr
  d_Table_call : FuncData
  F_Table_call : Fun K (Str.ofString "__call__") (Str.ofString "Table.__call__") s_Table_call a_Table_call d_Table_call
  a_product_of : Addr
  d_product_of : FuncData
  F_product_of : Fun K (Str.ofString "product_of") (Str.ofString "product_of") s_product_of a_product_of d_product_of
  m_product_of : mg (Str.ofString "product_of") = some (.ref a_product_of)
  a_opposite : Addr
  d_opposite : FuncData
  F_opposite : Fun K (Str.ofString "opposite") (Str.ofString "opposite") s_opposite a_opposite d_opposite
  m_opposite : mg (Str.ofString "opposite") = some (.ref a_opposite)
  a_blended : Addr
  d_blended : FuncData
  F_blended : Fun K (Str.ofString "blended") (Str.ofString "blended") s_blended a_blended d_blended
  m_blended : mg (Str.ofString "blended") = some (.ref a_blended)
  a_both_ways : Addr
  d_both_ways : FuncData
  F_both_ways : Fun K (Str.ofString "both_ways") (Str.ofString "both_ways") s_both_ways a_both_ways d_both_ways
  m_both_ways : mg (Str.ofString "both_ways") = some (.ref a_both_ways)
  a_check_square : Addr
  d_check_square : FuncData
  F_check_square : Fun K (Str.ofString "check_square") (Str.ofString "check_square") s_check_square a_check_square d_check_square
  m_check_square : mg (Str.ofString "check_square") = some (.ref a_check_square)
  a_changed : Addr
  d_changed : FuncData
  F_changed : Fun K (Str.ofString "changed") (Str.ofString "changed") s_changed a_changed d_changed
  m_changed : mg (Str.ofString "changed") = some (.ref a_changed)
  a_law_low : Addr
  d_law_low : FuncData
  F_law_low : Fun K (Str.ofString "_law_low") (Str.ofString "_law_low") s_law_low a_law_low d_law_low
  m_law_low : mg (Str.ofString "_law_low") = some (.ref a_law_low)
  a_law_add : Addr
  d_law_add : FuncData
  F_law_add : Fun K (Str.ofString "_law_add") (Str.ofString "_law_add") s_law_add a_law_add d_law_add
  m_law_add : mg (Str.ofString "_law_add") = some (.ref a_law_add)
  a_law_mul : Addr
  d_law_mul : FuncData
  F_law_mul : Fun K (Str.ofString "_law_mul") (Str.ofString "_law_mul") s_law_mul a_law_mul d_law_mul
  m_law_mul : mg (Str.ofString "_law_mul") = some (.ref a_law_mul)
  a_law_number : Addr
  d_law_number : FuncData
  F_law_number : Fun K (Str.ofString "_law_number") (Str.ofString "_law_number") s_law_number a_law_number d_law_number
  m_law_number : mg (Str.ofString "_law_number") = some (.ref a_law_number)
  a_law_alike : Addr
  d_law_alike : FuncData
  F_law_alike : Fun K (Str.ofString "_law_alike") (Str.ofString "_law_alike") s_law_alike a_law_alike d_law_alike
  m_law_alike : mg (Str.ofString "_law_alike") = some (.ref a_law_alike)
  a_law_products : Addr
  d_law_products : FuncData
  F_law_products : Fun K (Str.ofString "_law_products") (Str.ofString "_law_products") s_law_products a_law_products d_law_products
  m_law_products : mg (Str.ofString "_law_products") = some (.ref a_law_products)
  a_law_times : Addr
  d_law_times : FuncData
  F_law_times : Fun K (Str.ofString "_law_times") (Str.ofString "_law_times") s_law_times a_law_times d_law_times
  m_law_times : mg (Str.ofString "_law_times") = some (.ref a_law_times)
  a_law_copied : Addr
  d_law_copied : FuncData
  F_law_copied : Fun K (Str.ofString "_law_copied") (Str.ofString "_law_copied") s_law_copied a_law_copied d_law_copied
  m_law_copied : mg (Str.ofString "_law_copied") = some (.ref a_law_copied)
  a_law_plus : Addr
  d_law_plus : FuncData
  F_law_plus : Fun K (Str.ofString "_law_plus") (Str.ofString "_law_plus") s_law_plus a_law_plus d_law_plus
  m_law_plus : mg (Str.ofString "_law_plus") = some (.ref a_law_plus)
  a_law_image : Addr
  d_law_image : FuncData
  F_law_image : Fun K (Str.ofString "_law_image") (Str.ofString "_law_image") s_law_image a_law_image d_law_image
  m_law_image : mg (Str.ofString "_law_image") = some (.ref a_law_image)
  a_law_map : Addr
  d_law_map : FuncData
  F_law_map : Fun K (Str.ofString "_law_map") (Str.ofString "_law_map") s_law_map a_law_map d_law_map
  m_law_map : mg (Str.ofString "_law_map") = some (.ref a_law_map)
  a_law_is : Addr
  d_law_is : FuncData
  F_law_is : Fun K (Str.ofString "_law_is") (Str.ofString "_law_is") s_law_is a_law_is d_law_is
  m_law_is : mg (Str.ofString "_law_is") = some (.ref a_law_is)
  a_law_wholes : Addr
  d_law_wholes : FuncData
  F_law_wholes : Fun K (Str.ofString "_law_wholes") (Str.ofString "_law_wholes") s_law_wholes a_law_wholes d_law_wholes
  m_law_wholes : mg (Str.ofString "_law_wholes") = some (.ref a_law_wholes)
  a_law_changed_right : Addr
  d_law_changed_right : FuncData
  F_law_changed_right : Fun K (Str.ofString "_law_changed_right") (Str.ofString "_law_changed_right") s_law_changed_right a_law_changed_right d_law_changed_right
  m_law_changed_right : mg (Str.ofString "_law_changed_right") = some (.ref a_law_changed_right)
  a_law_portion_right : Addr
  d_law_portion_right : FuncData
  F_law_portion_right : Fun K (Str.ofString "_law_portion_right") (Str.ofString "_law_portion_right") s_law_portion_right a_law_portion_right d_law_portion_right
  m_law_portion_right : mg (Str.ofString "_law_portion_right") = some (.ref a_law_portion_right)
  a_law_right : Addr
  d_law_right : FuncData
  F_law_right : Fun K (Str.ofString "_law_right") (Str.ofString "_law_right") s_law_right a_law_right d_law_right
  m_law_right : mg (Str.ofString "_law_right") = some (.ref a_law_right)
  a_law : Addr
  d_law : FuncData
  F_law : Fun K (Str.ofString "law") (Str.ofString "law") s_law a_law d_law
  m_law : mg (Str.ofString "law") = some (.ref a_law)
  c_Table : Addr
  m_Table : mg (Str.ofString "Table") = some (.ref c_Table)
  cl_Table : Cls K c_Table
  na_Table_products : NoAttr K c_Table (Str.ofString "_products")
  na_Table_below : NoAttr K c_Table (Str.ofString "_below")
  na_Table_cells : NoAttr K c_Table (Str.ofString "_cells")
  ic_Table : C8.InsC K c_Table
  ne_Table : NeO K c_Table
  mk_Table : Mk K c_Table a_Table_init
  p_Table_size : Addr
  pr_Table_size : PropOf K c_Table (Str.ofString "size") p_Table_size a_Table_size
  p_Table_products : Addr
  pr_Table_products : PropOf K c_Table (Str.ofString "products") p_Table_products a_Table_products
  eq_Table : EqO K c_Table a_Table_eq
  me_Table_product_without_checks : Meth K c_Table (Str.ofString "product_without_checks") a_Table_product_without_checks
  co_Table : StX.CallO K c_Table a_Table_call
  z_abs : mg (Str.ofString "abs") = none
  z_all : mg (Str.ofString "all") = none
  z_bool : mg (Str.ofString "bool") = none
  z_enumerate : mg (Str.ofString "enumerate") = none
  z_int : mg (Str.ofString "int") = none
  z_isinstance : mg (Str.ofString "isinstance") = none
  z_len : mg (Str.ofString "len") = none
  z_list : mg (Str.ofString "list") = none
  z_range : mg (Str.ofString "range") = none
  z_tuple : mg (Str.ofString "tuple") = none
  z_zip : mg (Str.ofString "zip") = none
  m_gcd : mg (Str.ofString "gcd") = some (.builtin "math.gcd")
  m_lcm : mg (Str.ofString "lcm") = some (.builtin "math.lcm")
abbrev e_Table {K : PySem.W.Frag} {mg : Str → Option Value} (T : Txt K mg) : En K ((List (List Int)) × Int × (List (List (List (Int × Int)))) × Unit) := eIns T.c_Table ns_Table (fe_Table K)
def wb_lowest (x : (Int × Int × Unit)) : W (Fl Empty Empty (Int × Int)) := (bnd (bnd (bnd (ret x.1) fun t4 => bnd (bnd (ret x.2.1) fun t2 => bnd (ret ()) fun t3 => ret (t2, t3)) fun t5 => ret (t4, t5)) fun t6 => grd true (ret ((Nat.gcd t6.1.natAbs t6.2.1.natAbs : Nat) : Int))) fun v1 => (bnd (bnd (bnd (ret x.2.1) fun t7 => bnd (ret (0 : Int)) fun t8 => ret (decide (t7 < t8))) fun b9 => ite b9 (bnd (bnd (ret v1) fun t11 => ret (-t11)) fun v10 => (ret (Fl.nx (v10)))) (ret (Fl.nx (v1)))) (sq fun (s12 : (Int)) => (bnd (bnd (bnd (bnd (ret x.1) fun t13 => bnd (ret s12) fun t14 => grd (fdivOk t13 t14) (ret (Int.fdiv t13 t14))) fun t19 => bnd (bnd (bnd (ret x.2.1) fun t15 => bnd (ret s12) fun t16 => grd (fdivOk t15 t16) (ret (Int.fdiv t15 t16))) fun t17 => bnd (ret ()) fun t18 => ret (t17, t18)) fun t20 => ret (t19, t20)) fun t21 => ret (t21.1, t21.2.1)) fun t22 => ret (Fl.rt t22)))))
def w_lowest (x : (Int × Int × Unit)) : W (Int × Int) := fnR (wb_lowest x)
def wb_sum_two (x : ((Int × Int) × (Int × Int) × Unit)) : W (Fl Empty Empty (Int × Int)) := (bnd (bnd (bnd (bnd (bnd (bnd (ret x.1) fun t29 => ret t29.1) fun t31 => bnd (bnd (ret x.2.1) fun t30 => ret t30.2) fun t32 => grd (mulOk t31 t32) (ret (t31 * t32))) fun t37 => bnd (bnd (bnd (ret x.2.1) fun t33 => ret t33.1) fun t35 => bnd (bnd (ret x.1) fun t34 => ret t34.2) fun t36 => grd (mulOk t35 t36) (ret (t35 * t36))) fun t38 => ret (t37 + t38)) fun t39 => bnd (bnd (bnd (bnd (ret x.1) fun t23 => ret t23.2) fun t25 => bnd (bnd (ret x.2.1) fun t24 => ret t24.2) fun t26 => grd (mulOk t25 t26) (ret (t25 * t26))) fun t27 => bnd (ret ()) fun t28 => ret (t27, t28)) fun t40 => ret (t39, t40)) w_lowest) fun t41 => ret (Fl.rt t41))
def w_sum_two (x : ((Int × Int) × (Int × Int) × Unit)) : W (Int × Int) := fnR (wb_sum_two x)
def wb_product_two (x : ((Int × Int) × (Int × Int) × Unit)) : W (Fl Empty Empty (Int × Int)) := (bnd (bnd (bnd (bnd (bnd (ret x.1) fun t48 => ret t48.1) fun t50 => bnd (bnd (ret x.2.1) fun t49 => ret t49.1) fun t51 => grd (mulOk t50 t51) (ret (t50 * t51))) fun t52 => bnd (bnd (bnd (bnd (ret x.1) fun t42 => ret t42.2) fun t44 => bnd (bnd (ret x.2.1) fun t43 => ret t43.2) fun t45 => grd (mulOk t44 t45) (ret (t44 * t45))) fun t46 => bnd (ret ()) fun t47 => ret (t46, t47)) fun t53 => ret (t52, t53)) w_lowest) fun t54 => ret (Fl.rt t54))
def w_product_two (x : ((Int × Int) × (Int × Int) × Unit)) : W (Int × Int) := fnR (wb_product_two x)
def wb_is_number (x : ((Int × Int) × Unit)) : W (Fl Empty Empty Bool) := (bnd (bnd (bnd (bnd (ret x.1) fun t55 => ret t55.2) fun t56 => bnd (ret (1 : Int)) fun t57 => ret (decide (t57 ≤ t56))) fun t67 => ite t67 (bnd (bnd (bnd (bnd (ret x.1) fun t58 => ret t58.1) fun t62 => bnd (bnd (bnd (ret x.1) fun t59 => ret t59.2) fun t60 => bnd (ret ()) fun t61 => ret (t60, t61)) fun t63 => ret (t62, t63)) fun t64 => grd true (ret ((Nat.gcd t64.1.natAbs t64.2.1.natAbs : Nat) : Int))) fun t65 => bnd (ret (1 : Int)) fun t66 => ret (decide (t65 = t66))) (ret false)) fun t68 => ret (Fl.rt t68))
def w_is_number (x : ((Int × Int) × Unit)) : W Bool := fnR (wb_is_number x)
def wb_checked (x : ((Int × Int) × Unit)) : W (Fl Empty Empty (Int × Int)) := (bnd (bnd (bnd (bnd (bnd (ret x.1) fun t69 => bnd (ret ()) fun t70 => ret (t69, t70)) w_is_number) fun t71 => ret (!t71)) fun b72 => ite b72 stuck (ret (Fl.nx ()))) (sq fun (_ : Unit) => (bnd (ret x.1) fun t73 => ret (Fl.rt t73))))
def w_checked (x : ((Int × Int) × Unit)) : W (Int × Int) := fnR (wb_checked x)
def wb_check_numbers (x : ((List (Int × Int)) × Unit)) : W (Fl Unit Empty Unit) := (bnd (bnd (ret x.1) fun xs => forW (fun (s74 : Unit) y75 => (bnd (bnd (bnd (bnd (bnd (ret y75) fun t76 => bnd (ret ()) fun t77 => ret (t76, t77)) w_is_number) fun t78 => ret (!t78)) fun b79 => ite b79 stuck (ret (Fl.nx ()))) (sq fun (_ : Unit) => (ret (Fl.nx ()))))) () xs) (sq fun (s80 : Unit) => (ret (Fl.nx ()))))
def w_check_numbers (x : ((List (Int × Int)) × Unit)) : W Unit := fnU (wb_check_numbers x)
def wb_integers_of (x : ((List (Int × Int)) × Unit)) : W (Fl Empty Empty ((List Int) × Int)) := (bnd (ret (1 : Int)) fun v81 => (bnd (bnd (ret x.1) fun xs => forW (fun (s82 : (Int)) y83 => (bnd (bnd (bnd (ret s82) fun t88 => bnd (bnd (bnd (ret y83) fun t85 => ret t85.2) fun t86 => bnd (ret ()) fun t87 => ret (t86, t87)) fun t89 => ret (t88, t89)) fun t90 => grd (lcmOk t90.1 t90.2.1) (ret ((Nat.lcm t90.1.natAbs t90.2.1.natAbs : Nat) : Int))) fun v84 => (ret (Fl.nx (v84))))) (v81) xs) (sq fun (s91 : (Int)) => (bnd (bnd (bnd (bnd (ret x.1) fun xs99 => mapW (fun y92 => (bnd (bnd (ret y92) fun t93 => ret t93.1) fun t97 => bnd (bnd (ret s91) fun t95 => bnd (bnd (ret y92) fun t94 => ret t94.2) fun t96 => grd (fdivOk t95 t96) (ret (Int.fdiv t95 t96))) fun t98 => grd (mulOk t97 t98) (ret (t97 * t98)))) xs99) fun t102 => bnd (bnd (ret s91) fun t100 => bnd (ret ()) fun t101 => ret (t100, t101)) fun t103 => ret (t102, t103)) fun t104 => ret (t104.1, t104.2.1)) fun t105 => ret (Fl.rt t105)))))
def w_integers_of (x : ((List (Int × Int)) × Unit)) : W ((List Int) × Int) := fnR (wb_integers_of x)
def wb_numbers_of (x : ((List Int) × Int × Unit)) : W (Fl Empty Empty (List (Int × Int))) := (bnd (bnd (ret x.1) fun xs111 => mapW (fun y106 => (bnd (bnd (ret y106) fun t109 => bnd (bnd (ret x.2.1) fun t107 => bnd (ret ()) fun t108 => ret (t107, t108)) fun t110 => ret (t109, t110)) w_lowest)) xs111) fun t112 => ret (Fl.rt t112))
def w_numbers_of (x : ((List Int) × Int × Unit)) : W (List (Int × Int)) := fnR (wb_numbers_of x)
def w_fresh : Nat → (D × Unit) → W D
  | 0, _ => stuck
  | n + 1, x => fnR ((bnd (bnd (bnd (ret x.1) fun t113 => ret (isD "list" t113)) fun b114 => ite b114 (bnd (bnd (bnd (bnd (ret x.1) fun t115 => grd (isLst t115) (ret (itemsD t115))) fun xs119 => mapW (fun y116 => (bnd (bnd (ret y116) fun t117 => bnd (ret ()) fun t118 => ret (t117, t118)) (w_fresh n))) xs119) fun t120 => ret (D.lst (List.map (fun z => z) t120))) fun t121 => ret (Fl.rt t121)) (ret (Fl.nx ()))) (sq fun (_ : Unit) => (bnd (bnd (bnd (ret x.1) fun t122 => ret (isD "tuple" t122)) fun b123 => ite b123 (bnd (bnd (bnd (bnd (bnd (ret x.1) fun t124 => grd (isTup t124 && decide ((itemsD t124).length ≤ 16777216)) (ret (itemsD t124))) fun xs128 => mapW (fun y125 => (bnd (bnd (ret y125) fun t126 => bnd (ret ()) fun t127 => ret (t126, t127)) (w_fresh n))) xs128) fun t129 => bnd (ret ()) fun t130 => ret (t129, t130)) fun t131 => grd true (ret (D.tup t131.1))) fun t132 => ret (Fl.rt t132)) (ret (Fl.nx ()))) (sq fun (_ : Unit) => (bnd (ret x.1) fun t133 => ret (Fl.rt t133)))))))
def wb_plus_row (x : ((List (Int × Int)) × (List (Int × Int)) × Unit)) : W (Fl Empty Empty (List (Int × Int))) := (bnd (bnd (bnd (bnd (ret x.1) fun t136 => bnd (bnd (ret x.2.1) fun t134 => bnd (ret ()) fun t135 => ret (t134, t135)) fun t137 => ret (t136, t137)) fun t138 => ret (t138.1.zip t138.2.1)) fun xs144 => mapW (fun y139 => (bnd (bnd (ret y139.1) fun t142 => bnd (bnd (ret y139.2) fun t140 => bnd (ret ()) fun t141 => ret (t140, t141)) fun t143 => ret (t142, t143)) w_sum_two)) xs144) fun t145 => ret (Fl.rt t145))
def w_plus_row (x : ((List (Int × Int)) × (List (Int × Int)) × Unit)) : W (List (Int × Int)) := fnR (wb_plus_row x)
def wb_scaled_row (x : ((Int × Int) × (List (Int × Int)) × Unit)) : W (Fl Empty Empty (List (Int × Int))) := (bnd (bnd (ret x.2.1) fun xs151 => mapW (fun y146 => (bnd (bnd (ret x.1) fun t149 => bnd (bnd (ret y146) fun t147 => bnd (ret ()) fun t148 => ret (t147, t148)) fun t150 => ret (t149, t150)) w_product_two)) xs151) fun t152 => ret (Fl.rt t152))
def w_scaled_row (x : ((Int × Int) × (List (Int × Int)) × Unit)) : W (List (Int × Int)) := fnR (wb_scaled_row x)
def wb_check_rows (x : ((List (List (Int × Int))) × Int × Unit)) : W (Fl Unit Empty Unit) := (bnd (bnd (ret x.1) fun xs => forW (fun (s153 : Unit) y154 => (bnd (bnd (bnd (ret y154) fun t155 => bnd (ret ()) fun t156 => ret (t155, t156)) w_check_numbers) fun _ => (ret (Fl.nx ())))) () xs) (sq fun (s157 : Unit) => (bnd (bnd (ret x.1) fun xs => forW (fun (s158 : Unit) y159 => (bnd (bnd (bnd (bnd (bnd (ret y159) fun t160 => bnd (ret ()) fun t161 => ret (t160, t161)) fun t162 => grd true (ret (t162.1.length : Int))) fun t163 => bnd (ret x.2.1) fun t164 => ret (!decide (t163 = t164))) fun b165 => ite b165 stuck (ret (Fl.nx ()))) (sq fun (_ : Unit) => (ret (Fl.nx ()))))) () xs) (sq fun (s166 : Unit) => (ret (Fl.nx ()))))))
def w_check_rows (x : ((List (List (Int × Int))) × Int × Unit)) : W Unit := fnU (wb_check_rows x)
def wb_Table_init (x : ((List (List (List (Int × Int)))) × Unit)) : W (Fl ((List (List Int)) × Int × (List (List (List (Int × Int)))) × Unit) Empty Unit) := (bnd (bnd (ret x.1) fun xs => forW (fun (s167 : Unit) y168 => (bnd (bnd (ret y168) fun xs => forW (fun (s169 : Unit) y170 => (bnd (bnd (bnd (ret y170) fun t171 => bnd (ret ()) fun t172 => ret (t171, t172)) w_check_numbers) fun _ => (ret (Fl.nx ())))) () xs) (sq fun (s173 : Unit) => (ret (Fl.nx ()))))) () xs) (sq fun (s174 : Unit) => (bnd (bnd (bnd (ret x.1) fun t176 => bnd (ret ()) fun t177 => ret (t176, t177)) fun t178 => grd true (ret (t178.1.length : Int))) fun v175 => (bnd (bnd (ret x.1) fun xs197 => mapW (fun y180 => (bnd (bnd (bnd (bnd (ret y180) fun t181 => bnd (ret ()) fun t182 => ret (t181, t182)) fun t183 => grd true (ret (t183.1.length : Int))) fun t184 => bnd (ret v175) fun t185 => ret (decide (t184 = t185))) fun t196 => ite t196 (bnd (bnd (bnd (ret y180) fun xs192 => mapW (fun y186 => (bnd (bnd (bnd (ret y186) fun t187 => bnd (ret ()) fun t188 => ret (t187, t188)) fun t189 => grd true (ret (t189.1.length : Int))) fun t190 => bnd (ret v175) fun t191 => ret (decide (t190 = t191)))) xs192) fun t193 => bnd (ret ()) fun t194 => ret (t193, t194)) fun t195 => grd true (ret (t195.1.all id))) (ret false))) xs197) fun v179 => (bnd (bnd (bnd (bnd (ret v175) fun t198 => bnd (ret (0 : Int)) fun t199 => ret (decide (t198 = t199))) fun t204 => ite t204 (ret true) (bnd (bnd (bnd (ret v179) fun t200 => bnd (ret ()) fun t201 => ret (t200, t201)) fun t202 => grd true (ret (t202.1.all id))) fun t203 => ret (!t203))) fun b205 => ite b205 stuck (ret (Fl.nx ()))) (sq fun (_ : Unit) => (bnd (bnd (ret x.1) fun t209 => ret t209) fun v210 => (bnd (bnd (bnd (bnd (ret x.1) fun xs => fldW (fun acc y211 => bnd (ret y211) fun xs0 => fldW (fun acc y212 => bnd (ret y212) fun xs1 => fldW (fun acc y213 => addW (ret y213) acc) acc xs1) acc xs0) ([] : List (Int × Int)) xs) fun t214 => bnd (ret ()) fun t215 => ret (t214, t215)) w_integers_of) fun v216 => (bnd (bnd (bnd (ret (0 : Int)) fun t226 => bnd (bnd (bnd (bnd (ret v175) fun t218 => bnd (ret v175) fun t219 => grd (mulOk t218 t219) (ret (t218 * t219))) fun t220 => bnd (ret v175) fun t221 => grd (mulOk t220 t221) (ret (t220 * t221))) fun t224 => bnd (bnd (ret v175) fun t222 => bnd (ret ()) fun t223 => ret (t222, t223)) fun t225 => ret (t224, t225)) fun t227 => ret (t226, t227)) fun t228 => grd (rgOk t228.1 t228.2.1 t228.2.2.1) (ret (stepF t228.1 t228.2.2.1 (rgN t228.1 t228.2.1 t228.2.2.1)))) fun v217 => (bnd (bnd (ret v217) fun xs237 => mapW (fun y229 => (bnd (ret v216.1) fun t234 => bnd (bnd (ret y229) fun t230 => ret (some t230)) fun t235 => bnd (bnd (bnd (ret y229) fun t231 => bnd (ret v175) fun t232 => ret (t231 + t232)) fun t233 => ret (some t233)) fun t236 => ret ((t234.drop (HT.sIx t234.length 0 t235)).take (HT.sIx t234.length t234.length t236 - HT.sIx t234.length 0 t235)))) xs237) fun v238 => (ret (Fl.nx (v238, (v216.2, (v210, ())))))))))))))))
def w_Table_init (x : ((List (List (List (Int × Int)))) × Unit)) : W ((List (List Int)) × Int × (List (List (List (Int × Int)))) × Unit) := fnI (wb_Table_init x)
def wb_Table_size (x : (((List (List Int)) × Int × (List (List (List (Int × Int)))) × Unit) × Unit)) : W (Fl Empty Empty Int) := (bnd (bnd (bnd (bnd (ret x.1) fun t239 => ret t239.2.2.1) fun t240 => bnd (ret ()) fun t241 => ret (t240, t241)) fun t242 => grd true (ret (t242.1.length : Int))) fun t243 => ret (Fl.rt t243))
def w_Table_size (x : (((List (List Int)) × Int × (List (List (List (Int × Int)))) × Unit) × Unit)) : W Int := fnR (wb_Table_size x)
def wb_Table_products (x : (((List (List Int)) × Int × (List (List (List (Int × Int)))) × Unit) × Unit)) : W (Fl Empty Empty (List (List (List (Int × Int))))) := (bnd (bnd (bnd (ret x.1) fun t244 => ret t244.2.2.1) fun t248 => ret t248) fun t249 => ret (Fl.rt t249))
def w_Table_products (x : (((List (List Int)) × Int × (List (List (List (Int × Int)))) × Unit) × Unit)) : W (List (List (List (Int × Int)))) := fnR (wb_Table_products x)
def wb_Table_eq (x : (((List (List Int)) × Int × (List (List (List (Int × Int)))) × Unit) × ((List (List Int)) × Int × (List (List (List (Int × Int)))) × Unit) × Unit)) : W (Fl Empty Empty Bool) := (bnd (bnd (bnd (ret x.2.1) fun t250 => ret true) fun t255 => ite t255 (bnd (bnd (ret x.1) fun t251 => ret t251.2.2.1) fun t253 => bnd (bnd (ret x.2.1) fun t252 => ret t252.2.2.1) fun t254 => ret (PyData.eqv (PyData.list (List.map (fun z => (PyData.list (List.map (fun z => (PyData.list (List.map (fun z => (PyData.tuple [(PyData.int z.1), (PyData.int z.2)])) z))) z))) t253)) (PyData.list (List.map (fun z => (PyData.list (List.map (fun z => (PyData.list (List.map (fun z => (PyData.tuple [(PyData.int z.1), (PyData.int z.2)])) z))) z))) t254)))) (ret false)) fun t256 => ret (Fl.rt t256))
def w_Table_eq (x : (((List (List Int)) × Int × (List (List (List (Int × Int)))) × Unit) × ((List (List Int)) × Int × (List (List (List (Int × Int)))) × Unit) × Unit)) : W Bool := fnR (wb_Table_eq x)
def wb_Table_product_without_checks (x : (((List (List Int)) × Int × (List (List (List (Int × Int)))) × Unit) × (List (Int × Int)) × (List (Int × Int)) × Unit)) : W (Fl Empty Empty (List (Int × Int))) := (bnd (bnd (bnd (ret x.2.1) fun t277 => bnd (ret ()) fun t278 => ret (t277, t278)) w_integers_of) fun v276 => (bnd (bnd (bnd (ret x.2.2.1) fun t280 => bnd (ret ()) fun t281 => ret (t280, t281)) w_integers_of) fun v279 => (bnd (bnd (bnd (ret v276.1) fun t283 => bnd (ret ()) fun t284 => ret (t283, t284)) fun t285 => grd true (ret (t285.1.length : Int))) fun v282 => (bnd (bnd (bnd (ret (0 : Int)) fun t287 => bnd (ret ([] : List Int)) fun t288 => ret (t287 :: t288)) fun t289 => bnd (ret v282) fun t290 => grd (repOk t289.length t290) (ret (List.replicate t290.toNat t289).flatten)) fun v286 => (bnd (bnd (bnd (bnd (ret v282) fun t292 => bnd (ret ()) fun t293 => ret (t292, t293)) fun t294 => grd (rngOk 0 t294.1) (ret (rangeF 0 t294.1.toNat))) fun xs => forW (fun (s295 : ((List Int))) y296 => (bnd (bnd (bnd (bnd (ret v282) fun t297 => bnd (ret ()) fun t298 => ret (t297, t298)) fun t299 => grd (rngOk 0 t299.1) (ret (rangeF 0 t299.1.toNat))) fun xs => forW (fun (s300 : ((List Int))) y301 => (bnd (bnd (bnd (ret v276.1) fun t303 => bnd (ret y296) fun t304 => grd (ixOk t303 t304) (ret (ixAt t303 t304))) fun t307 => bnd (bnd (ret v279.1) fun t305 => bnd (ret y301) fun t306 => grd (ixOk t305 t306) (ret (ixAt t305 t306))) fun t308 => grd (mulOk t307 t308) (ret (t307 * t308))) fun v302 => (bnd (bnd (bnd (ret v302) fun t309 => bnd (ret (0 : Int)) fun t310 => ret (!decide (t309 = t310))) fun b311 => ite b311 (bnd (bnd (bnd (bnd (bnd (bnd (ret x.1) fun t312 => ret t312.1) fun t317 => bnd (bnd (bnd (ret y296) fun t313 => bnd (ret v282) fun t314 => grd (mulOk t313 t314) (ret (t313 * t314))) fun t315 => bnd (ret y301) fun t316 => ret (t315 + t316)) fun t318 => grd (ixOk t317 t318) (ret (ixAt t317 t318))) fun t319 => bnd (ret ()) fun t320 => ret (t319, t320)) fun t321 => ret (enumF 0 t321.1)) fun xs => forW (fun (s322 : ((List Int))) y323 => (bnd (bnd (ret y323.1) fun t327 => grd (ixOk s322 t327) (bnd (bnd (ret v302) fun t324 => bnd (ret y323.2) fun t325 => grd (mulOk t324 t325) (ret (t324 * t325))) fun t328 => grd true (ret (t327, ixAt s322 t327 + t328)))) fun v326 => (ret (Fl.nx ((s322.set ((ixN s322.length v326.1).getD 0) v326.2)))))) (s300) xs) (sq fun (s329 : ((List Int))) => (ret (Fl.nx (s329))))) (ret (Fl.nx (s300)))) (sq fun (s330 : ((List Int))) => (ret (Fl.nx (s330))))))) (s295) xs) (sq fun (s331 : ((List Int))) => (ret (Fl.nx (s331)))))) (v286) xs) (sq fun (s332 : ((List Int))) => (bnd (bnd (bnd (ret s332) fun t340 => bnd (bnd (bnd (bnd (ret v276.2) fun t333 => bnd (ret v279.2) fun t334 => grd (mulOk t333 t334) (ret (t333 * t334))) fun t336 => bnd (bnd (ret x.1) fun t335 => ret t335.2.1) fun t337 => grd (mulOk t336 t337) (ret (t336 * t337))) fun t338 => bnd (ret ()) fun t339 => ret (t338, t339)) fun t341 => ret (t340, t341)) w_numbers_of) fun t342 => ret (Fl.rt t342))))))))
def w_Table_product_without_checks (x : (((List (List Int)) × Int × (List (List (List (Int × Int)))) × Unit) × (List (Int × Int)) × (List (Int × Int)) × Unit)) : W (List (Int × Int)) := fnR (wb_Table_product_without_checks x)
def wb_Table_call (x : (((List (List Int)) × Int × (List (List (List (Int × Int)))) × Unit) × (List (Int × Int)) × (List (Int × Int)) × Unit)) : W (Fl Empty Empty (List (Int × Int))) := (bnd (bnd (bnd (bnd (ret x.2.1) fun t265 => bnd (bnd (ret x.2.2.1) fun t263 => bnd (ret ([] : List (List (Int × Int)))) fun t264 => ret (t263 :: t264)) fun t266 => ret (t265 :: t266)) fun t267 => bnd (bnd (bnd (bnd (bnd (ret x.1) fun t257 => ret t257.2.2.1) fun t258 => bnd (ret ()) fun t259 => ret (t258, t259)) fun t260 => grd true (ret (t260.1.length : Int))) fun t261 => bnd (ret ()) fun t262 => ret (t261, t262)) fun t268 => ret (t267, t268)) w_check_rows) fun _ => (bnd (bnd (ret x.1) fun t269 => bnd (bnd (ret x.2.1) fun t273 => bnd (bnd (ret x.2.2.1) fun t271 => bnd (ret ()) fun t272 => ret (t271, t272)) fun t274 => ret (t273, t274)) fun t270 => w_Table_product_without_checks (t269, t270)) fun t275 => ret (Fl.rt t275)))
def w_Table_call (x : (((List (List Int)) × Int × (List (List (List (Int × Int)))) × Unit) × (List (Int × Int)) × (List (Int × Int)) × Unit)) : W (List (Int × Int)) := fnR (wb_Table_call x)
def wb_product_of (x : (((List (List Int)) × Int × (List (List (List (Int × Int)))) × Unit) × (List (Int × Int)) × (List (Int × Int)) × Unit)) : W (Fl Empty Empty (List (Int × Int))) := (bnd (bnd (ret x.1) fun t343 => bnd (bnd (ret x.2.1) fun t347 => bnd (bnd (ret x.2.2.1) fun t345 => bnd (ret ()) fun t346 => ret (t345, t346)) fun t348 => ret (t347, t348)) fun t344 => w_Table_product_without_checks (t343, t344)) fun t349 => ret (Fl.rt t349))
def w_product_of (x : (((List (List Int)) × Int × (List (List (List (Int × Int)))) × Unit) × (List (Int × Int)) × (List (Int × Int)) × Unit)) : W (List (Int × Int)) := fnR (wb_product_of x)
def wb_opposite (x : (((List (List Int)) × Int × (List (List (List (Int × Int)))) × Unit) × Unit)) : W (Fl Empty Empty ((List (List Int)) × Int × (List (List (List (Int × Int)))) × Unit)) := (bnd (bnd (ret x.1) fun t351 => w_Table_products (t351, ())) fun v350 => (bnd (bnd (bnd (bnd (ret x.1) fun t353 => w_Table_size (t353, ())) fun t354 => bnd (ret ()) fun t355 => ret (t354, t355)) fun t356 => grd (rgOk 0 t356.1 1) (ret (stepF 0 1 (rgN 0 t356.1 1)))) fun v352 => (bnd (bnd (bnd (bnd (ret v352) fun xs364 => mapW (fun y357 => (bnd (ret v352) fun xs363 => mapW (fun y358 => (bnd (bnd (ret v350) fun t359 => bnd (ret y358) fun t360 => grd (ixOk t359 t360) (ret (ixAt t359 t360))) fun t361 => bnd (ret y357) fun t362 => grd (ixOk t361 t362) (ret (ixAt t361 t362)))) xs363)) xs364) fun t365 => bnd (ret ()) fun t366 => ret (t365, t366)) w_Table_init) fun t367 => ret (Fl.rt t367))))
def w_opposite (x : (((List (List Int)) × Int × (List (List (List (Int × Int)))) × Unit) × Unit)) : W ((List (List Int)) × Int × (List (List (List (Int × Int)))) × Unit) := fnR (wb_opposite x)
def wb_blended (x : (((List (List Int)) × Int × (List (List (List (Int × Int)))) × Unit) × ((List (List Int)) × Int × (List (List (List (Int × Int)))) × Unit) × (Int × Int) × Unit)) : W (Fl Empty Empty ((List (List Int)) × Int × (List (List (List (Int × Int)))) × Unit)) := (bnd (bnd (bnd (ret x.2.2.1) fun t379 => bnd (ret ()) fun t380 => ret (t379, t380)) w_checked) fun _ => (bnd (bnd (bnd (bnd (ret x.1) fun t381 => w_Table_size (t381, ())) fun t383 => bnd (bnd (ret x.2.1) fun t382 => w_Table_size (t382, ())) fun t384 => ret (!decide (t383 = t384))) fun b385 => ite b385 stuck (ret (Fl.nx ()))) (sq fun (_ : Unit) => (bnd (bnd (bnd (ret x.1) fun t386 => w_Table_products (t386, ())) fun t390 => bnd (bnd (bnd (ret x.2.1) fun t387 => w_Table_products (t387, ())) fun t388 => bnd (ret ()) fun t389 => ret (t388, t389)) fun t391 => ret (t390, t391)) fun t408 => bnd (mapW (fun y392 => (bnd (bnd (bnd (ret y392.1) fun t395 => bnd (bnd (ret y392.2) fun t393 => bnd (ret ()) fun t394 => ret (t393, t394)) fun t396 => ret (t395, t396)) fun t397 => ret (t397.1.zip t397.2.1)) fun xs407 => mapW (fun y398 => (bnd (bnd (ret y398.1) fun t405 => bnd (bnd (bnd (bnd (ret x.2.2.1) fun t401 => bnd (bnd (ret y398.2) fun t399 => bnd (ret ()) fun t400 => ret (t399, t400)) fun t402 => ret (t401, t402)) w_scaled_row) fun t403 => bnd (ret ()) fun t404 => ret (t403, t404)) fun t406 => ret (t405, t406)) w_plus_row)) xs407)) (t408.1.zip t408.2.1)) fun t409 => bnd (w_Table_init (t409, ())) fun t410 => ret (Fl.rt t410)))))
def w_blended (x : (((List (List Int)) × Int × (List (List (List (Int × Int)))) × Unit) × ((List (List Int)) × Int × (List (List (List (Int × Int)))) × Unit) × (Int × Int) × Unit)) : W ((List (List Int)) × Int × (List (List (List (Int × Int)))) × Unit) := fnR (wb_blended x)
def wb_both_ways (x : (((List (List Int)) × Int × (List (List (List (Int × Int)))) × Unit) × (Int × Int) × Unit)) : W (Fl Empty Empty ((List (List Int)) × Int × (List (List (List (Int × Int)))) × Unit)) := (bnd (bnd (bnd (ret x.2.1) fun t368 => bnd (ret ()) fun t369 => ret (t368, t369)) w_checked) fun _ => (bnd (bnd (bnd (ret x.1) fun t376 => bnd (bnd (bnd (bnd (ret x.1) fun t372 => bnd (ret ()) fun t373 => ret (t372, t373)) w_opposite) fun t374 => bnd (bnd (ret x.2.1) fun t370 => bnd (ret ()) fun t371 => ret (t370, t371)) fun t375 => ret (t374, t375)) fun t377 => ret (t376, t377)) w_blended) fun t378 => ret (Fl.rt t378)))
def w_both_ways (x : (((List (List Int)) × Int × (List (List (List (Int × Int)))) × Unit) × (Int × Int) × Unit)) : W ((List (List Int)) × Int × (List (List (List (Int × Int)))) × Unit) := fnR (wb_both_ways x)
def wb_check_square (x : ((List (List (Int × Int))) × Int × Unit)) : W (Fl Unit Empty Unit) := (bnd (bnd (bnd (bnd (bnd (bnd (ret x.1) fun t411 => bnd (ret ()) fun t412 => ret (t411, t412)) fun t413 => grd true (ret (t413.1.length : Int))) fun t414 => bnd (ret x.2.1) fun t415 => ret (!decide (t414 = t415))) fun t427 => ite t427 (ret true) (bnd (bnd (bnd (bnd (ret x.1) fun xs422 => mapW (fun y416 => (bnd (bnd (bnd (ret y416) fun t417 => bnd (ret ()) fun t418 => ret (t417, t418)) fun t419 => grd true (ret (t419.1.length : Int))) fun t420 => bnd (ret x.2.1) fun t421 => ret (decide (t420 = t421)))) xs422) fun t423 => bnd (ret ()) fun t424 => ret (t423, t424)) fun t425 => grd true (ret (t425.1.all id))) fun t426 => ret (!t426))) fun b428 => ite b428 stuck (ret (Fl.nx ()))) (sq fun (_ : Unit) => (ret (Fl.nx ()))))
def w_check_square (x : ((List (List (Int × Int))) × Int × Unit)) : W Unit := fnU (wb_check_square x)
def wb_changed (x : (((List (List Int)) × Int × (List (List (List (Int × Int)))) × Unit) × (List (List (Int × Int))) × (List (List (Int × Int))) × Unit)) : W (Fl Empty Empty ((List (List Int)) × Int × (List (List (List (Int × Int)))) × Unit)) := (bnd (bnd (bnd (ret x.2.1) fun t429 => bnd (ret x.2.2.1) fun t430 => grd (decide (t429.length + t430.length ≤ 16777216)) (ret (t429 ++ t430))) fun xs => forW (fun (s431 : Unit) y432 => (bnd (bnd (bnd (ret y432) fun t433 => bnd (ret ()) fun t434 => ret (t433, t434)) w_check_numbers) fun _ => (ret (Fl.nx ())))) () xs) (sq fun (s435 : Unit) => (bnd (bnd (bnd (ret x.2.1) fun t439 => bnd (bnd (bnd (ret x.1) fun t436 => w_Table_size (t436, ())) fun t437 => bnd (ret ()) fun t438 => ret (t437, t438)) fun t440 => ret (t439, t440)) w_check_square) fun _ => (bnd (bnd (bnd (ret x.2.2.1) fun t444 => bnd (bnd (bnd (ret x.1) fun t441 => w_Table_size (t441, ())) fun t442 => bnd (ret ()) fun t443 => ret (t442, t443)) fun t445 => ret (t444, t445)) w_check_square) fun _ => (bnd (bnd (bnd (bnd (ret x.2.1) fun xs455 => mapW (fun y446 => (bnd (ret x.2.2.1) fun xs454 => mapW (fun y447 => (bnd (bnd (ret x.1) fun t452 => bnd (bnd (ret y446) fun t450 => bnd (bnd (ret y447) fun t448 => bnd (ret ()) fun t449 => ret (t448, t449)) fun t451 => ret (t450, t451)) fun t453 => ret (t452, t453)) w_product_of)) xs454)) xs455) fun t456 => bnd (ret ()) fun t457 => ret (t456, t457)) w_Table_init) fun t458 => ret (Fl.rt t458))))))
def w_changed (x : (((List (List Int)) × Int × (List (List (List (Int × Int)))) × Unit) × (List (List (Int × Int))) × (List (List (Int × Int))) × Unit)) : W ((List (List Int)) × Int × (List (List (List (Int × Int)))) × Unit) := fnR (wb_changed x)
def wb_law_low (x : (Int × Int × Unit)) : W (Fl Empty Empty (Int × Int)) := (bnd (bnd (bnd (bnd (ret x.1) fun t460 => bnd (ret ()) fun t461 => ret (t460, t461)) fun t462 => grd true (ret (if t462.1 < 0 then -t462.1 else t462.1))) fun t468 => bnd (bnd (bnd (bnd (ret x.2.1) fun t463 => bnd (ret ()) fun t464 => ret (t463, t464)) fun t465 => grd true (ret (if t465.1 < 0 then -t465.1 else t465.1))) fun t466 => bnd (ret ()) fun t467 => ret (t466, t467)) fun t469 => ret (t468, t469)) fun v459 => (bnd (whW (fun (s470 : (Int × Int)) => (bnd (ret s470.2) fun t471 => bnd (ret (0 : Int)) fun t472 => ret (!decide (t471 = t472)))) (fun (s470 : (Int × Int)) => (bnd (bnd (ret s470.2) fun t481 => bnd (bnd (bnd (bnd (bnd (ret s470.1) fun t474 => bnd (ret ()) fun t475 => ret (t474, t475)) fun t476 => grd true (ret t476.1)) fun t477 => bnd (ret s470.2) fun t478 => grd (modOk t477 t478) (ret (t477 % t478))) fun t479 => bnd (ret ()) fun t480 => ret (t479, t480)) fun t482 => ret (t481, t482)) fun v473 => (ret (Fl.nx (v473.1, v473.2.1))))) (Int.toNat v459.2.1 + 1) (v459.1, v459.2.1)) (sq fun (s483 : (Int × Int)) => (bnd (bnd (bnd (ret x.2.1) fun t484 => bnd (ret (0 : Int)) fun t485 => ret (decide (t485 < t484))) fun t506 => ite t506 (bnd (bnd (bnd (ret x.1) fun t486 => bnd (ret s483.1) fun t487 => grd (fdivOk t486 t487) (ret (Int.fdiv t486 t487))) fun t492 => bnd (bnd (bnd (ret x.2.1) fun t488 => bnd (ret s483.1) fun t489 => grd (fdivOk t488 t489) (ret (Int.fdiv t488 t489))) fun t490 => bnd (ret ()) fun t491 => ret (t490, t491)) fun t493 => ret (t492, t493)) fun t494 => ret (t494.1, t494.2.1)) (bnd (bnd (bnd (bnd (ret x.1) fun t495 => ret (-t495)) fun t496 => bnd (ret s483.1) fun t497 => grd (fdivOk t496 t497) (ret (Int.fdiv t496 t497))) fun t503 => bnd (bnd (bnd (bnd (ret x.2.1) fun t498 => ret (-t498)) fun t499 => bnd (ret s483.1) fun t500 => grd (fdivOk t499 t500) (ret (Int.fdiv t499 t500))) fun t501 => bnd (ret ()) fun t502 => ret (t501, t502)) fun t504 => ret (t503, t504)) fun t505 => ret (t505.1, t505.2.1))) fun t507 => ret (Fl.rt t507)))))
def w_law_low (x : (Int × Int × Unit)) : W (Int × Int) := fnR (wb_law_low x)
def wb_law_add (x : ((Int × Int) × (Int × Int) × Unit)) : W (Fl Empty Empty (Int × Int)) := (bnd (bnd (bnd (bnd (bnd (bnd (ret x.1) fun t514 => ret t514.1) fun t516 => bnd (bnd (ret x.2.1) fun t515 => ret t515.2) fun t517 => grd (mulOk t516 t517) (ret (t516 * t517))) fun t522 => bnd (bnd (bnd (ret x.2.1) fun t518 => ret t518.1) fun t520 => bnd (bnd (ret x.1) fun t519 => ret t519.2) fun t521 => grd (mulOk t520 t521) (ret (t520 * t521))) fun t523 => ret (t522 + t523)) fun t524 => bnd (bnd (bnd (bnd (ret x.1) fun t508 => ret t508.2) fun t510 => bnd (bnd (ret x.2.1) fun t509 => ret t509.2) fun t511 => grd (mulOk t510 t511) (ret (t510 * t511))) fun t512 => bnd (ret ()) fun t513 => ret (t512, t513)) fun t525 => ret (t524, t525)) w_law_low) fun t526 => ret (Fl.rt t526))
def w_law_add (x : ((Int × Int) × (Int × Int) × Unit)) : W (Int × Int) := fnR (wb_law_add x)
def wb_law_mul (x : ((Int × Int) × (Int × Int) × Unit)) : W (Fl Empty Empty (Int × Int)) := (bnd (bnd (bnd (bnd (bnd (ret x.1) fun t533 => ret t533.1) fun t535 => bnd (bnd (ret x.2.1) fun t534 => ret t534.1) fun t536 => grd (mulOk t535 t536) (ret (t535 * t536))) fun t537 => bnd (bnd (bnd (bnd (ret x.1) fun t527 => ret t527.2) fun t529 => bnd (bnd (ret x.2.1) fun t528 => ret t528.2) fun t530 => grd (mulOk t529 t530) (ret (t529 * t530))) fun t531 => bnd (ret ()) fun t532 => ret (t531, t532)) fun t538 => ret (t537, t538)) w_law_low) fun t539 => ret (Fl.rt t539))
def w_law_mul (x : ((Int × Int) × (Int × Int) × Unit)) : W (Int × Int) := fnR (wb_law_mul x)
def wb_law_number (x : (Bool × Unit)) : W (Fl Empty Empty (Int × Int)) := (bnd (bnd (bnd (ret (7 : Int)) fun t541 => bnd (ret ()) fun t542 => ret (t541, t542)) (fun x => pickW x.1)) fun v540 => (bnd (bnd (bnd (ret v540) fun t543 => bnd (ret (2 : Int)) fun t544 => ret (decide (t543 < t544))) fun b545 => ite b545 (bnd (bnd (bnd (ret v540) fun t548 => bnd (bnd (ret (1 : Int)) fun t546 => bnd (ret ()) fun t547 => ret (t546, t547)) fun t549 => ret (t548, t549)) fun t550 => ret (t550.1, t550.2.1)) fun t551 => ret (Fl.rt t551)) (ret (Fl.nx ()))) (sq fun (_ : Unit) => (bnd (bnd (ret x.1) fun t567 => ite t567 (bnd (bnd (ret (9 : Int)) fun t561 => bnd (bnd (ret (9 : Int)) fun t559 => bnd (bnd (ret (9 : Int)) fun t557 => bnd (bnd (ret (99 : Int)) fun t555 => bnd (bnd (ret (9999 : Int)) fun t553 => bnd (ret ([] : List Int)) fun t554 => ret (t553 :: t554)) fun t556 => ret (t555 :: t556)) fun t558 => ret (t557 :: t558)) fun t560 => ret (t559 :: t560)) fun t562 => ret (t561 :: t562)) fun t565 => bnd (bnd (ret v540) fun t563 => bnd (ret (2 : Int)) fun t564 => ret (t563 - t564)) fun t566 => grd (ixOk t565 t566) (ret (ixAt t565 t566))) (ret (9 : Int))) fun v552 => (bnd (bnd (bnd (ret (1 : Int)) fun t571 => bnd (bnd (bnd (ret v552) fun t569 => bnd (ret ()) fun t570 => ret (t569, t570)) (fun x => pickW x.1)) fun t572 => ret (t571 + t572)) fun t587 => bnd (bnd (bnd (ret (1 : Int)) fun t583 => bnd (bnd (bnd (bnd (bnd (ret (1 : Int)) fun t575 => bnd (bnd (ret v552) fun t573 => bnd (ret ([] : List Int)) fun t574 => ret (t573 :: t574)) fun t576 => ret (t575 :: t576)) fun t579 => bnd (bnd (bnd (ret (2 : Int)) fun t577 => bnd (ret ()) fun t578 => ret (t577, t578)) (fun x => pickW x.1)) fun t580 => grd (ixOk t579 t580) (ret (ixAt t579 t580))) fun t581 => bnd (ret ()) fun t582 => ret (t581, t582)) (fun x => pickW x.1)) fun t584 => ret (t583 + t584)) fun t585 => bnd (ret ()) fun t586 => ret (t585, t586)) fun t588 => ret (t587, t588)) fun v568 => (bnd (bnd (bnd (bnd (bnd (ret v568.1) fun t594 => bnd (bnd (bnd (ret v568.1) fun t591 => ret (-t591)) fun t592 => bnd (ret ([] : List Int)) fun t593 => ret (t592 :: t593)) fun t595 => ret (t594 :: t595)) fun t598 => bnd (bnd (bnd (ret (2 : Int)) fun t596 => bnd (ret ()) fun t597 => ret (t596, t597)) (fun x => pickW x.1)) fun t599 => grd (ixOk t598 t599) (ret (ixAt t598 t599))) fun t600 => bnd (bnd (ret v568.2.1) fun t589 => bnd (ret ()) fun t590 => ret (t589, t590)) fun t601 => ret (t600, t601)) w_law_low) fun t602 => ret (Fl.rt t602)))))))
def w_law_number (x : (Bool × Unit)) : W (Int × Int) := fnR (wb_law_number x)
def w_law_alike : Nat → (D × D × Unit) → W Bool
  | 0, _ => stuck
  | n + 1, x => fnR ((bnd (bnd (bnd (ret x.2.1) fun t603 => ret (nonD t603)) fun b604 => ite b604 (bnd (bnd (ret x.1) fun t605 => ret (nonD t605)) fun t606 => ret (Fl.rt t606)) (ret (Fl.nx ()))) (sq fun (_ : Unit) => (bnd (bnd (bnd (ret x.2.1) fun t607 => ret (isD "list" t607 || isD "tuple" t607)) fun b608 => ite b608 (bnd (bnd (bnd (ret x.2.1) fun t610 => ret (isD "list" t610)) fun t613 => ite t613 (bnd (ret x.1) fun t611 => ret (isD "list" t611)) (bnd (ret x.1) fun t612 => ret (isD "tuple" t612))) fun v609 => (bnd (bnd (bnd (bnd (ret v609) fun t614 => ret (!t614)) fun t623 => ite t623 (ret true) (bnd (bnd (bnd (ret x.1) fun t615 => bnd (ret ()) fun t616 => ret (t615, t616)) fun t617 => grd (seqD t617.1) (ret ((itemsD t617.1).length : Int))) fun t621 => bnd (bnd (bnd (ret x.2.1) fun t618 => bnd (ret ()) fun t619 => ret (t618, t619)) fun t620 => grd (seqD t620.1) (ret ((itemsD t620.1).length : Int))) fun t622 => ret (!decide (t621 = t622)))) fun b624 => ite b624 (bnd (ret false) fun t625 => ret (Fl.rt t625)) (ret (Fl.nx ()))) (sq fun (_ : Unit) => (bnd (bnd (bnd (bnd (bnd (bnd (ret x.2.1) fun t626 => bnd (ret ()) fun t627 => ret (t626, t627)) fun t628 => grd (seqD t628.1) (ret ((itemsD t628.1).length : Int))) fun t629 => bnd (ret ()) fun t630 => ret (t629, t630)) fun t631 => grd (rngOk 0 t631.1) (ret (rangeF 0 t631.1.toNat))) fun xs => forW (fun (s632 : Unit) y633 => (bnd (bnd (bnd (bnd (bnd (bnd (ret x.1) fun t638 => bnd (ret y633) fun t639 => grd (seqD t638 && ixOk (itemsD t638) t639) (ret (ixAt (itemsD t638) t639))) fun t640 => bnd (bnd (bnd (ret x.2.1) fun t634 => bnd (ret y633) fun t635 => grd (seqD t634 && ixOk (itemsD t634) t635) (ret (ixAt (itemsD t634) t635))) fun t636 => bnd (ret ()) fun t637 => ret (t636, t637)) fun t641 => ret (t640, t641)) (w_law_alike n)) fun t642 => ret (!t642)) fun b643 => ite b643 (bnd (ret false) fun t644 => ret (Fl.rt t644)) (ret (Fl.nx ()))) (sq fun (_ : Unit) => (ret (Fl.nx ()))))) () xs) (sq fun (s645 : Unit) => (bnd (ret true) fun t646 => ret (Fl.rt t646))))))) (ret (Fl.nx ()))) (sq fun (_ : Unit) => (bnd (bnd (bnd (ret x.1) fun t647 => ret (isD "int" t647)) fun t655 => ite t655 (bnd (bnd (bnd (ret x.1) fun t648 => ret (isD "bool" t648)) fun t650 => bnd (bnd (ret x.2.1) fun t649 => ret (isD "bool" t649)) fun t651 => ret (t650 == t651)) fun t654 => ite t654 (bnd (ret x.1) fun t652 => bnd (ret x.2.1) fun t653 => grd (SeqAt.shaped (toP t652) && SeqAt.shaped (toP t653)) (ret (PyData.eqv (toP t652) (toP t653)))) (ret false)) (ret false)) fun t656 => ret (Fl.rt t656)))))))
def wb_law_products (x : (Int × Bool × Unit)) : W (Fl Empty Empty (List (List (List (Int × Int))))) := (bnd (bnd (bnd (ret (4 : Int)) fun t657 => bnd (ret ()) fun t658 => ret (t657, t658)) (fun x => pickW x.1)) fun v659 => (bnd (bnd (bnd (bnd (ret x.1) fun t661 => bnd (ret ()) fun t662 => ret (t661, t662)) fun t663 => grd (rngOk 0 t663.1) (ret (rangeF 0 t663.1.toNat))) fun xs => forW (fun (s664 : ((List (List (List (Int × Int)))))) y665 => (bnd (ret ([] : List (List (Int × Int)))) fun v666 => (bnd (bnd (bnd (bnd (ret x.1) fun t668 => bnd (ret ()) fun t669 => ret (t668, t669)) fun t670 => grd (rngOk 0 t670.1) (ret (rangeF 0 t670.1.toNat))) fun xs => forW (fun (s671 : ((List (List (Int × Int))))) y672 => (bnd (bnd (bnd (bnd (bnd (ret (0 : Int)) fun t676 => bnd (bnd (ret (1 : Int)) fun t674 => bnd (ret ()) fun t675 => ret (t674, t675)) fun t677 => ret (t676, t677)) fun t678 => ret (t678.1, t678.2.1)) fun t679 => bnd (ret ([] : List (Int × Int))) fun t680 => ret (t679 :: t680)) fun t681 => bnd (ret x.1) fun t682 => grd (repOk t681.length t682) (ret (List.replicate t682.toNat t681).flatten)) fun v673 => (bnd (bnd (bnd (ret v659) fun t684 => bnd (ret (3 : Int)) fun t685 => ret (decide (t684 = t685))) fun b686 => ite b686 (bnd (bnd (bnd (bnd (ret x.2.1) fun t687 => bnd (ret ()) fun t688 => ret (t687, t688)) w_law_number) fun t692 => bnd (bnd (bnd (ret x.1) fun t689 => bnd (ret ()) fun t690 => ret (t689, t690)) (fun x => pickW x.1)) fun t693 => grd (ixOk v673 t693) (ret (t693, t692))) fun v691 => (ret (Fl.nx ((v673.set ((ixN v673.length v691.1).getD 0) v691.2))))) (bnd (bnd (bnd (bnd (ret v659) fun t694 => bnd (ret (0 : Int)) fun t695 => ret (decide (t694 = t695))) fun t700 => ite t700 (ret true) (bnd (bnd (bnd (ret (2 : Int)) fun t696 => bnd (ret ()) fun t697 => ret (t696, t697)) (fun x => pickW x.1)) fun t698 => bnd (ret (0 : Int)) fun t699 => ret (decide (t698 = t699)))) fun b701 => ite b701 (bnd (bnd (bnd (bnd (ret x.1) fun t703 => bnd (ret ()) fun t704 => ret (t703, t704)) fun t705 => grd (rngOk 0 t705.1) (ret (rangeF 0 t705.1.toNat))) fun xs709 => mapW (fun y706 => (bnd (bnd (ret x.2.1) fun t707 => bnd (ret ()) fun t708 => ret (t707, t708)) w_law_number)) xs709) fun v702 => (ret (Fl.nx (v702)))) (ret (Fl.nx (v673)))) (sq fun (s710 : ((List (Int × Int)))) => (ret (Fl.nx (s710)))))) (sq fun (s711 : ((List (Int × Int)))) => (bnd (bnd (bnd (bnd (ret v659) fun t712 => bnd (ret (2 : Int)) fun t713 => ret (decide (t712 = t713))) fun t716 => ite t716 (bnd (ret y672) fun t714 => bnd (ret y665) fun t715 => ret (decide (t714 < t715))) (ret false)) fun b717 => ite b717 (bnd (bnd (bnd (bnd (bnd (ret y672) fun t719 => grd (ixOk s664 t719) (ret (ixAt s664 t719))) fun t720 => bnd (ret y665) fun t721 => grd (ixOk t720 t721) (ret (ixAt t720 t721))) fun t722 => bnd (ret ()) fun t723 => ret (t722, t723)) fun t724 => grd true (ret t724.1)) fun v718 => (ret (Fl.nx (v718)))) (ret (Fl.nx (s711)))) (sq fun (s725 : ((List (Int × Int)))) => (bnd (bnd (ret s725) fun t727 => grd (decide (s671.length < 16777216)) (ret t727)) fun v726 => (ret (Fl.nx ((s671 ++ [v726]))))))))))) (v666) xs) (sq fun (s728 : ((List (List (Int × Int))))) => (bnd (bnd (ret s728) fun t730 => grd (decide (s664.length < 16777216)) (ret t730)) fun v729 => (ret (Fl.nx ((s664 ++ [v729]))))))))) (([] : (List (List (List (Int × Int)))))) xs) (sq fun (s731 : ((List (List (List (Int × Int)))))) => (bnd (ret s731) fun t732 => ret (Fl.rt t732)))))
def w_law_products (x : (Int × Bool × Unit)) : W (List (List (List (Int × Int)))) := fnR (wb_law_products x)
def wb_law_times (x : ((List (List (List (Int × Int)))) × (List (Int × Int)) × (List (Int × Int)) × Unit)) : W (Fl Empty Empty (List (Int × Int))) := (bnd (bnd (bnd (bnd (bnd (ret (0 : Int)) fun t736 => bnd (bnd (ret (1 : Int)) fun t734 => bnd (ret ()) fun t735 => ret (t734, t735)) fun t737 => ret (t736, t737)) fun t738 => ret (t738.1, t738.2.1)) fun t739 => bnd (ret ([] : List (Int × Int))) fun t740 => ret (t739 :: t740)) fun t744 => bnd (bnd (bnd (ret x.1) fun t741 => bnd (ret ()) fun t742 => ret (t741, t742)) fun t743 => grd true (ret (t743.1.length : Int))) fun t745 => grd (repOk t744.length t745) (ret (List.replicate t745.toNat t744).flatten)) fun v733 => (bnd (bnd (bnd (bnd (bnd (bnd (ret x.1) fun t746 => bnd (ret ()) fun t747 => ret (t746, t747)) fun t748 => grd true (ret (t748.1.length : Int))) fun t749 => bnd (ret ()) fun t750 => ret (t749, t750)) fun t751 => grd (rngOk 0 t751.1) (ret (rangeF 0 t751.1.toNat))) fun xs => forW (fun (s752 : ((List (Int × Int)))) y753 => (bnd (bnd (bnd (bnd (bnd (bnd (ret x.1) fun t754 => bnd (ret ()) fun t755 => ret (t754, t755)) fun t756 => grd true (ret (t756.1.length : Int))) fun t757 => bnd (ret ()) fun t758 => ret (t757, t758)) fun t759 => grd (rngOk 0 t759.1) (ret (rangeF 0 t759.1.toNat))) fun xs => forW (fun (s760 : ((List (Int × Int)))) y761 => (bnd (bnd (bnd (bnd (ret x.2.1) fun t767 => bnd (ret y753) fun t768 => grd (ixOk t767 t768) (ret (ixAt t767 t768))) fun t769 => bnd (bnd (bnd (ret x.2.2.1) fun t763 => bnd (ret y761) fun t764 => grd (ixOk t763 t764) (ret (ixAt t763 t764))) fun t765 => bnd (ret ()) fun t766 => ret (t765, t766)) fun t770 => ret (t769, t770)) w_law_mul) fun v762 => (bnd (bnd (bnd (bnd (ret v762) fun t771 => ret t771.1) fun t772 => bnd (ret (0 : Int)) fun t773 => ret (!decide (t772 = t773))) fun b774 => ite b774 (bnd (bnd (bnd (bnd (ret s760) fun t782 => bnd (bnd (bnd (bnd (ret x.1) fun t776 => bnd (ret y753) fun t777 => grd (ixOk t776 t777) (ret (ixAt t776 t777))) fun t778 => bnd (ret y761) fun t779 => grd (ixOk t778 t779) (ret (ixAt t778 t779))) fun t780 => bnd (ret ()) fun t781 => ret (t780, t781)) fun t783 => ret (t782, t783)) fun t784 => ret (t784.1.zip t784.2.1)) fun xs798 => mapW (fun y785 => (bnd (bnd (bnd (ret y785.2) fun t786 => ret t786.1) fun t787 => bnd (ret (0 : Int)) fun t788 => ret (decide (t787 = t788))) fun t797 => ite t797 (ret y785.1) (bnd (bnd (ret y785.1) fun t795 => bnd (bnd (bnd (bnd (ret v762) fun t791 => bnd (bnd (ret y785.2) fun t789 => bnd (ret ()) fun t790 => ret (t789, t790)) fun t792 => ret (t791, t792)) w_law_mul) fun t793 => bnd (ret ()) fun t794 => ret (t793, t794)) fun t796 => ret (t795, t796)) w_law_add))) xs798) fun v775 => (ret (Fl.nx (v775)))) (ret (Fl.nx (s760)))) (sq fun (s799 : ((List (Int × Int)))) => (ret (Fl.nx (s799))))))) (s752) xs) (sq fun (s800 : ((List (Int × Int)))) => (ret (Fl.nx (s800)))))) (v733) xs) (sq fun (s801 : ((List (Int × Int)))) => (bnd (ret s801) fun t802 => ret (Fl.rt t802)))))
def w_law_times (x : ((List (List (List (Int × Int)))) × (List (Int × Int)) × (List (Int × Int)) × Unit)) : W (List (Int × Int)) := fnR (wb_law_times x)
def w_law_copied : Nat → (D × Unit) → W D
  | 0, _ => stuck
  | n + 1, x => fnR ((bnd (bnd (bnd (ret x.1) fun t803 => ret (isD "list" t803)) fun t810 => ite t810 (bnd (bnd (bnd (ret x.1) fun t804 => grd (isLst t804) (ret (itemsD t804))) fun xs808 => mapW (fun y805 => (bnd (bnd (ret y805) fun t806 => bnd (ret ()) fun t807 => ret (t806, t807)) (w_law_copied n))) xs808) fun t809 => ret (D.lst (List.map (fun z => z) t809))) (ret x.1)) fun t811 => ret (Fl.rt t811)))
def wb_law_plus (x : ((List (Int × Int)) × (Int × Int) × (List (Int × Int)) × Unit)) : W (Fl Empty Empty (List (Int × Int))) := (bnd (bnd (bnd (bnd (ret x.1) fun t814 => bnd (bnd (ret x.2.2.1) fun t812 => bnd (ret ()) fun t813 => ret (t812, t813)) fun t815 => ret (t814, t815)) fun t816 => ret (t816.1.zip t816.2.1)) fun xs826 => mapW (fun y817 => (bnd (bnd (ret y817.1) fun t824 => bnd (bnd (bnd (bnd (ret x.2.1) fun t820 => bnd (bnd (ret y817.2) fun t818 => bnd (ret ()) fun t819 => ret (t818, t819)) fun t821 => ret (t820, t821)) w_law_mul) fun t822 => bnd (ret ()) fun t823 => ret (t822, t823)) fun t825 => ret (t824, t825)) w_law_add)) xs826) fun t827 => ret (Fl.rt t827))
def w_law_plus (x : ((List (Int × Int)) × (Int × Int) × (List (Int × Int)) × Unit)) : W (List (Int × Int)) := fnR (wb_law_plus x)
def wb_law_image (x : ((List (List (Int × Int))) × (List (Int × Int)) × Unit)) : W (Fl Empty Empty (List (Int × Int))) := (bnd (bnd (bnd (bnd (bnd (ret (0 : Int)) fun t831 => bnd (bnd (ret (1 : Int)) fun t829 => bnd (ret ()) fun t830 => ret (t829, t830)) fun t832 => ret (t831, t832)) fun t833 => ret (t833.1, t833.2.1)) fun t834 => bnd (ret ([] : List (Int × Int))) fun t835 => ret (t834 :: t835)) fun t839 => bnd (bnd (bnd (ret x.2.1) fun t836 => bnd (ret ()) fun t837 => ret (t836, t837)) fun t838 => grd true (ret (t838.1.length : Int))) fun t840 => grd (repOk t839.length t840) (ret (List.replicate t840.toNat t839).flatten)) fun v828 => (bnd (bnd (bnd (bnd (ret x.2.1) fun t843 => bnd (bnd (ret x.1) fun t841 => bnd (ret ()) fun t842 => ret (t841, t842)) fun t844 => ret (t843, t844)) fun t845 => ret (t845.1.zip t845.2.1)) fun xs => forW (fun (s846 : ((List (Int × Int)))) y847 => (bnd (bnd (bnd (ret s846) fun t853 => bnd (bnd (ret y847.1) fun t851 => bnd (bnd (ret y847.2) fun t849 => bnd (ret ()) fun t850 => ret (t849, t850)) fun t852 => ret (t851, t852)) fun t854 => ret (t853, t854)) w_law_plus) fun v848 => (ret (Fl.nx (v848))))) (v828) xs) (sq fun (s855 : ((List (Int × Int)))) => (bnd (ret s855) fun t856 => ret (Fl.rt t856)))))
def w_law_image (x : ((List (List (Int × Int))) × (List (Int × Int)) × Unit)) : W (List (Int × Int)) := fnR (wb_law_image x)
def wb_law_map (x : (Int × Unit)) : W (Fl Empty Empty (List (List (Int × Int)))) := (bnd (bnd (bnd (ret (5 : Int)) fun t858 => bnd (ret ()) fun t859 => ret (t858, t859)) (fun x => pickW x.1)) fun v857 => (bnd (bnd (bnd (bnd (ret x.1) fun t861 => bnd (ret ()) fun t862 => ret (t861, t862)) fun t863 => grd (rngOk 0 t863.1) (ret (rangeF 0 t863.1.toNat))) fun xs872 => mapW (fun y864 => (bnd (bnd (bnd (ret x.1) fun t865 => bnd (ret ()) fun t866 => ret (t865, t866)) fun t867 => grd (rngOk 0 t867.1) (ret (rangeF 0 t867.1.toNat))) fun xs871 => mapW (fun y868 => (bnd (bnd (ret false) fun t869 => bnd (ret ()) fun t870 => ret (t869, t870)) w_law_number)) xs871)) xs872) fun v860 => (bnd (bnd (bnd (ret v857) fun t874 => bnd (ret (0 : Int)) fun t875 => ret (decide (t874 = t875))) fun b876 => ite b876 (bnd (bnd (bnd (bnd (ret x.1) fun t877 => bnd (ret ()) fun t878 => ret (t877, t878)) fun t879 => grd (rngOk 0 t879.1) (ret (rangeF 0 t879.1.toNat))) fun xs896 => mapW (fun y880 => (bnd (bnd (bnd (ret x.1) fun t881 => bnd (ret ()) fun t882 => ret (t881, t882)) fun t883 => grd (rngOk 0 t883.1) (ret (rangeF 0 t883.1.toNat))) fun xs895 => mapW (fun y884 => (bnd (bnd (bnd (bnd (bnd (ret y884) fun t885 => bnd (ret y880) fun t886 => ret (decide (t885 = t886))) fun t887 => bnd (ret ()) fun t888 => ret (t887, t888)) fun t889 => grd true (ret (if t889.1 then 1 else 0))) fun t892 => bnd (bnd (ret (1 : Int)) fun t890 => bnd (ret ()) fun t891 => ret (t890, t891)) fun t893 => ret (t892, t893)) fun t894 => ret (t894.1, t894.2.1))) xs895)) xs896) fun t897 => ret (Fl.rt t897)) (ret (Fl.nx ()))) (sq fun (_ : Unit) => (bnd (bnd (bnd (ret v857) fun t898 => bnd (ret (1 : Int)) fun t899 => ret (decide (t898 = t899))) fun b900 => ite b900 (bnd (bnd (bnd (bnd (ret x.1) fun t901 => bnd (ret ()) fun t902 => ret (t901, t902)) fun t903 => grd (rngOk 0 t903.1) (ret (rangeF 0 t903.1.toNat))) fun xs909 => mapW (fun y904 => (bnd (bnd (bnd (ret (0 : Int)) fun t905 => grd (ixOk v860 t905) (ret (ixAt v860 t905))) fun t906 => bnd (ret ()) fun t907 => ret (t906, t907)) fun t908 => grd true (ret t908.1))) xs909) fun t910 => ret (Fl.rt t910)) (ret (Fl.nx ()))) (sq fun (_ : Unit) => (bnd (bnd (bnd (ret v857) fun t911 => bnd (ret (2 : Int)) fun t912 => ret (decide (t911 = t912))) fun b913 => ite b913 (bnd (bnd (bnd (bnd (bnd (bnd (ret (0 : Int)) fun t923 => bnd (bnd (ret (1 : Int)) fun t921 => bnd (ret ()) fun t922 => ret (t921, t922)) fun t924 => ret (t923, t924)) fun t925 => ret (t925.1, t925.2.1)) fun t926 => bnd (ret ([] : List (Int × Int))) fun t927 => ret (t926 :: t927)) fun t928 => bnd (ret x.1) fun t929 => grd (repOk t928.length t929) (ret (List.replicate t929.toNat t928).flatten)) fun t933 => bnd (bnd (bnd (ret x.1) fun t930 => bnd (ret ()) fun t931 => ret (t930, t931)) (fun x => pickW x.1)) fun t934 => grd (ixOk v860 t934) (ret (t934, t933))) fun v932 => (ret (Fl.nx ((v860.set ((ixN v860.length v932.1).getD 0) v932.2))))) (ret (Fl.nx (v860)))) (sq fun (s935 : ((List (List (Int × Int))))) => (bnd (ret s935) fun t936 => ret (Fl.rt t936))))))))))
def w_law_map (x : (Int × Unit)) : W (List (List (Int × Int))) := fnR (wb_law_map x)
def wb_law_is (x : (((List (List Int)) × Int × (List (List (List (Int × Int)))) × Unit) × (List (List (List (Int × Int)))) × Int × Unit)) : W (Fl Empty Empty Bool) := (bnd (bnd (bnd (ret x.1) fun t937 => ret true) fun t958 => ite t958 (bnd (bnd (bnd (bnd (bnd (bnd (ret x.1) fun t947 => w_Table_size (t947, ())) fun t949 => ret (D.int t949)) fun t953 => bnd (bnd (bnd (bnd (ret x.1) fun t948 => w_Table_products (t948, ())) fun t950 => ret (D.lst (List.map (fun z => (D.lst (List.map (fun z => (D.lst (List.map (fun z => (D.tup [(D.int z.1), (D.int z.2)])) z))) z))) t950))) fun t951 => bnd (ret ([] : List D)) fun t952 => ret (t951 :: t952)) fun t954 => ret (t953 :: t954)) fun t955 => ret (D.lst (List.map (fun z => z) t955))) fun t956 => bnd (bnd (bnd (bnd (bnd (ret x.2.2.1) fun t938 => ret (D.int t938)) fun t942 => bnd (bnd (bnd (ret x.2.1) fun t939 => ret (D.lst (List.map (fun z => (D.lst (List.map (fun z => (D.lst (List.map (fun z => (D.tup [(D.int z.1), (D.int z.2)])) z))) z))) t939))) fun t940 => bnd (ret ([] : List D)) fun t941 => ret (t940 :: t941)) fun t943 => ret (t942 :: t943)) fun t944 => ret (D.lst (List.map (fun z => z) t944))) fun t945 => bnd (ret ()) fun t946 => ret (t945, t946)) fun t957 => ret (t956, t957)) (w_law_alike 6)) (ret false)) fun t959 => ret (Fl.rt t959))
def w_law_is (x : (((List (List Int)) × Int × (List (List (List (Int × Int)))) × Unit) × (List (List (List (Int × Int)))) × Int × Unit)) : W Bool := fnR (wb_law_is x)
def w_law_wholes : Nat → (D × Unit) → W D
  | 0, _ => stuck
  | n + 1, x => fnR ((bnd (bnd (bnd (ret x.1) fun t1212 => ret (isD "list" t1212)) fun t1227 => ite t1227 (bnd (bnd (bnd (ret x.1) fun t1213 => grd (isLst t1213) (ret (itemsD t1213))) fun xs1217 => mapW (fun y1214 => (bnd (bnd (ret y1214) fun t1215 => bnd (ret ()) fun t1216 => ret (t1215, t1216)) (w_law_wholes n))) xs1217) fun t1218 => ret (D.lst (List.map (fun z => z) t1218))) (bnd (bnd (bnd (bnd (ret x.1) fun t1219 => bnd (ret (0 : Int)) fun t1220 => grd (seqD t1219 && ixOk (itemsD t1219) t1220) (ret (ixAt (itemsD t1219) t1220))) fun t1223 => bnd (bnd (ret (1 : Int)) fun t1221 => bnd (ret ()) fun t1222 => ret (t1221, t1222)) fun t1224 => ret (t1223, t1224)) fun t1225 => ret (t1225.1, t1225.2.1)) fun t1226 => ret (D.tup [t1226.1, (D.int t1226.2)]))) fun t1228 => ret (Fl.rt t1228)))
def wb_law_changed_right (x : (((List (List Int)) × Int × (List (List (List (Int × Int)))) × Unit) × (List (List (List (Int × Int)))) × Unit)) : W (Fl Empty Empty Bool) := (bnd (bnd (bnd (ret x.2.1) fun t961 => bnd (ret ()) fun t962 => ret (t961, t962)) fun t963 => grd true (ret (t963.1.length : Int))) fun v960 => (bnd (bnd (bnd (bnd (bnd (ret v960) fun t965 => bnd (ret ()) fun t966 => ret (t965, t966)) w_law_map) fun t971 => bnd (bnd (bnd (bnd (ret v960) fun t967 => bnd (ret ()) fun t968 => ret (t967, t968)) w_law_map) fun t969 => bnd (ret ()) fun t970 => ret (t969, t970)) fun t972 => ret (t971, t972)) fun t973 => ret (t973.1, t973.2.1)) fun v964 => (bnd (bnd (bnd (ret v960) fun t974 => bnd (ret (4 : Int)) fun t975 => ret (decide (t975 < t974))) fun b976 => ite b976 (bnd (bnd (bnd (bnd (ret v964.1) fun t981 => ret (List.map (fun z => (List.map (fun z => (z.1, (1 : Int))) z)) t981)) fun t988 => bnd (bnd (bnd (ret v964.2) fun t985 => ret (List.map (fun z => (List.map (fun z => (z.1, (1 : Int))) z)) t985)) fun t986 => bnd (ret ()) fun t987 => ret (t986, t987)) fun t989 => ret (t988, t989)) fun t990 => ret (t990.1, t990.2.1)) fun v977 => (ret (Fl.nx (v977.1, v977.2)))) (ret (Fl.nx (v964.1, v964.2)))) (sq fun (s991 : ((List (List (Int × Int))) × (List (List (Int × Int))))) => (bnd (bnd (bnd (bnd (bnd (ret (4 : Int)) fun t992 => bnd (ret ()) fun t993 => ret (t992, t993)) (fun x => pickW x.1)) fun t994 => bnd (ret (0 : Int)) fun t995 => ret (decide (t994 = t995))) fun b996 => ite b996 (bnd (ret s991.1) fun v997 => (ret (Fl.nx (v997)))) (ret (Fl.nx (s991.2)))) (sq fun (s998 : ((List (List (Int × Int))))) => (bnd (bnd (ret s991.1) fun xs1009 => mapW (fun y1000 => (bnd (ret s998) fun xs1008 => mapW (fun y1001 => (bnd (bnd (ret x.2.1) fun t1006 => bnd (bnd (ret y1000) fun t1004 => bnd (bnd (ret y1001) fun t1002 => bnd (ret ()) fun t1003 => ret (t1002, t1003)) fun t1005 => ret (t1004, t1005)) fun t1007 => ret (t1006, t1007)) w_law_times)) xs1008)) xs1009) fun v999 => (bnd (bnd (bnd (ret s991.1) fun t1014 => ret t1014) fun t1021 => bnd (bnd (bnd (ret s998) fun t1018 => ret t1018) fun t1019 => bnd (ret ()) fun t1020 => ret (t1019, t1020)) fun t1022 => ret (t1021, t1022)) fun v1010 => (bnd (bnd (bnd (ret x.1) fun t1028 => bnd (bnd (ret v1010.1) fun t1026 => bnd (bnd (ret v1010.2.1) fun t1024 => bnd (ret ()) fun t1025 => ret (t1024, t1025)) fun t1027 => ret (t1026, t1027)) fun t1029 => ret (t1028, t1029)) w_changed) fun v1023 => (bnd (bnd (bnd (bnd (bnd (bnd (ret v1023) fun t1034 => bnd (bnd (ret v999) fun t1032 => bnd (bnd (ret v960) fun t1030 => bnd (ret ()) fun t1031 => ret (t1030, t1031)) fun t1033 => ret (t1032, t1033)) fun t1035 => ret (t1034, t1035)) w_law_is) fun t1036 => ret (!t1036)) fun t1051 => ite t1051 (ret true) (bnd (bnd (bnd (bnd (bnd (ret v1010.2.1) fun t1045 => bnd (bnd (ret v1010.1) fun t1043 => bnd (bnd (ret x.1) fun t1041 => bnd (ret ()) fun t1042 => ret (t1041, t1042)) fun t1044 => ret (t1043, t1044)) fun t1046 => ret (t1045, t1046)) fun t1047 => w_changed (t1047.2.2.1, t1047.2.1, t1047.1, ())) fun t1048 => bnd (bnd (ret v999) fun t1039 => bnd (bnd (ret v960) fun t1037 => bnd (ret ()) fun t1038 => ret (t1037, t1038)) fun t1040 => ret (t1039, t1040)) fun t1049 => ret (t1048, t1049)) w_law_is) fun t1050 => ret (!t1050))) fun b1052 => ite b1052 (bnd (ret false) fun t1053 => ret (Fl.rt t1053)) (ret (Fl.nx ()))) (sq fun (_ : Unit) => (bnd (bnd (bnd (bnd (bnd (ret (2 : Int)) fun t1055 => bnd (ret ()) fun t1056 => ret (t1055, t1056)) fun t1057 => grd (rngOk 0 t1057.1) (ret (rangeF 0 t1057.1.toNat))) fun xs1066 => mapW (fun y1058 => (bnd (bnd (bnd (ret v960) fun t1059 => bnd (ret ()) fun t1060 => ret (t1059, t1060)) fun t1061 => grd (rngOk 0 t1061.1) (ret (rangeF 0 t1061.1.toNat))) fun xs1065 => mapW (fun y1062 => (bnd (bnd (ret false) fun t1063 => bnd (ret ()) fun t1064 => ret (t1063, t1064)) w_law_number)) xs1065)) xs1066) pairL) fun v1054 => (bnd (bnd (bnd (bnd (bnd (bnd (bnd (ret v1023) fun t1084 => bnd (bnd (ret v1054.1) fun t1088 => bnd (bnd (ret v1054.2) fun t1086 => bnd (ret ()) fun t1087 => ret (t1086, t1087)) fun t1089 => ret (t1088, t1089)) fun t1085 => w_Table_call (t1084, t1085)) fun t1090 => ret (D.lst (List.map (fun z => (D.tup [(D.int z.1), (D.int z.2)])) t1090))) fun t1091 => bnd (bnd (bnd (bnd (bnd (ret x.2.1) fun t1079 => bnd (bnd (bnd (bnd (ret s991.1) fun t1075 => bnd (bnd (ret v1054.1) fun t1073 => bnd (ret ()) fun t1074 => ret (t1073, t1074)) fun t1076 => ret (t1075, t1076)) w_law_image) fun t1077 => bnd (bnd (bnd (bnd (ret s998) fun t1069 => bnd (bnd (ret v1054.2) fun t1067 => bnd (ret ()) fun t1068 => ret (t1067, t1068)) fun t1070 => ret (t1069, t1070)) w_law_image) fun t1071 => bnd (ret ()) fun t1072 => ret (t1071, t1072)) fun t1078 => ret (t1077, t1078)) fun t1080 => ret (t1079, t1080)) w_law_times) fun t1081 => ret (D.lst (List.map (fun z => (D.tup [(D.int z.1), (D.int z.2)])) t1081))) fun t1082 => bnd (ret ()) fun t1083 => ret (t1082, t1083)) fun t1092 => ret (t1091, t1092)) (w_law_alike 6)) fun t1093 => ret (!t1093)) fun b1094 => ite b1094 (bnd (ret false) fun t1095 => ret (Fl.rt t1095)) (ret (Fl.nx ()))) (sq fun (_ : Unit) => (bnd (bnd (bnd (ret v1010.1) fun t1096 => bnd (ret s991.1) fun t1097 => ret (PyData.eqv (PyData.list (List.map (fun z => (PyData.list (List.map (fun z => (PyData.tuple [(PyData.int z.1), (PyData.int z.2)])) z))) t1096)) (PyData.list (List.map (fun z => (PyData.list (List.map (fun z => (PyData.tuple [(PyData.int z.1), (PyData.int z.2)])) z))) t1097)))) fun t1100 => ite t1100 (bnd (ret v1010.2.1) fun t1098 => bnd (ret s998) fun t1099 => ret (PyData.eqv (PyData.list (List.map (fun z => (PyData.list (List.map (fun z => (PyData.tuple [(PyData.int z.1), (PyData.int z.2)])) z))) t1098)) (PyData.list (List.map (fun z => (PyData.list (List.map (fun z => (PyData.tuple [(PyData.int z.1), (PyData.int z.2)])) z))) t1099)))) (ret false)) fun t1101 => ret (Fl.rt t1101))))))))))))))))
def w_law_changed_right (x : (((List (List Int)) × Int × (List (List (List (Int × Int)))) × Unit) × (List (List (List (Int × Int)))) × Unit)) : W Bool := fnR (wb_law_changed_right x)
def wb_law_portion_right (x : (((List (List Int)) × Int × (List (List (List (Int × Int)))) × Unit) × (List (List (List (Int × Int)))) × Unit)) : W (Fl Empty Empty Bool) := (bnd (bnd (bnd (ret x.2.1) fun t1103 => bnd (ret ()) fun t1104 => ret (t1103, t1104)) fun t1105 => grd true (ret (t1105.1.length : Int))) fun v1102 => (bnd (bnd (bnd (bnd (bnd (bnd (ret (1 : Int)) fun t1107 => ret (-t1107)) fun t1110 => bnd (bnd (ret (2 : Int)) fun t1108 => bnd (ret ()) fun t1109 => ret (t1108, t1109)) fun t1111 => ret (t1110, t1111)) fun t1112 => ret (t1112.1, t1112.2.1)) fun t1143 => bnd (bnd (bnd (bnd (bnd (ret (2 : Int)) fun t1113 => ret (-t1113)) fun t1116 => bnd (bnd (ret (3 : Int)) fun t1114 => bnd (ret ()) fun t1115 => ret (t1114, t1115)) fun t1117 => ret (t1116, t1117)) fun t1118 => ret (t1118.1, t1118.2.1)) fun t1141 => bnd (bnd (bnd (bnd (ret (1 : Int)) fun t1121 => bnd (bnd (ret (1 : Int)) fun t1119 => bnd (ret ()) fun t1120 => ret (t1119, t1120)) fun t1122 => ret (t1121, t1122)) fun t1123 => ret (t1123.1, t1123.2.1)) fun t1139 => bnd (bnd (bnd (bnd (bnd (ret (1 : Int)) fun t1124 => ret (-t1124)) fun t1127 => bnd (bnd (ret (1 : Int)) fun t1125 => bnd (ret ()) fun t1126 => ret (t1125, t1126)) fun t1128 => ret (t1127, t1128)) fun t1129 => ret (t1129.1, t1129.2.1)) fun t1137 => bnd (bnd (bnd (bnd (ret (0 : Int)) fun t1132 => bnd (bnd (ret (1 : Int)) fun t1130 => bnd (ret ()) fun t1131 => ret (t1130, t1131)) fun t1133 => ret (t1132, t1133)) fun t1134 => ret (t1134.1, t1134.2.1)) fun t1135 => bnd (ret ([] : List (Int × Int))) fun t1136 => ret (t1135 :: t1136)) fun t1138 => ret (t1137 :: t1138)) fun t1140 => ret (t1139 :: t1140)) fun t1142 => ret (t1141 :: t1142)) fun t1144 => ret (t1143 :: t1144)) fun t1147 => bnd (bnd (bnd (ret (5 : Int)) fun t1145 => bnd (ret ()) fun t1146 => ret (t1145, t1146)) (fun x => pickW x.1)) fun t1148 => grd (ixOk t1147 t1148) (ret (ixAt t1147 t1148))) fun v1106 => (bnd (bnd (bnd (bnd (ret v1102) fun t1150 => bnd (ret ()) fun t1151 => ret (t1150, t1151)) fun t1152 => grd (rngOk 0 t1152.1) (ret (rangeF 0 t1152.1.toNat))) fun xs1173 => mapW (fun y1153 => (bnd (bnd (bnd (ret v1102) fun t1154 => bnd (ret ()) fun t1155 => ret (t1154, t1155)) fun t1156 => grd (rngOk 0 t1156.1) (ret (rangeF 0 t1156.1.toNat))) fun xs1172 => mapW (fun y1157 => (bnd (bnd (bnd (bnd (ret x.2.1) fun t1166 => bnd (ret y1153) fun t1167 => grd (ixOk t1166 t1167) (ret (ixAt t1166 t1167))) fun t1168 => bnd (ret y1157) fun t1169 => grd (ixOk t1168 t1169) (ret (ixAt t1168 t1169))) fun t1170 => bnd (bnd (ret v1106) fun t1164 => bnd (bnd (bnd (bnd (ret x.2.1) fun t1158 => bnd (ret y1153) fun t1159 => grd (ixOk t1158 t1159) (ret (ixAt t1158 t1159))) fun t1160 => bnd (ret y1157) fun t1161 => grd (ixOk t1160 t1161) (ret (ixAt t1160 t1161))) fun t1162 => bnd (ret ()) fun t1163 => ret (t1162, t1163)) fun t1165 => ret (t1164, t1165)) fun t1171 => ret (t1170, t1171)) w_law_plus)) xs1172)) xs1173) fun v1149 => (bnd (bnd (bnd (ret x.1) fun t1179 => bnd (bnd (ret x.1) fun t1177 => bnd (bnd (ret v1106) fun t1175 => bnd (ret ()) fun t1176 => ret (t1175, t1176)) fun t1178 => ret (t1177, t1178)) fun t1180 => ret (t1179, t1180)) w_blended) fun v1174 => (bnd (bnd (bnd (bnd (bnd (bnd (ret v1174) fun t1185 => bnd (bnd (ret v1149) fun t1183 => bnd (bnd (ret v1102) fun t1181 => bnd (ret ()) fun t1182 => ret (t1181, t1182)) fun t1184 => ret (t1183, t1184)) fun t1186 => ret (t1185, t1186)) w_law_is) fun t1187 => ret (!t1187)) fun t1194 => ite t1194 (ret true) (bnd (bnd (ret v1174) fun t1188 => bnd (ret x.1) fun t1189 => w_Table_eq (t1188, t1189, ())) fun t1192 => bnd (bnd (ret v1149) fun t1190 => bnd (ret x.2.1) fun t1191 => ret (PyData.eqv (PyData.list (List.map (fun z => (PyData.list (List.map (fun z => (PyData.list (List.map (fun z => (PyData.tuple [(PyData.int z.1), (PyData.int z.2)])) z))) z))) t1190)) (PyData.list (List.map (fun z => (PyData.list (List.map (fun z => (PyData.list (List.map (fun z => (PyData.tuple [(PyData.int z.1), (PyData.int z.2)])) z))) z))) t1191)))) fun t1193 => ret (!(t1192 == t1193)))) fun b1195 => ite b1195 (bnd (ret false) fun t1196 => ret (Fl.rt t1196)) (ret (Fl.nx ()))) (sq fun (_ : Unit) => (bnd (bnd (bnd (bnd (ret x.1) fun t1197 => bnd (ret v1174) fun t1198 => w_Table_eq (t1197, t1198, ())) fun t1201 => bnd (bnd (ret v1149) fun t1199 => bnd (ret x.2.1) fun t1200 => ret (PyData.eqv (PyData.list (List.map (fun z => (PyData.list (List.map (fun z => (PyData.list (List.map (fun z => (PyData.tuple [(PyData.int z.1), (PyData.int z.2)])) z))) z))) t1199)) (PyData.list (List.map (fun z => (PyData.list (List.map (fun z => (PyData.list (List.map (fun z => (PyData.tuple [(PyData.int z.1), (PyData.int z.2)])) z))) z))) t1200)))) fun t1202 => ret (t1201 == t1202)) fun t1210 => ite t1210 (bnd (bnd (ret x.1) fun t1203 => bnd (ret v1174) fun t1204 => bnd (w_Table_eq (t1203, t1204, ())) fun t1205 => ret (!t1205)) fun t1208 => bnd (bnd (ret v1149) fun t1206 => bnd (ret x.2.1) fun t1207 => ret (PyData.eqv (PyData.list (List.map (fun z => (PyData.list (List.map (fun z => (PyData.list (List.map (fun z => (PyData.tuple [(PyData.int z.1), (PyData.int z.2)])) z))) z))) t1206)) (PyData.list (List.map (fun z => (PyData.list (List.map (fun z => (PyData.list (List.map (fun z => (PyData.tuple [(PyData.int z.1), (PyData.int z.2)])) z))) z))) t1207)))) fun t1209 => ret (!(t1208 == t1209))) (ret false)) fun t1211 => ret (Fl.rt t1211))))))))
def w_law_portion_right (x : (((List (List Int)) × Int × (List (List (List (Int × Int)))) × Unit) × (List (List (List (Int × Int)))) × Unit)) : W Bool := fnR (wb_law_portion_right x)
def wb_law_right (x : (Int × Unit)) : W (Fl Empty Empty Bool) := (bnd (bnd (ret (1 : Int)) fun t1232 => bnd (bnd (bnd (ret x.1) fun t1230 => bnd (ret ()) fun t1231 => ret (t1230, t1231)) (fun x => pickW x.1)) fun t1233 => ret (t1232 + t1233)) fun v1229 => (bnd (bnd (bnd (ret v1229) fun t1235 => bnd (ret (1 : Int)) fun t1236 => ret (decide (t1235 = t1236))) fun t1241 => ite t1241 (ret true) (bnd (bnd (bnd (ret (3 : Int)) fun t1237 => bnd (ret ()) fun t1238 => ret (t1237, t1238)) (fun x => pickW x.1)) fun t1239 => bnd (ret (0 : Int)) fun t1240 => ret (decide (t1239 = t1240)))) fun v1234 => (bnd (bnd (bnd (bnd (ret (2 : Int)) fun t1243 => bnd (ret ()) fun t1244 => ret (t1243, t1244)) fun t1245 => grd (rngOk 0 t1245.1) (ret (rangeF 0 t1245.1.toNat))) fun xs1251 => mapW (fun y1246 => (bnd (bnd (ret v1229) fun t1249 => bnd (bnd (ret v1234) fun t1247 => bnd (ret ()) fun t1248 => ret (t1247, t1248)) fun t1250 => ret (t1249, t1250)) w_law_products)) xs1251) fun v1242 => (bnd (bnd (bnd (bnd (ret v1229) fun t1252 => bnd (ret (4 : Int)) fun t1253 => ret (decide (t1253 < t1252))) fun t1257 => ite t1257 (ret true) (bnd (bnd (ret v1229) fun t1254 => bnd (ret (1 : Int)) fun t1255 => ret (decide (t1255 < t1254))) fun t1256 => ite t1256 (ret v1234) (ret false))) fun b1258 => ite b1258 (bnd (bnd (ret v1242) fun t1263 => ret (List.map (fun z => (List.map (fun z => (List.map (fun z => (List.map (fun z => (z.1, (1 : Int))) z)) z)) z)) t1263)) fun v1259 => (ret (Fl.nx (v1259)))) (ret (Fl.nx (v1242)))) (sq fun (s1264 : ((List (List (List (List (Int × Int))))))) => (bnd (bnd (bnd (bnd (bnd (ret s1264) fun t1266 => bnd (ret (0 : Int)) fun t1267 => grd (ixOk t1266 t1267) (ret (ixAt t1266 t1267))) fun t1271 => ret t1271) fun t1272 => bnd (ret ()) fun t1273 => ret (t1272, t1273)) w_Table_init) fun v1265 => (bnd (bnd (bnd (bnd (bnd (ret s1264) fun t1275 => bnd (ret (1 : Int)) fun t1276 => grd (ixOk t1275 t1276) (ret (ixAt t1275 t1276))) fun t1280 => ret t1280) fun t1281 => bnd (ret ()) fun t1282 => ret (t1281, t1282)) w_Table_init) fun v1274 => (bnd (bnd (bnd (bnd (bnd (ret (6 : Int)) fun t1283 => bnd (ret ()) fun t1284 => ret (t1283, t1284)) (fun x => pickW x.1)) fun t1285 => bnd (ret (0 : Int)) fun t1286 => ret (decide (t1285 = t1286))) fun b1287 => ite b1287 (bnd (bnd (bnd (ret v1265) fun t1299 => bnd (bnd (bnd (bnd (ret s1264) fun t1289 => bnd (ret (0 : Int)) fun t1290 => grd (ixOk t1289 t1290) (ret (ixAt t1289 t1290))) fun t1295 => bnd (bnd (bnd (ret s1264) fun t1291 => bnd (ret (0 : Int)) fun t1292 => grd (ixOk t1291 t1292) (ret (ixAt t1291 t1292))) fun t1293 => bnd (ret ([] : List (List (List (List (Int × Int)))))) fun t1294 => ret (t1293 :: t1294)) fun t1296 => ret (t1295 :: t1296)) fun t1297 => bnd (ret ()) fun t1298 => ret (t1297, t1298)) fun t1300 => ret (t1299, t1300)) fun t1301 => ret (t1301.1, t1301.2.1)) fun v1288 => (ret (Fl.nx (v1288.1, v1288.2)))) (ret (Fl.nx (v1274, s1264)))) (sq fun (s1302 : (((List (List Int)) × Int × (List (List (List (Int × Int)))) × Unit) × (List (List (List (List (Int × Int))))))) => (bnd (bnd (bnd (bnd (bnd (ret (3 : Int)) fun t1304 => bnd (ret ()) fun t1305 => ret (t1304, t1305)) (fun x => pickW x.1)) fun t1306 => bnd (ret (0 : Int)) fun t1307 => ret (decide (t1306 = t1307))) fun t1338 => ite t1338 (bnd (bnd (bnd (bnd (ret (0 : Int)) fun t1310 => bnd (bnd (ret (1 : Int)) fun t1308 => bnd (ret ()) fun t1309 => ret (t1308, t1309)) fun t1311 => ret (t1310, t1311)) fun t1312 => ret (t1312.1, t1312.2.1)) fun t1328 => bnd (bnd (bnd (bnd (ret (1 : Int)) fun t1315 => bnd (bnd (ret (1 : Int)) fun t1313 => bnd (ret ()) fun t1314 => ret (t1313, t1314)) fun t1316 => ret (t1315, t1316)) fun t1317 => ret (t1317.1, t1317.2.1)) fun t1326 => bnd (bnd (bnd (bnd (bnd (ret (1 : Int)) fun t1318 => ret (-t1318)) fun t1321 => bnd (bnd (ret (1 : Int)) fun t1319 => bnd (ret ()) fun t1320 => ret (t1319, t1320)) fun t1322 => ret (t1321, t1322)) fun t1323 => ret (t1323.1, t1323.2.1)) fun t1324 => bnd (ret ([] : List (Int × Int))) fun t1325 => ret (t1324 :: t1325)) fun t1327 => ret (t1326 :: t1327)) fun t1329 => ret (t1328 :: t1329)) fun t1332 => bnd (bnd (bnd (ret (3 : Int)) fun t1330 => bnd (ret ()) fun t1331 => ret (t1330, t1331)) (fun x => pickW x.1)) fun t1333 => grd (ixOk t1332 t1333) (ret (ixAt t1332 t1333))) (bnd (bnd (bnd (ret v1229) fun t1334 => bnd (ret (1 : Int)) fun t1335 => ret (decide (t1334 = t1335))) fun t1336 => bnd (ret ()) fun t1337 => ret (t1336, t1337)) w_law_number)) fun v1303 => (bnd (bnd (ret v1229) fun t1340 => grd (rngOk 0 t1340) (ret (rangeF 0 t1340.toNat))) fun v1339 => (bnd (bnd (ret v1339) fun xs1363 => mapW (fun y1342 => (bnd (ret v1339) fun xs1362 => mapW (fun y1343 => (bnd (bnd (bnd (bnd (bnd (ret s1302.2) fun t1354 => bnd (ret (0 : Int)) fun t1355 => grd (ixOk t1354 t1355) (ret (ixAt t1354 t1355))) fun t1356 => bnd (ret y1342) fun t1357 => grd (ixOk t1356 t1357) (ret (ixAt t1356 t1357))) fun t1358 => bnd (ret y1343) fun t1359 => grd (ixOk t1358 t1359) (ret (ixAt t1358 t1359))) fun t1360 => bnd (bnd (ret v1303) fun t1352 => bnd (bnd (bnd (bnd (bnd (ret s1302.2) fun t1344 => bnd (ret (0 : Int)) fun t1345 => grd (ixOk t1344 t1345) (ret (ixAt t1344 t1345))) fun t1346 => bnd (ret y1343) fun t1347 => grd (ixOk t1346 t1347) (ret (ixAt t1346 t1347))) fun t1348 => bnd (ret y1342) fun t1349 => grd (ixOk t1348 t1349) (ret (ixAt t1348 t1349))) fun t1350 => bnd (ret ()) fun t1351 => ret (t1350, t1351)) fun t1353 => ret (t1352, t1353)) fun t1361 => ret (t1360, t1361)) w_law_plus)) xs1362)) xs1363) fun v1341 => (bnd (bnd (bnd (bnd (bnd (bnd (bnd (bnd (ret v1265) fun t1370 => bnd (bnd (ret v1303) fun t1368 => bnd (ret ()) fun t1369 => ret (t1368, t1369)) fun t1371 => ret (t1370, t1371)) w_both_ways) fun t1372 => bnd (bnd (ret v1341) fun t1366 => bnd (bnd (ret v1229) fun t1364 => bnd (ret ()) fun t1365 => ret (t1364, t1365)) fun t1367 => ret (t1366, t1367)) fun t1373 => ret (t1372, t1373)) w_law_is) fun t1374 => ret (!t1374)) fun t1387 => ite t1387 (ret true) (bnd (bnd (bnd (bnd (bnd (ret v1303) fun t1381 => bnd (bnd (ret v1265) fun t1379 => bnd (ret ()) fun t1380 => ret (t1379, t1380)) fun t1382 => ret (t1381, t1382)) fun t1383 => w_both_ways (t1383.2.1, t1383.1, ())) fun t1384 => bnd (bnd (ret v1341) fun t1377 => bnd (bnd (ret v1229) fun t1375 => bnd (ret ()) fun t1376 => ret (t1375, t1376)) fun t1378 => ret (t1377, t1378)) fun t1385 => ret (t1384, t1385)) w_law_is) fun t1386 => ret (!t1386))) fun b1388 => ite b1388 (bnd (ret false) fun t1389 => ret (Fl.rt t1389)) (ret (Fl.nx ()))) (sq fun (_ : Unit) => (bnd (bnd (ret v1339) fun xs1412 => mapW (fun y1391 => (bnd (ret v1339) fun xs1411 => mapW (fun y1392 => (bnd (bnd (bnd (bnd (bnd (ret s1302.2) fun t1403 => bnd (ret (0 : Int)) fun t1404 => grd (ixOk t1403 t1404) (ret (ixAt t1403 t1404))) fun t1405 => bnd (ret y1391) fun t1406 => grd (ixOk t1405 t1406) (ret (ixAt t1405 t1406))) fun t1407 => bnd (ret y1392) fun t1408 => grd (ixOk t1407 t1408) (ret (ixAt t1407 t1408))) fun t1409 => bnd (bnd (ret v1303) fun t1401 => bnd (bnd (bnd (bnd (bnd (ret s1302.2) fun t1393 => bnd (ret (1 : Int)) fun t1394 => grd (ixOk t1393 t1394) (ret (ixAt t1393 t1394))) fun t1395 => bnd (ret y1391) fun t1396 => grd (ixOk t1395 t1396) (ret (ixAt t1395 t1396))) fun t1397 => bnd (ret y1392) fun t1398 => grd (ixOk t1397 t1398) (ret (ixAt t1397 t1398))) fun t1399 => bnd (ret ()) fun t1400 => ret (t1399, t1400)) fun t1402 => ret (t1401, t1402)) fun t1410 => ret (t1409, t1410)) w_law_plus)) xs1411)) xs1412) fun v1390 => (bnd (bnd (bnd (bnd (bnd (bnd (bnd (ret v1265) fun t1421 => bnd (bnd (ret s1302.1) fun t1419 => bnd (bnd (ret v1303) fun t1417 => bnd (ret ()) fun t1418 => ret (t1417, t1418)) fun t1420 => ret (t1419, t1420)) fun t1422 => ret (t1421, t1422)) w_blended) fun t1423 => bnd (bnd (ret v1390) fun t1415 => bnd (bnd (ret v1229) fun t1413 => bnd (ret ()) fun t1414 => ret (t1413, t1414)) fun t1416 => ret (t1415, t1416)) fun t1424 => ret (t1423, t1424)) w_law_is) fun t1425 => ret (!t1425)) fun b1426 => ite b1426 (bnd (ret false) fun t1427 => ret (Fl.rt t1427)) (ret (Fl.nx ()))) (sq fun (_ : Unit) => (bnd (bnd (bnd (bnd (bnd (bnd (bnd (ret v1303) fun t1436 => bnd (bnd (ret s1302.1) fun t1434 => bnd (bnd (ret v1265) fun t1432 => bnd (ret ()) fun t1433 => ret (t1432, t1433)) fun t1435 => ret (t1434, t1435)) fun t1437 => ret (t1436, t1437)) fun t1438 => w_blended (t1438.2.2.1, t1438.2.1, t1438.1, ())) fun t1439 => bnd (bnd (ret v1390) fun t1430 => bnd (bnd (ret v1229) fun t1428 => bnd (ret ()) fun t1429 => ret (t1428, t1429)) fun t1431 => ret (t1430, t1431)) fun t1440 => ret (t1439, t1440)) w_law_is) fun t1441 => ret (!t1441)) fun b1442 => ite b1442 (bnd (ret false) fun t1443 => ret (Fl.rt t1443)) (ret (Fl.nx ()))) (sq fun (_ : Unit) => (bnd (bnd (ret v1339) fun xs1466 => mapW (fun y1445 => (bnd (ret v1339) fun xs1465 => mapW (fun y1446 => (bnd (bnd (bnd (bnd (bnd (ret s1302.2) fun t1457 => bnd (ret (1 : Int)) fun t1458 => grd (ixOk t1457 t1458) (ret (ixAt t1457 t1458))) fun t1459 => bnd (ret y1445) fun t1460 => grd (ixOk t1459 t1460) (ret (ixAt t1459 t1460))) fun t1461 => bnd (ret y1446) fun t1462 => grd (ixOk t1461 t1462) (ret (ixAt t1461 t1462))) fun t1463 => bnd (bnd (ret v1303) fun t1455 => bnd (bnd (bnd (bnd (bnd (ret s1302.2) fun t1447 => bnd (ret (0 : Int)) fun t1448 => grd (ixOk t1447 t1448) (ret (ixAt t1447 t1448))) fun t1449 => bnd (ret y1445) fun t1450 => grd (ixOk t1449 t1450) (ret (ixAt t1449 t1450))) fun t1451 => bnd (ret y1446) fun t1452 => grd (ixOk t1451 t1452) (ret (ixAt t1451 t1452))) fun t1453 => bnd (ret ()) fun t1454 => ret (t1453, t1454)) fun t1456 => ret (t1455, t1456)) fun t1464 => ret (t1463, t1464)) w_law_plus)) xs1465)) xs1466) fun v1444 => (bnd (bnd (bnd (bnd (bnd (bnd (bnd (ret s1302.1) fun t1475 => bnd (bnd (ret v1265) fun t1473 => bnd (bnd (ret v1303) fun t1471 => bnd (ret ()) fun t1472 => ret (t1471, t1472)) fun t1474 => ret (t1473, t1474)) fun t1476 => ret (t1475, t1476)) w_blended) fun t1477 => bnd (bnd (ret v1444) fun t1469 => bnd (bnd (ret v1229) fun t1467 => bnd (ret ()) fun t1468 => ret (t1467, t1468)) fun t1470 => ret (t1469, t1470)) fun t1478 => ret (t1477, t1478)) w_law_is) fun t1479 => ret (!t1479)) fun b1480 => ite b1480 (bnd (ret false) fun t1481 => ret (Fl.rt t1481)) (ret (Fl.nx ()))) (sq fun (_ : Unit) => (bnd (bnd (bnd (bnd (ret (2 : Int)) fun t1482 => bnd (ret ()) fun t1483 => ret (t1482, t1483)) fun t1484 => grd (rngOk 0 t1484.1) (ret (rangeF 0 t1484.1.toNat))) fun xs => forW (fun (s1485 : Unit) y1486 => (bnd (bnd (bnd (bnd (bnd (ret s1302.1) fun t1491 => bnd (bnd (bnd (ret s1302.2) fun t1487 => bnd (ret (1 : Int)) fun t1488 => grd (ixOk t1487 t1488) (ret (ixAt t1487 t1488))) fun t1489 => bnd (ret ()) fun t1490 => ret (t1489, t1490)) fun t1492 => ret (t1491, t1492)) w_law_changed_right) fun t1493 => ret (!t1493)) fun b1494 => ite b1494 (bnd (ret false) fun t1495 => ret (Fl.rt t1495)) (ret (Fl.nx ()))) (sq fun (_ : Unit) => (ret (Fl.nx ()))))) () xs) (sq fun (s1496 : Unit) => (bnd (bnd (bnd (bnd (bnd (ret v1265) fun t1501 => bnd (bnd (bnd (ret s1302.2) fun t1497 => bnd (ret (0 : Int)) fun t1498 => grd (ixOk t1497 t1498) (ret (ixAt t1497 t1498))) fun t1499 => bnd (ret ()) fun t1500 => ret (t1499, t1500)) fun t1502 => ret (t1501, t1502)) w_law_portion_right) fun t1503 => ret (!t1503)) fun b1504 => ite b1504 (bnd (ret false) fun t1505 => ret (Fl.rt t1505)) (ret (Fl.nx ()))) (sq fun (_ : Unit) => (bnd (bnd (bnd (bnd (bnd (bnd (ret v1265) fun t1509 => w_Table_products (t1509, ())) fun t1513 => bnd (bnd (bnd (ret s1302.1) fun t1510 => w_Table_products (t1510, ())) fun t1511 => bnd (ret ([] : List (List (List (List (Int × Int)))))) fun t1512 => ret (t1511 :: t1512)) fun t1514 => ret (t1513 :: t1514)) fun t1515 => ret (D.lst (List.map (fun z => (D.lst (List.map (fun z => (D.lst (List.map (fun z => (D.lst (List.map (fun z => (D.tup [(D.int z.1), (D.int z.2)])) z))) z))) z))) t1515))) fun t1516 => bnd (bnd (bnd (ret s1302.2) fun t1506 => ret (D.lst (List.map (fun z => (D.lst (List.map (fun z => (D.lst (List.map (fun z => (D.lst (List.map (fun z => (D.tup [(D.int z.1), (D.int z.2)])) z))) z))) z))) t1506))) fun t1507 => bnd (ret ()) fun t1508 => ret (t1507, t1508)) fun t1517 => ret (t1516, t1517)) (w_law_alike 6)) fun t1518 => ret (Fl.rt t1518))))))))))))))))))))))))))))
def w_law_right (x : (Int × Unit)) : W Bool := fnR (wb_law_right x)
def wb_law (x : ((List Int) × Unit)) : W (Fl Empty Empty Bool) := (bnd (bnd (bnd (bnd (ret (4 : Int)) fun t1519 => bnd (ret ()) fun t1520 => ret (t1519, t1520)) w_law_right) fun t1523 => ite t1523 (bnd (bnd (ret (6 : Int)) fun t1521 => bnd (ret ()) fun t1522 => ret (t1521, t1522)) w_law_right) (ret false)) fun t1524 => ret (Fl.rt t1524))
def w_law (x : ((List Int) × Unit)) : W Bool := fnR (wb_law x)
theorem map_idD {ds : List D} {f : D → W D} (h : ∀ d ∈ ds, f d = ret d) : mapW f ds = ret ds := by
  rw [mapW_eq (g := fun d => d) h, List.map_id']
theorem fresh_eq : ∀ {n : Nat} {d : D}, Tame n d → w_fresh n (d, ()) = ret d
  | 0, _, h => h.elim
  | n + 1, d, h => by
    unfold w_fresh
    simp only [bnd_ret, bnd_assoc, bnd_grd, grd_true, fnR_bnd, fnR_ret]
    cases d with
    | lst ds =>
      rw [ite_ok (show isD "list" (D.lst ds) = true from rfl)]
      simp only [bnd_ret, bnd_assoc, bnd_grd, grd_true, fnR_bnd, fnR_ret, show isLst (D.lst ds) = true from rfl, show itemsD (D.lst ds) = ds from rfl]
      rw [map_idD (fun d hd => fresh_eq (h d hd))]
      simp only [bnd_ret, sq_rt, fnR_ret, List.map_id']
    | tup ds =>
      rw [ite_no (show isD "list" (D.tup ds) = false from rfl)]
      simp only [bnd_ret, bnd_assoc, bnd_grd, grd_true, fnR_bnd, fnR_ret, sq_nx]
      rw [ite_ok (show isD "tuple" (D.tup ds) = true from rfl)]
      simp only [bnd_ret, bnd_assoc, bnd_grd, grd_true, fnR_bnd, fnR_ret, show isTup (D.tup ds) = true from rfl, show itemsD (D.tup ds) = ds from rfl]
      rw [grd_ok (by rw [Bool.true_and]; exact decide_eq_true h.1), map_idD (fun d hd => fresh_eq (h.2 d hd))]
      simp only [bnd_ret, sq_rt, fnR_ret]
    | non => rfl
    | bl b => rfl
    | int i => rfl
    | str s => rfl
theorem copied_eq : ∀ {n : Nat} {d : D}, Tame n d → w_law_copied n (d, ()) = ret d
  | 0, _, h => h.elim
  | n + 1, d, h => by
    unfold w_law_copied
    simp only [bnd_ret, bnd_assoc, bnd_grd, grd_true, fnR_bnd, fnR_ret]
    cases d with
    | lst ds =>
      rw [ite_ok (show isD "list" (D.lst ds) = true from rfl)]
      simp only [bnd_ret, bnd_assoc, bnd_grd, grd_true, fnR_bnd, fnR_ret, show isLst (D.lst ds) = true from rfl, show itemsD (D.lst ds) = ds from rfl]
      rw [map_idD (fun d hd => copied_eq (h d hd))]
      simp only [bnd_ret, sq_rt, fnR_ret, List.map_id']
    | tup ds => rfl
    | non => rfl
    | bl b => rfl
    | int i => rfl
    | str s => rfl
def toNum (z : Int × Int) : D := D.tup [D.int z.1, D.int z.2]
theorem wholes0 {n : Nat} (z : Int × Int) : w_law_wholes (n + 1) (toNum z, ()) = ret (toNum (z.1, 1)) := by
  unfold w_law_wholes
  simp only [bnd_ret, bnd_assoc, bnd_grd, grd_true, fnR_bnd, fnR_ret]
  rw [ite_no (show isD "list" (toNum z) = false from rfl)]
  simp only [bnd_ret, bnd_assoc, bnd_grd, grd_true, fnR_bnd, fnR_ret]
  rw [show (seqD (toNum z) && ixOk (itemsD (toNum z)) 0) = true from rfl, grd_true]
  rfl
theorem wholesL {α : Type} {n : Nat} {to : α → D} {f : α → α} (h : ∀ x, w_law_wholes n (to x, ()) = ret (to (f x))) (xs : List α) : w_law_wholes (n + 1) (D.lst (xs.map to), ()) = ret (D.lst ((xs.map f).map to)) := by
  unfold w_law_wholes
  simp only [bnd_ret, bnd_assoc, bnd_grd, grd_true, fnR_bnd, fnR_ret]
  rw [ite_ok (show isD "list" (D.lst (xs.map to)) = true from rfl)]
  simp only [bnd_ret, bnd_assoc, bnd_grd, grd_true, fnR_bnd, fnR_ret, show isLst (D.lst (xs.map to)) = true from rfl, show itemsD (D.lst (xs.map to)) = xs.map to from rfl]
  have e : ∀ (ys : List α), mapW (fun y => w_law_wholes n (y, ())) (ys.map to) = ret ((ys.map f).map to) := fun ys => by
    induction ys with
    | nil => rfl
    | cons y r ih =>
      show bnd (w_law_wholes n (to y, ())) _ = _
      rw [h, bnd_ret]
      show bnd (mapW (fun y => w_law_wholes n (y, ())) (r.map to)) _ = _
      rw [ih]
      rfl
  rw [e]
  simp only [bnd_ret, sq_rt, fnR_ret, List.map_id']
theorem wholes_eq2 (z : List (List (Int × Int))) : w_law_wholes 6 ((fun z => D.lst (z.map fun z => D.lst (z.map fun z => D.tup [D.int z.1, D.int z.2]))) z, ()) = ret ((fun z => D.lst (z.map fun z => D.lst (z.map fun z => D.tup [D.int z.1, D.int z.2]))) ((fun z => z.map fun z => z.map fun z => (z.1, (1 : Int))) z)) :=
  (wholesL (n := 5) (wholesL (n := 4) (wholes0 (n := 3)))) z
theorem wholes_eq3 (z : List (List (List (Int × Int)))) : w_law_wholes 6 ((fun z => D.lst (z.map fun z => D.lst (z.map fun z => D.lst (z.map fun z => D.tup [D.int z.1, D.int z.2])))) z, ()) = ret ((fun z => D.lst (z.map fun z => D.lst (z.map fun z => D.lst (z.map fun z => D.tup [D.int z.1, D.int z.2])))) ((fun z => z.map fun z => z.map fun z => z.map fun z => (z.1, (1 : Int))) z)) :=
  (wholesL (n := 5) (wholesL (n := 4) (wholesL (n := 3) (wholes0 (n := 2))))) z
theorem wholes_eq4 (z : List (List (List (List (Int × Int))))) : w_law_wholes 6 ((fun z => D.lst (z.map fun z => D.lst (z.map fun z => D.lst (z.map fun z => D.lst (z.map fun z => D.tup [D.int z.1, D.int z.2]))))) z, ()) = ret ((fun z => D.lst (z.map fun z => D.lst (z.map fun z => D.lst (z.map fun z => D.lst (z.map fun z => D.tup [D.int z.1, D.int z.2]))))) ((fun z => z.map fun z => z.map fun z => z.map fun z => z.map fun z => (z.1, (1 : Int))) z)) :=
  (wholesL (n := 5) (wholesL (n := 4) (wholesL (n := 3) (wholesL (n := 2) (wholes0 (n := 1)))))) z
section
variable {P : Program} {w : World} {K : PySem.W.Frag} {mg : Str → Option Value} {base : Heap}
theorem b_law_pool (T : Txt K mg) : Binds K T.d_law_pool P_law_pool [] := T.F_law_pool.binds fun _ _ _ _ _ _ us hl => match us, hl with | [_], _ => rfl
theorem b_law_pick (T : Txt K mg) : Binds K T.d_law_pick P_law_pick [] := T.F_law_pick.binds fun _ _ _ _ _ _ us hl => match us, hl with | [_, _], _ => rfl
theorem b_lowest (T : Txt K mg) : Binds K T.d_lowest P_lowest [] := T.F_lowest.binds fun _ _ _ _ _ _ us hl => match us, hl with | [_, _], _ => rfl
theorem b_sum_two (T : Txt K mg) : Binds K T.d_sum_two P_sum_two [] := T.F_sum_two.binds fun _ _ _ _ _ _ us hl => match us, hl with | [_, _], _ => rfl
theorem b_product_two (T : Txt K mg) : Binds K T.d_product_two P_product_two [] := T.F_product_two.binds fun _ _ _ _ _ _ us hl => match us, hl with | [_, _], _ => rfl
theorem b_is_number (T : Txt K mg) : Binds K T.d_is_number P_is_number [] := T.F_is_number.binds fun _ _ _ _ _ _ us hl => match us, hl with | [_], _ => rfl
theorem b_checked (T : Txt K mg) : Binds K T.d_checked P_checked [] := T.F_checked.binds fun _ _ _ _ _ _ us hl => match us, hl with | [_], _ => rfl
theorem b_check_numbers (T : Txt K mg) : Binds K T.d_check_numbers P_check_numbers [] := T.F_check_numbers.binds fun _ _ _ _ _ _ us hl => match us, hl with | [_], _ => rfl
theorem b_integers_of (T : Txt K mg) : Binds K T.d_integers_of P_integers_of [] := T.F_integers_of.binds fun _ _ _ _ _ _ us hl => match us, hl with | [_], _ => rfl
theorem b_numbers_of (T : Txt K mg) : Binds K T.d_numbers_of P_numbers_of [] := T.F_numbers_of.binds fun _ _ _ _ _ _ us hl => match us, hl with | [_, _], _ => rfl
theorem b_fresh (T : Txt K mg) : Binds K T.d_fresh P_fresh [] := T.F_fresh.binds fun _ _ _ _ _ _ us hl => match us, hl with | [_], _ => rfl
theorem b_plus_row (T : Txt K mg) : Binds K T.d_plus_row P_plus_row [] := T.F_plus_row.binds fun _ _ _ _ _ _ us hl => match us, hl with | [_, _], _ => rfl
theorem b_scaled_row (T : Txt K mg) : Binds K T.d_scaled_row P_scaled_row [] := T.F_scaled_row.binds fun _ _ _ _ _ _ us hl => match us, hl with | [_, _], _ => rfl
theorem b_check_rows (T : Txt K mg) : Binds K T.d_check_rows P_check_rows [] := T.F_check_rows.binds fun _ _ _ _ _ _ us hl => match us, hl with | [_, _], _ => rfl
theorem b_Table_init (T : Txt K mg) : Binds K T.d_Table_init P_Table_init [] := T.F_Table_init.binds fun _ _ _ _ _ _ us hl => match us, hl with | [_, _], _ => rfl
theorem b_Table_size (T : Txt K mg) : Binds K T.d_Table_size P_Table_size [] := T.F_Table_size.binds fun _ _ _ _ _ _ us hl => match us, hl with | [_], _ => rfl
theorem b_Table_products (T : Txt K mg) : Binds K T.d_Table_products P_Table_products [] := T.F_Table_products.binds fun _ _ _ _ _ _ us hl => match us, hl with | [_], _ => rfl
theorem b_Table_eq (T : Txt K mg) : Binds K T.d_Table_eq P_Table_eq [] := T.F_Table_eq.binds fun _ _ _ _ _ _ us hl => match us, hl with | [_, _], _ => rfl
theorem b_Table_product_without_checks (T : Txt K mg) : Binds K T.d_Table_product_without_checks P_Table_product_without_checks [] := T.F_Table_product_without_checks.binds fun _ _ _ _ _ _ us hl => match us, hl with | [_, _, _], _ => rfl
theorem b_Table_call (T : Txt K mg) : Binds K T.d_Table_call P_Table_call [] := T.F_Table_call.binds fun _ _ _ _ _ _ us hl => match us, hl with | [_, _, _], _ => rfl
theorem b_product_of (T : Txt K mg) : Binds K T.d_product_of P_product_of [] := T.F_product_of.binds fun _ _ _ _ _ _ us hl => match us, hl with | [_, _, _], _ => rfl
theorem b_opposite (T : Txt K mg) : Binds K T.d_opposite P_opposite [] := T.F_opposite.binds fun _ _ _ _ _ _ us hl => match us, hl with | [_], _ => rfl
theorem b_blended (T : Txt K mg) : Binds K T.d_blended P_blended [] := T.F_blended.binds fun _ _ _ _ _ _ us hl => match us, hl with | [_, _, _], _ => rfl
theorem b_both_ways (T : Txt K mg) : Binds K T.d_both_ways P_both_ways [] := T.F_both_ways.binds fun _ _ _ _ _ _ us hl => match us, hl with | [_, _], _ => rfl
theorem b_check_square (T : Txt K mg) : Binds K T.d_check_square P_check_square [] := T.F_check_square.binds fun _ _ _ _ _ _ us hl => match us, hl with | [_, _], _ => rfl
theorem b_changed (T : Txt K mg) : Binds K T.d_changed P_changed [] := T.F_changed.binds fun _ _ _ _ _ _ us hl => match us, hl with | [_, _, _], _ => rfl
theorem b_law_low (T : Txt K mg) : Binds K T.d_law_low P_law_low [] := T.F_law_low.binds fun _ _ _ _ _ _ us hl => match us, hl with | [_, _], _ => rfl
theorem b_law_add (T : Txt K mg) : Binds K T.d_law_add P_law_add [] := T.F_law_add.binds fun _ _ _ _ _ _ us hl => match us, hl with | [_, _], _ => rfl
theorem b_law_mul (T : Txt K mg) : Binds K T.d_law_mul P_law_mul [] := T.F_law_mul.binds fun _ _ _ _ _ _ us hl => match us, hl with | [_, _], _ => rfl
theorem b_law_number (T : Txt K mg) : Binds K T.d_law_number P_law_number [] := T.F_law_number.binds fun _ _ _ _ _ _ us hl => match us, hl with | [_, _], _ => rfl
theorem b_law_alike (T : Txt K mg) : Binds K T.d_law_alike P_law_alike [] := T.F_law_alike.binds fun _ _ _ _ _ _ us hl => match us, hl with | [_, _], _ => rfl
theorem b_law_products (T : Txt K mg) : Binds K T.d_law_products P_law_products [] := T.F_law_products.binds fun _ _ _ _ _ _ us hl => match us, hl with | [_, _, _], _ => rfl
theorem b_law_times (T : Txt K mg) : Binds K T.d_law_times P_law_times [] := T.F_law_times.binds fun _ _ _ _ _ _ us hl => match us, hl with | [_, _, _], _ => rfl
theorem b_law_copied (T : Txt K mg) : Binds K T.d_law_copied P_law_copied [] := T.F_law_copied.binds fun _ _ _ _ _ _ us hl => match us, hl with | [_], _ => rfl
theorem b_law_plus (T : Txt K mg) : Binds K T.d_law_plus P_law_plus [] := T.F_law_plus.binds fun _ _ _ _ _ _ us hl => match us, hl with | [_, _, _], _ => rfl
theorem b_law_image (T : Txt K mg) : Binds K T.d_law_image P_law_image [] := T.F_law_image.binds fun _ _ _ _ _ _ us hl => match us, hl with | [_, _], _ => rfl
theorem b_law_map (T : Txt K mg) : Binds K T.d_law_map P_law_map [] := T.F_law_map.binds fun _ _ _ _ _ _ us hl => match us, hl with | [_, _], _ => rfl
theorem b_law_is (T : Txt K mg) : Binds K T.d_law_is P_law_is [] := T.F_law_is.binds fun _ _ _ _ _ _ us hl => match us, hl with | [_, _, _], _ => rfl
theorem b_law_wholes (T : Txt K mg) : Binds K T.d_law_wholes P_law_wholes [] := T.F_law_wholes.binds fun _ _ _ _ _ _ us hl => match us, hl with | [_], _ => rfl
theorem b_law_changed_right (T : Txt K mg) : Binds K T.d_law_changed_right P_law_changed_right [] := T.F_law_changed_right.binds fun _ _ _ _ _ _ us hl => match us, hl with | [_, _, _], _ => rfl
theorem b_law_portion_right (T : Txt K mg) : Binds K T.d_law_portion_right P_law_portion_right [] := T.F_law_portion_right.binds fun _ _ _ _ _ _ us hl => match us, hl with | [_, _, _], _ => rfl
theorem b_law_right (T : Txt K mg) : Binds K T.d_law_right P_law_right [] := T.F_law_right.binds fun _ _ _ _ _ _ us hl => match us, hl with | [_, _], _ => rfl
theorem b_law (T : Txt K mg) : Binds K T.d_law P_law [] := T.F_law.binds fun _ _ _ _ _ _ us hl => match us, hl with | [_], _ => rfl
def g_kb_changed_2_1_0 {α : Type} : List α → List α → List α
  | [], [u0, u1, u2] => [u2, u1, u0]
  | _, _ => []
theorem kb_changed_2_1_0_bad {α : Type} {us ws : List α} (h : ¬ (us.length = 0 ∧ ws.length = 3)) : g_kb_changed_2_1_0 us ws = [] := by
  unfold g_kb_changed_2_1_0
  split
  · exact absurd ⟨rfl, rfl⟩ h
  · rfl
theorem kb_changed_2_1_0 (T : Txt K mg) : KBinds K T.d_changed P_changed [Str.ofString "right", Str.ofString "left", Str.ofString "table"] g_kb_changed_2_1_0 g_kb_changed_2_1_0 where
  to := fun s us ws _ hl => by
    by_cases h : us.length = 0 ∧ ws.length = 3
    · obtain ⟨hu, hw⟩ := h
      obtain ⟨oc, od, kV, doc, pm, an, cdv, ct, osl, e, _, _⟩ := T.F_changed.ex
      rw [e]
      match us, ws, hu, hw with
      | [], [_, _, _], _, _ => exact BindsTo.of_eq rfl
    · rw [kb_changed_2_1_0_bad h] at hl
      exact absurd hl (by decide)
  rel := fun {vs us zs ws} r1 r2 => by
    by_cases h : vs.length = 0 ∧ zs.length = 3
    · obtain ⟨hv, hz⟩ := h
      match vs, us, r1, hv, zs, ws, r2, hz with
      | [], _, Paired.nil, _, [_, _, _], _, Paired.cons r0 (Paired.cons r1 (Paired.cons r2 (Paired.nil))), _ => exact Paired.cons r2 (Paired.cons r1 (Paired.cons r0 (Paired.nil)))
    · have h2 : ¬ (us.length = 0 ∧ ws.length = 3) := fun ⟨x, y⟩ => h ⟨r1.length.trans x, r2.length.trans y⟩
      rw [kb_changed_2_1_0_bad h, kb_changed_2_1_0_bad h2]
      exact .nil
theorem kb_changed_2_1_0_pm (T : Txt K mg) {pp : PP} {O : AS} {H : Hp} {zs : List V} {y : ((List (List (Int × Int))) × (List (List (Int × Int))) × ((List (List Int)) × Int × (List (List (List (Int × Int)))) × Unit) × Unit)} (h : ((aC (eL (eL eN)) (aC (eL (eL eN)) (aC (e_Table T) aN))) : EA K _).r pp O H zs y) : ((aC (e_Table T) (aC (eL (eL eN)) (aC (eL (eL eN)) aN))) : EA K _).r pp O H (g_kb_changed_2_1_0 [] zs) ((y.2.2.1, y.2.1, y.1, ())) := by
  obtain ⟨_, _, rfl, q0, _, _, rfl, q1, _, _, rfl, q2, rfl⟩ := h
  exact ⟨_, _, rfl, q2, _, _, rfl, q1, _, _, rfl, q0, rfl⟩
def g_kb_both_ways_1_0 {α : Type} : List α → List α → List α
  | [], [u0, u1] => [u1, u0]
  | _, _ => []
theorem kb_both_ways_1_0_bad {α : Type} {us ws : List α} (h : ¬ (us.length = 0 ∧ ws.length = 2)) : g_kb_both_ways_1_0 us ws = [] := by
  unfold g_kb_both_ways_1_0
  split
  · exact absurd ⟨rfl, rfl⟩ h
  · rfl
theorem kb_both_ways_1_0 (T : Txt K mg) : KBinds K T.d_both_ways P_both_ways [Str.ofString "number", Str.ofString "table"] g_kb_both_ways_1_0 g_kb_both_ways_1_0 where
  to := fun s us ws _ hl => by
    by_cases h : us.length = 0 ∧ ws.length = 2
    · obtain ⟨hu, hw⟩ := h
      obtain ⟨oc, od, kV, doc, pm, an, cdv, ct, osl, e, _, _⟩ := T.F_both_ways.ex
      rw [e]
      match us, ws, hu, hw with
      | [], [_, _], _, _ => exact BindsTo.of_eq rfl
    · rw [kb_both_ways_1_0_bad h] at hl
      exact absurd hl (by decide)
  rel := fun {vs us zs ws} r1 r2 => by
    by_cases h : vs.length = 0 ∧ zs.length = 2
    · obtain ⟨hv, hz⟩ := h
      match vs, us, r1, hv, zs, ws, r2, hz with
      | [], _, Paired.nil, _, [_, _], _, Paired.cons r0 (Paired.cons r1 (Paired.nil)), _ => exact Paired.cons r1 (Paired.cons r0 (Paired.nil))
    · have h2 : ¬ (us.length = 0 ∧ ws.length = 2) := fun ⟨x, y⟩ => h ⟨r1.length.trans x, r2.length.trans y⟩
      rw [kb_both_ways_1_0_bad h, kb_both_ways_1_0_bad h2]
      exact .nil
theorem kb_both_ways_1_0_pm (T : Txt K mg) {pp : PP} {O : AS} {H : Hp} {zs : List V} {y : ((Int × Int) × ((List (List Int)) × Int × (List (List (List (Int × Int)))) × Unit) × Unit)} (h : ((aC eN (aC (e_Table T) aN)) : EA K _).r pp O H zs y) : ((aC (e_Table T) (aC eN aN)) : EA K _).r pp O H (g_kb_both_ways_1_0 [] zs) ((y.2.1, y.1, ())) := by
  obtain ⟨_, _, rfl, q0, _, _, rfl, q1, rfl⟩ := h
  exact ⟨_, _, rfl, q1, _, _, rfl, q0, rfl⟩
def g_kb_blended_2_1_0 {α : Type} : List α → List α → List α
  | [], [u0, u1, u2] => [u2, u1, u0]
  | _, _ => []
theorem kb_blended_2_1_0_bad {α : Type} {us ws : List α} (h : ¬ (us.length = 0 ∧ ws.length = 3)) : g_kb_blended_2_1_0 us ws = [] := by
  unfold g_kb_blended_2_1_0
  split
  · exact absurd ⟨rfl, rfl⟩ h
  · rfl
theorem kb_blended_2_1_0 (T : Txt K mg) : KBinds K T.d_blended P_blended [Str.ofString "number", Str.ofString "other", Str.ofString "one"] g_kb_blended_2_1_0 g_kb_blended_2_1_0 where
  to := fun s us ws _ hl => by
    by_cases h : us.length = 0 ∧ ws.length = 3
    · obtain ⟨hu, hw⟩ := h
      obtain ⟨oc, od, kV, doc, pm, an, cdv, ct, osl, e, _, _⟩ := T.F_blended.ex
      rw [e]
      match us, ws, hu, hw with
      | [], [_, _, _], _, _ => exact BindsTo.of_eq rfl
    · rw [kb_blended_2_1_0_bad h] at hl
      exact absurd hl (by decide)
  rel := fun {vs us zs ws} r1 r2 => by
    by_cases h : vs.length = 0 ∧ zs.length = 3
    · obtain ⟨hv, hz⟩ := h
      match vs, us, r1, hv, zs, ws, r2, hz with
      | [], _, Paired.nil, _, [_, _, _], _, Paired.cons r0 (Paired.cons r1 (Paired.cons r2 (Paired.nil))), _ => exact Paired.cons r2 (Paired.cons r1 (Paired.cons r0 (Paired.nil)))
    · have h2 : ¬ (us.length = 0 ∧ ws.length = 3) := fun ⟨x, y⟩ => h ⟨r1.length.trans x, r2.length.trans y⟩
      rw [kb_blended_2_1_0_bad h, kb_blended_2_1_0_bad h2]
      exact .nil
theorem kb_blended_2_1_0_pm (T : Txt K mg) {pp : PP} {O : AS} {H : Hp} {zs : List V} {y : ((Int × Int) × ((List (List Int)) × Int × (List (List (List (Int × Int)))) × Unit) × ((List (List Int)) × Int × (List (List (List (Int × Int)))) × Unit) × Unit)} (h : ((aC eN (aC (e_Table T) (aC (e_Table T) aN))) : EA K _).r pp O H zs y) : ((aC (e_Table T) (aC (e_Table T) (aC eN aN))) : EA K _).r pp O H (g_kb_blended_2_1_0 [] zs) ((y.2.2.1, y.2.1, y.1, ())) := by
  obtain ⟨_, _, rfl, q0, _, _, rfl, q1, _, _, rfl, q2, rfl⟩ := h
  exact ⟨_, _, rfl, q2, _, _, rfl, q1, _, _, rfl, q0, rfl⟩
theorem ok_law_pick {f : Addr} {fd : FuncData} (F : Fun K "_law_pick" "_law_pick" s_law_pick f fd) (mi : mg "int" = none) : FnOk P w K mg base CX0 1 f fd ["_law_pool_here", "_law_many"] (spW (K := K) poolA (aPl (aC eI aN)) (fun x => pickW x.1) eI) := by
  refine F.ok sc_law_pick (fun vs H Q E h => ?_) (fun cdv A outer s H vs Q E hr h => ?_)
  · obtain ⟨pp, O, x, Φ, c, _, _, _, r, _⟩ := h
    exact (aPl (aC eI aN)).hlen r
  · obtain ⟨pp, O, x, Φ, c, hd, hf, hp, ⟨a, b, _, rfl, rfl, v, _, rfl, rv, rfl⟩, ⟨⟨hm0, hm1, hc⟩, hw⟩, q⟩ := h
    cases (show v = V.int x.1 from rv)
    obtain ⟨gs, f0, m, d, ha, hb, hab, hgs, hf0, m0, m1, d0, d1⟩ := hp
    refine ⟨_, pss_cons (pool_while (a := a) (b := b) (m := m) (d := d) (x := x.1) (u := hr.units) (ps_while PassesOwn.never (PW.pt (pw_and (pt_cmpR op_eq (pe_ix ix_list (pv 0) pe_int (fun _ _ => rfl)) pe_int (nomark _)) (pw_and1 (pt_cmpR (op_neD hr.units) (pe_ix ix_list (pv 0) pe_int (fun _ _ => rfl)) (pe_lst pa_nil) (nomark _)))))
        (pss_one (ps_asg (pe_bm PySem.F.plainAttrs_list PySem.F.slot_list_pop PySem.F.type_list_pop mt_popAt (pe_ix ix_list (pv 0) pe_int (fun _ _ => rfl)) (pa_cons pe_int pa_nil)) (pg_sub (pv 0) pe_int set_list)))) ?hs ?hb)
      (pss_cons (ps_if (pt_cmpR op_gt (pe_ix ix_list (pv 0) pe_int (fun _ _ => rfl)) pe_int (nomark _))
          (pss_cons (ps_set (i := 2) sc_law_pick.nd rfl (.inl rfl) (pe_op op_mod (pe_callTy call_int1 (by rfl) mi (by decide +kernel) (pa_cons (pe_ix ix_list (pv 0) pe_int (fun _ _ => rfl)) pa_nil)) (pv 1)))
          (pss_cons (ps_asg (pe_op op_fdivA (pe_ix ix_list (pv 0) pe_int (fun _ _ => rfl)) (pv 1)) (pg_sub (pv 0) pe_int set_list))
          (pss_one (ps_ret (pv 2))))) pss_nil)
      (pss_cons (ps_asg (pe_op op_add (pe_ix ix_list (pv 0) pe_int (fun _ _ => rfl)) pe_int) (pg_sub (pv 0) pe_int set_list))
      (pss_cons (ps_set (i := 3) sc_law_pick.nd rfl (.inl rfl) (pe_op op_mod (pe_callTy call_int1 (by rfl) mi (by decide +kernel) (pa_cons (pe_op op_powX (pe_op op_add (pe_ix ix_list (pv 0) pe_int (fun _ _ => rfl)) (pe_op op_mul pe_int (pe_ix ix_list (pv 0) pe_int (fun _ _ => rfl)))) pe_int) pa_nil)) (pe_op op_add (pe_op op_powX pe_int pe_int) pe_int)))
      (pss_cons (ps_set (i := 3) sc_law_pick.nd rfl (.inl rfl) (pe_op op_mod (pe_callTy call_int1 (by rfl) mi (by decide +kernel) (pa_cons (pe_op op_powX (pe_op op_add (pv 3) (pe_op op_mul pe_int (pe_ix ix_list (pv 0) pe_int (fun _ _ => rfl)))) pe_int) pa_nil)) (pe_op op_add (pe_op op_powX pe_int pe_int) pe_int)))
      (pss_one (ps_ret (pe_op op_mod (pe_callTy call_int1 (by rfl) mi (by decide +kernel) (pa_cons (pe_op op_fdivA (pv 3) (pe_op op_powX pe_int pe_int)) pa_nil)) (pv 1)))))))), ?_⟩
    case hs =>
      intro gs f H1 ⟨ea, eb, ne, hg, hf⟩ R hR
      refine ⟨.ref a, rfl, a, [.ref b, .int f, .int m, .int d], 1, .int f, rfl, rfl, SqL.of ea, rfl, rfl, _, rfl, ?_⟩
      refine ite2 (fun e => ?_) (fun e => ?_)
      · have e0 : f = 0 := V.int.inj (of_decide_eq_true e)
        subst e0
        refine ⟨.ref a, rfl, a, _, 0, .ref b, rfl, rfl, SqL.of ea, rfl, Nat.zero_le _, fun p np => ?_⟩
        have s1 := same_new (o := .lst []) np
        refine ⟨.list (gs.map .int), .list [], .lst (SqL.of (s1 _ _ eb)) (dpInts gs), .lst (SqL.of upd_same) .nil, shInts gs, rfl, _, rfl, ?_⟩
        have z := hR _ s1
        cases gs with
        | nil => simpa [PyData.eqv, PyData.eqvAll] using z
        | cons g gs => simpa [PyData.eqv, PyData.eqvAll] using z
      · have e0 : f ≠ 0 := fun z => e (by rw [z]; rfl)
        have z := hR _ (.refl _)
        simpa [e0] using z
    case hb =>
      intro g gs f H1 D ⟨ea, eb, ne, hg, hf⟩ k
      have e1 : seqIndex? 0 (List.map V.int (g :: gs)).length = some 0 := by simp [seqIndex?]
      refine ⟨.ref a, rfl, a, [.ref b, .int f, .int m, .int d], 0, .ref b, rfl, rfl, SqL.of ea, rfl, .inl ⟨rfl, _, SqL.of eb⟩, b, _, 0, 0, .int g, rfl, rfl, eb, by decide, by decide, e1, rfl, ?_⟩
      refine ⟨.ref a, rfl, a, [.ref b, .int f, .int m, .int d], 1, 1, rfl, rfl, by rw [upd_ne ne]; exact ea, rfl, k _ ⟨upd_same, by rw [upd_ne ne.symm, upd_same]; rfl, ne, fun y hy => hg y (List.mem_cons_of_mem _ hy), hg g List.mem_cons_self⟩ fun y o ey hn => ?_⟩
      rw [upd_ne (fun z => hn (.inl z)), upd_ne (fun z => hn (.inr z))]
      exact ey
    refine ⟨rfl, gs, f0, ⟨ha, hb, hab, hgs, hf0⟩, fun gs f H1 ⟨ea, eb, _, hg, hf⟩ ch1 => ?_⟩
    -- if pool[1] > 0
    refine ⟨.ref a, rfl, a, [.ref b, .int f, .int m, .int d], 1, .int f, rfl, rfl, SqL.of ea, rfl, _, _, rfl, rfl, _, rfl, ite2 (fun e => ?_) (fun e => ?_)⟩
    · refine ⟨.ref a, rfl, a, [.ref b, .int f, .int m, .int d], 1, .int f, rfl, rfl, SqL.of ea, rfl, .inl ⟨f, rfl, .int x.1, rfl, _, _, rfl, rfl, hm0, ?_⟩⟩
      refine ⟨.ref a, rfl, a, [.ref b, .int f, .int m, .int d], 1, .int f, rfl, rfl, SqL.of ea, rfl, .int x.1, rfl, _, _, rfl, rfl, ⟨by omega, hm1⟩, ?_⟩
      refine ⟨.ref a, rfl, a, [.ref b, .int f, .int m, .int d], 1, 1, rfl, rfl, ea, rfl, _, rfl, ?_⟩
      refine q _ _ _ _ (hw (f % x.1) (Int.emod_nonneg _ (by omega)) (Int.emod_lt_of_pos _ hm0)) (fun y o ey hn => ?_) ⟨gs, f.fdiv x.1, m, d, upd_same, by rw [upd_ne hab.symm]; exact eb, hab, hg, ?_, m0, m1, d0, by omega⟩ rfl
      · rw [upd_ne (fun z => hn (.inl z))]
        exact ch1 y o ey hn
      · rw [Int.fdiv_eq_ediv_of_nonneg _ (by omega)]
        exact Int.ediv_nonneg hf (by omega)
    · -- pool[3] = pool[3] + 1
      refine ⟨.ref a, rfl, a, [.ref b, .int f, .int m, .int d], 3, .int d, rfl, rfl, SqL.of ea, rfl, _, _, rfl, rfl, ?_⟩
      refine ⟨.ref a, rfl, a, [.ref b, .int f, .int m, .int d], 3, 3, rfl, rfl, ea, rfl, ?_⟩
      have e1 : upd H1 a (.lst ([.ref b, .int f, .int m, .int d].set 3 (.int (d + 1)))) a = some (.lst [.ref b, .int f, .int m, .int (d + 1)]) := upd_same
      have eb1 : upd H1 a (.lst ([.ref b, .int f, .int m, .int d].set 3 (.int (d + 1)))) b = some (.lst (gs.map V.int)) := by rw [upd_ne hab.symm]; exact eb
      have ch2 : Chg (some (a, b)) H (upd H1 a (.lst ([.ref b, .int f, .int m, .int d].set 3 (.int (d + 1))))) := fun y o ey hn => by
        rw [upd_ne (fun z => hn (.inl z))]
        exact ch1 y o ey hn
      generalize upd H1 a (.lst ([.ref b, .int f, .int m, .int d].set 3 (.int (d + 1)))) = H2 at e1 eb1 ch2 ⊢
      have p1 : (m + 900001 * (d + 1)).natAbs < 2 ^ 1030 := big_lt hc d0 d1 m0 (Int.le_trans m1 (by decide)) (q := 900001) (by decide) (by decide) rfl
      have v1 := bits_lt p1
      refine ⟨.ref a, rfl, a, [.ref b, .int f, .int m, .int (d + 1)], 2, .int m, rfl, rfl, SqL.of e1, rfl, .ref a, rfl, a, [.ref b, .int f, .int m, .int (d + 1)], 3, .int (d + 1), rfl, rfl, SqL.of e1, rfl, _, _, rfl, rfl, .inl ⟨by decide, by decide⟩, _, _, rfl, rfl, _, _, rfl, rfl, ⟨by decide, by omega⟩, .inl ⟨_, rfl, _, _, rfl, rfl, ⟨by decide, by decide⟩, _, _, rfl, rfl, _, _, rfl, rfl, (by show (0 : Int) < 10 ^ 33 + 87; decide +kernel), ?_⟩⟩
      generalize (m + 900001 * (d + 1)) ^ Int.toNat 3 = y0
      have y1 : 0 ≤ y0 % (10 ^ Int.toNat 33 + 87) := Int.emod_nonneg _ (by decide +kernel)
      have y2 : y0 % (10 ^ Int.toNat 33 + 87) < 10 ^ Int.toNat 33 + 87 := Int.emod_lt_of_pos _ (by decide +kernel)
      have ey : y0 % (10 ^ Int.toNat 33 + 87) = y0 % (10 ^ Int.toNat 33 + 87) := rfl
      generalize hy : y0 % (10 ^ Int.toNat 33 + 87) = y at y1 y2
      have y3 : y ≤ 10 ^ 40 := Int.le_trans (Int.le_of_lt y2) (by decide +kernel)
      have v2 := bits_lt (big_lt hc d0 d1 y1 y3 (q := 7919) (by decide) (by decide) rfl)
      rw [← hy] at v2
      refine ⟨_, rfl, .ref a, rfl, a, [.ref b, .int f, .int m, .int (d + 1)], 3, .int (d + 1), rfl, rfl, SqL.of e1, rfl, _, _, rfl, rfl, .inl ⟨by decide, by decide⟩, _, _, rfl, rfl, _, _, rfl, rfl, ⟨by decide, by omega⟩, .inl ⟨_, rfl, _, _, rfl, rfl, ⟨by decide, by decide⟩, _, _, rfl, rfl, _, _, rfl, rfl, (by show (0 : Int) < 10 ^ 31 + 99; decide +kernel), ?_⟩⟩
      refine ⟨_, rfl, _, _, rfl, rfl, ⟨by decide, by decide⟩, _, _, rfl, rfl, ⟨by decide +kernel, by decide +kernel⟩, .inl ⟨_, rfl, .int x.1, rfl, _, _, rfl, rfl, hm0, ?_⟩⟩
      exact q _ _ _ _ (hw _ (Int.emod_nonneg _ (by omega)) (Int.emod_lt_of_pos _ hm0)) ch2 ⟨gs, f, m, d + 1, e1, eb1, hab, hg, hf, m0, m1, by omega, by omega⟩ rfl

theorem ok_law_pool {f : Addr} {fd : FuncData} (F : Fun K "_law_pool" "_law_pool" s_law_pool f fd) (mi : mg "int" = none) (me : mg "enumerate" = none) : FnOk P w K mg base CX0 1 f fd ["_law_script"] (spPool K) := by
  refine F.ok sc_law_pool (fun vs H Q E h => ?_) (fun cdv A outer s H vs Q E hr h => ?_)
  · obtain ⟨a, ns, rfl, _⟩ := h
    rfl
  · obtain ⟨a, ns, rfl, hS, hl, q⟩ := h
    refine ⟨_, pss_cons (ps_par (i := 1) (j := 2) rfl sc_law_pool.nd rfl rfl (by decide) rfl rfl (pa_cons pe_int (pa_cons (pe_lst pa_nil) pa_nil)) (by rfl))
      (pss_cons (ps_for PassesOwn.never rfl (pi_enum (by rfl) me (pa_cons (pv 0) pa_nil)) (pg_tup rfl (pgs_cons (pg_name (i := 3) sc_law_pool.nd rfl (.inl rfl)) (pgs_cons (pg_name (i := 4) sc_law_pool.nd rfl (.inl rfl)) pgs_nil)))
        (pss_one (ps_if (pt_cmpR op_ge (pv 4) (pe_op op_powX pe_int pe_int) (nomark _))
          (pss_one (ps_expr (pe_bm PySem.F.plainAttrs_list PySem.F.slot_list_append PySem.F.type_list_append mt_append (pv 2) (pa_cons (pe_op op_sub (pv 4) (pe_op op_powX pe_int pe_int)) pa_nil))))
          (pss_one (ps_set (i := 1) sc_law_pool.nd rfl (.inl rfl) (pe_op op_add (pe_op op_mod (pe_callTy call_int1 (by rfl) mi (by decide +kernel) (pa_cons (pe_op op_powX (pe_op op_add (pe_op op_add (pv 1) (pe_op op_mul pe_int (pv 3)))
            (pe_op op_mod (pe_callTy call_int1 (by rfl) mi (by decide +kernel) (pa_cons (pv 4) pa_nil)) (pe_op op_add (pe_op op_powX pe_int pe_int) pe_int))) pe_int) pa_nil)) (pe_op op_add (pe_op op_powX pe_int pe_int) pe_int)) pe_int))))))
      (pss_one (ps_ret (pe_lst (pa_cons (pv 2) (pa_cons pe_int (pa_cons (pv 1) (pa_cons pe_int pa_nil)))))))), ?_⟩
    refine ⟨Nat.zero_le _, fun b nb => ?_⟩
    have s0 := same_new (o := .lst []) nb
    refine ⟨_, _, rfl, ?_⟩
    refine ⟨.ref a, rfl, a, _, rfl, s0.seq hS, ?_⟩
    refine ⟨fun i n σ H1 => ∃ m gs y3 y4, σ = [some (.ref a), some (.int m), some (.ref b), y3, y4] ∧ i + n = ns.length ∧ Same H H1 ∧ H1 b = some (.lst (gs.map V.int)) ∧ gs.length ≤ i ∧ (∀ g ∈ gs, 0 ≤ g) ∧ 0 ≤ m ∧ m ≤ 10 ^ 29,
      ⟨ns.length, 60013, [], none, none, rfl, by omega, s0, upd_same, Nat.le_refl _, (fun g hg => absurd hg List.not_mem_nil), by decide, by decide⟩, fun i n σ H1 hW => ?_⟩
    obtain ⟨m, gs, y3, y4, rfl, en, sm, eb, gl, hg, m0, m1⟩ := hW
    have hA : SqL K H1 a (ns.map V.int) := sm.seq hS
    by_cases hi : i < ns.length
    · have g1 : (ns.map V.int)[i]? = some (.int ns[i]) := by rw [List.getElem?_map, List.getElem?_eq_getElem hi]; rfl
      refine .inr ⟨⟨_, _, hA, g1⟩, fun σ H2 => ∃ m gs y3 y4, σ = [some (.ref a), some (.int m), some (.ref b), y3, y4] ∧ Same H H2 ∧ H2 b = some (.lst (gs.map V.int)) ∧ gs.length ≤ i + 1 ∧ (∀ g ∈ gs, 0 ≤ g) ∧ 0 ≤ m ∧ m ≤ 10 ^ 29, fun σ H2 ⟨m, gs, y3, y4, e1, e2, e3, e4, e5, e6⟩ => ⟨n - 1, by omega, m, gs, y3, y4, e1, by omega, e2, e3, e4, e5, e6⟩, fun v H2 y => ?_⟩
      obtain ⟨T, z, rfl, nT, rfl, hz⟩ := y
      have ez := hz _ hA
      rw [g1] at ez
      cases ez
      have sT := same_new (o := .tup [.int (i : Nat), .int ns[i]]) nT
      refine ⟨T, _, rfl, .inl (.inl upd_same), rfl, _, _, rfl, _, _, rfl, rfl, ?_⟩
      have eb2 := sT _ _ eb
      have sm2 := sm.trans sT
      generalize upd H1 T (.tup [.int (i : Nat), .int ns[i]]) = H2 at eb2 sm2 ⊢
      refine ⟨_, rfl, _, _, rfl, rfl, ⟨by decide, by decide⟩, _, _, rfl, rfl, _, rfl, ite2 (fun e => ?_) (fun e => ?_)⟩
      · refine ⟨_, rfl, .inl ⟨rfl, _, SqL.of eb2⟩, _, rfl, _, _, rfl, rfl, ⟨by decide, by decide⟩, _, _, rfl, rfl, b, _, _, rfl, rfl, eb2, ?_, ?_⟩
        · rw [List.length_map]
          exact small1000 (by omega)
        · refine ⟨m, gs ++ [ns[i] - 10 ^ Int.toNat 18], _, _, rfl, fun y o ey => ?_, ?_, by rw [List.length_append]; exact Nat.succ_le_succ gl, fun g hg' => ?_, m0, m1⟩
          · rw [upd_ne (ne_of_none ey nb)]
            exact sm2 _ _ ey
          · rw [upd_same, List.map_append]; rfl
          · rcases List.mem_append.mp hg' with h | h
            · exact hg g h
            · have h : g = ns[i] - 10 ^ Int.toNat 18 := by simpa using h
              have e2 : (10 : Int) ^ Int.toNat 18 ≤ ns[i] := of_decide_eq_true e
              omega
      · have c1 : 0 ≤ ns[i] % (10 ^ Int.toNat 21 + 117) := Int.emod_nonneg _ (by decide +kernel)
        have c2 : ns[i] % (10 ^ Int.toNat 21 + 117) < 10 ^ Int.toNat 21 + 117 := Int.emod_lt_of_pos _ (by decide +kernel)
        have hb : (m + 31 * ((i : Nat) : Int) + ns[i] % (10 ^ Int.toNat 21 + 117)).natAbs < 2 ^ 120 := by
          have k1 : (10 : Int) ^ Int.toNat 21 + 117 ≤ 2 ^ 100 := by decide +kernel
          have k2 : (10 : Int) ^ 29 ≤ 2 ^ 100 := by decide +kernel
          have k3 : (2 : Int) ^ 120 = 2 ^ 100 * 1048576 := by decide +kernel
          have k4 : (1000000 : Int) ≤ 2 ^ 100 := by decide +kernel
          have k5 : m + 31 * ((i : Nat) : Int) + ns[i] % (10 ^ Int.toNat 21 + 117) < 2 ^ 120 := by
            rw [k3]
            generalize ns[i] % (10 ^ Int.toNat 21 + 117) = y at c1 c2 ⊢
            generalize (2 : Int) ^ 100 = z at *
            omega
          have k6 : 0 ≤ m + 31 * ((i : Nat) : Int) + ns[i] % (10 ^ Int.toNat 21 + 117) := by omega
          have : (((m + 31 * ((i : Nat) : Int) + ns[i] % (10 ^ Int.toNat 21 + 117)).natAbs : Nat) : Int) < ((2 ^ 120 : Nat) : Int) := by
            rw [Int.natAbs_of_nonneg k6]
            exact_mod_cast k5
          exact_mod_cast this
        have v1 := bits_lt hb
        refine ⟨_, rfl, _, rfl, _, _, rfl, rfl, .inl ⟨by decide, by decide⟩, _, _, rfl, rfl, _, rfl, .inl ⟨_, rfl, _, _, rfl, rfl, ⟨by decide, by decide⟩, _, _, rfl, rfl, _, _, rfl, rfl, (by show (0 : Int) < 10 ^ 21 + 117; decide +kernel), _, _, rfl, rfl, _, _, rfl, rfl, ⟨by decide, by omega⟩,
          .inl ⟨_, rfl, _, _, rfl, rfl, ⟨by decide, by decide⟩, _, _, rfl, rfl, _, _, rfl, rfl, (by show (0 : Int) < 10 ^ 28 + 331; decide +kernel), _, _, rfl, rfl, _, gs, _, _, rfl, sm2, eb2, Nat.le_succ_of_le gl, hg, ?_, ?_⟩⟩⟩
        · exact Int.add_nonneg (Int.emod_nonneg _ (by decide +kernel)) (by decide)
        · have z := Int.emod_lt_of_pos ((m + 31 * ((i : Nat) : Int) + ns[i] % (10 ^ Int.toNat 21 + 117)) ^ Int.toNat 3) (show (0 : Int) < 10 ^ Int.toNat 28 + 331 by decide +kernel)
          have k1 : (10 : Int) ^ Int.toNat 28 + 331 + 1 ≤ 10 ^ 29 := by decide +kernel
          omega
    · have ei : i = ns.length := by omega
      subst ei
      refine .inl ⟨⟨_, hA, by rw [List.length_map]; exact Nat.le_refl _⟩, ?_⟩
      refine ⟨_, rfl, _, rfl, by show 4 ≤ sizeLine; decide, fun p np => ?_⟩
      have npb : p ≠ b := fun z => by rw [z, eb] at np; cases np
      refine q _ p b (sm.trans (same_new np)) ?_ nb ⟨gs, 0, m, 0, upd_same, by rw [upd_ne npb.symm]; exact eb, npb, hg, by decide, m0, Int.le_trans m1 (by decide), by decide, by decide⟩
      cases e : H p with
      | none => rfl
      | some o => rw [sm p o e] at np; cases np

theorem ok_lowest (T : Txt K mg) : FnOk P w K mg base CX0 1 T.a_lowest T.d_lowest P_lowest (spW (K := K) poolA (aC eI (aC eI aN)) w_lowest eN) :=
  fn_R (k := 0) (wb := wb_lowest) (ρ' := fun z : Empty => nomatch z) T.F_lowest sc_lowest rfl (show 2 ≤ 3 by decide) fun cdv A outer s H E pp x hr => (re [Sl.sh eI x.1, Sl.sh eI x.2.1, Sl.nil] rfl (sx (nset 2 sc_lowest.nd (xcallG c_gcd T.m_gcd (axc (xv 0 rfl) (axc (xv 1 rfl) axn)))) fun _ v1 => (re [Sl.sh eI x.1, Sl.sh eI x.2.1, Sl.sh eI v1] rfl (sq_ (nifJ (fun r (s : Int) => (put r 2 (Sl.sh eI s))) (tcmp w_lt (xv 1 rfl) xint) (re [Sl.sh eI x.1, Sl.sh eI x.2.1, Sl.sh eI v1] rfl (sx (nset 2 sc_lowest.nd (xun w_neg (xv 2 rfl))) fun _ v10 => (re [Sl.sh eI x.1, Sl.sh eI x.2.1, Sl.sh eI v10] rfl (snil (s := (v10)) (Fit.eq (Fit.eq (Fit.eq Fit.nil))))))) (re [Sl.sh eI x.1, Sl.sh eI x.2.1, Sl.sh eI v1] rfl (snil (s := (v1)) (Fit.eq (Fit.eq (Fit.eq Fit.nil)))))) fun s12 => (re [Sl.sh eI x.1, Sl.sh eI x.2.1, Sl.sh eI s12] rfl (sret (xtup2 (axc (xop w_fdiv (xv 0 rfl) (xv 2 rfl)) (axc (xop w_fdiv (xv 1 rfl) (xv 2 rfl)) axn)))))))))
theorem ok_sum_two (T : Txt K mg) : FnOk P w K mg base CX0 2 T.a_sum_two T.d_sum_two P_sum_two (spW (K := K) poolA (aC eN (aC eN aN)) w_sum_two eN) :=
  fn_R (k := 1) (wb := wb_sum_two) (ρ' := fun z : Empty => nomatch z) T.F_sum_two sc_sum_two rfl (show 2 ≤ 2 by decide) fun cdv A outer s H E pp x hr => (re [Sl.sh eN x.1, Sl.sh eN x.2.1] rfl (sret (xcall (ok_lowest T) (hr.mono (by decide)) T.m_lowest T.F_lowest.kp (b_lowest T) (axc (xop0 w_add (xop w_mul (xfst (xv 0 rfl)) (xsnd (xv 1 rfl))) (xop w_mul (xfst (xv 1 rfl)) (xsnd (xv 0 rfl)))) (axc (xop w_mul (xsnd (xv 0 rfl)) (xsnd (xv 1 rfl))) axn)))))
theorem ok_product_two (T : Txt K mg) : FnOk P w K mg base CX0 2 T.a_product_two T.d_product_two P_product_two (spW (K := K) poolA (aC eN (aC eN aN)) w_product_two eN) :=
  fn_R (k := 1) (wb := wb_product_two) (ρ' := fun z : Empty => nomatch z) T.F_product_two sc_product_two rfl (show 2 ≤ 2 by decide) fun cdv A outer s H E pp x hr => (re [Sl.sh eN x.1, Sl.sh eN x.2.1] rfl (sret (xcall (ok_lowest T) (hr.mono (by decide)) T.m_lowest T.F_lowest.kp (b_lowest T) (axc (xop w_mul (xfst (xv 0 rfl)) (xfst (xv 1 rfl))) (axc (xop w_mul (xsnd (xv 0 rfl)) (xsnd (xv 1 rfl))) axn)))))
theorem ok_is_number (T : Txt K mg) : FnOk P w K mg base CX0 1 T.a_is_number T.d_is_number P_is_number (spW (K := K) poolA (aC eN aN) w_is_number eB) :=
  fn_R (k := 0) (wb := wb_is_number) (ρ' := fun z : Empty => nomatch z) T.F_is_number sc_is_number rfl (show 1 ≤ 1 by decide) fun cdv A outer s H E pp x hr => (re [Sl.sh eN x.1] rfl (sret (xand (xcmp w_ge (xsnd (xv 0 rfl)) xint) (xone (xcmp w_eqI (xcallG c_gcd T.m_gcd (axc (xfst (xv 0 rfl)) (axc (xsnd (xv 0 rfl)) axn))) xint)))))
theorem ok_checked (T : Txt K mg) : FnOk P w K mg base CX0 2 T.a_checked T.d_checked P_checked (spW (K := K) poolA (aC eN aN) w_checked eN) :=
  fn_R (k := 1) (wb := wb_checked) (ρ' := fun z : Empty => nomatch z) T.F_checked sc_checked rfl (show 1 ≤ 1 by decide) fun cdv A outer s H E pp x hr => (re [Sl.sh eN x.1] rfl (sq_ (nif0 (tnot (tval (xcall (ok_is_number T) (hr.mono (by decide)) T.m_is_number T.F_is_number.kp (b_is_number T) (axc (xv 0 rfl) axn)))) snever) fun _ => (re [Sl.sh eN x.1] rfl (sret (xv 0 rfl)))))
theorem ok_check_numbers (T : Txt K mg) : FnOk P w K mg base CX0 2 T.a_check_numbers T.d_check_numbers P_check_numbers (spW (K := K) poolA (aC (eL eN) aN) w_check_numbers eU) :=
  fn_U (k := 1) (wb := wb_check_numbers) (ρ' := fun _ : Unit => List.replicate 2 .nil) T.F_check_numbers sc_check_numbers rfl (show 1 ≤ 2 by decide) fun cdv A outer s H E pp x hr => (re [Sl.sh (eL eN) x.1, Sl.nil] rfl (sq_ (nforJ (fun r (_ : Unit) => r) (s0 := ()) PassesOwn.never rfl (wlistL 1 (xv 0 rfl)) (pg_name (i := 1) sc_check_numbers.nd rfl (by first | exact Or.inl rfl | exact Or.inr rfl)) (Fit.eq (Fit.eq Fit.nil)) (fun s74 y75 => (re [Sl.sh (eL eN) x.1, Sl.sh eN y75] rfl (sq_ (nif0 (tnot (tval (xcall (ok_is_number T) (hr.mono (by decide)) T.m_is_number T.F_is_number.kp (b_is_number T) (axc (xv 1 rfl) axn)))) snever) fun _ => (re [Sl.sh (eL eN) x.1, Sl.sh eN y75] rfl (snil (s := ()) (Fit.eq (Fit.dr Fit.nil)))))))) fun s80 => (re [Sl.sh (eL eN) x.1, Sl.nil] rfl (snil (s := ()) (Fit.dr (Fit.eq Fit.nil))))))
theorem ok_integers_of (T : Txt K mg) : FnOk P w K mg base CX0 1 T.a_integers_of T.d_integers_of P_integers_of (spW (K := K) poolA (aC (eL eN) aN) w_integers_of (eP (eL eI) eI)) :=
  fn_R (k := 0) (wb := wb_integers_of) (ρ' := fun z : Empty => nomatch z) T.F_integers_of sc_integers_of rfl (show 1 ≤ 3 by decide) fun cdv A outer s H E pp x hr => (re [Sl.sh (eL eN) x.1, Sl.nil, Sl.nil] rfl (sx (nset 1 sc_integers_of.nd xint) fun _ v81 => (re [Sl.sh (eL eN) x.1, Sl.sh eI v81, Sl.nil] rfl (sq_ (nforJ (fun r (s : Int) => (put r 1 (Sl.sh eI s))) (s0 := (v81)) PassesOwn.never rfl (wlistL 2 (xv 0 rfl)) (pg_name (i := 2) sc_integers_of.nd rfl (by first | exact Or.inl rfl | exact Or.inr rfl)) (Fit.eq (Fit.eq (Fit.eq Fit.nil))) (fun s82 y83 => (re [Sl.sh (eL eN) x.1, Sl.sh eI s82, Sl.sh eN y83] rfl (sx (nset 1 sc_integers_of.nd (xcallG c_lcm T.m_lcm (axc (xv 1 rfl) (axc (xsnd (xv 2 rfl)) axn)))) fun _ v84 => (re [Sl.sh (eL eN) x.1, Sl.sh eI v84, Sl.sh eN y83] rfl (snil (s := (v84)) (Fit.eq (Fit.eq (Fit.dr Fit.nil))))))))) fun s91 => (re [Sl.sh (eL eN) x.1, Sl.sh eI s91, Sl.nil] rfl (sret (xtup2 (axc (xfr (xlc (own := [(Str.ofString "number", 2)]) rfl sc_integers_of.nd (wlistL 2 (xv 0 rfl)) (blkOk_by (N := N_integers_of) (sc := defScope s_integers_of) (by decide +kernel)) (by decide) (nil1 rfl) (fun _ => rfl) (fun _ _ _ _ _ => (pg_name (i := 2) sc_integers_of.nd rfl (by first | exact Or.inl rfl | exact Or.inr rfl))) (fun _ _ _ _ _ y92 => (xop w_mul (xfst (xv 2 rfl)) (xop w_fdiv (xv 1 rfl) (xsnd (xv 2 rfl))))))) (axc (xv 1 rfl) axn)))))))))
theorem ok_numbers_of (T : Txt K mg) : FnOk P w K mg base CX0 2 T.a_numbers_of T.d_numbers_of P_numbers_of (spW (K := K) poolA (aC (eL eI) (aC eI aN)) w_numbers_of (eL eN)) :=
  fn_R (k := 1) (wb := wb_numbers_of) (ρ' := fun z : Empty => nomatch z) T.F_numbers_of sc_numbers_of rfl (show 2 ≤ 3 by decide) fun cdv A outer s H E pp x hr => (re [Sl.sh (eL eI) x.1, Sl.sh eI x.2.1, Sl.nil] rfl (sret (xfr (xlc (own := [(Str.ofString "integer", 2)]) rfl sc_numbers_of.nd (wlistL 2 (xv 0 rfl)) (blkOk_by (N := N_numbers_of) (sc := defScope s_numbers_of) (by decide +kernel)) (by decide) (nil1 rfl) (fun _ => rfl) (fun _ _ _ _ _ => (pg_name (i := 2) sc_numbers_of.nd rfl (by first | exact Or.inl rfl | exact Or.inr rfl))) (fun _ _ _ _ _ y106 => (xcall (ok_lowest T) (hr.mono (by decide)) T.m_lowest T.F_lowest.kp (b_lowest T) (axc (xv 2 rfl) (axc (xv 1 rfl) axn))))))))
theorem ok_fresh (T : Txt K mg) : ∀ n : Nat, FnOk P w K mg base CX0 (1 + n) T.a_fresh T.d_fresh P_fresh (spW (K := K) poolA (aC eD aN) (w_fresh n) eD)
  | 0 => fn_R (k := 0) (wb := fun _ => stuck) (ρ' := fun z : Empty => nomatch z) T.F_fresh sc_fresh rfl (show 1 ≤ 2 by decide) fun cdv A outer s H E pp x hr => snever
  | n + 1 =>
    have ih := ok_fresh T n
    fn_R (k := 1 + n) (ρ' := fun z : Empty => nomatch z) T.F_fresh sc_fresh rfl (show 1 ≤ 2 by decide) fun cdv A outer s H E pp x hr => (re [Sl.sh eD x.1, Sl.nil] rfl (sq_ (nif0 (tval (xisi T.z_isinstance T.z_list (by decide +kernel) (by decide) (xv 0 rfl))) (re [Sl.sh eD x.1, Sl.nil] rfl (sret (xD (tdL tdD) (xfr (xlc (own := [(Str.ofString "piece", 1)]) rfl sc_fresh.nd (wlistL 1 (xDl (xv 0 rfl))) (blkOk_by (N := N_fresh) (sc := defScope s_fresh) (by decide +kernel)) (by decide) (nil1 rfl) (fun _ => rfl) (fun _ _ _ _ _ => (pg_name (i := 1) sc_fresh.nd rfl (by first | exact Or.inl rfl | exact Or.inr rfl))) (fun _ _ _ _ _ y116 => (xcall ih hr T.m_fresh T.F_fresh.kp (b_fresh T) (axc (xv 1 rfl) axn))))))))) fun _ => (re [Sl.sh eD x.1, Sl.nil] rfl (sq_ (nif0 (tval (xisi T.z_isinstance T.z_tuple (by decide +kernel) (by decide) (xv 0 rfl))) (re [Sl.sh eD x.1, Sl.nil] rfl (sret (xcallT c_tupD T.z_tuple (by decide +kernel) (axc (xfr (xlc (own := [(Str.ofString "piece", 1)]) rfl sc_fresh.nd (wtupD 1 (xv 0 rfl)) (blkOk_by (N := N_fresh) (sc := defScope s_fresh) (by decide +kernel)) (by decide) (nil1 rfl) (fun _ => rfl) (fun _ _ _ _ _ => (pg_name (i := 1) sc_fresh.nd rfl (by first | exact Or.inl rfl | exact Or.inr rfl))) (fun _ _ _ _ _ y125 => (xcall ih hr T.m_fresh T.F_fresh.kp (b_fresh T) (axc (xv 1 rfl) axn))))) axn))))) fun _ => (re [Sl.sh eD x.1, Sl.nil] rfl (sret (xv 0 rfl)))))))
theorem ok_plus_row (T : Txt K mg) : FnOk P w K mg base CX0 3 T.a_plus_row T.d_plus_row P_plus_row (spW (K := K) poolA (aC (eL eN) (aC (eL eN) aN)) w_plus_row (eL eN)) :=
  fn_R (k := 2) (wb := wb_plus_row) (ρ' := fun z : Empty => nomatch z) T.F_plus_row sc_plus_row rfl (show 2 ≤ 4 by decide) fun cdv A outer s H E pp x hr => (re [Sl.sh (eL eN) x.1, Sl.sh (eL eN) x.2.1, Sl.nil, Sl.nil] rfl (sret (xfr (xlc (own := [(Str.ofString "left", 2), (Str.ofString "right", 3)]) rfl sc_plus_row.nd (wzip 2 3 T.z_zip (axc (xv 0 rfl) (axc (xv 1 rfl) axn))) (blkOk_by (N := N_plus_row) (sc := defScope s_plus_row) (by decide +kernel)) (by decide) (nil2 rfl rfl) (fun _ => rfl) (fun _ _ _ _ _ => (pg_tup rfl (pgs_cons (pg_name (i := 2) sc_plus_row.nd rfl (by first | exact Or.inl rfl | exact Or.inr rfl)) (pgs_cons (pg_name (i := 3) sc_plus_row.nd rfl (by first | exact Or.inl rfl | exact Or.inr rfl)) pgs_nil)))) (fun _ _ _ _ _ y139 => (xcall (ok_sum_two T) (hr.mono (by decide)) T.m_sum_two T.F_sum_two.kp (b_sum_two T) (axc (xv 2 rfl) (axc (xv 3 rfl) axn))))))))
theorem ok_scaled_row (T : Txt K mg) : FnOk P w K mg base CX0 3 T.a_scaled_row T.d_scaled_row P_scaled_row (spW (K := K) poolA (aC eN (aC (eL eN) aN)) w_scaled_row (eL eN)) :=
  fn_R (k := 2) (wb := wb_scaled_row) (ρ' := fun z : Empty => nomatch z) T.F_scaled_row sc_scaled_row rfl (show 2 ≤ 3 by decide) fun cdv A outer s H E pp x hr => (re [Sl.sh eN x.1, Sl.sh (eL eN) x.2.1, Sl.nil] rfl (sret (xfr (xlc (own := [(Str.ofString "number", 2)]) rfl sc_scaled_row.nd (wlistL 2 (xv 1 rfl)) (blkOk_by (N := N_scaled_row) (sc := defScope s_scaled_row) (by decide +kernel)) (by decide) (nil1 rfl) (fun _ => rfl) (fun _ _ _ _ _ => (pg_name (i := 2) sc_scaled_row.nd rfl (by first | exact Or.inl rfl | exact Or.inr rfl))) (fun _ _ _ _ _ y146 => (xcall (ok_product_two T) (hr.mono (by decide)) T.m_product_two T.F_product_two.kp (b_product_two T) (axc (xv 0 rfl) (axc (xv 2 rfl) axn))))))))
theorem ok_check_rows (T : Txt K mg) : FnOk P w K mg base CX0 3 T.a_check_rows T.d_check_rows P_check_rows (spW (K := K) poolA (aC (eL (eL eN)) (aC eI aN)) w_check_rows eU) :=
  fn_U (k := 2) (wb := wb_check_rows) (ρ' := fun _ : Unit => List.replicate 3 .nil) T.F_check_rows sc_check_rows rfl (show 2 ≤ 3 by decide) fun cdv A outer s H E pp x hr => (re [Sl.sh (eL (eL eN)) x.1, Sl.sh eI x.2.1, Sl.nil] rfl (sq_ (nforJ (fun r (_ : Unit) => r) (s0 := ()) PassesOwn.never rfl (wlistL 2 (xv 0 rfl)) (pg_name (i := 2) sc_check_rows.nd rfl (by first | exact Or.inl rfl | exact Or.inr rfl)) (Fit.eq (Fit.eq (Fit.eq Fit.nil))) (fun s153 y154 => (re [Sl.sh (eL (eL eN)) x.1, Sl.sh eI x.2.1, Sl.sh (eL eN) y154] rfl (sx (nexpr (xcall (ok_check_numbers T) (hr.mono (by decide)) T.m_check_numbers T.F_check_numbers.kp (b_check_numbers T) (axc (xv 2 rfl) axn))) fun _ _ => (re [Sl.sh (eL (eL eN)) x.1, Sl.sh eI x.2.1, Sl.sh (eL eN) y154] rfl (snil (s := ()) (Fit.eq (Fit.eq (Fit.dr Fit.nil))))))))) fun s157 => (re [Sl.sh (eL (eL eN)) x.1, Sl.sh eI x.2.1, Sl.nil] rfl (sq_ (nforJ (fun r (_ : Unit) => r) (s0 := ()) PassesOwn.never rfl (wlistL 2 (xv 0 rfl)) (pg_name (i := 2) sc_check_rows.nd rfl (by first | exact Or.inl rfl | exact Or.inr rfl)) (Fit.eq (Fit.eq (Fit.eq Fit.nil))) (fun s158 y159 => (re [Sl.sh (eL (eL eN)) x.1, Sl.sh eI x.2.1, Sl.sh (eL eN) y159] rfl (sq_ (nif0 (tcmp w_neI (xcallB c_len T.z_len (by decide +kernel) (axc (xv 2 rfl) axn)) (xv 1 rfl)) snever) fun _ => (re [Sl.sh (eL (eL eN)) x.1, Sl.sh eI x.2.1, Sl.sh (eL eN) y159] rfl (snil (s := ()) (Fit.eq (Fit.eq (Fit.dr Fit.nil))))))))) fun s166 => (re [Sl.sh (eL (eL eN)) x.1, Sl.sh eI x.2.1, Sl.nil] rfl (snil (s := ()) (Fit.dr (Fit.dr (Fit.eq Fit.nil)))))))))
theorem ok_Table_init (T : Txt K mg) : FnOk P w K mg base CX0 9 T.a_Table_init T.d_Table_init P_Table_init (spI poolA T.c_Table ns_Table (fe_Table K) (aC (eL (eL (eL eN))) aN) w_Table_init) :=
  fn_I (k := 8) (wb := wb_Table_init) (ns := ns_Table) (t := fe_Table K) T.F_Table_init sc_Table_init rfl (show 2 ≤ 10 by decide) 9 fun cdv A outer s H E pp x a hr => (re [Sl.ow a (oIns T.c_Table [] fN) (), Sl.sh (eL (eL (eL eN))) x.1, Sl.nil, Sl.nil, Sl.nil, Sl.nil, Sl.nil, Sl.nil, Sl.nil, Sl.nil] rfl (sq_ (nforJ (fun r (_ : Unit) => r) (s0 := ()) PassesOwn.never rfl (wlistL 2 (xv 1 rfl)) (pg_name (i := 2) sc_Table_init.nd rfl (by first | exact Or.inl rfl | exact Or.inr rfl)) (Fit.eq (Fit.eq (Fit.eq (Fit.eq (Fit.eq (Fit.eq (Fit.eq (Fit.eq (Fit.eq (Fit.eq Fit.nil)))))))))) (fun s167 y168 => (re [Sl.ow a (oIns T.c_Table [] fN) (), Sl.sh (eL (eL (eL eN))) x.1, Sl.sh (eL (eL eN)) y168, Sl.nil, Sl.nil, Sl.nil, Sl.nil, Sl.nil, Sl.nil, Sl.nil] rfl (sq_ (nforJ (fun r (_ : Unit) => r) (s0 := ()) PassesOwn.never rfl (wlistL 3 (xv 2 rfl)) (pg_name (i := 3) sc_Table_init.nd rfl (by first | exact Or.inl rfl | exact Or.inr rfl)) (Fit.eq (Fit.eq (Fit.eq (Fit.eq (Fit.eq (Fit.eq (Fit.eq (Fit.eq (Fit.eq (Fit.eq Fit.nil)))))))))) (fun s169 y170 => (re [Sl.ow a (oIns T.c_Table [] fN) (), Sl.sh (eL (eL (eL eN))) x.1, Sl.sh (eL (eL eN)) y168, Sl.sh (eL eN) y170, Sl.nil, Sl.nil, Sl.nil, Sl.nil, Sl.nil, Sl.nil] rfl (sx (nexpr (xcall (ok_check_numbers T) (hr.mono (by decide)) T.m_check_numbers T.F_check_numbers.kp (b_check_numbers T) (axc (xv 3 rfl) axn))) fun _ _ => (re [Sl.ow a (oIns T.c_Table [] fN) (), Sl.sh (eL (eL (eL eN))) x.1, Sl.sh (eL (eL eN)) y168, Sl.sh (eL eN) y170, Sl.nil, Sl.nil, Sl.nil, Sl.nil, Sl.nil, Sl.nil] rfl (snil (s := ()) (Fit.eq (Fit.eq (Fit.eq (Fit.dr (Fit.eq (Fit.eq (Fit.eq (Fit.eq (Fit.eq (Fit.eq Fit.nil)))))))))))))))) fun s173 => (re [Sl.ow a (oIns T.c_Table [] fN) (), Sl.sh (eL (eL (eL eN))) x.1, Sl.sh (eL (eL eN)) y168, Sl.nil, Sl.nil, Sl.nil, Sl.nil, Sl.nil, Sl.nil, Sl.nil] rfl (snil (s := ()) (Fit.eq (Fit.eq (Fit.dr (Fit.eq (Fit.eq (Fit.eq (Fit.eq (Fit.eq (Fit.eq (Fit.eq Fit.nil)))))))))))))))) fun s174 => (re [Sl.ow a (oIns T.c_Table [] fN) (), Sl.sh (eL (eL (eL eN))) x.1, Sl.nil, Sl.nil, Sl.nil, Sl.nil, Sl.nil, Sl.nil, Sl.nil, Sl.nil] rfl (sx (nset 4 sc_Table_init.nd (xcallB c_len T.z_len (by decide +kernel) (axc (xv 1 rfl) axn))) fun _ v175 => (re [Sl.ow a (oIns T.c_Table [] fN) (), Sl.sh (eL (eL (eL eN))) x.1, Sl.nil, Sl.nil, Sl.sh eI v175, Sl.nil, Sl.nil, Sl.nil, Sl.nil, Sl.nil] rfl (sx (nsetF (xlcS 5 (own := [(Str.ofString "rows", 2)]) rfl sc_Table_init.nd (wlistL 2 (xv 1 rfl)) (blkOk_by (N := N_Table_init) (sc := defScope s_Table_init) (by decide +kernel)) (by decide) (nil1 rfl) (fun _ => rfl) (fun _ _ _ _ _ => (pg_name (i := 2) sc_Table_init.nd rfl (by first | exact Or.inl rfl | exact Or.inr rfl))) (fun _ _ _ _ _ y180 => (xand (xcmp w_eqI (xcallB c_len T.z_len (by decide +kernel) (axc (xv 2 rfl) axn)) (xv 4 rfl)) (xone (xcallB (c_allB rfl) T.z_all (by decide +kernel) (axc (xfr (xlc (own := [(Str.ofString "row", 3)]) rfl sc_Table_init.nd (wlistL 3 (xv 2 rfl)) (blk_in (N := N_Table_init) (sc := defScope s_Table_init) rfl rfl (by decide +kernel)) (by decide) (nil1 rfl) (fun _ => rfl) (fun _ _ _ _ _ => (pg_name (i := 3) sc_Table_init.nd rfl (by first | exact Or.inl rfl | exact Or.inr rfl))) (fun _ _ _ _ _ y186 => (xcmp w_eqI (xcallB c_len T.z_len (by decide +kernel) (axc (xv 3 rfl) axn)) (xv 4 rfl))))) axn))))) (sw_true rfl rfl rfl (by decide +kernel)))) fun _ v179 => (re [Sl.ow a (oIns T.c_Table [] fN) (), Sl.sh (eL (eL (eL eN))) x.1, Sl.nil, Sl.nil, Sl.sh eI v175, Sl.sh (eL eB) v179, Sl.nil, Sl.nil, Sl.nil, Sl.nil] rfl (sq_ (nif0 (tw (wor (tcmp w_eqI (xv 4 rfl) xint) (wor1 (tnot (tval (xcallB (c_allB rfl) T.z_all (by decide +kernel) (axc (xv 5 rfl) axn))))))) snever) fun _ => (re [Sl.ow a (oIns T.c_Table [] fN) (), Sl.sh (eL (eL (eL eN))) x.1, Sl.nil, Sl.nil, Sl.sh eI v175, Sl.sh (eL eB) v179, Sl.nil, Sl.nil, Sl.nil, Sl.nil] rfl (sx (nattr 0 T.cl_Table T.na_Table_products rfl (by decide +kernel) (xcastF (f := fun z => z) (frL (frL (frL (frP frI frI)))) (fun z => fresh_eq (n := 7) ((tmL (tmL (tmL (tmP tmI tmI)))) z)) (xcall (ok_fresh T 7) (hr.mono (by decide)) T.m_fresh T.F_fresh.kp (b_fresh T) (axc (xD (tdL (tdL (tdL (tdP tdI tdI)))) (xv 1 rfl)) axn)))) fun _ v210 => (re [Sl.ow a (oIns T.c_Table [Str.ofString "_products"] (fC (Str.ofString "_products") (eL (eL (eL eN))) fN)) (v210, ()), Sl.sh (eL (eL (eL eN))) x.1, Sl.nil, Sl.nil, Sl.sh eI v175, Sl.sh (eL eB) v179, Sl.nil, Sl.nil, Sl.nil, Sl.nil] rfl (sx (npairA 6 0 rfl sc_Table_init.nd T.cl_Table T.na_Table_below rfl (by decide +kernel) (xcall (ok_integers_of T) (hr.mono (by decide)) T.m_integers_of T.F_integers_of.kp (b_integers_of T) (axc (xfr (px_top (own := [(Str.ofString "rows", 2), (Str.ofString "row", 3), (Str.ofString "number", 7)]) (vs := [3, 7]) (js := [2]) rfl sc_Table_init.nd (wlistL 2 (xv 1 rfl)) (blkOk_by (N := N_Table_init) (sc := defScope s_Table_init) (by decide +kernel)) (by decide) (fun _ _ _ _ _ => (pg_name (i := 2) sc_Table_init.nd rfl (by first | exact Or.inl rfl | exact Or.inr rfl))) (fun _ _ _ _ _ _ y211 => (px_mid (vs := [3, 7]) (ws := [7]) (js := [3]) rfl rfl rfl (by intro g h; first | (cases h; exact ⟨rfl, fun _ => rfl⟩) | cases h) (wlistL 3 (xv 2 rfl)) (pg_name (i := 3) sc_Table_init.nd rfl (by first | exact Or.inl rfl | exact Or.inr rfl)) (fun y212 => (px_mid (vs := [7]) (ws := []) (js := [7]) rfl rfl rfl (by intro g h; first | (cases h; exact ⟨rfl, fun _ => rfl⟩) | cases h) (wlistL 7 (xv 3 rfl)) (pg_name (i := 7) sc_Table_init.nd rfl (by first | exact Or.inl rfl | exact Or.inr rfl)) (fun y213 => (px_end rfl rfl (xv 7 rfl))) (by decide) (by decide) (nil1 rfl) (fun _ => rfl))) (by decide) (by decide) (nil2 rfl rfl) (fun _ => rfl))) (by intro env g h; cases h; exact ⟨rfl, fun _ => rfl⟩) (by decide) (nil3 rfl rfl rfl) (fun _ => rfl))) axn))) fun _ v216 => (re [Sl.ow a (oIns T.c_Table [Str.ofString "_products", Str.ofString "_below"] (fC (Str.ofString "_below") eI (fC (Str.ofString "_products") (eL (eL (eL eN))) fN))) (v216.2, (v210, ())), Sl.sh (eL (eL (eL eN))) x.1, Sl.nil, Sl.nil, Sl.sh eI v175, Sl.sh (eL eB) v179, Sl.sh (eL eI) v216.1, Sl.nil, Sl.nil, Sl.nil] rfl (sx (nset 8 sc_Table_init.nd (xcallT c_range3 T.z_range (by decide +kernel) (axc xint (axc (xop w_mul (xop w_mul (xv 4 rfl) (xv 4 rfl)) (xv 4 rfl)) (axc (xv 4 rfl) axn))))) fun _ v217 => (re [Sl.ow a (oIns T.c_Table [Str.ofString "_products", Str.ofString "_below"] (fC (Str.ofString "_below") eI (fC (Str.ofString "_products") (eL (eL (eL eN))) fN))) (v216.2, (v210, ())), Sl.sh (eL (eL (eL eN))) x.1, Sl.nil, Sl.nil, Sl.sh eI v175, Sl.sh (eL eB) v179, Sl.sh (eL eI) v216.1, Sl.nil, Sl.sh eG v217, Sl.nil] rfl (sx (nattr 0 T.cl_Table T.na_Table_cells rfl (by decide +kernel) (xfr (xlc (own := [(Str.ofString "start", 9)]) rfl sc_Table_init.nd (wG 9 (xv 8 rfl)) (blkOk_by (N := N_Table_init) (sc := defScope s_Table_init) (by decide +kernel)) (by decide) (nil1 rfl) (fun _ => rfl) (fun _ _ _ _ _ => (pg_name (i := 9) sc_Table_init.nd rfl (by first | exact Or.inl rfl | exact Or.inr rfl))) (fun _ _ _ _ _ y229 => (xslice (xv 6 rfl) (on_some (xv 9 rfl)) (on_some (xop0 w_add (xv 9 rfl) (xv 4 rfl)))))))) fun _ v238 => (re [Sl.ow a (oIns T.c_Table [Str.ofString "_products", Str.ofString "_below", Str.ofString "_cells"] (fC (Str.ofString "_cells") (eL (eL eI)) (fC (Str.ofString "_below") eI (fC (Str.ofString "_products") (eL (eL (eL eN))) fN)))) (v238, (v216.2, (v210, ()))), Sl.sh (eL (eL (eL eN))) x.1, Sl.nil, Sl.nil, Sl.sh eI v175, Sl.sh (eL eB) v179, Sl.sh (eL eI) v216.1, Sl.nil, Sl.sh eG v217, Sl.nil] rfl (snil (s := (v238, (v216.2, (v210, ())))) (Fit.eq (Fit.dr (Fit.eq (Fit.eq (Fit.dr (Fit.dr (Fit.dr (Fit.eq (Fit.dr (Fit.eq Fit.nil))))))))))))))))))))))))))))
theorem ok_Table_size (T : Txt K mg) : FnOk P w K mg base CX0 1 T.a_Table_size T.d_Table_size P_Table_size (spW (K := K) poolA (aC (e_Table T) aN) w_Table_size eI) :=
  fn_R (k := 0) (wb := wb_Table_size) (ρ' := fun z : Empty => nomatch z) T.F_Table_size sc_Table_size rfl (show 1 ≤ 1 by decide) fun cdv A outer s H E pp x hr => (re [Sl.sh (e_Table T) x.1] rfl (sret (xcallB c_len T.z_len (by decide +kernel) (axc (xfld T.cl_Table T.na_Table_products (fS (fS f0)) (xv 0 rfl)) axn))))
theorem ok_Table_products (T : Txt K mg) : FnOk P w K mg base CX0 9 T.a_Table_products T.d_Table_products P_Table_products (spW (K := K) poolA (aC (e_Table T) aN) w_Table_products (eL (eL (eL eN)))) :=
  fn_R (k := 8) (wb := wb_Table_products) (ρ' := fun z : Empty => nomatch z) T.F_Table_products sc_Table_products rfl (show 1 ≤ 1 by decide) fun cdv A outer s H E pp x hr => (re [Sl.sh (e_Table T) x.1] rfl (sret (xcastF (f := fun z => z) (frL (frL (frL (frP frI frI)))) (fun z => fresh_eq (n := 7) ((tmL (tmL (tmL (tmP tmI tmI)))) z)) (xcall (ok_fresh T 7) (hr.mono (by decide)) T.m_fresh T.F_fresh.kp (b_fresh T) (axc (xD (tdL (tdL (tdL (tdP tdI tdI)))) (xfld T.cl_Table T.na_Table_products (fS (fS f0)) (xv 0 rfl))) axn)))))
theorem ok_Table_eq (T : Txt K mg) : FnOk P w K mg base CX0 1 T.a_Table_eq T.d_Table_eq P_Table_eq (spW (K := K) poolA (aC (e_Table T) (aC (e_Table T) aN)) w_Table_eq eB) :=
  fn_R (k := 0) (wb := wb_Table_eq) (ρ' := fun z : Empty => nomatch z) T.F_Table_eq sc_Table_eq rfl (show 2 ≤ 2 by decide) fun cdv A outer s H E pp x hr => (re [Sl.sh (e_Table T) x.1, Sl.sh (e_Table T) x.2.1] rfl (sret (xand (xisC T.z_isinstance T.m_Table T.ic_Table (xv 1 rfl)) (xone (xcmp (w_eqD (dL (dL (dL (dP dI dI)))) (dL (dL (dL (dP dI dI)))) (shx (shL (shL (shL (shP shI shI))))) (shx (shL (shL (shL (shP shI shI))))) hr.units) (xfld T.cl_Table T.na_Table_products (fS (fS f0)) (xv 0 rfl)) (xfld T.cl_Table T.na_Table_products (fS (fS f0)) (xv 1 rfl)))))))
theorem ok_Table_product_without_checks (T : Txt K mg) : FnOk P w K mg base CX0 3 T.a_Table_product_without_checks T.d_Table_product_without_checks P_Table_product_without_checks (spW (K := K) poolA (aC (e_Table T) (aC (eL eN) (aC (eL eN) aN))) w_Table_product_without_checks (eL eN)) :=
  fn_R (k := 2) (wb := wb_Table_product_without_checks) (ρ' := fun z : Empty => nomatch z) T.F_Table_product_without_checks sc_Table_product_without_checks rfl (show 3 ≤ 14 by decide) fun cdv A outer s H E pp x hr => (re [Sl.sh (e_Table T) x.1, Sl.sh (eL eN) x.2.1, Sl.sh (eL eN) x.2.2.1, Sl.nil, Sl.nil, Sl.nil, Sl.nil, Sl.nil, Sl.nil, Sl.nil, Sl.nil, Sl.nil, Sl.nil, Sl.nil] rfl (sx (npair 3 4 rfl sc_Table_product_without_checks.nd (xcall (ok_integers_of T) (hr.mono (by decide)) T.m_integers_of T.F_integers_of.kp (b_integers_of T) (axc (xv 1 rfl) axn))) fun _ v276 => (re [Sl.sh (e_Table T) x.1, Sl.sh (eL eN) x.2.1, Sl.sh (eL eN) x.2.2.1, Sl.sh (eL eI) v276.1, Sl.sh eI v276.2, Sl.nil, Sl.nil, Sl.nil, Sl.nil, Sl.nil, Sl.nil, Sl.nil, Sl.nil, Sl.nil] rfl (sx (npair 5 6 rfl sc_Table_product_without_checks.nd (xcall (ok_integers_of T) (hr.mono (by decide)) T.m_integers_of T.F_integers_of.kp (b_integers_of T) (axc (xv 2 rfl) axn))) fun _ v279 => (re [Sl.sh (e_Table T) x.1, Sl.sh (eL eN) x.2.1, Sl.sh (eL eN) x.2.2.1, Sl.sh (eL eI) v276.1, Sl.sh eI v276.2, Sl.sh (eL eI) v279.1, Sl.sh eI v279.2, Sl.nil, Sl.nil, Sl.nil, Sl.nil, Sl.nil, Sl.nil, Sl.nil] rfl (sx (nset 7 sc_Table_product_without_checks.nd (xcallB c_len T.z_len (by decide +kernel) (axc (xv 3 rfl) axn))) fun _ v282 => (re [Sl.sh (e_Table T) x.1, Sl.sh (eL eN) x.2.1, Sl.sh (eL eN) x.2.2.1, Sl.sh (eL eI) v276.1, Sl.sh eI v276.2, Sl.sh (eL eI) v279.1, Sl.sh eI v279.2, Sl.sh eI v282, Sl.nil, Sl.nil, Sl.nil, Sl.nil, Sl.nil, Sl.nil] rfl (sx (nown (nsetFe 8 sc_Table_product_without_checks.nd (xrepF (xlst (alc xint (aln (en := eI)))) (xv 7 rfl)))) fun p291 v286 => (re [Sl.sh (e_Table T) x.1, Sl.sh (eL eN) x.2.1, Sl.sh (eL eN) x.2.2.1, Sl.sh (eL eI) v276.1, Sl.sh eI v276.2, Sl.sh (eL eI) v279.1, Sl.sh eI v279.2, Sl.sh eI v282, Sl.ow p291 (oL eI) v286, Sl.nil, Sl.nil, Sl.nil, Sl.nil, Sl.nil] rfl (sq_ (nforJ (fun r (s : (List Int)) => (put r 8 (Sl.ow p291 (oL eI) s))) (s0 := (v286)) PassesOwn.never rfl (wrange1 9 T.z_range (axc (xv 7 rfl) axn)) (pg_name (i := 9) sc_Table_product_without_checks.nd rfl (by first | exact Or.inl rfl | exact Or.inr rfl)) (Fit.eq (Fit.eq (Fit.eq (Fit.eq (Fit.eq (Fit.eq (Fit.eq (Fit.eq (Fit.eq (Fit.eq (Fit.eq (Fit.eq (Fit.eq (Fit.eq Fit.nil)))))))))))))) (fun s295 y296 => (re [Sl.sh (e_Table T) x.1, Sl.sh (eL eN) x.2.1, Sl.sh (eL eN) x.2.2.1, Sl.sh (eL eI) v276.1, Sl.sh eI v276.2, Sl.sh (eL eI) v279.1, Sl.sh eI v279.2, Sl.sh eI v282, Sl.ow p291 (oL eI) s295, Sl.sh eI y296, Sl.nil, Sl.nil, Sl.nil, Sl.nil] rfl (sq_ (nforJ (fun r (s : (List Int)) => (put r 8 (Sl.ow p291 (oL eI) s))) (s0 := (s295)) PassesOwn.never rfl (wrange1 10 T.z_range (axc (xv 7 rfl) axn)) (pg_name (i := 10) sc_Table_product_without_checks.nd rfl (by first | exact Or.inl rfl | exact Or.inr rfl)) (Fit.eq (Fit.eq (Fit.eq (Fit.eq (Fit.eq (Fit.eq (Fit.eq (Fit.eq (Fit.eq (Fit.eq (Fit.eq (Fit.eq (Fit.eq (Fit.eq Fit.nil)))))))))))))) (fun s300 y301 => (re [Sl.sh (e_Table T) x.1, Sl.sh (eL eN) x.2.1, Sl.sh (eL eN) x.2.2.1, Sl.sh (eL eI) v276.1, Sl.sh eI v276.2, Sl.sh (eL eI) v279.1, Sl.sh eI v279.2, Sl.sh eI v282, Sl.ow p291 (oL eI) s300, Sl.sh eI y296, Sl.sh eI y301, Sl.nil, Sl.nil, Sl.nil] rfl (sx (nset 11 sc_Table_product_without_checks.nd (xop w_mul (xix w_ixL (xv 3 rfl) (xv 9 rfl)) (xix w_ixL (xv 5 rfl) (xv 10 rfl)))) fun _ v302 => (re [Sl.sh (e_Table T) x.1, Sl.sh (eL eN) x.2.1, Sl.sh (eL eN) x.2.2.1, Sl.sh (eL eI) v276.1, Sl.sh eI v276.2, Sl.sh (eL eI) v279.1, Sl.sh eI v279.2, Sl.sh eI v282, Sl.ow p291 (oL eI) s300, Sl.sh eI y296, Sl.sh eI y301, Sl.sh eI v302, Sl.nil, Sl.nil] rfl (sq_ (nifJ (fun r (s : (List Int)) => (put r 8 (Sl.ow p291 (oL eI) s))) (tcmp w_neI (xv 11 rfl) xint) (re [Sl.sh (e_Table T) x.1, Sl.sh (eL eN) x.2.1, Sl.sh (eL eN) x.2.2.1, Sl.sh (eL eI) v276.1, Sl.sh eI v276.2, Sl.sh (eL eI) v279.1, Sl.sh eI v279.2, Sl.sh eI v282, Sl.ow p291 (oL eI) s300, Sl.sh eI y296, Sl.sh eI y301, Sl.sh eI v302, Sl.nil, Sl.nil] rfl (sq_ (nforJ (fun r (s : (List Int)) => (put r 8 (Sl.ow p291 (oL eI) s))) (s0 := (s300)) PassesOwn.never rfl (wenum 12 13 T.z_enumerate (axc (xix w_ixL (xfld T.cl_Table T.na_Table_cells f0 (xv 0 rfl)) (xop0 w_add (xop w_mul (xv 9 rfl) (xv 7 rfl)) (xv 10 rfl))) axn)) (pg_tup rfl (pgs_cons (pg_name (i := 12) sc_Table_product_without_checks.nd rfl (by first | exact Or.inl rfl | exact Or.inr rfl)) (pgs_cons (pg_name (i := 13) sc_Table_product_without_checks.nd rfl (by first | exact Or.inl rfl | exact Or.inr rfl)) pgs_nil))) (Fit.eq (Fit.eq (Fit.eq (Fit.eq (Fit.eq (Fit.eq (Fit.eq (Fit.eq (Fit.eq (Fit.eq (Fit.eq (Fit.eq (Fit.eq (Fit.eq Fit.nil)))))))))))))) (fun s322 y323 => (re [Sl.sh (e_Table T) x.1, Sl.sh (eL eN) x.2.1, Sl.sh (eL eN) x.2.2.1, Sl.sh (eL eI) v276.1, Sl.sh eI v276.2, Sl.sh (eL eI) v279.1, Sl.sh eI v279.2, Sl.sh eI v282, Sl.ow p291 (oL eI) s322, Sl.sh eI y296, Sl.sh eI y301, Sl.sh eI v302, Sl.sh eI y323.1, Sl.sh eI y323.2] rfl (sx (naugix 8 rfl (xop w_mul (xv 11 rfl) (xv 13 rfl)) (xv 12 rfl) wi_add) fun _ v326 => (re [Sl.sh (e_Table T) x.1, Sl.sh (eL eN) x.2.1, Sl.sh (eL eN) x.2.2.1, Sl.sh (eL eI) v276.1, Sl.sh eI v276.2, Sl.sh (eL eI) v279.1, Sl.sh eI v279.2, Sl.sh eI v282, Sl.ow p291 (oL eI) (s322.set ((ixN s322.length v326.1).getD 0) v326.2), Sl.sh eI y296, Sl.sh eI y301, Sl.sh eI v302, Sl.sh eI y323.1, Sl.sh eI y323.2] rfl (snil (s := ((s322.set ((ixN s322.length v326.1).getD 0) v326.2))) (Fit.eq (Fit.eq (Fit.eq (Fit.eq (Fit.eq (Fit.eq (Fit.eq (Fit.eq (Fit.eq (Fit.eq (Fit.eq (Fit.eq (Fit.dr (Fit.dr Fit.nil)))))))))))))))))))) fun s329 => (re [Sl.sh (e_Table T) x.1, Sl.sh (eL eN) x.2.1, Sl.sh (eL eN) x.2.2.1, Sl.sh (eL eI) v276.1, Sl.sh eI v276.2, Sl.sh (eL eI) v279.1, Sl.sh eI v279.2, Sl.sh eI v282, Sl.ow p291 (oL eI) s329, Sl.sh eI y296, Sl.sh eI y301, Sl.sh eI v302, Sl.nil, Sl.nil] rfl (snil (s := (s329)) (Fit.eq (Fit.eq (Fit.eq (Fit.eq (Fit.eq (Fit.eq (Fit.eq (Fit.eq (Fit.eq (Fit.eq (Fit.eq (Fit.eq (Fit.eq (Fit.eq Fit.nil)))))))))))))))))) (re [Sl.sh (e_Table T) x.1, Sl.sh (eL eN) x.2.1, Sl.sh (eL eN) x.2.2.1, Sl.sh (eL eI) v276.1, Sl.sh eI v276.2, Sl.sh (eL eI) v279.1, Sl.sh eI v279.2, Sl.sh eI v282, Sl.ow p291 (oL eI) s300, Sl.sh eI y296, Sl.sh eI y301, Sl.sh eI v302, Sl.nil, Sl.nil] rfl (snil (s := (s300)) (Fit.eq (Fit.eq (Fit.eq (Fit.eq (Fit.eq (Fit.eq (Fit.eq (Fit.eq (Fit.eq (Fit.eq (Fit.eq (Fit.eq (Fit.eq (Fit.eq Fit.nil))))))))))))))))) fun s330 => (re [Sl.sh (e_Table T) x.1, Sl.sh (eL eN) x.2.1, Sl.sh (eL eN) x.2.2.1, Sl.sh (eL eI) v276.1, Sl.sh eI v276.2, Sl.sh (eL eI) v279.1, Sl.sh eI v279.2, Sl.sh eI v282, Sl.ow p291 (oL eI) s330, Sl.sh eI y296, Sl.sh eI y301, Sl.sh eI v302, Sl.nil, Sl.nil] rfl (snil (s := (s330)) (Fit.eq (Fit.eq (Fit.eq (Fit.eq (Fit.eq (Fit.eq (Fit.eq (Fit.eq (Fit.eq (Fit.eq (Fit.dr (Fit.dr (Fit.eq (Fit.eq Fit.nil)))))))))))))))))))))) fun s331 => (re [Sl.sh (e_Table T) x.1, Sl.sh (eL eN) x.2.1, Sl.sh (eL eN) x.2.2.1, Sl.sh (eL eI) v276.1, Sl.sh eI v276.2, Sl.sh (eL eI) v279.1, Sl.sh eI v279.2, Sl.sh eI v282, Sl.ow p291 (oL eI) s331, Sl.sh eI y296, Sl.nil, Sl.nil, Sl.nil, Sl.nil] rfl (snil (s := (s331)) (Fit.eq (Fit.eq (Fit.eq (Fit.eq (Fit.eq (Fit.eq (Fit.eq (Fit.eq (Fit.eq (Fit.dr (Fit.eq (Fit.eq (Fit.eq (Fit.eq Fit.nil)))))))))))))))))))) fun s332 => (re [Sl.sh (e_Table T) x.1, Sl.sh (eL eN) x.2.1, Sl.sh (eL eN) x.2.2.1, Sl.sh (eL eI) v276.1, Sl.sh eI v276.2, Sl.sh (eL eI) v279.1, Sl.sh eI v279.2, Sl.sh eI v282, Sl.ow p291 (oL eI) s332, Sl.nil, Sl.nil, Sl.nil, Sl.nil, Sl.nil] rfl (nfreeze 8 rfl (re [Sl.sh (e_Table T) x.1, Sl.sh (eL eN) x.2.1, Sl.sh (eL eN) x.2.2.1, Sl.sh (eL eI) v276.1, Sl.sh eI v276.2, Sl.sh (eL eI) v279.1, Sl.sh eI v279.2, Sl.sh eI v282, Sl.sh (eL eI) s332, Sl.nil, Sl.nil, Sl.nil, Sl.nil, Sl.nil] rfl (sret (xcall (ok_numbers_of T) (hr.mono (by decide)) T.m_numbers_of T.F_numbers_of.kp (b_numbers_of T) (axc (xv 8 rfl) (axc (xop w_mul (xop w_mul (xv 4 rfl) (xv 6 rfl)) (xfld T.cl_Table T.na_Table_below (fS f0) (xv 0 rfl))) axn)))))))))))))))))
theorem ok_Table_call (T : Txt K mg) : FnOk P w K mg base CX0 4 T.a_Table_call T.d_Table_call P_Table_call (spW (K := K) poolA (aC (e_Table T) (aC (eL eN) (aC (eL eN) aN))) w_Table_call (eL eN)) :=
  fn_R (k := 3) (wb := wb_Table_call) (ρ' := fun z : Empty => nomatch z) T.F_Table_call sc_Table_call rfl (show 3 ≤ 3 by decide) fun cdv A outer s H E pp x hr => (re [Sl.sh (e_Table T) x.1, Sl.sh (eL eN) x.2.1, Sl.sh (eL eN) x.2.2.1] rfl (sx (nexpr (xcall (ok_check_rows T) (hr.mono (by decide)) T.m_check_rows T.F_check_rows.kp (b_check_rows T) (axc (xlst (alc (xv 1 rfl) (alc (xv 2 rfl) (aln (en := (eL eN)))))) (axc (xcallB c_len T.z_len (by decide +kernel) (axc (xfld T.cl_Table T.na_Table_products (fS (fS f0)) (xv 0 rfl)) axn)) axn)))) fun _ _ => (re [Sl.sh (e_Table T) x.1, Sl.sh (eL eN) x.2.1, Sl.sh (eL eN) x.2.2.1] rfl (sret (xmeth T.cl_Table T.me_Table_product_without_checks (by decide +kernel) (ok_Table_product_without_checks T) (hr.mono (by decide)) (b_Table_product_without_checks T) (xv 0 rfl) (axc (xv 1 rfl) (axc (xv 2 rfl) axn)))))))
theorem ok_product_of (T : Txt K mg) : FnOk P w K mg base CX0 4 T.a_product_of T.d_product_of P_product_of (spW (K := K) poolA (aC (e_Table T) (aC (eL eN) (aC (eL eN) aN))) w_product_of (eL eN)) :=
  fn_R (k := 3) (wb := wb_product_of) (ρ' := fun z : Empty => nomatch z) T.F_product_of sc_product_of rfl (show 3 ≤ 3 by decide) fun cdv A outer s H E pp x hr => (re [Sl.sh (e_Table T) x.1, Sl.sh (eL eN) x.2.1, Sl.sh (eL eN) x.2.2.1] rfl (sret (xmeth T.cl_Table T.me_Table_product_without_checks (by decide +kernel) (ok_Table_product_without_checks T) (hr.mono (by decide)) (b_Table_product_without_checks T) (xv 0 rfl) (axc (xv 1 rfl) (axc (xv 2 rfl) axn)))))
theorem ok_opposite (T : Txt K mg) : FnOk P w K mg base CX0 11 T.a_opposite T.d_opposite P_opposite (spW (K := K) poolA (aC (e_Table T) aN) w_opposite (e_Table T)) :=
  fn_R (k := 10) (wb := wb_opposite) (ρ' := fun z : Empty => nomatch z) T.F_opposite sc_opposite rfl (show 1 ≤ 5 by decide) fun cdv A outer s H E pp x hr => (re [Sl.sh (e_Table T) x.1, Sl.nil, Sl.nil, Sl.nil, Sl.nil] rfl (sx (nset 1 sc_opposite.nd (xprop T.cl_Table T.pr_Table_products (ok_Table_products T) (hr.mono (by decide)) (b_Table_products T) (xv 0 rfl))) fun _ v350 => (re [Sl.sh (e_Table T) x.1, Sl.sh (eL (eL (eL eN))) v350, Sl.nil, Sl.nil, Sl.nil] rfl (sx (nset 2 sc_opposite.nd (xcallT c_range1 T.z_range (by decide +kernel) (axc (xprop T.cl_Table T.pr_Table_size (ok_Table_size T) (hr.mono (by decide)) (b_Table_size T) (xv 0 rfl)) axn))) fun _ v352 => (re [Sl.sh (e_Table T) x.1, Sl.sh (eL (eL (eL eN))) v350, Sl.sh eG v352, Sl.nil, Sl.nil] rfl (sret (xmake T.mk_Table (ok_Table_init T) (hr.mono (by decide)) T.m_Table (b_Table_init T) (axc (xfr (xlc (own := [(Str.ofString "i", 4)]) rfl sc_opposite.nd (wG 4 (xv 2 rfl)) (blkOk_by (N := N_opposite) (sc := defScope s_opposite) (by decide +kernel)) (by decide) (nil1 rfl) (fun _ => rfl) (fun _ _ _ _ _ => (pg_name (i := 4) sc_opposite.nd rfl (by first | exact Or.inl rfl | exact Or.inr rfl))) (fun _ _ _ _ _ y357 => (xfr (xlc (own := [(Str.ofString "j", 3)]) rfl sc_opposite.nd (wG 3 (xv 2 rfl)) (blk_in (N := N_opposite) (sc := defScope s_opposite) rfl rfl (by decide +kernel)) (by decide) (nil1 rfl) (fun _ => rfl) (fun _ _ _ _ _ => (pg_name (i := 3) sc_opposite.nd rfl (by first | exact Or.inl rfl | exact Or.inr rfl))) (fun _ _ _ _ _ y358 => (xix w_ixL (xix w_ixL (xv 1 rfl) (xv 3 rfl)) (xv 4 rfl)))))))) axn))))))))
theorem ok_blended (T : Txt K mg) : FnOk P w K mg base CX0 11 T.a_blended T.d_blended P_blended (spW (K := K) poolA (aC (e_Table T) (aC (e_Table T) (aC eN aN))) w_blended (e_Table T)) :=
  fn_R (k := 10) (wb := wb_blended) (ρ' := fun z : Empty => nomatch z) T.F_blended sc_blended rfl (show 3 ≤ 8 by decide) fun cdv A outer s H E pp x hr => (re [Sl.sh (e_Table T) x.1, Sl.sh (e_Table T) x.2.1, Sl.sh eN x.2.2.1, Sl.nil, Sl.nil, Sl.nil, Sl.nil, Sl.nil] rfl (sx (nexpr (xcall (ok_checked T) (hr.mono (by decide)) T.m_checked T.F_checked.kp (b_checked T) (axc (xv 2 rfl) axn))) fun _ _ => (re [Sl.sh (e_Table T) x.1, Sl.sh (e_Table T) x.2.1, Sl.sh eN x.2.2.1, Sl.nil, Sl.nil, Sl.nil, Sl.nil, Sl.nil] rfl (sq_ (nif0 (tcmp w_neI (xprop T.cl_Table T.pr_Table_size (ok_Table_size T) (hr.mono (by decide)) (b_Table_size T) (xv 0 rfl)) (xprop T.cl_Table T.pr_Table_size (ok_Table_size T) (hr.mono (by decide)) (b_Table_size T) (xv 1 rfl))) snever) fun _ => (re [Sl.sh (e_Table T) x.1, Sl.sh (e_Table T) x.2.1, Sl.sh eN x.2.2.1, Sl.nil, Sl.nil, Sl.nil, Sl.nil, Sl.nil] rfl (szip (own := [(Str.ofString "rows", 6), (Str.ofString "others", 7)]) 3 6 7 rfl sc_blended.nd rfl T.z_zip (axc (xprop T.cl_Table T.pr_Table_products (ok_Table_products T) (hr.mono (by decide)) (b_Table_products T) (xv 0 rfl)) (axc (xprop T.cl_Table T.pr_Table_products (ok_Table_products T) (hr.mono (by decide)) (b_Table_products T) (xv 1 rfl)) axn)) T.mk_Table (ok_Table_init T) (hr.mono (by decide)) T.m_Table (b_Table_init T) (blkOk_by (N := N_blended) (sc := defScope s_blended) (by decide +kernel)) (by decide) (nil2 rfl rfl) (fun _ => rfl) (fun _ _ _ _ _ => (pg_tup rfl (pgs_cons (pg_name (i := 6) sc_blended.nd rfl (by first | exact Or.inl rfl | exact Or.inr rfl)) (pgs_cons (pg_name (i := 7) sc_blended.nd rfl (by first | exact Or.inl rfl | exact Or.inr rfl)) pgs_nil)))) (fun _ _ _ _ _ y392 => (xfr (xlc (own := [(Str.ofString "a", 4), (Str.ofString "b", 5)]) rfl sc_blended.nd (wzip 4 5 T.z_zip (axc (xv 6 rfl) (axc (xv 7 rfl) axn))) (blk_in (N := N_blended) (sc := defScope s_blended) rfl rfl (by decide +kernel)) (by decide) (nil2 rfl rfl) (fun _ => rfl) (fun _ _ _ _ _ => (pg_tup rfl (pgs_cons (pg_name (i := 4) sc_blended.nd rfl (by first | exact Or.inl rfl | exact Or.inr rfl)) (pgs_cons (pg_name (i := 5) sc_blended.nd rfl (by first | exact Or.inl rfl | exact Or.inr rfl)) pgs_nil)))) (fun _ _ _ _ _ y398 => (xcall (ok_plus_row T) (hr.mono (by decide)) T.m_plus_row T.F_plus_row.kp (b_plus_row T) (axc (xv 4 rfl) (axc (xcall (ok_scaled_row T) (hr.mono (by decide)) T.m_scaled_row T.F_scaled_row.kp (b_scaled_row T) (axc (xv 2 rfl) (axc (xv 5 rfl) axn))) axn)))))))))))))
theorem ok_both_ways (T : Txt K mg) : FnOk P w K mg base CX0 12 T.a_both_ways T.d_both_ways P_both_ways (spW (K := K) poolA (aC (e_Table T) (aC eN aN)) w_both_ways (e_Table T)) :=
  fn_R (k := 11) (wb := wb_both_ways) (ρ' := fun z : Empty => nomatch z) T.F_both_ways sc_both_ways rfl (show 2 ≤ 2 by decide) fun cdv A outer s H E pp x hr => (re [Sl.sh (e_Table T) x.1, Sl.sh eN x.2.1] rfl (sx (nexpr (xcall (ok_checked T) (hr.mono (by decide)) T.m_checked T.F_checked.kp (b_checked T) (axc (xv 1 rfl) axn))) fun _ _ => (re [Sl.sh (e_Table T) x.1, Sl.sh eN x.2.1] rfl (sret (xcall (ok_blended T) (hr.mono (by decide)) T.m_blended T.F_blended.kp (b_blended T) (axc (xv 0 rfl) (axc (xcall (ok_opposite T) (hr.mono (by decide)) T.m_opposite T.F_opposite.kp (b_opposite T) (axc (xv 0 rfl) axn)) (axc (xv 1 rfl) axn))))))))
theorem ok_check_square (T : Txt K mg) : FnOk P w K mg base CX0 1 T.a_check_square T.d_check_square P_check_square (spW (K := K) poolA (aC (eL (eL eN)) (aC eI aN)) w_check_square eU) :=
  fn_U (k := 0) (wb := wb_check_square) (ρ' := fun _ : Unit => List.replicate 3 .nil) T.F_check_square sc_check_square rfl (show 2 ≤ 3 by decide) fun cdv A outer s H E pp x hr => (re [Sl.sh (eL (eL eN)) x.1, Sl.sh eI x.2.1, Sl.nil] rfl (sq_ (nif0 (tw (wor (tcmp w_neI (xcallB c_len T.z_len (by decide +kernel) (axc (xv 0 rfl) axn)) (xv 1 rfl)) (wor1 (tnot (tval (xcallB (c_allB rfl) T.z_all (by decide +kernel) (axc (xfr (xlc (own := [(Str.ofString "row", 2)]) rfl sc_check_square.nd (wlistL 2 (xv 0 rfl)) (blkOk_by (N := N_check_square) (sc := defScope s_check_square) (by decide +kernel)) (by decide) (nil1 rfl) (fun _ => rfl) (fun _ _ _ _ _ => (pg_name (i := 2) sc_check_square.nd rfl (by first | exact Or.inl rfl | exact Or.inr rfl))) (fun _ _ _ _ _ y416 => (xcmp w_eqI (xcallB c_len T.z_len (by decide +kernel) (axc (xv 2 rfl) axn)) (xv 1 rfl))))) axn))))))) snever) fun _ => (re [Sl.sh (eL (eL eN)) x.1, Sl.sh eI x.2.1, Sl.nil] rfl (snil (s := ()) (Fit.dr (Fit.dr (Fit.eq Fit.nil)))))))
theorem ok_changed (T : Txt K mg) : FnOk P w K mg base CX0 11 T.a_changed T.d_changed P_changed (spW (K := K) poolA (aC (e_Table T) (aC (eL (eL eN)) (aC (eL (eL eN)) aN))) w_changed (e_Table T)) :=
  fn_R (k := 10) (wb := wb_changed) (ρ' := fun z : Empty => nomatch z) T.F_changed sc_changed rfl (show 3 ≤ 6 by decide) fun cdv A outer s H E pp x hr => (re [Sl.sh (e_Table T) x.1, Sl.sh (eL (eL eN)) x.2.1, Sl.sh (eL (eL eN)) x.2.2.1, Sl.nil, Sl.nil, Sl.nil] rfl (sq_ (nforJ (fun r (_ : Unit) => r) (s0 := ()) PassesOwn.never rfl (wlistL 3 (xop w_cat (xv 1 rfl) (xv 2 rfl))) (pg_name (i := 3) sc_changed.nd rfl (by first | exact Or.inl rfl | exact Or.inr rfl)) (Fit.eq (Fit.eq (Fit.eq (Fit.eq (Fit.eq (Fit.eq Fit.nil)))))) (fun s431 y432 => (re [Sl.sh (e_Table T) x.1, Sl.sh (eL (eL eN)) x.2.1, Sl.sh (eL (eL eN)) x.2.2.1, Sl.sh (eL eN) y432, Sl.nil, Sl.nil] rfl (sx (nexpr (xcall (ok_check_numbers T) (hr.mono (by decide)) T.m_check_numbers T.F_check_numbers.kp (b_check_numbers T) (axc (xv 3 rfl) axn))) fun _ _ => (re [Sl.sh (e_Table T) x.1, Sl.sh (eL (eL eN)) x.2.1, Sl.sh (eL (eL eN)) x.2.2.1, Sl.sh (eL eN) y432, Sl.nil, Sl.nil] rfl (snil (s := ()) (Fit.eq (Fit.eq (Fit.eq (Fit.dr (Fit.eq (Fit.eq Fit.nil)))))))))))) fun s435 => (re [Sl.sh (e_Table T) x.1, Sl.sh (eL (eL eN)) x.2.1, Sl.sh (eL (eL eN)) x.2.2.1, Sl.nil, Sl.nil, Sl.nil] rfl (sx (nexpr (xcall (ok_check_square T) (hr.mono (by decide)) T.m_check_square T.F_check_square.kp (b_check_square T) (axc (xv 1 rfl) (axc (xprop T.cl_Table T.pr_Table_size (ok_Table_size T) (hr.mono (by decide)) (b_Table_size T) (xv 0 rfl)) axn)))) fun _ _ => (re [Sl.sh (e_Table T) x.1, Sl.sh (eL (eL eN)) x.2.1, Sl.sh (eL (eL eN)) x.2.2.1, Sl.nil, Sl.nil, Sl.nil] rfl (sx (nexpr (xcall (ok_check_square T) (hr.mono (by decide)) T.m_check_square T.F_check_square.kp (b_check_square T) (axc (xv 2 rfl) (axc (xprop T.cl_Table T.pr_Table_size (ok_Table_size T) (hr.mono (by decide)) (b_Table_size T) (xv 0 rfl)) axn)))) fun _ _ => (re [Sl.sh (e_Table T) x.1, Sl.sh (eL (eL eN)) x.2.1, Sl.sh (eL (eL eN)) x.2.2.1, Sl.nil, Sl.nil, Sl.nil] rfl (sret (xmake T.mk_Table (ok_Table_init T) (hr.mono (by decide)) T.m_Table (b_Table_init T) (axc (xfr (xlc (own := [(Str.ofString "one", 5)]) rfl sc_changed.nd (wlistL 5 (xv 1 rfl)) (blkOk_by (N := N_changed) (sc := defScope s_changed) (by decide +kernel)) (by decide) (nil1 rfl) (fun _ => rfl) (fun _ _ _ _ _ => (pg_name (i := 5) sc_changed.nd rfl (by first | exact Or.inl rfl | exact Or.inr rfl))) (fun _ _ _ _ _ y446 => (xfr (xlc (own := [(Str.ofString "other", 4)]) rfl sc_changed.nd (wlistL 4 (xv 2 rfl)) (blk_in (N := N_changed) (sc := defScope s_changed) rfl rfl (by decide +kernel)) (by decide) (nil1 rfl) (fun _ => rfl) (fun _ _ _ _ _ => (pg_name (i := 4) sc_changed.nd rfl (by first | exact Or.inl rfl | exact Or.inr rfl))) (fun _ _ _ _ _ y447 => (xcall (ok_product_of T) (hr.mono (by decide)) T.m_product_of T.F_product_of.kp (b_product_of T) (axc (xv 0 rfl) (axc (xv 5 rfl) (axc (xv 4 rfl) axn)))))))))) axn))))))))))
theorem ok_law_low (T : Txt K mg) : FnOk P w K mg base CX0 1 T.a_law_low T.d_law_low P_law_low (spW (K := K) poolA (aC eI (aC eI aN)) w_law_low eN) :=
  fn_R (k := 0) (wb := wb_law_low) (ρ' := fun z : Empty => nomatch z) T.F_law_low sc_law_low rfl (show 2 ≤ 4 by decide) fun cdv A outer s H E pp x hr => (re [Sl.sh eI x.1, Sl.sh eI x.2.1, Sl.nil, Sl.nil] rfl (sx (npar 2 3 rfl sc_law_low.nd (axc (xcallB c_abs T.z_abs (by decide +kernel) (axc (xv 0 rfl) axn)) (axc (xcallB c_abs T.z_abs (by decide +kernel) (axc (xv 1 rfl) axn)) axn))) fun _ v459 => (re [Sl.sh eI x.1, Sl.sh eI x.2.1, Sl.sh eI v459.1, Sl.sh eI v459.2.1] rfl (sq_ (nwhileJ (fun r (s : Int × Int) => (put (put r 2 (Sl.sh eI s.1)) 3 (Sl.sh eI s.2))) (s0 := (v459.1, v459.2.1)) (Int.toNat v459.2.1 + 1) PassesOwn.never (Fit.eq (Fit.eq (Fit.eq (Fit.eq Fit.nil)))) (fun s470 => (tcmp w_neI (xv 3 rfl) xint)) (fun s470 => (re [Sl.sh eI x.1, Sl.sh eI x.2.1, Sl.sh eI s470.1, Sl.sh eI s470.2] rfl (sx (npar 2 3 rfl sc_law_low.nd (axc (xv 3 rfl) (axc (xop w_mod (xcallT c_int T.z_int (by decide +kernel) (axc (xv 2 rfl) axn)) (xv 3 rfl)) axn))) fun _ v473 => (re [Sl.sh eI x.1, Sl.sh eI x.2.1, Sl.sh eI v473.1, Sl.sh eI v473.2.1] rfl (snil (s := (v473.1, v473.2.1)) (Fit.eq (Fit.eq (Fit.eq (Fit.eq Fit.nil)))))))))) fun s483 => (re [Sl.sh eI x.1, Sl.sh eI x.2.1, Sl.sh eI s483.1, Sl.sh eI s483.2] rfl (sret (xif (tcmp w_gt (xv 1 rfl) xint) (xtup2 (axc (xop w_fdiv (xv 0 rfl) (xv 2 rfl)) (axc (xop w_fdiv (xv 1 rfl) (xv 2 rfl)) axn))) (xtup2 (axc (xop w_fdiv (xun w_neg (xv 0 rfl)) (xv 2 rfl)) (axc (xop w_fdiv (xun w_neg (xv 1 rfl)) (xv 2 rfl)) axn))))))))))
theorem ok_law_add (T : Txt K mg) : FnOk P w K mg base CX0 2 T.a_law_add T.d_law_add P_law_add (spW (K := K) poolA (aC eN (aC eN aN)) w_law_add eN) :=
  fn_R (k := 1) (wb := wb_law_add) (ρ' := fun z : Empty => nomatch z) T.F_law_add sc_law_add rfl (show 2 ≤ 2 by decide) fun cdv A outer s H E pp x hr => (re [Sl.sh eN x.1, Sl.sh eN x.2.1] rfl (sret (xcall (ok_law_low T) (hr.mono (by decide)) T.m_law_low T.F_law_low.kp (b_law_low T) (axc (xop0 w_add (xop w_mul (xfst (xv 0 rfl)) (xsnd (xv 1 rfl))) (xop w_mul (xfst (xv 1 rfl)) (xsnd (xv 0 rfl)))) (axc (xop w_mul (xsnd (xv 0 rfl)) (xsnd (xv 1 rfl))) axn)))))
theorem ok_law_mul (T : Txt K mg) : FnOk P w K mg base CX0 2 T.a_law_mul T.d_law_mul P_law_mul (spW (K := K) poolA (aC eN (aC eN aN)) w_law_mul eN) :=
  fn_R (k := 1) (wb := wb_law_mul) (ρ' := fun z : Empty => nomatch z) T.F_law_mul sc_law_mul rfl (show 2 ≤ 2 by decide) fun cdv A outer s H E pp x hr => (re [Sl.sh eN x.1, Sl.sh eN x.2.1] rfl (sret (xcall (ok_law_low T) (hr.mono (by decide)) T.m_law_low T.F_law_low.kp (b_law_low T) (axc (xop w_mul (xfst (xv 0 rfl)) (xfst (xv 1 rfl))) (axc (xop w_mul (xsnd (xv 0 rfl)) (xsnd (xv 1 rfl))) axn)))))
theorem ok_law_number (T : Txt K mg) : FnOk P w K mg base CX0 2 T.a_law_number T.d_law_number P_law_number (spW (K := K) poolA (aPl (aC eB aN)) w_law_number eN) :=
  fn_R (k := 1) (wb := wb_law_number) (ρ' := fun z : Empty => nomatch z) T.F_law_number sc_law_number rfl (show 2 ≤ 6 by decide) fun cdv A outer s H E pp x hr => (re [Sl.pl, Sl.sh eB x.1, Sl.nil, Sl.nil, Sl.nil, Sl.nil] rfl (sx (nset 2 sc_law_number.nd (xcall (ok_law_pick T.F_law_pick T.z_int) (hr.mono (by decide)) T.m_law_pick T.F_law_pick.kp (b_law_pick T) (axp 0 rfl (axc xint axn)))) fun _ v540 => (re [Sl.pl, Sl.sh eB x.1, Sl.sh eI v540, Sl.nil, Sl.nil, Sl.nil] rfl (sq_ (nif0 (tcmp w_lt (xv 2 rfl) xint) (re [Sl.pl, Sl.sh eB x.1, Sl.sh eI v540, Sl.nil, Sl.nil, Sl.nil] rfl (sret (xtup2 (axc (xv 2 rfl) (axc xint axn)))))) fun _ => (re [Sl.pl, Sl.sh eB x.1, Sl.sh eI v540, Sl.nil, Sl.nil, Sl.nil] rfl (sx (nset 3 sc_law_number.nd (xif (tval (xv 1 rfl)) (xix w_ixL (xlst (alc xint (alc xint (alc xint (alc xint (alc xint (aln (en := eI)))))))) (xop0 w_sub (xv 2 rfl) xint)) xint)) fun _ v552 => (re [Sl.pl, Sl.sh eB x.1, Sl.sh eI v540, Sl.sh eI v552, Sl.nil, Sl.nil] rfl (sx (npar 4 5 rfl sc_law_number.nd (axc (xop0 w_add xint (xcall (ok_law_pick T.F_law_pick T.z_int) (hr.mono (by decide)) T.m_law_pick T.F_law_pick.kp (b_law_pick T) (axp 0 rfl (axc (xv 3 rfl) axn)))) (axc (xop0 w_add xint (xcall (ok_law_pick T.F_law_pick T.z_int) (hr.mono (by decide)) T.m_law_pick T.F_law_pick.kp (b_law_pick T) (axp 0 rfl (axc (xix w_ixL (xlst (alc xint (alc (xv 3 rfl) (aln (en := eI))))) (xcall (ok_law_pick T.F_law_pick T.z_int) (hr.mono (by decide)) T.m_law_pick T.F_law_pick.kp (b_law_pick T) (axp 0 rfl (axc xint axn)))) axn)))) axn))) fun _ v568 => (re [Sl.pl, Sl.sh eB x.1, Sl.sh eI v540, Sl.sh eI v552, Sl.sh eI v568.1, Sl.sh eI v568.2.1] rfl (sret (xcall (ok_law_low T) (hr.mono (by decide)) T.m_law_low T.F_law_low.kp (b_law_low T) (axc (xix w_ixL (xlst (alc (xv 4 rfl) (alc (xun w_neg (xv 4 rfl)) (aln (en := eI))))) (xcall (ok_law_pick T.F_law_pick T.z_int) (hr.mono (by decide)) T.m_law_pick T.F_law_pick.kp (b_law_pick T) (axp 0 rfl (axc xint axn)))) (axc (xv 5 rfl) axn)))))))))))))
theorem ok_law_alike (T : Txt K mg) : ∀ n : Nat, FnOk P w K mg base CX0 (1 + n) T.a_law_alike T.d_law_alike P_law_alike (spW (K := K) poolA (aC eD (aC eD aN)) (w_law_alike n) eB)
  | 0 => fn_R (k := 0) (wb := fun _ => stuck) (ρ' := fun z : Empty => nomatch z) T.F_law_alike sc_law_alike rfl (show 2 ≤ 4 by decide) fun cdv A outer s H E pp x hr => snever
  | n + 1 =>
    have ih := ok_law_alike T n
    fn_R (k := 1 + n) (ρ' := fun z : Empty => nomatch z) T.F_law_alike sc_law_alike rfl (show 2 ≤ 4 by decide) fun cdv A outer s H E pp x hr => (re [Sl.sh eD x.1, Sl.sh eD x.2.1, Sl.nil, Sl.nil] rfl (sq_ (nif0 (tisND (xv 1 rfl)) (re [Sl.sh eD x.1, Sl.sh eD x.2.1, Sl.nil, Sl.nil] rfl (sret (xisND (xv 0 rfl))))) fun _ => (re [Sl.sh eD x.1, Sl.sh eD x.2.1, Sl.nil, Sl.nil] rfl (sq_ (nif0 (tval (xisi2 T.z_isinstance T.z_list (by decide +kernel) (by decide) T.z_tuple (by decide +kernel) (by decide) (xv 1 rfl))) (re [Sl.sh eD x.1, Sl.sh eD x.2.1, Sl.nil, Sl.nil] rfl (sx (nset 2 sc_law_alike.nd (xif (tval (xisi T.z_isinstance T.z_list (by decide +kernel) (by decide) (xv 1 rfl))) (xisi T.z_isinstance T.z_list (by decide +kernel) (by decide) (xv 0 rfl)) (xisi T.z_isinstance T.z_tuple (by decide +kernel) (by decide) (xv 0 rfl)))) fun _ v609 => (re [Sl.sh eD x.1, Sl.sh eD x.2.1, Sl.sh eB v609, Sl.nil] rfl (sq_ (nif0 (tw (wor (tnot (tval (xv 2 rfl))) (wor1 (tcmp w_neI (xcallB c_lenD T.z_len (by decide +kernel) (axc (xv 0 rfl) axn)) (xcallB c_lenD T.z_len (by decide +kernel) (axc (xv 1 rfl) axn)))))) (re [Sl.sh eD x.1, Sl.sh eD x.2.1, Sl.sh eB v609, Sl.nil] rfl (sret xbl))) fun _ => (re [Sl.sh eD x.1, Sl.sh eD x.2.1, Sl.sh eB v609, Sl.nil] rfl (sq_ (nforJ (fun r (_ : Unit) => r) (s0 := ()) PassesOwn.never rfl (wrange1 3 T.z_range (axc (xcallB c_lenD T.z_len (by decide +kernel) (axc (xv 1 rfl) axn)) axn)) (pg_name (i := 3) sc_law_alike.nd rfl (by first | exact Or.inl rfl | exact Or.inr rfl)) (Fit.eq (Fit.eq (Fit.eq (Fit.eq Fit.nil)))) (fun s632 y633 => (re [Sl.sh eD x.1, Sl.sh eD x.2.1, Sl.sh eB v609, Sl.sh eI y633] rfl (sq_ (nif0 (tnot (tval (xcall ih hr T.m_law_alike T.F_law_alike.kp (b_law_alike T) (axc (xix w_ixD (xv 0 rfl) (xv 3 rfl)) (axc (xix w_ixD (xv 1 rfl) (xv 3 rfl)) axn))))) (re [Sl.sh eD x.1, Sl.sh eD x.2.1, Sl.sh eB v609, Sl.sh eI y633] rfl (sret xbl))) fun _ => (re [Sl.sh eD x.1, Sl.sh eD x.2.1, Sl.sh eB v609, Sl.sh eI y633] rfl (snil (s := ()) (Fit.eq (Fit.eq (Fit.eq (Fit.dr Fit.nil)))))))))) fun s645 => (re [Sl.sh eD x.1, Sl.sh eD x.2.1, Sl.sh eB v609, Sl.nil] rfl (sret xbl))))))))) fun _ => (re [Sl.sh eD x.1, Sl.sh eD x.2.1, Sl.nil, Sl.nil] rfl (sret (xand (xisi T.z_isinstance T.z_int (by decide +kernel) (by decide) (xv 0 rfl)) (xand (xcmp w_eqB (xisi T.z_isinstance T.z_bool (by decide +kernel) (by decide) (xv 0 rfl)) (xisi T.z_isinstance T.z_bool (by decide +kernel) (by decide) (xv 1 rfl))) (xone (xcmpG (w_eqDD hr.units) (xv 0 rfl) (xv 1 rfl)))))))))))
theorem ok_law_products (T : Txt K mg) : FnOk P w K mg base CX0 3 T.a_law_products T.d_law_products P_law_products (spW (K := K) poolA (aPl (aC eI (aC eB aN))) w_law_products (eL (eL (eL eN)))) :=
  fn_R (k := 2) (wb := wb_law_products) (ρ' := fun z : Empty => nomatch z) T.F_law_products sc_law_products rfl (show 3 ≤ 10 by decide) fun cdv A outer s H E pp x hr => (re [Sl.pl, Sl.sh eI x.1, Sl.sh eB x.2.1, Sl.nil, Sl.nil, Sl.nil, Sl.nil, Sl.nil, Sl.nil, Sl.nil] rfl (sx (nparO 3 4 (eL (eL eN)) rfl sc_law_products.nd (xcall (ok_law_pick T.F_law_pick T.z_int) (hr.mono (by decide)) T.m_law_pick T.F_law_pick.kp (b_law_pick T) (axp 0 rfl (axc xint axn)))) fun p660 v659 => (re [Sl.pl, Sl.sh eI x.1, Sl.sh eB x.2.1, Sl.sh eI v659, Sl.ow p660 (oL (eL (eL eN))) ([] : (List (List (List (Int × Int))))), Sl.nil, Sl.nil, Sl.nil, Sl.nil, Sl.nil] rfl (sq_ (nforJ (fun r (s : (List (List (List (Int × Int))))) => (put r 4 (Sl.ow p660 (oL (eL (eL eN))) s))) (s0 := (([] : (List (List (List (Int × Int))))))) PassesOwn.never rfl (wrange1 5 T.z_range (axc (xv 1 rfl) axn)) (pg_name (i := 5) sc_law_products.nd rfl (by first | exact Or.inl rfl | exact Or.inr rfl)) (Fit.eq (Fit.eq (Fit.eq (Fit.eq (Fit.eq (Fit.eq (Fit.eq (Fit.eq (Fit.eq (Fit.eq Fit.nil)))))))))) (fun s664 y665 => (re [Sl.pl, Sl.sh eI x.1, Sl.sh eB x.2.1, Sl.sh eI v659, Sl.ow p660 (oL (eL (eL eN))) s664, Sl.sh eI y665, Sl.nil, Sl.nil, Sl.nil, Sl.nil] rfl (sx (nown (nsetFe 6 sc_law_products.nd (xlstF (aln (en := (eL eN)))))) fun p667 v666 => (re [Sl.pl, Sl.sh eI x.1, Sl.sh eB x.2.1, Sl.sh eI v659, Sl.ow p660 (oL (eL (eL eN))) s664, Sl.sh eI y665, Sl.ow p667 (oL (eL eN)) v666, Sl.nil, Sl.nil, Sl.nil] rfl (sq_ (nforJ (fun r (s : (List (List (Int × Int)))) => (put r 6 (Sl.ow p667 (oL (eL eN)) s))) (s0 := (v666)) PassesOwn.never rfl (wrange1 7 T.z_range (axc (xv 1 rfl) axn)) (pg_name (i := 7) sc_law_products.nd rfl (by first | exact Or.inl rfl | exact Or.inr rfl)) (Fit.eq (Fit.eq (Fit.eq (Fit.eq (Fit.eq (Fit.eq (Fit.eq (Fit.eq (Fit.eq (Fit.eq Fit.nil)))))))))) (fun s671 y672 => (re [Sl.pl, Sl.sh eI x.1, Sl.sh eB x.2.1, Sl.sh eI v659, Sl.ow p660 (oL (eL (eL eN))) s664, Sl.sh eI y665, Sl.ow p667 (oL (eL eN)) s671, Sl.sh eI y672, Sl.nil, Sl.nil] rfl (sx (nown (nsetFe 8 sc_law_products.nd (xrepF (xlst (alc (xtup2 (axc xint (axc xint axn))) (aln (en := eN)))) (xv 1 rfl)))) fun p683 v673 => (re [Sl.pl, Sl.sh eI x.1, Sl.sh eB x.2.1, Sl.sh eI v659, Sl.ow p660 (oL (eL (eL eN))) s664, Sl.sh eI y665, Sl.ow p667 (oL (eL eN)) s671, Sl.sh eI y672, Sl.ow p683 (oL eN) v673, Sl.nil] rfl (sq_ (nifJ (fun r (s : (List (Int × Int))) => (put r 8 (Sl.sh (eL eN) s))) (tcmp w_eqI (xv 3 rfl) xint) (re [Sl.pl, Sl.sh eI x.1, Sl.sh eB x.2.1, Sl.sh eI v659, Sl.ow p660 (oL (eL (eL eN))) s664, Sl.sh eI y665, Sl.ow p667 (oL (eL eN)) s671, Sl.sh eI y672, Sl.ow p683 (oL eN) v673, Sl.nil] rfl (sx (nsetix 8 rfl (xcall (ok_law_number T) (hr.mono (by decide)) T.m_law_number T.F_law_number.kp (b_law_number T) (axp 0 rfl (axc (xv 2 rfl) axn))) (xcall (ok_law_pick T.F_law_pick T.z_int) (hr.mono (by decide)) T.m_law_pick T.F_law_pick.kp (b_law_pick T) (axp 0 rfl (axc (xv 1 rfl) axn)))) fun _ v691 => (re [Sl.pl, Sl.sh eI x.1, Sl.sh eB x.2.1, Sl.sh eI v659, Sl.ow p660 (oL (eL (eL eN))) s664, Sl.sh eI y665, Sl.ow p667 (oL (eL eN)) s671, Sl.sh eI y672, Sl.ow p683 (oL eN) (v673.set ((ixN v673.length v691.1).getD 0) v691.2), Sl.nil] rfl (nfreeze 8 rfl (snil (s := ((v673.set ((ixN v673.length v691.1).getD 0) v691.2))) (Fit.eq (Fit.eq (Fit.eq (Fit.eq (Fit.eq (Fit.eq (Fit.eq (Fit.eq (Fit.eq (Fit.eq Fit.nil))))))))))))))) (re [Sl.pl, Sl.sh eI x.1, Sl.sh eB x.2.1, Sl.sh eI v659, Sl.ow p660 (oL (eL (eL eN))) s664, Sl.sh eI y665, Sl.ow p667 (oL (eL eN)) s671, Sl.sh eI y672, Sl.ow p683 (oL eN) v673, Sl.nil] rfl (sq_ (nifJ (fun r (s : (List (Int × Int))) => (put r 8 (Sl.sh (eL eN) s))) (tw (wor (tcmp w_eqI (xv 3 rfl) xint) (wor1 (tcmp w_eqI (xcall (ok_law_pick T.F_law_pick T.z_int) (hr.mono (by decide)) T.m_law_pick T.F_law_pick.kp (b_law_pick T) (axp 0 rfl (axc xint axn))) xint)))) (re [Sl.pl, Sl.sh eI x.1, Sl.sh eB x.2.1, Sl.sh eI v659, Sl.ow p660 (oL (eL (eL eN))) s664, Sl.sh eI y665, Sl.ow p667 (oL (eL eN)) s671, Sl.sh eI y672, Sl.ow p683 (oL eN) v673, Sl.nil] rfl (sx (nsetF (xlcS 8 (own := [(Str.ofString "_law_k", 9)]) rfl sc_law_products.nd (wrange1 9 T.z_range (axc (xv 1 rfl) axn)) (blkOk_by (N := N_law_products) (sc := defScope s_law_products) (by decide +kernel)) (by decide) (nil1 rfl) (fun _ => rfl) (fun _ _ _ _ _ => (pg_name (i := 9) sc_law_products.nd rfl (by first | exact Or.inl rfl | exact Or.inr rfl))) (fun _ _ _ _ _ y706 => (xcall (ok_law_number T) (hr.mono (by decide)) T.m_law_number T.F_law_number.kp (b_law_number T) (axp 0 rfl (axc (xv 2 rfl) axn)))) (sw_true rfl rfl rfl (by decide +kernel)))) fun _ v702 => (re [Sl.pl, Sl.sh eI x.1, Sl.sh eB x.2.1, Sl.sh eI v659, Sl.ow p660 (oL (eL (eL eN))) s664, Sl.sh eI y665, Sl.ow p667 (oL (eL eN)) s671, Sl.sh eI y672, Sl.sh (eL eN) v702, Sl.nil] rfl (snil (s := (v702)) (Fit.eq (Fit.eq (Fit.eq (Fit.eq (Fit.eq (Fit.eq (Fit.eq (Fit.eq (Fit.eq (Fit.eq Fit.nil)))))))))))))) (re [Sl.pl, Sl.sh eI x.1, Sl.sh eB x.2.1, Sl.sh eI v659, Sl.ow p660 (oL (eL (eL eN))) s664, Sl.sh eI y665, Sl.ow p667 (oL (eL eN)) s671, Sl.sh eI y672, Sl.ow p683 (oL eN) v673, Sl.nil] rfl (nfreeze 8 rfl (snil (s := (v673)) (Fit.eq (Fit.eq (Fit.eq (Fit.eq (Fit.eq (Fit.eq (Fit.eq (Fit.eq (Fit.eq (Fit.eq Fit.nil)))))))))))))) fun s710 => (re [Sl.pl, Sl.sh eI x.1, Sl.sh eB x.2.1, Sl.sh eI v659, Sl.ow p660 (oL (eL (eL eN))) s664, Sl.sh eI y665, Sl.ow p667 (oL (eL eN)) s671, Sl.sh eI y672, Sl.sh (eL eN) s710, Sl.nil] rfl (snil (s := (s710)) (Fit.eq (Fit.eq (Fit.eq (Fit.eq (Fit.eq (Fit.eq (Fit.eq (Fit.eq (Fit.eq (Fit.eq Fit.nil))))))))))))))) fun s711 => (re [Sl.pl, Sl.sh eI x.1, Sl.sh eB x.2.1, Sl.sh eI v659, Sl.ow p660 (oL (eL (eL eN))) s664, Sl.sh eI y665, Sl.ow p667 (oL (eL eN)) s671, Sl.sh eI y672, Sl.sh (eL eN) s711, Sl.nil] rfl (sq_ (nifJ (fun r (s : (List (Int × Int))) => (put r 8 (Sl.sh (eL eN) s))) (tw (wand (tcmp w_eqI (xv 3 rfl) xint) (wand1 (tcmp w_lt (xv 7 rfl) (xv 5 rfl))))) (re [Sl.pl, Sl.sh eI x.1, Sl.sh eB x.2.1, Sl.sh eI v659, Sl.ow p660 (oL (eL (eL eN))) s664, Sl.sh eI y665, Sl.ow p667 (oL (eL eN)) s671, Sl.sh eI y672, Sl.sh (eL eN) s711, Sl.nil] rfl (sx (nset 8 sc_law_products.nd (xcallT c_list T.z_list (by decide +kernel) (axc (xR (xix w_ixL (xixO 4 rfl (xv 7 rfl)) (xv 5 rfl))) axn))) fun _ v718 => (re [Sl.pl, Sl.sh eI x.1, Sl.sh eB x.2.1, Sl.sh eI v659, Sl.ow p660 (oL (eL (eL eN))) s664, Sl.sh eI y665, Sl.ow p667 (oL (eL eN)) s671, Sl.sh eI y672, Sl.sh (eL eN) v718, Sl.nil] rfl (snil (s := (v718)) (Fit.eq (Fit.eq (Fit.eq (Fit.eq (Fit.eq (Fit.eq (Fit.eq (Fit.eq (Fit.eq (Fit.eq Fit.nil)))))))))))))) (re [Sl.pl, Sl.sh eI x.1, Sl.sh eB x.2.1, Sl.sh eI v659, Sl.ow p660 (oL (eL (eL eN))) s664, Sl.sh eI y665, Sl.ow p667 (oL (eL eN)) s671, Sl.sh eI y672, Sl.sh (eL eN) s711, Sl.nil] rfl (snil (s := (s711)) (Fit.eq (Fit.eq (Fit.eq (Fit.eq (Fit.eq (Fit.eq (Fit.eq (Fit.eq (Fit.eq (Fit.eq Fit.nil))))))))))))) fun s725 => (re [Sl.pl, Sl.sh eI x.1, Sl.sh eB x.2.1, Sl.sh eI v659, Sl.ow p660 (oL (eL (eL eN))) s664, Sl.sh eI y665, Sl.ow p667 (oL (eL eN)) s671, Sl.sh eI y672, Sl.sh (eL eN) s725, Sl.nil] rfl (sx (nappend 6 rfl (xv 8 rfl)) fun _ v726 => (re [Sl.pl, Sl.sh eI x.1, Sl.sh eB x.2.1, Sl.sh eI v659, Sl.ow p660 (oL (eL (eL eN))) s664, Sl.sh eI y665, Sl.ow p667 (oL (eL eN)) (s671 ++ [v726]), Sl.sh eI y672, Sl.sh (eL eN) s725, Sl.nil] rfl (snil (s := ((s671 ++ [v726]))) (Fit.eq (Fit.eq (Fit.eq (Fit.eq (Fit.eq (Fit.eq (Fit.eq (Fit.dr (Fit.dr (Fit.eq Fit.nil)))))))))))))))))))))) fun s728 => (re [Sl.pl, Sl.sh eI x.1, Sl.sh eB x.2.1, Sl.sh eI v659, Sl.ow p660 (oL (eL (eL eN))) s664, Sl.sh eI y665, Sl.ow p667 (oL (eL eN)) s728, Sl.nil, Sl.nil, Sl.nil] rfl (nfreeze 6 rfl (re [Sl.pl, Sl.sh eI x.1, Sl.sh eB x.2.1, Sl.sh eI v659, Sl.ow p660 (oL (eL (eL eN))) s664, Sl.sh eI y665, Sl.sh (eL (eL eN)) s728, Sl.nil, Sl.nil, Sl.nil] rfl (sx (nappend 4 rfl (xv 6 rfl)) fun _ v729 => (re [Sl.pl, Sl.sh eI x.1, Sl.sh eB x.2.1, Sl.sh eI v659, Sl.ow p660 (oL (eL (eL eN))) (s664 ++ [v729]), Sl.sh eI y665, Sl.sh (eL (eL eN)) s728, Sl.nil, Sl.nil, Sl.nil] rfl (snil (s := ((s664 ++ [v729]))) (Fit.eq (Fit.eq (Fit.eq (Fit.eq (Fit.eq (Fit.dr (Fit.dr (Fit.eq (Fit.eq (Fit.eq Fit.nil)))))))))))))))))))))) fun s731 => (re [Sl.pl, Sl.sh eI x.1, Sl.sh eB x.2.1, Sl.sh eI v659, Sl.ow p660 (oL (eL (eL eN))) s731, Sl.nil, Sl.nil, Sl.nil, Sl.nil, Sl.nil] rfl (nfreeze 4 rfl (re [Sl.pl, Sl.sh eI x.1, Sl.sh eB x.2.1, Sl.sh eI v659, Sl.sh (eL (eL (eL eN))) s731, Sl.nil, Sl.nil, Sl.nil, Sl.nil, Sl.nil] rfl (sret (xv 4 rfl)))))))))
theorem ok_law_times (T : Txt K mg) : FnOk P w K mg base CX0 3 T.a_law_times T.d_law_times P_law_times (spW (K := K) poolA (aC (eL (eL (eL eN))) (aC (eL eN) (aC (eL eN) aN))) w_law_times (eL eN)) :=
  fn_R (k := 2) (wb := wb_law_times) (ρ' := fun z : Empty => nomatch z) T.F_law_times sc_law_times rfl (show 3 ≤ 9 by decide) fun cdv A outer s H E pp x hr => (re [Sl.sh (eL (eL (eL eN))) x.1, Sl.sh (eL eN) x.2.1, Sl.sh (eL eN) x.2.2.1, Sl.nil, Sl.nil, Sl.nil, Sl.nil, Sl.nil, Sl.nil] rfl (sx (nsetF (nsetFe 3 sc_law_times.nd (xrepF (xlst (alc (xtup2 (axc xint (axc xint axn))) (aln (en := eN)))) (xcallB c_len T.z_len (by decide +kernel) (axc (xv 0 rfl) axn))))) fun _ v733 => (re [Sl.sh (eL (eL (eL eN))) x.1, Sl.sh (eL eN) x.2.1, Sl.sh (eL eN) x.2.2.1, Sl.sh (eL eN) v733, Sl.nil, Sl.nil, Sl.nil, Sl.nil, Sl.nil] rfl (sq_ (nforJ (fun r (s : (List (Int × Int))) => (put r 3 (Sl.sh (eL eN) s))) (s0 := (v733)) PassesOwn.never rfl (wrange1 4 T.z_range (axc (xcallB c_len T.z_len (by decide +kernel) (axc (xv 0 rfl) axn)) axn)) (pg_name (i := 4) sc_law_times.nd rfl (by first | exact Or.inl rfl | exact Or.inr rfl)) (Fit.eq (Fit.eq (Fit.eq (Fit.eq (Fit.eq (Fit.eq (Fit.eq (Fit.eq (Fit.eq Fit.nil))))))))) (fun s752 y753 => (re [Sl.sh (eL (eL (eL eN))) x.1, Sl.sh (eL eN) x.2.1, Sl.sh (eL eN) x.2.2.1, Sl.sh (eL eN) s752, Sl.sh eI y753, Sl.nil, Sl.nil, Sl.nil, Sl.nil] rfl (sq_ (nforJ (fun r (s : (List (Int × Int))) => (put r 3 (Sl.sh (eL eN) s))) (s0 := (s752)) PassesOwn.never rfl (wrange1 5 T.z_range (axc (xcallB c_len T.z_len (by decide +kernel) (axc (xv 0 rfl) axn)) axn)) (pg_name (i := 5) sc_law_times.nd rfl (by first | exact Or.inl rfl | exact Or.inr rfl)) (Fit.eq (Fit.eq (Fit.eq (Fit.eq (Fit.eq (Fit.eq (Fit.eq (Fit.eq (Fit.eq Fit.nil))))))))) (fun s760 y761 => (re [Sl.sh (eL (eL (eL eN))) x.1, Sl.sh (eL eN) x.2.1, Sl.sh (eL eN) x.2.2.1, Sl.sh (eL eN) s760, Sl.sh eI y753, Sl.sh eI y761, Sl.nil, Sl.nil, Sl.nil] rfl (sx (nset 6 sc_law_times.nd (xcall (ok_law_mul T) (hr.mono (by decide)) T.m_law_mul T.F_law_mul.kp (b_law_mul T) (axc (xix w_ixL (xv 1 rfl) (xv 4 rfl)) (axc (xix w_ixL (xv 2 rfl) (xv 5 rfl)) axn)))) fun _ v762 => (re [Sl.sh (eL (eL (eL eN))) x.1, Sl.sh (eL eN) x.2.1, Sl.sh (eL eN) x.2.2.1, Sl.sh (eL eN) s760, Sl.sh eI y753, Sl.sh eI y761, Sl.sh eN v762, Sl.nil, Sl.nil] rfl (sq_ (nifJ (fun r (s : (List (Int × Int))) => (put r 3 (Sl.sh (eL eN) s))) (tcmp w_neI (xfst (xv 6 rfl)) xint) (re [Sl.sh (eL (eL (eL eN))) x.1, Sl.sh (eL eN) x.2.1, Sl.sh (eL eN) x.2.2.1, Sl.sh (eL eN) s760, Sl.sh eI y753, Sl.sh eI y761, Sl.sh eN v762, Sl.nil, Sl.nil] rfl (sx (nsetF (xlcS 3 (own := [(Str.ofString "_law_a", 7), (Str.ofString "_law_b", 8)]) rfl sc_law_times.nd (wzip 7 8 T.z_zip (axc (xv 3 rfl) (axc (xix w_ixL (xix w_ixL (xv 0 rfl) (xv 4 rfl)) (xv 5 rfl)) axn))) (blkOk_by (N := N_law_times) (sc := defScope s_law_times) (by decide +kernel)) (by decide) (nil2 rfl rfl) (fun _ => rfl) (fun _ _ _ _ _ => (pg_tup rfl (pgs_cons (pg_name (i := 7) sc_law_times.nd rfl (by first | exact Or.inl rfl | exact Or.inr rfl)) (pgs_cons (pg_name (i := 8) sc_law_times.nd rfl (by first | exact Or.inl rfl | exact Or.inr rfl)) pgs_nil)))) (fun _ _ _ _ _ y785 => (xif (tcmp w_eqI (xfst (xv 8 rfl)) xint) (xv 7 rfl) (xcall (ok_law_add T) (hr.mono (by decide)) T.m_law_add T.F_law_add.kp (b_law_add T) (axc (xv 7 rfl) (axc (xcall (ok_law_mul T) (hr.mono (by decide)) T.m_law_mul T.F_law_mul.kp (b_law_mul T) (axc (xv 6 rfl) (axc (xv 8 rfl) axn))) axn))))) (sw_true rfl rfl rfl (by decide +kernel)))) fun _ v775 => (re [Sl.sh (eL (eL (eL eN))) x.1, Sl.sh (eL eN) x.2.1, Sl.sh (eL eN) x.2.2.1, Sl.sh (eL eN) v775, Sl.sh eI y753, Sl.sh eI y761, Sl.sh eN v762, Sl.nil, Sl.nil] rfl (snil (s := (v775)) (Fit.eq (Fit.eq (Fit.eq (Fit.eq (Fit.eq (Fit.eq (Fit.eq (Fit.eq (Fit.eq Fit.nil))))))))))))) (re [Sl.sh (eL (eL (eL eN))) x.1, Sl.sh (eL eN) x.2.1, Sl.sh (eL eN) x.2.2.1, Sl.sh (eL eN) s760, Sl.sh eI y753, Sl.sh eI y761, Sl.sh eN v762, Sl.nil, Sl.nil] rfl (snil (s := (s760)) (Fit.eq (Fit.eq (Fit.eq (Fit.eq (Fit.eq (Fit.eq (Fit.eq (Fit.eq (Fit.eq Fit.nil)))))))))))) fun s799 => (re [Sl.sh (eL (eL (eL eN))) x.1, Sl.sh (eL eN) x.2.1, Sl.sh (eL eN) x.2.2.1, Sl.sh (eL eN) s799, Sl.sh eI y753, Sl.sh eI y761, Sl.sh eN v762, Sl.nil, Sl.nil] rfl (snil (s := (s799)) (Fit.eq (Fit.eq (Fit.eq (Fit.eq (Fit.eq (Fit.dr (Fit.dr (Fit.eq (Fit.eq Fit.nil))))))))))))))))) fun s800 => (re [Sl.sh (eL (eL (eL eN))) x.1, Sl.sh (eL eN) x.2.1, Sl.sh (eL eN) x.2.2.1, Sl.sh (eL eN) s800, Sl.sh eI y753, Sl.nil, Sl.nil, Sl.nil, Sl.nil] rfl (snil (s := (s800)) (Fit.eq (Fit.eq (Fit.eq (Fit.eq (Fit.dr (Fit.eq (Fit.eq (Fit.eq (Fit.eq Fit.nil))))))))))))))) fun s801 => (re [Sl.sh (eL (eL (eL eN))) x.1, Sl.sh (eL eN) x.2.1, Sl.sh (eL eN) x.2.2.1, Sl.sh (eL eN) s801, Sl.nil, Sl.nil, Sl.nil, Sl.nil, Sl.nil] rfl (sret (xv 3 rfl)))))))
theorem ok_law_copied (T : Txt K mg) : ∀ n : Nat, FnOk P w K mg base CX0 (1 + n) T.a_law_copied T.d_law_copied P_law_copied (spW (K := K) poolA (aC eD aN) (w_law_copied n) eD)
  | 0 => fn_R (k := 0) (wb := fun _ => stuck) (ρ' := fun z : Empty => nomatch z) T.F_law_copied sc_law_copied rfl (show 1 ≤ 2 by decide) fun cdv A outer s H E pp x hr => snever
  | n + 1 =>
    have ih := ok_law_copied T n
    fn_R (k := 1 + n) (ρ' := fun z : Empty => nomatch z) T.F_law_copied sc_law_copied rfl (show 1 ≤ 2 by decide) fun cdv A outer s H E pp x hr => (re [Sl.sh eD x.1, Sl.nil] rfl (sret (xif (tval (xisi T.z_isinstance T.z_list (by decide +kernel) (by decide) (xv 0 rfl))) (xD (tdL tdD) (xfr (xlc (own := [(Str.ofString "_law_part", 1)]) rfl sc_law_copied.nd (wlistL 1 (xDl (xv 0 rfl))) (blkOk_by (N := N_law_copied) (sc := defScope s_law_copied) (by decide +kernel)) (by decide) (nil1 rfl) (fun _ => rfl) (fun _ _ _ _ _ => (pg_name (i := 1) sc_law_copied.nd rfl (by first | exact Or.inl rfl | exact Or.inr rfl))) (fun _ _ _ _ _ y805 => (xcall ih hr T.m_law_copied T.F_law_copied.kp (b_law_copied T) (axc (xv 1 rfl) axn)))))) (xv 0 rfl))))
theorem ok_law_plus (T : Txt K mg) : FnOk P w K mg base CX0 3 T.a_law_plus T.d_law_plus P_law_plus (spW (K := K) poolA (aC (eL eN) (aC eN (aC (eL eN) aN))) w_law_plus (eL eN)) :=
  fn_R (k := 2) (wb := wb_law_plus) (ρ' := fun z : Empty => nomatch z) T.F_law_plus sc_law_plus rfl (show 3 ≤ 5 by decide) fun cdv A outer s H E pp x hr => (re [Sl.sh (eL eN) x.1, Sl.sh eN x.2.1, Sl.sh (eL eN) x.2.2.1, Sl.nil, Sl.nil] rfl (sret (xfr (xlc (own := [(Str.ofString "_law_a", 3), (Str.ofString "_law_b", 4)]) rfl sc_law_plus.nd (wzip 3 4 T.z_zip (axc (xv 0 rfl) (axc (xv 2 rfl) axn))) (blkOk_by (N := N_law_plus) (sc := defScope s_law_plus) (by decide +kernel)) (by decide) (nil2 rfl rfl) (fun _ => rfl) (fun _ _ _ _ _ => (pg_tup rfl (pgs_cons (pg_name (i := 3) sc_law_plus.nd rfl (by first | exact Or.inl rfl | exact Or.inr rfl)) (pgs_cons (pg_name (i := 4) sc_law_plus.nd rfl (by first | exact Or.inl rfl | exact Or.inr rfl)) pgs_nil)))) (fun _ _ _ _ _ y817 => (xcall (ok_law_add T) (hr.mono (by decide)) T.m_law_add T.F_law_add.kp (b_law_add T) (axc (xv 3 rfl) (axc (xcall (ok_law_mul T) (hr.mono (by decide)) T.m_law_mul T.F_law_mul.kp (b_law_mul T) (axc (xv 1 rfl) (axc (xv 4 rfl) axn))) axn))))))))
theorem ok_law_image (T : Txt K mg) : FnOk P w K mg base CX0 4 T.a_law_image T.d_law_image P_law_image (spW (K := K) poolA (aC (eL (eL eN)) (aC (eL eN) aN)) w_law_image (eL eN)) :=
  fn_R (k := 3) (wb := wb_law_image) (ρ' := fun z : Empty => nomatch z) T.F_law_image sc_law_image rfl (show 2 ≤ 5 by decide) fun cdv A outer s H E pp x hr => (re [Sl.sh (eL (eL eN)) x.1, Sl.sh (eL eN) x.2.1, Sl.nil, Sl.nil, Sl.nil] rfl (sx (nsetF (nsetFe 2 sc_law_image.nd (xrepF (xlst (alc (xtup2 (axc xint (axc xint axn))) (aln (en := eN)))) (xcallB c_len T.z_len (by decide +kernel) (axc (xv 1 rfl) axn))))) fun _ v828 => (re [Sl.sh (eL (eL eN)) x.1, Sl.sh (eL eN) x.2.1, Sl.sh (eL eN) v828, Sl.nil, Sl.nil] rfl (sq_ (nforJ (fun r (s : (List (Int × Int))) => (put r 2 (Sl.sh (eL eN) s))) (s0 := (v828)) PassesOwn.never rfl (wzip 3 4 T.z_zip (axc (xv 1 rfl) (axc (xv 0 rfl) axn))) (pg_tup rfl (pgs_cons (pg_name (i := 3) sc_law_image.nd rfl (by first | exact Or.inl rfl | exact Or.inr rfl)) (pgs_cons (pg_name (i := 4) sc_law_image.nd rfl (by first | exact Or.inl rfl | exact Or.inr rfl)) pgs_nil))) (Fit.eq (Fit.eq (Fit.eq (Fit.eq (Fit.eq Fit.nil))))) (fun s846 y847 => (re [Sl.sh (eL (eL eN)) x.1, Sl.sh (eL eN) x.2.1, Sl.sh (eL eN) s846, Sl.sh eN y847.1, Sl.sh (eL eN) y847.2] rfl (sx (nset 2 sc_law_image.nd (xcall (ok_law_plus T) (hr.mono (by decide)) T.m_law_plus T.F_law_plus.kp (b_law_plus T) (axc (xv 2 rfl) (axc (xv 3 rfl) (axc (xv 4 rfl) axn))))) fun _ v848 => (re [Sl.sh (eL (eL eN)) x.1, Sl.sh (eL eN) x.2.1, Sl.sh (eL eN) v848, Sl.sh eN y847.1, Sl.sh (eL eN) y847.2] rfl (snil (s := (v848)) (Fit.eq (Fit.eq (Fit.eq (Fit.dr (Fit.dr Fit.nil))))))))))) fun s855 => (re [Sl.sh (eL (eL eN)) x.1, Sl.sh (eL eN) x.2.1, Sl.sh (eL eN) s855, Sl.nil, Sl.nil] rfl (sret (xv 2 rfl)))))))
theorem ok_law_map (T : Txt K mg) : FnOk P w K mg base CX0 3 T.a_law_map T.d_law_map P_law_map (spW (K := K) poolA (aPl (aC eI aN)) w_law_map (eL (eL eN))) :=
  fn_R (k := 2) (wb := wb_law_map) (ρ' := fun z : Empty => nomatch z) T.F_law_map sc_law_map rfl (show 2 ≤ 6 by decide) fun cdv A outer s H E pp x hr => (re [Sl.pl, Sl.sh eI x.1, Sl.nil, Sl.nil, Sl.nil, Sl.nil] rfl (sx (nset 2 sc_law_map.nd (xcall (ok_law_pick T.F_law_pick T.z_int) (hr.mono (by decide)) T.m_law_pick T.F_law_pick.kp (b_law_pick T) (axp 0 rfl (axc xint axn)))) fun _ v857 => (re [Sl.pl, Sl.sh eI x.1, Sl.sh eI v857, Sl.nil, Sl.nil, Sl.nil] rfl (sx (nown (nsetFe 3 sc_law_map.nd (xlc (own := [(Str.ofString "_law_spot", 5)]) rfl sc_law_map.nd (wrange1 5 T.z_range (axc (xv 1 rfl) axn)) (blkOk_by (N := N_law_map) (sc := defScope s_law_map) (by decide +kernel)) (by decide) (nil1 rfl) (fun _ => rfl) (fun _ _ _ _ _ => (pg_name (i := 5) sc_law_map.nd rfl (by first | exact Or.inl rfl | exact Or.inr rfl))) (fun _ _ _ _ _ y864 => (xfr (xlc (own := [(Str.ofString "_law_k", 4)]) rfl sc_law_map.nd (wrange1 4 T.z_range (axc (xv 1 rfl) axn)) (blk_in (N := N_law_map) (sc := defScope s_law_map) rfl rfl (by decide +kernel)) (by decide) (nil1 rfl) (fun _ => rfl) (fun _ _ _ _ _ => (pg_name (i := 4) sc_law_map.nd rfl (by first | exact Or.inl rfl | exact Or.inr rfl))) (fun _ _ _ _ _ y868 => (xcall (ok_law_number T) (hr.mono (by decide)) T.m_law_number T.F_law_number.kp (b_law_number T) (axp 0 rfl (axc xbl axn)))))))))) fun p873 v860 => (re [Sl.pl, Sl.sh eI x.1, Sl.sh eI v857, Sl.ow p873 (oL (eL eN)) v860, Sl.nil, Sl.nil] rfl (sq_ (nif0 (tcmp w_eqI (xv 2 rfl) xint) (re [Sl.pl, Sl.sh eI x.1, Sl.sh eI v857, Sl.ow p873 (oL (eL eN)) v860, Sl.nil, Sl.nil] rfl (sret (xfr (xlc (own := [(Str.ofString "_law_spot", 5)]) rfl sc_law_map.nd (wrange1 5 T.z_range (axc (xv 1 rfl) axn)) (blkOk_by (N := N_law_map) (sc := defScope s_law_map) (by decide +kernel)) (by decide) (nil1 rfl) (fun _ => rfl) (fun _ _ _ _ _ => (pg_name (i := 5) sc_law_map.nd rfl (by first | exact Or.inl rfl | exact Or.inr rfl))) (fun _ _ _ _ _ y880 => (xfr (xlc (own := [(Str.ofString "_law_k", 4)]) rfl sc_law_map.nd (wrange1 4 T.z_range (axc (xv 1 rfl) axn)) (blk_in (N := N_law_map) (sc := defScope s_law_map) rfl rfl (by decide +kernel)) (by decide) (nil1 rfl) (fun _ => rfl) (fun _ _ _ _ _ => (pg_name (i := 4) sc_law_map.nd rfl (by first | exact Or.inl rfl | exact Or.inr rfl))) (fun _ _ _ _ _ y884 => (xtup2 (axc (xcallT c_intB T.z_int (by decide +kernel) (axc (xcmp w_eqI (xv 4 rfl) (xv 5 rfl)) axn)) (axc xint axn)))))))))))) fun _ => (re [Sl.pl, Sl.sh eI x.1, Sl.sh eI v857, Sl.ow p873 (oL (eL eN)) v860, Sl.nil, Sl.nil] rfl (sq_ (nif0 (tcmp w_eqI (xv 2 rfl) xint) (re [Sl.pl, Sl.sh eI x.1, Sl.sh eI v857, Sl.ow p873 (oL (eL eN)) v860, Sl.nil, Sl.nil] rfl (sret (xfr (xlc (own := [(Str.ofString "_law_spot", 5)]) rfl sc_law_map.nd (wrange1 5 T.z_range (axc (xv 1 rfl) axn)) (blkOk_by (N := N_law_map) (sc := defScope s_law_map) (by decide +kernel)) (by decide) (nil1 rfl) (fun _ => rfl) (fun _ _ _ _ _ => (pg_name (i := 5) sc_law_map.nd rfl (by first | exact Or.inl rfl | exact Or.inr rfl))) (fun _ _ _ _ _ y904 => (xcallT c_list T.z_list (by decide +kernel) (axc (xR (xixO 3 rfl xint)) axn)))))))) fun _ => (re [Sl.pl, Sl.sh eI x.1, Sl.sh eI v857, Sl.ow p873 (oL (eL eN)) v860, Sl.nil, Sl.nil] rfl (sq_ (nifJ (fun r (s : (List (List (Int × Int)))) => (put r 3 (Sl.ow p873 (oL (eL eN)) s))) (tcmp w_eqI (xv 2 rfl) xint) (re [Sl.pl, Sl.sh eI x.1, Sl.sh eI v857, Sl.ow p873 (oL (eL eN)) v860, Sl.nil, Sl.nil] rfl (sx (nsetix 3 rfl (xfr (xrepF (xlst (alc (xtup2 (axc xint (axc xint axn))) (aln (en := eN)))) (xv 1 rfl))) (xcall (ok_law_pick T.F_law_pick T.z_int) (hr.mono (by decide)) T.m_law_pick T.F_law_pick.kp (b_law_pick T) (axp 0 rfl (axc (xv 1 rfl) axn)))) fun _ v932 => (re [Sl.pl, Sl.sh eI x.1, Sl.sh eI v857, Sl.ow p873 (oL (eL eN)) (v860.set ((ixN v860.length v932.1).getD 0) v932.2), Sl.nil, Sl.nil] rfl (snil (s := ((v860.set ((ixN v860.length v932.1).getD 0) v932.2))) (Fit.eq (Fit.eq (Fit.eq (Fit.eq (Fit.eq (Fit.eq Fit.nil)))))))))) (re [Sl.pl, Sl.sh eI x.1, Sl.sh eI v857, Sl.ow p873 (oL (eL eN)) v860, Sl.nil, Sl.nil] rfl (snil (s := (v860)) (Fit.eq (Fit.eq (Fit.eq (Fit.eq (Fit.eq (Fit.eq Fit.nil))))))))) fun s935 => (re [Sl.pl, Sl.sh eI x.1, Sl.sh eI v857, Sl.ow p873 (oL (eL eN)) s935, Sl.nil, Sl.nil] rfl (nfreeze 3 rfl (re [Sl.pl, Sl.sh eI x.1, Sl.sh eI v857, Sl.sh (eL (eL eN)) s935, Sl.nil, Sl.nil] rfl (sret (xv 3 rfl)))))))))))))))
theorem ok_law_is (T : Txt K mg) : FnOk P w K mg base CX0 11 T.a_law_is T.d_law_is P_law_is (spW (K := K) poolA (aC (e_Table T) (aC (eL (eL (eL eN))) (aC eI aN))) w_law_is eB) :=
  fn_R (k := 10) (wb := wb_law_is) (ρ' := fun z : Empty => nomatch z) T.F_law_is sc_law_is rfl (show 3 ≤ 3 by decide) fun cdv A outer s H E pp x hr => (re [Sl.sh (e_Table T) x.1, Sl.sh (eL (eL (eL eN))) x.2.1, Sl.sh eI x.2.2.1] rfl (sret (xand (xisC T.z_isinstance T.m_Table T.ic_Table (xv 0 rfl)) (xone (xcall (ok_law_alike T 6) (hr.mono (by decide)) T.m_law_alike T.F_law_alike.kp (b_law_alike T) (axc (xD (tdL tdD) (xlst (alc (xD tdI (xprop T.cl_Table T.pr_Table_size (ok_Table_size T) (hr.mono (by decide)) (b_Table_size T) (xv 0 rfl))) (alc (xD (tdL (tdL (tdL (tdP tdI tdI)))) (xprop T.cl_Table T.pr_Table_products (ok_Table_products T) (hr.mono (by decide)) (b_Table_products T) (xv 0 rfl))) (aln (en := eD)))))) (axc (xD (tdL tdD) (xlst (alc (xD tdI (xv 2 rfl)) (alc (xD (tdL (tdL (tdL (tdP tdI tdI)))) (xv 1 rfl)) (aln (en := eD)))))) axn)))))))
theorem ok_law_wholes (T : Txt K mg) : ∀ n : Nat, FnOk P w K mg base CX0 (1 + n) T.a_law_wholes T.d_law_wholes P_law_wholes (spW (K := K) poolA (aC eD aN) (w_law_wholes n) eD)
  | 0 => fn_R (k := 0) (wb := fun _ => stuck) (ρ' := fun z : Empty => nomatch z) T.F_law_wholes sc_law_wholes rfl (show 1 ≤ 2 by decide) fun cdv A outer s H E pp x hr => snever
  | n + 1 =>
    have ih := ok_law_wholes T n
    fn_R (k := 1 + n) (ρ' := fun z : Empty => nomatch z) T.F_law_wholes sc_law_wholes rfl (show 1 ≤ 2 by decide) fun cdv A outer s H E pp x hr => (re [Sl.sh eD x.1, Sl.nil] rfl (sret (xif (tval (xisi T.z_isinstance T.z_list (by decide +kernel) (by decide) (xv 0 rfl))) (xD (tdL tdD) (xfr (xlc (own := [(Str.ofString "_law_part", 1)]) rfl sc_law_wholes.nd (wlistL 1 (xDl (xv 0 rfl))) (blkOk_by (N := N_law_wholes) (sc := defScope s_law_wholes) (by decide +kernel)) (by decide) (nil1 rfl) (fun _ => rfl) (fun _ _ _ _ _ => (pg_name (i := 1) sc_law_wholes.nd rfl (by first | exact Or.inl rfl | exact Or.inr rfl))) (fun _ _ _ _ _ y1214 => (xcall ih hr T.m_law_wholes T.F_law_wholes.kp (b_law_wholes T) (axc (xv 1 rfl) axn)))))) (xD (tdP tdD tdI) (xtup2 (axc (xix w_ixD (xv 0 rfl) xint) (axc xint axn)))))))
theorem ok_law_changed_right (T : Txt K mg) : FnOk P w K mg base CX0 12 T.a_law_changed_right T.d_law_changed_right P_law_changed_right (spW (K := K) poolA (aPl (aC (e_Table T) (aC (eL (eL (eL eN))) aN))) w_law_changed_right eB) :=
  fn_R (k := 11) (wb := wb_law_changed_right) (ρ' := fun z : Empty => nomatch z) T.F_law_changed_right sc_law_changed_right rfl (show 3 ≤ 14 by decide) fun cdv A outer s H E pp x hr => (re [Sl.pl, Sl.sh (e_Table T) x.1, Sl.sh (eL (eL (eL eN))) x.2.1, Sl.nil, Sl.nil, Sl.nil, Sl.nil, Sl.nil, Sl.nil, Sl.nil, Sl.nil, Sl.nil, Sl.nil, Sl.nil] rfl (sx (nset 3 sc_law_changed_right.nd (xcallB c_len T.z_len (by decide +kernel) (axc (xv 2 rfl) axn))) fun _ v960 => (re [Sl.pl, Sl.sh (e_Table T) x.1, Sl.sh (eL (eL (eL eN))) x.2.1, Sl.sh eI v960, Sl.nil, Sl.nil, Sl.nil, Sl.nil, Sl.nil, Sl.nil, Sl.nil, Sl.nil, Sl.nil, Sl.nil] rfl (sx (npair 4 5 rfl sc_law_changed_right.nd (xtup2 (axc (xcall (ok_law_map T) (hr.mono (by decide)) T.m_law_map T.F_law_map.kp (b_law_map T) (axp 0 rfl (axc (xv 3 rfl) axn))) (axc (xcall (ok_law_map T) (hr.mono (by decide)) T.m_law_map T.F_law_map.kp (b_law_map T) (axp 0 rfl (axc (xv 3 rfl) axn))) axn)))) fun _ v964 => (re [Sl.pl, Sl.sh (e_Table T) x.1, Sl.sh (eL (eL (eL eN))) x.2.1, Sl.sh eI v960, Sl.sh (eL (eL eN)) v964.1, Sl.sh (eL (eL eN)) v964.2, Sl.nil, Sl.nil, Sl.nil, Sl.nil, Sl.nil, Sl.nil, Sl.nil, Sl.nil] rfl (sq_ (nifJ (fun r (s : (List (List (Int × Int))) × (List (List (Int × Int)))) => (put (put r 4 (Sl.sh (eL (eL eN)) s.1)) 5 (Sl.sh (eL (eL eN)) s.2))) (tcmp w_gt (xv 3 rfl) xint) (re [Sl.pl, Sl.sh (e_Table T) x.1, Sl.sh (eL (eL (eL eN))) x.2.1, Sl.sh eI v960, Sl.sh (eL (eL eN)) v964.1, Sl.sh (eL (eL eN)) v964.2, Sl.nil, Sl.nil, Sl.nil, Sl.nil, Sl.nil, Sl.nil, Sl.nil, Sl.nil] rfl (sx (npair 4 5 rfl sc_law_changed_right.nd (xtup2 (axc (xcastF (f := fun z => (List.map (fun z => (List.map (fun z => (z.1, (1 : Int))) z)) z)) (frL (frL (frP frI frI))) (fun z => wholes_eq2 z) (xcall (ok_law_wholes T 6) (hr.mono (by decide)) T.m_law_wholes T.F_law_wholes.kp (b_law_wholes T) (axc (xD (tdL (tdL (tdP tdI tdI))) (xv 4 rfl)) axn))) (axc (xcastF (f := fun z => (List.map (fun z => (List.map (fun z => (z.1, (1 : Int))) z)) z)) (frL (frL (frP frI frI))) (fun z => wholes_eq2 z) (xcall (ok_law_wholes T 6) (hr.mono (by decide)) T.m_law_wholes T.F_law_wholes.kp (b_law_wholes T) (axc (xD (tdL (tdL (tdP tdI tdI))) (xv 5 rfl)) axn))) axn)))) fun _ v977 => (re [Sl.pl, Sl.sh (e_Table T) x.1, Sl.sh (eL (eL (eL eN))) x.2.1, Sl.sh eI v960, Sl.sh (eL (eL eN)) v977.1, Sl.sh (eL (eL eN)) v977.2, Sl.nil, Sl.nil, Sl.nil, Sl.nil, Sl.nil, Sl.nil, Sl.nil, Sl.nil] rfl (snil (s := (v977.1, v977.2)) (Fit.eq (Fit.eq (Fit.eq (Fit.eq (Fit.eq (Fit.eq (Fit.eq (Fit.eq (Fit.eq (Fit.eq (Fit.eq (Fit.eq (Fit.eq (Fit.eq Fit.nil)))))))))))))))))) (re [Sl.pl, Sl.sh (e_Table T) x.1, Sl.sh (eL (eL (eL eN))) x.2.1, Sl.sh eI v960, Sl.sh (eL (eL eN)) v964.1, Sl.sh (eL (eL eN)) v964.2, Sl.nil, Sl.nil, Sl.nil, Sl.nil, Sl.nil, Sl.nil, Sl.nil, Sl.nil] rfl (snil (s := (v964.1, v964.2)) (Fit.eq (Fit.eq (Fit.eq (Fit.eq (Fit.eq (Fit.eq (Fit.eq (Fit.eq (Fit.eq (Fit.eq (Fit.eq (Fit.eq (Fit.eq (Fit.eq Fit.nil))))))))))))))))) fun s991 => (re [Sl.pl, Sl.sh (e_Table T) x.1, Sl.sh (eL (eL (eL eN))) x.2.1, Sl.sh eI v960, Sl.sh (eL (eL eN)) s991.1, Sl.sh (eL (eL eN)) s991.2, Sl.nil, Sl.nil, Sl.nil, Sl.nil, Sl.nil, Sl.nil, Sl.nil, Sl.nil] rfl (sq_ (nifJ (fun r (s : (List (List (Int × Int)))) => (put r 5 (Sl.sh (eL (eL eN)) s))) (tcmp w_eqI (xcall (ok_law_pick T.F_law_pick T.z_int) (hr.mono (by decide)) T.m_law_pick T.F_law_pick.kp (b_law_pick T) (axp 0 rfl (axc xint axn))) xint) (re [Sl.pl, Sl.sh (e_Table T) x.1, Sl.sh (eL (eL (eL eN))) x.2.1, Sl.sh eI v960, Sl.sh (eL (eL eN)) s991.1, Sl.sh (eL (eL eN)) s991.2, Sl.nil, Sl.nil, Sl.nil, Sl.nil, Sl.nil, Sl.nil, Sl.nil, Sl.nil] rfl (sx (nset 5 sc_law_changed_right.nd (xv 4 rfl)) fun _ v997 => (re [Sl.pl, Sl.sh (e_Table T) x.1, Sl.sh (eL (eL (eL eN))) x.2.1, Sl.sh eI v960, Sl.sh (eL (eL eN)) s991.1, Sl.sh (eL (eL eN)) v997, Sl.nil, Sl.nil, Sl.nil, Sl.nil, Sl.nil, Sl.nil, Sl.nil, Sl.nil] rfl (snil (s := (v997)) (Fit.eq (Fit.eq (Fit.eq (Fit.eq (Fit.eq (Fit.eq (Fit.eq (Fit.eq (Fit.eq (Fit.eq (Fit.eq (Fit.eq (Fit.eq (Fit.eq Fit.nil)))))))))))))))))) (re [Sl.pl, Sl.sh (e_Table T) x.1, Sl.sh (eL (eL (eL eN))) x.2.1, Sl.sh eI v960, Sl.sh (eL (eL eN)) s991.1, Sl.sh (eL (eL eN)) s991.2, Sl.nil, Sl.nil, Sl.nil, Sl.nil, Sl.nil, Sl.nil, Sl.nil, Sl.nil] rfl (snil (s := (s991.2)) (Fit.eq (Fit.eq (Fit.eq (Fit.eq (Fit.eq (Fit.eq (Fit.eq (Fit.eq (Fit.eq (Fit.eq (Fit.eq (Fit.eq (Fit.eq (Fit.eq Fit.nil))))))))))))))))) fun s998 => (re [Sl.pl, Sl.sh (e_Table T) x.1, Sl.sh (eL (eL (eL eN))) x.2.1, Sl.sh eI v960, Sl.sh (eL (eL eN)) s991.1, Sl.sh (eL (eL eN)) s998, Sl.nil, Sl.nil, Sl.nil, Sl.nil, Sl.nil, Sl.nil, Sl.nil, Sl.nil] rfl (sx (nsetF (xlcS 6 (own := [(Str.ofString "_law_one", 8)]) rfl sc_law_changed_right.nd (wlistL 8 (xv 4 rfl)) (blkOk_by (N := N_law_changed_right) (sc := defScope s_law_changed_right) (by decide +kernel)) (by decide) (nil1 rfl) (fun _ => rfl) (fun _ _ _ _ _ => (pg_name (i := 8) sc_law_changed_right.nd rfl (by first | exact Or.inl rfl | exact Or.inr rfl))) (fun _ _ _ _ _ y1000 => (xfr (xlc (own := [(Str.ofString "_law_other", 7)]) rfl sc_law_changed_right.nd (wlistL 7 (xv 5 rfl)) (blk_in (N := N_law_changed_right) (sc := defScope s_law_changed_right) rfl rfl (by decide +kernel)) (by decide) (nil1 rfl) (fun _ => rfl) (fun _ _ _ _ _ => (pg_name (i := 7) sc_law_changed_right.nd rfl (by first | exact Or.inl rfl | exact Or.inr rfl))) (fun _ _ _ _ _ y1001 => (xcall (ok_law_times T) (hr.mono (by decide)) T.m_law_times T.F_law_times.kp (b_law_times T) (axc (xv 2 rfl) (axc (xv 8 rfl) (axc (xv 7 rfl) axn)))))))) (sw_true rfl rfl rfl (by decide +kernel)))) fun _ v999 => (re [Sl.pl, Sl.sh (e_Table T) x.1, Sl.sh (eL (eL (eL eN))) x.2.1, Sl.sh eI v960, Sl.sh (eL (eL eN)) s991.1, Sl.sh (eL (eL eN)) s998, Sl.sh (eL (eL (eL eN))) v999, Sl.nil, Sl.nil, Sl.nil, Sl.nil, Sl.nil, Sl.nil, Sl.nil] rfl (sx (npar 9 10 rfl sc_law_changed_right.nd (axc (xcastF (f := fun z => z) (frL (frL (frP frI frI))) (fun z => copied_eq (n := 7) ((tmL (tmL (tmP tmI tmI))) z)) (xcall (ok_law_copied T 7) (hr.mono (by decide)) T.m_law_copied T.F_law_copied.kp (b_law_copied T) (axc (xD (tdL (tdL (tdP tdI tdI))) (xv 4 rfl)) axn))) (axc (xcastF (f := fun z => z) (frL (frL (frP frI frI))) (fun z => copied_eq (n := 7) ((tmL (tmL (tmP tmI tmI))) z)) (xcall (ok_law_copied T 7) (hr.mono (by decide)) T.m_law_copied T.F_law_copied.kp (b_law_copied T) (axc (xD (tdL (tdL (tdP tdI tdI))) (xv 5 rfl)) axn))) axn))) fun _ v1010 => (re [Sl.pl, Sl.sh (e_Table T) x.1, Sl.sh (eL (eL (eL eN))) x.2.1, Sl.sh eI v960, Sl.sh (eL (eL eN)) s991.1, Sl.sh (eL (eL eN)) s998, Sl.sh (eL (eL (eL eN))) v999, Sl.nil, Sl.nil, Sl.sh (eL (eL eN)) v1010.1, Sl.sh (eL (eL eN)) v1010.2.1, Sl.nil, Sl.nil, Sl.nil] rfl (sx (nset 11 sc_law_changed_right.nd (xcall (ok_changed T) (hr.mono (by decide)) T.m_changed T.F_changed.kp (b_changed T) (axc (xv 1 rfl) (axc (xv 9 rfl) (axc (xv 10 rfl) axn))))) fun _ v1023 => (re [Sl.pl, Sl.sh (e_Table T) x.1, Sl.sh (eL (eL (eL eN))) x.2.1, Sl.sh eI v960, Sl.sh (eL (eL eN)) s991.1, Sl.sh (eL (eL eN)) s998, Sl.sh (eL (eL (eL eN))) v999, Sl.nil, Sl.nil, Sl.sh (eL (eL eN)) v1010.1, Sl.sh (eL (eL eN)) v1010.2.1, Sl.sh (e_Table T) v1023, Sl.nil, Sl.nil] rfl (sq_ (nif0 (tw (wor (tnot (tval (xcall (ok_law_is T) (hr.mono (by decide)) T.m_law_is T.F_law_is.kp (b_law_is T) (axc (xv 11 rfl) (axc (xv 6 rfl) (axc (xv 3 rfl) axn)))))) (wor1 (tnot (tval (xcall (ok_law_is T) (hr.mono (by decide)) T.m_law_is T.F_law_is.kp (b_law_is T) (axc (xcallK _ (ok_changed T) (hr.mono (by decide)) T.m_changed T.F_changed.kp (kb_changed_2_1_0 T) (kxc (xv 10 rfl) (kxc (xv 9 rfl) (kxc (xv 1 rfl) kxn))) (kb_changed_2_1_0_pm T)) (axc (xv 6 rfl) (axc (xv 3 rfl) axn))))))))) (re [Sl.pl, Sl.sh (e_Table T) x.1, Sl.sh (eL (eL (eL eN))) x.2.1, Sl.sh eI v960, Sl.sh (eL (eL eN)) s991.1, Sl.sh (eL (eL eN)) s998, Sl.sh (eL (eL (eL eN))) v999, Sl.nil, Sl.nil, Sl.sh (eL (eL eN)) v1010.1, Sl.sh (eL (eL eN)) v1010.2.1, Sl.sh (e_Table T) v1023, Sl.nil, Sl.nil] rfl (sret xbl))) fun _ => (re [Sl.pl, Sl.sh (e_Table T) x.1, Sl.sh (eL (eL (eL eN))) x.2.1, Sl.sh eI v960, Sl.sh (eL (eL eN)) s991.1, Sl.sh (eL (eL eN)) s998, Sl.sh (eL (eL (eL eN))) v999, Sl.nil, Sl.nil, Sl.sh (eL (eL eN)) v1010.1, Sl.sh (eL (eL eN)) v1010.2.1, Sl.sh (e_Table T) v1023, Sl.nil, Sl.nil] rfl (sx (npairL 8 7 rfl sc_law_changed_right.nd (xfr (xlc (own := [(Str.ofString "_law_turn", 13)]) rfl sc_law_changed_right.nd (wrange1 13 T.z_range (axc xint axn)) (blkOk_by (N := N_law_changed_right) (sc := defScope s_law_changed_right) (by decide +kernel)) (by decide) (nil1 rfl) (fun _ => rfl) (fun _ _ _ _ _ => (pg_name (i := 13) sc_law_changed_right.nd rfl (by first | exact Or.inl rfl | exact Or.inr rfl))) (fun _ _ _ _ _ y1058 => (xfr (xlc (own := [(Str.ofString "_law_k", 12)]) rfl sc_law_changed_right.nd (wrange1 12 T.z_range (axc (xv 3 rfl) axn)) (blk_in (N := N_law_changed_right) (sc := defScope s_law_changed_right) rfl rfl (by decide +kernel)) (by decide) (nil1 rfl) (fun _ => rfl) (fun _ _ _ _ _ => (pg_name (i := 12) sc_law_changed_right.nd rfl (by first | exact Or.inl rfl | exact Or.inr rfl))) (fun _ _ _ _ _ y1062 => (xcall (ok_law_number T) (hr.mono (by decide)) T.m_law_number T.F_law_number.kp (b_law_number T) (axp 0 rfl (axc xbl axn)))))))))) fun _ v1054 => (re [Sl.pl, Sl.sh (e_Table T) x.1, Sl.sh (eL (eL (eL eN))) x.2.1, Sl.sh eI v960, Sl.sh (eL (eL eN)) s991.1, Sl.sh (eL (eL eN)) s998, Sl.sh (eL (eL (eL eN))) v999, Sl.sh (eL eN) v1054.2, Sl.sh (eL eN) v1054.1, Sl.sh (eL (eL eN)) v1010.1, Sl.sh (eL (eL eN)) v1010.2.1, Sl.sh (e_Table T) v1023, Sl.nil, Sl.nil] rfl (sq_ (nif0 (tnot (tval (xcall (ok_law_alike T 6) (hr.mono (by decide)) T.m_law_alike T.F_law_alike.kp (b_law_alike T) (axc (xD (tdL (tdP tdI tdI)) (xcallO T.co_Table (ok_Table_call T) (hr.mono (by decide)) (b_Table_call T) (xv 11 rfl) (axc (xv 8 rfl) (axc (xv 7 rfl) axn)))) (axc (xD (tdL (tdP tdI tdI)) (xcall (ok_law_times T) (hr.mono (by decide)) T.m_law_times T.F_law_times.kp (b_law_times T) (axc (xv 2 rfl) (axc (xcall (ok_law_image T) (hr.mono (by decide)) T.m_law_image T.F_law_image.kp (b_law_image T) (axc (xv 4 rfl) (axc (xv 8 rfl) axn))) (axc (xcall (ok_law_image T) (hr.mono (by decide)) T.m_law_image T.F_law_image.kp (b_law_image T) (axc (xv 5 rfl) (axc (xv 7 rfl) axn))) axn))))) axn))))) (re [Sl.pl, Sl.sh (e_Table T) x.1, Sl.sh (eL (eL (eL eN))) x.2.1, Sl.sh eI v960, Sl.sh (eL (eL eN)) s991.1, Sl.sh (eL (eL eN)) s998, Sl.sh (eL (eL (eL eN))) v999, Sl.sh (eL eN) v1054.2, Sl.sh (eL eN) v1054.1, Sl.sh (eL (eL eN)) v1010.1, Sl.sh (eL (eL eN)) v1010.2.1, Sl.sh (e_Table T) v1023, Sl.nil, Sl.nil] rfl (sret xbl))) fun _ => (re [Sl.pl, Sl.sh (e_Table T) x.1, Sl.sh (eL (eL (eL eN))) x.2.1, Sl.sh eI v960, Sl.sh (eL (eL eN)) s991.1, Sl.sh (eL (eL eN)) s998, Sl.sh (eL (eL (eL eN))) v999, Sl.sh (eL eN) v1054.2, Sl.sh (eL eN) v1054.1, Sl.sh (eL (eL eN)) v1010.1, Sl.sh (eL (eL eN)) v1010.2.1, Sl.sh (e_Table T) v1023, Sl.nil, Sl.nil] rfl (sret (xand (xcmp (w_eqD (dL (dL (dP dI dI))) (dL (dL (dP dI dI))) (shx (shL (shL (shP shI shI)))) (shx (shL (shL (shP shI shI)))) hr.units) (xv 9 rfl) (xv 4 rfl)) (xone (xcmp (w_eqD (dL (dL (dP dI dI))) (dL (dL (dP dI dI))) (shx (shL (shL (shP shI shI)))) (shx (shL (shL (shP shI shI)))) hr.units) (xv 10 rfl) (xv 5 rfl))))))))))))))))))))))))))
theorem ok_law_portion_right (T : Txt K mg) : FnOk P w K mg base CX0 12 T.a_law_portion_right T.d_law_portion_right P_law_portion_right (spW (K := K) poolA (aPl (aC (e_Table T) (aC (eL (eL (eL eN))) aN))) w_law_portion_right eB) :=
  fn_R (k := 11) (wb := wb_law_portion_right) (ρ' := fun z : Empty => nomatch z) T.F_law_portion_right sc_law_portion_right rfl (show 3 ≤ 9 by decide) fun cdv A outer s H E pp x hr => (re [Sl.pl, Sl.sh (e_Table T) x.1, Sl.sh (eL (eL (eL eN))) x.2.1, Sl.nil, Sl.nil, Sl.nil, Sl.nil, Sl.nil, Sl.nil] rfl (sx (nset 3 sc_law_portion_right.nd (xcallB c_len T.z_len (by decide +kernel) (axc (xv 2 rfl) axn))) fun _ v1102 => (re [Sl.pl, Sl.sh (e_Table T) x.1, Sl.sh (eL (eL (eL eN))) x.2.1, Sl.sh eI v1102, Sl.nil, Sl.nil, Sl.nil, Sl.nil, Sl.nil] rfl (sx (nset 4 sc_law_portion_right.nd (xix w_ixL (xlst (alc (xtup2 (axc (xun w_neg xint) (axc xint axn))) (alc (xtup2 (axc (xun w_neg xint) (axc xint axn))) (alc (xtup2 (axc xint (axc xint axn))) (alc (xtup2 (axc (xun w_neg xint) (axc xint axn))) (alc (xtup2 (axc xint (axc xint axn))) (aln (en := eN)))))))) (xcall (ok_law_pick T.F_law_pick T.z_int) (hr.mono (by decide)) T.m_law_pick T.F_law_pick.kp (b_law_pick T) (axp 0 rfl (axc xint axn))))) fun _ v1106 => (re [Sl.pl, Sl.sh (e_Table T) x.1, Sl.sh (eL (eL (eL eN))) x.2.1, Sl.sh eI v1102, Sl.sh eN v1106, Sl.nil, Sl.nil, Sl.nil, Sl.nil] rfl (sx (nsetF (xlcS 5 (own := [(Str.ofString "_law_i", 7)]) rfl sc_law_portion_right.nd (wrange1 7 T.z_range (axc (xv 3 rfl) axn)) (blkOk_by (N := N_law_portion_right) (sc := defScope s_law_portion_right) (by decide +kernel)) (by decide) (nil1 rfl) (fun _ => rfl) (fun _ _ _ _ _ => (pg_name (i := 7) sc_law_portion_right.nd rfl (by first | exact Or.inl rfl | exact Or.inr rfl))) (fun _ _ _ _ _ y1153 => (xfr (xlc (own := [(Str.ofString "_law_j", 6)]) rfl sc_law_portion_right.nd (wrange1 6 T.z_range (axc (xv 3 rfl) axn)) (blk_in (N := N_law_portion_right) (sc := defScope s_law_portion_right) rfl rfl (by decide +kernel)) (by decide) (nil1 rfl) (fun _ => rfl) (fun _ _ _ _ _ => (pg_name (i := 6) sc_law_portion_right.nd rfl (by first | exact Or.inl rfl | exact Or.inr rfl))) (fun _ _ _ _ _ y1157 => (xcall (ok_law_plus T) (hr.mono (by decide)) T.m_law_plus T.F_law_plus.kp (b_law_plus T) (axc (xix w_ixL (xix w_ixL (xv 2 rfl) (xv 7 rfl)) (xv 6 rfl)) (axc (xv 4 rfl) (axc (xix w_ixL (xix w_ixL (xv 2 rfl) (xv 7 rfl)) (xv 6 rfl)) axn)))))))) (sw_true rfl rfl rfl (by decide +kernel)))) fun _ v1149 => (re [Sl.pl, Sl.sh (e_Table T) x.1, Sl.sh (eL (eL (eL eN))) x.2.1, Sl.sh eI v1102, Sl.sh eN v1106, Sl.sh (eL (eL (eL eN))) v1149, Sl.nil, Sl.nil, Sl.nil] rfl (sx (nset 8 sc_law_portion_right.nd (xcall (ok_blended T) (hr.mono (by decide)) T.m_blended T.F_blended.kp (b_blended T) (axc (xv 1 rfl) (axc (xv 1 rfl) (axc (xv 4 rfl) axn))))) fun _ v1174 => (re [Sl.pl, Sl.sh (e_Table T) x.1, Sl.sh (eL (eL (eL eN))) x.2.1, Sl.sh eI v1102, Sl.sh eN v1106, Sl.sh (eL (eL (eL eN))) v1149, Sl.nil, Sl.nil, Sl.sh (e_Table T) v1174] rfl (sq_ (nif0 (tw (wor (tnot (tval (xcall (ok_law_is T) (hr.mono (by decide)) T.m_law_is T.F_law_is.kp (b_law_is T) (axc (xv 8 rfl) (axc (xv 5 rfl) (axc (xv 3 rfl) axn)))))) (wor1 (tcmp w_neB (xcmpO T.eq_Table (ok_Table_eq T) (hr.mono (by decide)) (b_Table_eq T) (xv 8 rfl) (xv 1 rfl)) (xcmp (w_eqD (dL (dL (dL (dP dI dI)))) (dL (dL (dL (dP dI dI)))) (shx (shL (shL (shL (shP shI shI))))) (shx (shL (shL (shL (shP shI shI))))) hr.units) (xv 5 rfl) (xv 2 rfl)))))) (re [Sl.pl, Sl.sh (e_Table T) x.1, Sl.sh (eL (eL (eL eN))) x.2.1, Sl.sh eI v1102, Sl.sh eN v1106, Sl.sh (eL (eL (eL eN))) v1149, Sl.nil, Sl.nil, Sl.sh (e_Table T) v1174] rfl (sret xbl))) fun _ => (re [Sl.pl, Sl.sh (e_Table T) x.1, Sl.sh (eL (eL (eL eN))) x.2.1, Sl.sh eI v1102, Sl.sh eN v1106, Sl.sh (eL (eL (eL eN))) v1149, Sl.nil, Sl.nil, Sl.sh (e_Table T) v1174] rfl (sret (xand (xcmp w_eqB (xcmpO T.eq_Table (ok_Table_eq T) (hr.mono (by decide)) (b_Table_eq T) (xv 1 rfl) (xv 8 rfl)) (xcmp (w_eqD (dL (dL (dL (dP dI dI)))) (dL (dL (dL (dP dI dI)))) (shx (shL (shL (shL (shP shI shI))))) (shx (shL (shL (shL (shP shI shI))))) hr.units) (xv 5 rfl) (xv 2 rfl))) (xone (xcmp w_neB (xneO T.eq_Table T.ne_Table (ok_Table_eq T) (hr.mono (by decide)) (b_Table_eq T) (xv 1 rfl) (xv 8 rfl)) (xcmp (w_eqD (dL (dL (dL (dP dI dI)))) (dL (dL (dL (dP dI dI)))) (shx (shL (shL (shL (shP shI shI))))) (shx (shL (shL (shL (shP shI shI))))) hr.units) (xv 5 rfl) (xv 2 rfl)))))))))))))))))
theorem ok_law_right (T : Txt K mg) : FnOk P w K mg base CX0 13 T.a_law_right T.d_law_right P_law_right (spW (K := K) poolA (aPl (aC eI aN)) w_law_right eB) :=
  fn_R (k := 12) (wb := wb_law_right) (ρ' := fun z : Empty => nomatch z) T.F_law_right sc_law_right rfl (show 2 ≤ 14 by decide) fun cdv A outer s H E pp x hr => (re [Sl.pl, Sl.sh eI x.1, Sl.nil, Sl.nil, Sl.nil, Sl.nil, Sl.nil, Sl.nil, Sl.nil, Sl.nil, Sl.nil, Sl.nil, Sl.nil, Sl.nil] rfl (sx (nset 2 sc_law_right.nd (xop0 w_add xint (xcall (ok_law_pick T.F_law_pick T.z_int) (hr.mono (by decide)) T.m_law_pick T.F_law_pick.kp (b_law_pick T) (axp 0 rfl (axc (xv 1 rfl) axn))))) fun _ v1229 => (re [Sl.pl, Sl.sh eI x.1, Sl.sh eI v1229, Sl.nil, Sl.nil, Sl.nil, Sl.nil, Sl.nil, Sl.nil, Sl.nil, Sl.nil, Sl.nil, Sl.nil, Sl.nil] rfl (sx (nset 3 sc_law_right.nd (xor (xcmp w_eqI (xv 2 rfl) xint) (xone (xcmp w_eqI (xcall (ok_law_pick T.F_law_pick T.z_int) (hr.mono (by decide)) T.m_law_pick T.F_law_pick.kp (b_law_pick T) (axp 0 rfl (axc xint axn))) xint)))) fun _ v1234 => (re [Sl.pl, Sl.sh eI x.1, Sl.sh eI v1229, Sl.sh eB v1234, Sl.nil, Sl.nil, Sl.nil, Sl.nil, Sl.nil, Sl.nil, Sl.nil, Sl.nil, Sl.nil, Sl.nil] rfl (sx (nsetF (nsetFe 4 sc_law_right.nd (xlc (own := [(Str.ofString "_law_k", 5)]) rfl sc_law_right.nd (wrange1 5 T.z_range (axc xint axn)) (blkOk_by (N := N_law_right) (sc := defScope s_law_right) (by decide +kernel)) (by decide) (nil1 rfl) (fun _ => rfl) (fun _ _ _ _ _ => (pg_name (i := 5) sc_law_right.nd rfl (by first | exact Or.inl rfl | exact Or.inr rfl))) (fun _ _ _ _ _ y1246 => (xcall (ok_law_products T) (hr.mono (by decide)) T.m_law_products T.F_law_products.kp (b_law_products T) (axp 0 rfl (axc (xv 2 rfl) (axc (xv 3 rfl) axn)))))))) fun _ v1242 => (re [Sl.pl, Sl.sh eI x.1, Sl.sh eI v1229, Sl.sh eB v1234, Sl.sh (eL (eL (eL (eL eN)))) v1242, Sl.nil, Sl.nil, Sl.nil, Sl.nil, Sl.nil, Sl.nil, Sl.nil, Sl.nil, Sl.nil] rfl (sq_ (nifJ (fun r (s : (List (List (List (List (Int × Int)))))) => (put r 4 (Sl.sh (eL (eL (eL (eL eN)))) s))) (tw (wor (tcmp w_gt (xv 2 rfl) xint) (wor1 (tw (wand (tcmp w_gt (xv 2 rfl) xint) (wand1 (tval (xv 3 rfl)))))))) (re [Sl.pl, Sl.sh eI x.1, Sl.sh eI v1229, Sl.sh eB v1234, Sl.sh (eL (eL (eL (eL eN)))) v1242, Sl.nil, Sl.nil, Sl.nil, Sl.nil, Sl.nil, Sl.nil, Sl.nil, Sl.nil, Sl.nil] rfl (sx (nset 4 sc_law_right.nd (xcastF (f := fun z => (List.map (fun z => (List.map (fun z => (List.map (fun z => (List.map (fun z => (z.1, (1 : Int))) z)) z)) z)) z)) (frL (frL (frL (frL (frP frI frI))))) (fun z => wholes_eq4 z) (xcall (ok_law_wholes T 6) (hr.mono (by decide)) T.m_law_wholes T.F_law_wholes.kp (b_law_wholes T) (axc (xD (tdL (tdL (tdL (tdL (tdP tdI tdI))))) (xv 4 rfl)) axn)))) fun _ v1259 => (re [Sl.pl, Sl.sh eI x.1, Sl.sh eI v1229, Sl.sh eB v1234, Sl.sh (eL (eL (eL (eL eN)))) v1259, Sl.nil, Sl.nil, Sl.nil, Sl.nil, Sl.nil, Sl.nil, Sl.nil, Sl.nil, Sl.nil] rfl (snil (s := (v1259)) (Fit.eq (Fit.eq (Fit.eq (Fit.eq (Fit.eq (Fit.eq (Fit.eq (Fit.eq (Fit.eq (Fit.eq (Fit.eq (Fit.eq (Fit.eq (Fit.eq Fit.nil)))))))))))))))))) (re [Sl.pl, Sl.sh eI x.1, Sl.sh eI v1229, Sl.sh eB v1234, Sl.sh (eL (eL (eL (eL eN)))) v1242, Sl.nil, Sl.nil, Sl.nil, Sl.nil, Sl.nil, Sl.nil, Sl.nil, Sl.nil, Sl.nil] rfl (snil (s := (v1242)) (Fit.eq (Fit.eq (Fit.eq (Fit.eq (Fit.eq (Fit.eq (Fit.eq (Fit.eq (Fit.eq (Fit.eq (Fit.eq (Fit.eq (Fit.eq (Fit.eq Fit.nil))))))))))))))))) fun s1264 => (re [Sl.pl, Sl.sh eI x.1, Sl.sh eI v1229, Sl.sh eB v1234, Sl.sh (eL (eL (eL (eL eN)))) s1264, Sl.nil, Sl.nil, Sl.nil, Sl.nil, Sl.nil, Sl.nil, Sl.nil, Sl.nil, Sl.nil] rfl (sx (nset 6 sc_law_right.nd (xmake T.mk_Table (ok_Table_init T) (hr.mono (by decide)) T.m_Table (b_Table_init T) (axc (xcastF (f := fun z => z) (frL (frL (frL (frP frI frI)))) (fun z => copied_eq (n := 7) ((tmL (tmL (tmL (tmP tmI tmI)))) z)) (xcall (ok_law_copied T 7) (hr.mono (by decide)) T.m_law_copied T.F_law_copied.kp (b_law_copied T) (axc (xD (tdL (tdL (tdL (tdP tdI tdI)))) (xix w_ixL (xv 4 rfl) xint)) axn))) axn))) fun _ v1265 => (re [Sl.pl, Sl.sh eI x.1, Sl.sh eI v1229, Sl.sh eB v1234, Sl.sh (eL (eL (eL (eL eN)))) s1264, Sl.nil, Sl.sh (e_Table T) v1265, Sl.nil, Sl.nil, Sl.nil, Sl.nil, Sl.nil, Sl.nil, Sl.nil] rfl (sx (nset 7 sc_law_right.nd (xmake T.mk_Table (ok_Table_init T) (hr.mono (by decide)) T.m_Table (b_Table_init T) (axc (xcastF (f := fun z => z) (frL (frL (frL (frP frI frI)))) (fun z => copied_eq (n := 7) ((tmL (tmL (tmL (tmP tmI tmI)))) z)) (xcall (ok_law_copied T 7) (hr.mono (by decide)) T.m_law_copied T.F_law_copied.kp (b_law_copied T) (axc (xD (tdL (tdL (tdL (tdP tdI tdI)))) (xix w_ixL (xv 4 rfl) xint)) axn))) axn))) fun _ v1274 => (re [Sl.pl, Sl.sh eI x.1, Sl.sh eI v1229, Sl.sh eB v1234, Sl.sh (eL (eL (eL (eL eN)))) s1264, Sl.nil, Sl.sh (e_Table T) v1265, Sl.sh (e_Table T) v1274, Sl.nil, Sl.nil, Sl.nil, Sl.nil, Sl.nil, Sl.nil] rfl (sq_ (nifJ (fun r (s : ((List (List Int)) × Int × (List (List (List (Int × Int)))) × Unit) × (List (List (List (List (Int × Int)))))) => (put (put r 7 (Sl.sh (e_Table T) s.1)) 4 (Sl.sh (eL (eL (eL (eL eN)))) s.2))) (tcmp w_eqI (xcall (ok_law_pick T.F_law_pick T.z_int) (hr.mono (by decide)) T.m_law_pick T.F_law_pick.kp (b_law_pick T) (axp 0 rfl (axc xint axn))) xint) (re [Sl.pl, Sl.sh eI x.1, Sl.sh eI v1229, Sl.sh eB v1234, Sl.sh (eL (eL (eL (eL eN)))) s1264, Sl.nil, Sl.sh (e_Table T) v1265, Sl.sh (e_Table T) v1274, Sl.nil, Sl.nil, Sl.nil, Sl.nil, Sl.nil, Sl.nil] rfl (sx (npair 7 4 rfl sc_law_right.nd (xtup2 (axc (xv 6 rfl) (axc (xlst (alc (xix w_ixL (xv 4 rfl) xint) (alc (xix w_ixL (xv 4 rfl) xint) (aln (en := (eL (eL (eL eN)))))))) axn)))) fun _ v1288 => (re [Sl.pl, Sl.sh eI x.1, Sl.sh eI v1229, Sl.sh eB v1234, Sl.sh (eL (eL (eL (eL eN)))) v1288.2, Sl.nil, Sl.sh (e_Table T) v1265, Sl.sh (e_Table T) v1288.1, Sl.nil, Sl.nil, Sl.nil, Sl.nil, Sl.nil, Sl.nil] rfl (snil (s := (v1288.1, v1288.2)) (Fit.eq (Fit.eq (Fit.eq (Fit.eq (Fit.eq (Fit.eq (Fit.eq (Fit.eq (Fit.eq (Fit.eq (Fit.eq (Fit.eq (Fit.eq (Fit.eq Fit.nil)))))))))))))))))) (re [Sl.pl, Sl.sh eI x.1, Sl.sh eI v1229, Sl.sh eB v1234, Sl.sh (eL (eL (eL (eL eN)))) s1264, Sl.nil, Sl.sh (e_Table T) v1265, Sl.sh (e_Table T) v1274, Sl.nil, Sl.nil, Sl.nil, Sl.nil, Sl.nil, Sl.nil] rfl (snil (s := (v1274, s1264)) (Fit.eq (Fit.eq (Fit.eq (Fit.eq (Fit.eq (Fit.eq (Fit.eq (Fit.eq (Fit.eq (Fit.eq (Fit.eq (Fit.eq (Fit.eq (Fit.eq Fit.nil))))))))))))))))) fun s1302 => (re [Sl.pl, Sl.sh eI x.1, Sl.sh eI v1229, Sl.sh eB v1234, Sl.sh (eL (eL (eL (eL eN)))) s1302.2, Sl.nil, Sl.sh (e_Table T) v1265, Sl.sh (e_Table T) s1302.1, Sl.nil, Sl.nil, Sl.nil, Sl.nil, Sl.nil, Sl.nil] rfl (sx (nset 8 sc_law_right.nd (xif (tcmp w_eqI (xcall (ok_law_pick T.F_law_pick T.z_int) (hr.mono (by decide)) T.m_law_pick T.F_law_pick.kp (b_law_pick T) (axp 0 rfl (axc xint axn))) xint) (xix w_ixL (xlst (alc (xtup2 (axc xint (axc xint axn))) (alc (xtup2 (axc xint (axc xint axn))) (alc (xtup2 (axc (xun w_neg xint) (axc xint axn))) (aln (en := eN)))))) (xcall (ok_law_pick T.F_law_pick T.z_int) (hr.mono (by decide)) T.m_law_pick T.F_law_pick.kp (b_law_pick T) (axp 0 rfl (axc xint axn)))) (xcall (ok_law_number T) (hr.mono (by decide)) T.m_law_number T.F_law_number.kp (b_law_number T) (axp 0 rfl (axc (xcmp w_eqI (xv 2 rfl) xint) axn))))) fun _ v1303 => (re [Sl.pl, Sl.sh eI x.1, Sl.sh eI v1229, Sl.sh eB v1234, Sl.sh (eL (eL (eL (eL eN)))) s1302.2, Sl.nil, Sl.sh (e_Table T) v1265, Sl.sh (e_Table T) s1302.1, Sl.sh eN v1303, Sl.nil, Sl.nil, Sl.nil, Sl.nil, Sl.nil] rfl (sx (nset 9 sc_law_right.nd (xlistRg rfl T.z_list T.z_range (xv 2 rfl))) fun _ v1339 => (re [Sl.pl, Sl.sh eI x.1, Sl.sh eI v1229, Sl.sh eB v1234, Sl.sh (eL (eL (eL (eL eN)))) s1302.2, Sl.nil, Sl.sh (e_Table T) v1265, Sl.sh (e_Table T) s1302.1, Sl.sh eN v1303, Sl.sh (eL eI) v1339, Sl.nil, Sl.nil, Sl.nil, Sl.nil] rfl (sx (nsetF (xlcS 10 (own := [(Str.ofString "_law_i", 12)]) rfl sc_law_right.nd (wlistL 12 (xv 9 rfl)) (blkOk_by (N := N_law_right) (sc := defScope s_law_right) (by decide +kernel)) (by decide) (nil1 rfl) (fun _ => rfl) (fun _ _ _ _ _ => (pg_name (i := 12) sc_law_right.nd rfl (by first | exact Or.inl rfl | exact Or.inr rfl))) (fun _ _ _ _ _ y1342 => (xfr (xlc (own := [(Str.ofString "_law_j", 11)]) rfl sc_law_right.nd (wlistL 11 (xv 9 rfl)) (blk_in (N := N_law_right) (sc := defScope s_law_right) rfl rfl (by decide +kernel)) (by decide) (nil1 rfl) (fun _ => rfl) (fun _ _ _ _ _ => (pg_name (i := 11) sc_law_right.nd rfl (by first | exact Or.inl rfl | exact Or.inr rfl))) (fun _ _ _ _ _ y1343 => (xcall (ok_law_plus T) (hr.mono (by decide)) T.m_law_plus T.F_law_plus.kp (b_law_plus T) (axc (xix w_ixL (xix w_ixL (xix w_ixL (xv 4 rfl) xint) (xv 12 rfl)) (xv 11 rfl)) (axc (xv 8 rfl) (axc (xix w_ixL (xix w_ixL (xix w_ixL (xv 4 rfl) xint) (xv 11 rfl)) (xv 12 rfl)) axn)))))))) (sw_true rfl rfl rfl (by decide +kernel)))) fun _ v1341 => (re [Sl.pl, Sl.sh eI x.1, Sl.sh eI v1229, Sl.sh eB v1234, Sl.sh (eL (eL (eL (eL eN)))) s1302.2, Sl.nil, Sl.sh (e_Table T) v1265, Sl.sh (e_Table T) s1302.1, Sl.sh eN v1303, Sl.sh (eL eI) v1339, Sl.sh (eL (eL (eL eN))) v1341, Sl.nil, Sl.nil, Sl.nil] rfl (sq_ (nif0 (tw (wor (tnot (tval (xcall (ok_law_is T) (hr.mono (by decide)) T.m_law_is T.F_law_is.kp (b_law_is T) (axc (xcall (ok_both_ways T) (hr.mono (by decide)) T.m_both_ways T.F_both_ways.kp (b_both_ways T) (axc (xv 6 rfl) (axc (xv 8 rfl) axn))) (axc (xv 10 rfl) (axc (xv 2 rfl) axn)))))) (wor1 (tnot (tval (xcall (ok_law_is T) (hr.mono (by decide)) T.m_law_is T.F_law_is.kp (b_law_is T) (axc (xcallK _ (ok_both_ways T) (hr.mono (by decide)) T.m_both_ways T.F_both_ways.kp (kb_both_ways_1_0 T) (kxc (xv 8 rfl) (kxc (xv 6 rfl) kxn)) (kb_both_ways_1_0_pm T)) (axc (xv 10 rfl) (axc (xv 2 rfl) axn))))))))) (re [Sl.pl, Sl.sh eI x.1, Sl.sh eI v1229, Sl.sh eB v1234, Sl.sh (eL (eL (eL (eL eN)))) s1302.2, Sl.nil, Sl.sh (e_Table T) v1265, Sl.sh (e_Table T) s1302.1, Sl.sh eN v1303, Sl.sh (eL eI) v1339, Sl.sh (eL (eL (eL eN))) v1341, Sl.nil, Sl.nil, Sl.nil] rfl (sret xbl))) fun _ => (re [Sl.pl, Sl.sh eI x.1, Sl.sh eI v1229, Sl.sh eB v1234, Sl.sh (eL (eL (eL (eL eN)))) s1302.2, Sl.nil, Sl.sh (e_Table T) v1265, Sl.sh (e_Table T) s1302.1, Sl.sh eN v1303, Sl.sh (eL eI) v1339, Sl.sh (eL (eL (eL eN))) v1341, Sl.nil, Sl.nil, Sl.nil] rfl (sx (nsetF (xlcS 10 (own := [(Str.ofString "_law_i", 12)]) rfl sc_law_right.nd (wlistL 12 (xv 9 rfl)) (blkOk_by (N := N_law_right) (sc := defScope s_law_right) (by decide +kernel)) (by decide) (nil1 rfl) (fun _ => rfl) (fun _ _ _ _ _ => (pg_name (i := 12) sc_law_right.nd rfl (by first | exact Or.inl rfl | exact Or.inr rfl))) (fun _ _ _ _ _ y1391 => (xfr (xlc (own := [(Str.ofString "_law_j", 11)]) rfl sc_law_right.nd (wlistL 11 (xv 9 rfl)) (blk_in (N := N_law_right) (sc := defScope s_law_right) rfl rfl (by decide +kernel)) (by decide) (nil1 rfl) (fun _ => rfl) (fun _ _ _ _ _ => (pg_name (i := 11) sc_law_right.nd rfl (by first | exact Or.inl rfl | exact Or.inr rfl))) (fun _ _ _ _ _ y1392 => (xcall (ok_law_plus T) (hr.mono (by decide)) T.m_law_plus T.F_law_plus.kp (b_law_plus T) (axc (xix w_ixL (xix w_ixL (xix w_ixL (xv 4 rfl) xint) (xv 12 rfl)) (xv 11 rfl)) (axc (xv 8 rfl) (axc (xix w_ixL (xix w_ixL (xix w_ixL (xv 4 rfl) xint) (xv 12 rfl)) (xv 11 rfl)) axn)))))))) (sw_true rfl rfl rfl (by decide +kernel)))) fun _ v1390 => (re [Sl.pl, Sl.sh eI x.1, Sl.sh eI v1229, Sl.sh eB v1234, Sl.sh (eL (eL (eL (eL eN)))) s1302.2, Sl.nil, Sl.sh (e_Table T) v1265, Sl.sh (e_Table T) s1302.1, Sl.sh eN v1303, Sl.sh (eL eI) v1339, Sl.sh (eL (eL (eL eN))) v1390, Sl.nil, Sl.nil, Sl.nil] rfl (sq_ (nif0 (tnot (tval (xcall (ok_law_is T) (hr.mono (by decide)) T.m_law_is T.F_law_is.kp (b_law_is T) (axc (xcall (ok_blended T) (hr.mono (by decide)) T.m_blended T.F_blended.kp (b_blended T) (axc (xv 6 rfl) (axc (xv 7 rfl) (axc (xv 8 rfl) axn)))) (axc (xv 10 rfl) (axc (xv 2 rfl) axn)))))) (re [Sl.pl, Sl.sh eI x.1, Sl.sh eI v1229, Sl.sh eB v1234, Sl.sh (eL (eL (eL (eL eN)))) s1302.2, Sl.nil, Sl.sh (e_Table T) v1265, Sl.sh (e_Table T) s1302.1, Sl.sh eN v1303, Sl.sh (eL eI) v1339, Sl.sh (eL (eL (eL eN))) v1390, Sl.nil, Sl.nil, Sl.nil] rfl (sret xbl))) fun _ => (re [Sl.pl, Sl.sh eI x.1, Sl.sh eI v1229, Sl.sh eB v1234, Sl.sh (eL (eL (eL (eL eN)))) s1302.2, Sl.nil, Sl.sh (e_Table T) v1265, Sl.sh (e_Table T) s1302.1, Sl.sh eN v1303, Sl.sh (eL eI) v1339, Sl.sh (eL (eL (eL eN))) v1390, Sl.nil, Sl.nil, Sl.nil] rfl (sq_ (nif0 (tnot (tval (xcall (ok_law_is T) (hr.mono (by decide)) T.m_law_is T.F_law_is.kp (b_law_is T) (axc (xcallK _ (ok_blended T) (hr.mono (by decide)) T.m_blended T.F_blended.kp (kb_blended_2_1_0 T) (kxc (xv 8 rfl) (kxc (xv 7 rfl) (kxc (xv 6 rfl) kxn))) (kb_blended_2_1_0_pm T)) (axc (xv 10 rfl) (axc (xv 2 rfl) axn)))))) (re [Sl.pl, Sl.sh eI x.1, Sl.sh eI v1229, Sl.sh eB v1234, Sl.sh (eL (eL (eL (eL eN)))) s1302.2, Sl.nil, Sl.sh (e_Table T) v1265, Sl.sh (e_Table T) s1302.1, Sl.sh eN v1303, Sl.sh (eL eI) v1339, Sl.sh (eL (eL (eL eN))) v1390, Sl.nil, Sl.nil, Sl.nil] rfl (sret xbl))) fun _ => (re [Sl.pl, Sl.sh eI x.1, Sl.sh eI v1229, Sl.sh eB v1234, Sl.sh (eL (eL (eL (eL eN)))) s1302.2, Sl.nil, Sl.sh (e_Table T) v1265, Sl.sh (e_Table T) s1302.1, Sl.sh eN v1303, Sl.sh (eL eI) v1339, Sl.sh (eL (eL (eL eN))) v1390, Sl.nil, Sl.nil, Sl.nil] rfl (sx (nsetF (xlcS 10 (own := [(Str.ofString "_law_i", 12)]) rfl sc_law_right.nd (wlistL 12 (xv 9 rfl)) (blkOk_by (N := N_law_right) (sc := defScope s_law_right) (by decide +kernel)) (by decide) (nil1 rfl) (fun _ => rfl) (fun _ _ _ _ _ => (pg_name (i := 12) sc_law_right.nd rfl (by first | exact Or.inl rfl | exact Or.inr rfl))) (fun _ _ _ _ _ y1445 => (xfr (xlc (own := [(Str.ofString "_law_j", 11)]) rfl sc_law_right.nd (wlistL 11 (xv 9 rfl)) (blk_in (N := N_law_right) (sc := defScope s_law_right) rfl rfl (by decide +kernel)) (by decide) (nil1 rfl) (fun _ => rfl) (fun _ _ _ _ _ => (pg_name (i := 11) sc_law_right.nd rfl (by first | exact Or.inl rfl | exact Or.inr rfl))) (fun _ _ _ _ _ y1446 => (xcall (ok_law_plus T) (hr.mono (by decide)) T.m_law_plus T.F_law_plus.kp (b_law_plus T) (axc (xix w_ixL (xix w_ixL (xix w_ixL (xv 4 rfl) xint) (xv 12 rfl)) (xv 11 rfl)) (axc (xv 8 rfl) (axc (xix w_ixL (xix w_ixL (xix w_ixL (xv 4 rfl) xint) (xv 12 rfl)) (xv 11 rfl)) axn)))))))) (sw_true rfl rfl rfl (by decide +kernel)))) fun _ v1444 => (re [Sl.pl, Sl.sh eI x.1, Sl.sh eI v1229, Sl.sh eB v1234, Sl.sh (eL (eL (eL (eL eN)))) s1302.2, Sl.nil, Sl.sh (e_Table T) v1265, Sl.sh (e_Table T) s1302.1, Sl.sh eN v1303, Sl.sh (eL eI) v1339, Sl.sh (eL (eL (eL eN))) v1444, Sl.nil, Sl.nil, Sl.nil] rfl (sq_ (nif0 (tnot (tval (xcall (ok_law_is T) (hr.mono (by decide)) T.m_law_is T.F_law_is.kp (b_law_is T) (axc (xcall (ok_blended T) (hr.mono (by decide)) T.m_blended T.F_blended.kp (b_blended T) (axc (xv 7 rfl) (axc (xv 6 rfl) (axc (xv 8 rfl) axn)))) (axc (xv 10 rfl) (axc (xv 2 rfl) axn)))))) (re [Sl.pl, Sl.sh eI x.1, Sl.sh eI v1229, Sl.sh eB v1234, Sl.sh (eL (eL (eL (eL eN)))) s1302.2, Sl.nil, Sl.sh (e_Table T) v1265, Sl.sh (e_Table T) s1302.1, Sl.sh eN v1303, Sl.sh (eL eI) v1339, Sl.sh (eL (eL (eL eN))) v1444, Sl.nil, Sl.nil, Sl.nil] rfl (sret xbl))) fun _ => (re [Sl.pl, Sl.sh eI x.1, Sl.sh eI v1229, Sl.sh eB v1234, Sl.sh (eL (eL (eL (eL eN)))) s1302.2, Sl.nil, Sl.sh (e_Table T) v1265, Sl.sh (e_Table T) s1302.1, Sl.sh eN v1303, Sl.sh (eL eI) v1339, Sl.sh (eL (eL (eL eN))) v1444, Sl.nil, Sl.nil, Sl.nil] rfl (sq_ (nforJ (fun r (_ : Unit) => r) (s0 := ()) PassesOwn.never rfl (wrange1 13 T.z_range (axc xint axn)) (pg_name (i := 13) sc_law_right.nd rfl (by first | exact Or.inl rfl | exact Or.inr rfl)) (Fit.eq (Fit.eq (Fit.eq (Fit.eq (Fit.eq (Fit.eq (Fit.eq (Fit.eq (Fit.eq (Fit.eq (Fit.eq (Fit.eq (Fit.eq (Fit.eq Fit.nil)))))))))))))) (fun s1485 y1486 => (re [Sl.pl, Sl.sh eI x.1, Sl.sh eI v1229, Sl.sh eB v1234, Sl.sh (eL (eL (eL (eL eN)))) s1302.2, Sl.nil, Sl.sh (e_Table T) v1265, Sl.sh (e_Table T) s1302.1, Sl.sh eN v1303, Sl.sh (eL eI) v1339, Sl.sh (eL (eL (eL eN))) v1444, Sl.nil, Sl.nil, Sl.sh eI y1486] rfl (sq_ (nif0 (tnot (tval (xcall (ok_law_changed_right T) (hr.mono (by decide)) T.m_law_changed_right T.F_law_changed_right.kp (b_law_changed_right T) (axp 0 rfl (axc (xv 7 rfl) (axc (xix w_ixL (xv 4 rfl) xint) axn)))))) (re [Sl.pl, Sl.sh eI x.1, Sl.sh eI v1229, Sl.sh eB v1234, Sl.sh (eL (eL (eL (eL eN)))) s1302.2, Sl.nil, Sl.sh (e_Table T) v1265, Sl.sh (e_Table T) s1302.1, Sl.sh eN v1303, Sl.sh (eL eI) v1339, Sl.sh (eL (eL (eL eN))) v1444, Sl.nil, Sl.nil, Sl.sh eI y1486] rfl (sret xbl))) fun _ => (re [Sl.pl, Sl.sh eI x.1, Sl.sh eI v1229, Sl.sh eB v1234, Sl.sh (eL (eL (eL (eL eN)))) s1302.2, Sl.nil, Sl.sh (e_Table T) v1265, Sl.sh (e_Table T) s1302.1, Sl.sh eN v1303, Sl.sh (eL eI) v1339, Sl.sh (eL (eL (eL eN))) v1444, Sl.nil, Sl.nil, Sl.sh eI y1486] rfl (snil (s := ()) (Fit.eq (Fit.eq (Fit.eq (Fit.eq (Fit.eq (Fit.eq (Fit.eq (Fit.eq (Fit.eq (Fit.eq (Fit.eq (Fit.eq (Fit.eq (Fit.dr Fit.nil)))))))))))))))))))) fun s1496 => (re [Sl.pl, Sl.sh eI x.1, Sl.sh eI v1229, Sl.sh eB v1234, Sl.sh (eL (eL (eL (eL eN)))) s1302.2, Sl.nil, Sl.sh (e_Table T) v1265, Sl.sh (e_Table T) s1302.1, Sl.sh eN v1303, Sl.sh (eL eI) v1339, Sl.sh (eL (eL (eL eN))) v1444, Sl.nil, Sl.nil, Sl.nil] rfl (sq_ (nif0 (tnot (tval (xcall (ok_law_portion_right T) (hr.mono (by decide)) T.m_law_portion_right T.F_law_portion_right.kp (b_law_portion_right T) (axp 0 rfl (axc (xv 6 rfl) (axc (xix w_ixL (xv 4 rfl) xint) axn)))))) (re [Sl.pl, Sl.sh eI x.1, Sl.sh eI v1229, Sl.sh eB v1234, Sl.sh (eL (eL (eL (eL eN)))) s1302.2, Sl.nil, Sl.sh (e_Table T) v1265, Sl.sh (e_Table T) s1302.1, Sl.sh eN v1303, Sl.sh (eL eI) v1339, Sl.sh (eL (eL (eL eN))) v1444, Sl.nil, Sl.nil, Sl.nil] rfl (sret xbl))) fun _ => (re [Sl.pl, Sl.sh eI x.1, Sl.sh eI v1229, Sl.sh eB v1234, Sl.sh (eL (eL (eL (eL eN)))) s1302.2, Sl.nil, Sl.sh (e_Table T) v1265, Sl.sh (e_Table T) s1302.1, Sl.sh eN v1303, Sl.sh (eL eI) v1339, Sl.sh (eL (eL (eL eN))) v1444, Sl.nil, Sl.nil, Sl.nil] rfl (sret (xcall (ok_law_alike T 6) (hr.mono (by decide)) T.m_law_alike T.F_law_alike.kp (b_law_alike T) (axc (xD (tdL (tdL (tdL (tdL (tdP tdI tdI))))) (xlst (alc (xprop T.cl_Table T.pr_Table_products (ok_Table_products T) (hr.mono (by decide)) (b_Table_products T) (xv 6 rfl)) (alc (xprop T.cl_Table T.pr_Table_products (ok_Table_products T) (hr.mono (by decide)) (b_Table_products T) (xv 7 rfl)) (aln (en := (eL (eL (eL eN))))))))) (axc (xD (tdL (tdL (tdL (tdL (tdP tdI tdI))))) (xv 4 rfl)) axn)))))))))))))))))))))))))))))))))))))))))
theorem ok_law (T : Txt K mg) (hm : ∀ ns : List Int, ns.length ≤ 63 → w_law (ns, ()) (fun r _ => r = true) noX 0) : FnOk P w K mg base CX0 14 T.a_law T.d_law P_law (spLaw K) :=
  fn_law (PK := poolA) (k := 13) (wb := wb_law) (ρ' := fun z : Empty => nomatch z) T.F_law sc_law (show 1 ≤ 2 by decide) (fun cdv A outer s H E x hl hr => (re [Sl.sh (eR eI) x.1, Sl.nil] rfl (spool 1 0 hl sc_law.nd rfl rfl rfl (ok_law_pool T.F_law_pool T.z_int T.z_enumerate) (hr.mono (by decide)) T.m_law_pool T.F_law_pool.kp (b_law_pool T) (fun _ _ => (re [Sl.sh (eR eI) x.1, Sl.pl] rfl (sret (xand (xcall (ok_law_right T) (hr.mono (by decide)) T.m_law_right T.F_law_right.kp (b_law_right T) (axp 1 rfl (axc xint axn))) (xone (xcall (ok_law_right T) (hr.mono (by decide)) T.m_law_right T.F_law_right.kp (b_law_right T) (axp 1 rfl (axc xint axn))))))))))) hm
end
theorem all_mk {l : PySem.W.OpenLaw} {w : World} {K : PySem.W.Frag} {h : Heap} {mg : Str → Option Value} {fa : Addr} (X : K.In h) (G : h.Ns mainGlobals mg) (hfa : mg (Str.ofString "law") = some (.ref fa))
    {C_Table : Addr} (aC_Table : PySem.W.nsIn K mainGlobals (Str.ofString "Table") = some (some (.ref C_Table)))
    (pg_Table : PySem.W.plainGet K C_Table Str.empty = true) (hd_Table : PySem.W.hasDictIn K C_Table = true) (po_Table : PySem.W.plainOver K C_Table = true) (sa_Table : PySem.W.findIn K (.ref C_Table) (Str.ofString "__setattr__") = some (some (.builtin "object.__setattr__"))) (ms_Table : PySem.W.makesIn K C_Table = true) (kc_Table : PySem.W.keepIn K (.ref C_Table) = true)
    (nf_Table_products : PySem.W.findIn K (.ref C_Table) (Str.ofString "_products") = some none)
    (nf_Table_below : PySem.W.findIn K (.ref C_Table) (Str.ofString "_below") = some none)
    (nf_Table_cells : PySem.W.findIn K (.ref C_Table) (Str.ofString "_cells") = some none)
    (nea_Table : PySem.W.findIn K (.ref C_Table) (Str.ofString "__ne__") = some (some (.builtin "object.__ne__"))) (neb_Table : PySem.W.mroIn K C_Table (.type "object") = some true)
    (iha_Table : PySem.W.findIn K (.ref C_Table) (Str.ofString "__class__") = some (some (.builtin "object.__class__"))) (ihn_Table : PySem.W.specialIn K (.builtin "object.__class__") (Str.ofString "__get__") = some (some (.builtin "getset_descriptor.__get__"))) (ihk_Table : PySem.W.takesIn K (.builtin "object.__class__") = some true) (ihm_Table : PySem.W.mroIn K C_Table (.type "object") = some true)
    {f0 : Addr} {od0 an0 : Option Addr} {sl0 : Array (Option Value)} {oc0 kV0 dc0 pm0 cd0 ct0 : Value}
    (a0 : PySem.W.nsIn K mainGlobals (Str.ofString "_law_pool") = some (some (.ref f0))) (l0 : K.lookup f0 = some ⟨oc0, od0, .func (PySem.W.fnOf (Str.ofString "_law_pool") (Str.ofString "_law_pool") (defArgs s_law_pool) (defBody s_law_pool) (defScope s_law_pool) .none kV0 dc0 pm0 an0 cd0 ct0), sl0⟩) (c0 : PySem.W.codeIn K cd0 (Str.ofString "_law_pool") = true) (k0 : PySem.W.keepIn K (.ref f0) = true)
    {f1 : Addr} {od1 an1 : Option Addr} {sl1 : Array (Option Value)} {oc1 kV1 dc1 pm1 cd1 ct1 : Value}
    (a1 : PySem.W.nsIn K mainGlobals (Str.ofString "_law_pick") = some (some (.ref f1))) (l1 : K.lookup f1 = some ⟨oc1, od1, .func (PySem.W.fnOf (Str.ofString "_law_pick") (Str.ofString "_law_pick") (defArgs s_law_pick) (defBody s_law_pick) (defScope s_law_pick) .none kV1 dc1 pm1 an1 cd1 ct1), sl1⟩) (c1 : PySem.W.codeIn K cd1 (Str.ofString "_law_pick") = true) (k1 : PySem.W.keepIn K (.ref f1) = true)
    {f2 : Addr} {od2 an2 : Option Addr} {sl2 : Array (Option Value)} {oc2 kV2 dc2 pm2 cd2 ct2 : Value}
    (a2 : PySem.W.nsIn K mainGlobals (Str.ofString "lowest") = some (some (.ref f2))) (l2 : K.lookup f2 = some ⟨oc2, od2, .func (PySem.W.fnOf (Str.ofString "lowest") (Str.ofString "lowest") (defArgs s_lowest) (defBody s_lowest) (defScope s_lowest) .none kV2 dc2 pm2 an2 cd2 ct2), sl2⟩) (c2 : PySem.W.codeIn K cd2 (Str.ofString "lowest") = true) (k2 : PySem.W.keepIn K (.ref f2) = true)
    {f3 : Addr} {od3 an3 : Option Addr} {sl3 : Array (Option Value)} {oc3 kV3 dc3 pm3 cd3 ct3 : Value}
    (a3 : PySem.W.nsIn K mainGlobals (Str.ofString "sum_two") = some (some (.ref f3))) (l3 : K.lookup f3 = some ⟨oc3, od3, .func (PySem.W.fnOf (Str.ofString "sum_two") (Str.ofString "sum_two") (defArgs s_sum_two) (defBody s_sum_two) (defScope s_sum_two) .none kV3 dc3 pm3 an3 cd3 ct3), sl3⟩) (c3 : PySem.W.codeIn K cd3 (Str.ofString "sum_two") = true) (k3 : PySem.W.keepIn K (.ref f3) = true)
    {f4 : Addr} {od4 an4 : Option Addr} {sl4 : Array (Option Value)} {oc4 kV4 dc4 pm4 cd4 ct4 : Value}
    (a4 : PySem.W.nsIn K mainGlobals (Str.ofString "product_two") = some (some (.ref f4))) (l4 : K.lookup f4 = some ⟨oc4, od4, .func (PySem.W.fnOf (Str.ofString "product_two") (Str.ofString "product_two") (defArgs s_product_two) (defBody s_product_two) (defScope s_product_two) .none kV4 dc4 pm4 an4 cd4 ct4), sl4⟩) (c4 : PySem.W.codeIn K cd4 (Str.ofString "product_two") = true) (k4 : PySem.W.keepIn K (.ref f4) = true)
    {f5 : Addr} {od5 an5 : Option Addr} {sl5 : Array (Option Value)} {oc5 kV5 dc5 pm5 cd5 ct5 : Value}
    (a5 : PySem.W.nsIn K mainGlobals (Str.ofString "is_number") = some (some (.ref f5))) (l5 : K.lookup f5 = some ⟨oc5, od5, .func (PySem.W.fnOf (Str.ofString "is_number") (Str.ofString "is_number") (defArgs s_is_number) (defBody s_is_number) (defScope s_is_number) .none kV5 dc5 pm5 an5 cd5 ct5), sl5⟩) (c5 : PySem.W.codeIn K cd5 (Str.ofString "is_number") = true) (k5 : PySem.W.keepIn K (.ref f5) = true)
    {f6 : Addr} {od6 an6 : Option Addr} {sl6 : Array (Option Value)} {oc6 kV6 dc6 pm6 cd6 ct6 : Value}
    (a6 : PySem.W.nsIn K mainGlobals (Str.ofString "checked") = some (some (.ref f6))) (l6 : K.lookup f6 = some ⟨oc6, od6, .func (PySem.W.fnOf (Str.ofString "checked") (Str.ofString "checked") (defArgs s_checked) (defBody s_checked) (defScope s_checked) .none kV6 dc6 pm6 an6 cd6 ct6), sl6⟩) (c6 : PySem.W.codeIn K cd6 (Str.ofString "checked") = true) (k6 : PySem.W.keepIn K (.ref f6) = true)
    {f7 : Addr} {od7 an7 : Option Addr} {sl7 : Array (Option Value)} {oc7 kV7 dc7 pm7 cd7 ct7 : Value}
    (a7 : PySem.W.nsIn K mainGlobals (Str.ofString "check_numbers") = some (some (.ref f7))) (l7 : K.lookup f7 = some ⟨oc7, od7, .func (PySem.W.fnOf (Str.ofString "check_numbers") (Str.ofString "check_numbers") (defArgs s_check_numbers) (defBody s_check_numbers) (defScope s_check_numbers) .none kV7 dc7 pm7 an7 cd7 ct7), sl7⟩) (c7 : PySem.W.codeIn K cd7 (Str.ofString "check_numbers") = true) (k7 : PySem.W.keepIn K (.ref f7) = true)
    {f8 : Addr} {od8 an8 : Option Addr} {sl8 : Array (Option Value)} {oc8 kV8 dc8 pm8 cd8 ct8 : Value}
    (a8 : PySem.W.nsIn K mainGlobals (Str.ofString "integers_of") = some (some (.ref f8))) (l8 : K.lookup f8 = some ⟨oc8, od8, .func (PySem.W.fnOf (Str.ofString "integers_of") (Str.ofString "integers_of") (defArgs s_integers_of) (defBody s_integers_of) (defScope s_integers_of) .none kV8 dc8 pm8 an8 cd8 ct8), sl8⟩) (c8 : PySem.W.codeIn K cd8 (Str.ofString "integers_of") = true) (k8 : PySem.W.keepIn K (.ref f8) = true)
    {f9 : Addr} {od9 an9 : Option Addr} {sl9 : Array (Option Value)} {oc9 kV9 dc9 pm9 cd9 ct9 : Value}
    (a9 : PySem.W.nsIn K mainGlobals (Str.ofString "numbers_of") = some (some (.ref f9))) (l9 : K.lookup f9 = some ⟨oc9, od9, .func (PySem.W.fnOf (Str.ofString "numbers_of") (Str.ofString "numbers_of") (defArgs s_numbers_of) (defBody s_numbers_of) (defScope s_numbers_of) .none kV9 dc9 pm9 an9 cd9 ct9), sl9⟩) (c9 : PySem.W.codeIn K cd9 (Str.ofString "numbers_of") = true) (k9 : PySem.W.keepIn K (.ref f9) = true)
    {f10 : Addr} {od10 an10 : Option Addr} {sl10 : Array (Option Value)} {oc10 kV10 dc10 pm10 cd10 ct10 : Value}
    (a10 : PySem.W.nsIn K mainGlobals (Str.ofString "fresh") = some (some (.ref f10))) (l10 : K.lookup f10 = some ⟨oc10, od10, .func (PySem.W.fnOf (Str.ofString "fresh") (Str.ofString "fresh") (defArgs s_fresh) (defBody s_fresh) (defScope s_fresh) .none kV10 dc10 pm10 an10 cd10 ct10), sl10⟩) (c10 : PySem.W.codeIn K cd10 (Str.ofString "fresh") = true) (k10 : PySem.W.keepIn K (.ref f10) = true)
    {f11 : Addr} {od11 an11 : Option Addr} {sl11 : Array (Option Value)} {oc11 kV11 dc11 pm11 cd11 ct11 : Value}
    (a11 : PySem.W.nsIn K mainGlobals (Str.ofString "plus_row") = some (some (.ref f11))) (l11 : K.lookup f11 = some ⟨oc11, od11, .func (PySem.W.fnOf (Str.ofString "plus_row") (Str.ofString "plus_row") (defArgs s_plus_row) (defBody s_plus_row) (defScope s_plus_row) .none kV11 dc11 pm11 an11 cd11 ct11), sl11⟩) (c11 : PySem.W.codeIn K cd11 (Str.ofString "plus_row") = true) (k11 : PySem.W.keepIn K (.ref f11) = true)
    {f12 : Addr} {od12 an12 : Option Addr} {sl12 : Array (Option Value)} {oc12 kV12 dc12 pm12 cd12 ct12 : Value}
    (a12 : PySem.W.nsIn K mainGlobals (Str.ofString "scaled_row") = some (some (.ref f12))) (l12 : K.lookup f12 = some ⟨oc12, od12, .func (PySem.W.fnOf (Str.ofString "scaled_row") (Str.ofString "scaled_row") (defArgs s_scaled_row) (defBody s_scaled_row) (defScope s_scaled_row) .none kV12 dc12 pm12 an12 cd12 ct12), sl12⟩) (c12 : PySem.W.codeIn K cd12 (Str.ofString "scaled_row") = true) (k12 : PySem.W.keepIn K (.ref f12) = true)
    {f13 : Addr} {od13 an13 : Option Addr} {sl13 : Array (Option Value)} {oc13 kV13 dc13 pm13 cd13 ct13 : Value}
    (a13 : PySem.W.nsIn K mainGlobals (Str.ofString "check_rows") = some (some (.ref f13))) (l13 : K.lookup f13 = some ⟨oc13, od13, .func (PySem.W.fnOf (Str.ofString "check_rows") (Str.ofString "check_rows") (defArgs s_check_rows) (defBody s_check_rows) (defScope s_check_rows) .none kV13 dc13 pm13 an13 cd13 ct13), sl13⟩) (c13 : PySem.W.codeIn K cd13 (Str.ofString "check_rows") = true) (k13 : PySem.W.keepIn K (.ref f13) = true)
    {f14 : Addr} {od14 an14 : Option Addr} {sl14 : Array (Option Value)} {oc14 kV14 dc14 pm14 cd14 ct14 : Value}
    (a14 : PySem.W.findIn K (.ref C_Table) (Str.ofString "__init__") = some (some (.ref f14))) (i14 : PySem.W.isFn K (.ref f14) = true)
    (l14 : K.lookup f14 = some ⟨oc14, od14, .func (PySem.W.fnOf (Str.ofString "__init__") (Str.ofString "Table.__init__") (defArgs s_Table_init) (defBody s_Table_init) (defScope s_Table_init) .none kV14 dc14 pm14 an14 cd14 ct14), sl14⟩) (c14 : PySem.W.codeIn K cd14 (Str.ofString "Table.__init__") = true) (k14 : PySem.W.keepIn K (.ref f14) = true)
    {f15 : Addr} {od15 an15 : Option Addr} {sl15 : Array (Option Value)} {oc15 kV15 dc15 pm15 cd15 ct15 : Value}
    {p15 : Addr} {rs15 : List Value} (a15 : PySem.W.findIn K (.ref C_Table) (Str.ofString "size") = some (some (.ref p15))) (g15 : PySem.W.specialIn K (.ref p15) (Str.ofString "__get__") = some (some (.builtin "property.__get__"))) (t15 : PySem.W.takesIn K (.ref p15) = some true) (r15 : PySem.W.recIn K p15 "property" = some (.ref f15 :: rs15))
    (l15 : K.lookup f15 = some ⟨oc15, od15, .func (PySem.W.fnOf (Str.ofString "size") (Str.ofString "Table.size") (defArgs s_Table_size) (defBody s_Table_size) (defScope s_Table_size) .none kV15 dc15 pm15 an15 cd15 ct15), sl15⟩) (c15 : PySem.W.codeIn K cd15 (Str.ofString "Table.size") = true) (k15 : PySem.W.keepIn K (.ref f15) = true)
    {f16 : Addr} {od16 an16 : Option Addr} {sl16 : Array (Option Value)} {oc16 kV16 dc16 pm16 cd16 ct16 : Value}
    {p16 : Addr} {rs16 : List Value} (a16 : PySem.W.findIn K (.ref C_Table) (Str.ofString "products") = some (some (.ref p16))) (g16 : PySem.W.specialIn K (.ref p16) (Str.ofString "__get__") = some (some (.builtin "property.__get__"))) (t16 : PySem.W.takesIn K (.ref p16) = some true) (r16 : PySem.W.recIn K p16 "property" = some (.ref f16 :: rs16))
    (l16 : K.lookup f16 = some ⟨oc16, od16, .func (PySem.W.fnOf (Str.ofString "products") (Str.ofString "Table.products") (defArgs s_Table_products) (defBody s_Table_products) (defScope s_Table_products) .none kV16 dc16 pm16 an16 cd16 ct16), sl16⟩) (c16 : PySem.W.codeIn K cd16 (Str.ofString "Table.products") = true) (k16 : PySem.W.keepIn K (.ref f16) = true)
    {f17 : Addr} {od17 an17 : Option Addr} {sl17 : Array (Option Value)} {oc17 kV17 dc17 pm17 cd17 ct17 : Value}
    (a17 : PySem.W.findIn K (.ref C_Table) (Str.ofString "__eq__") = some (some (.ref f17))) (i17 : PySem.W.isFn K (.ref f17) = true)
    (l17 : K.lookup f17 = some ⟨oc17, od17, .func (PySem.W.fnOf (Str.ofString "__eq__") (Str.ofString "Table.__eq__") (defArgs s_Table_eq) (defBody s_Table_eq) (defScope s_Table_eq) .none kV17 dc17 pm17 an17 cd17 ct17), sl17⟩) (c17 : PySem.W.codeIn K cd17 (Str.ofString "Table.__eq__") = true) (k17 : PySem.W.keepIn K (.ref f17) = true)
    {f18 : Addr} {od18 an18 : Option Addr} {sl18 : Array (Option Value)} {oc18 kV18 dc18 pm18 cd18 ct18 : Value}
    (a18 : PySem.W.findIn K (.ref C_Table) (Str.ofString "product_without_checks") = some (some (.ref f18))) (i18 : PySem.W.isFn K (.ref f18) = true)
    (l18 : K.lookup f18 = some ⟨oc18, od18, .func (PySem.W.fnOf (Str.ofString "product_without_checks") (Str.ofString "Table.product_without_checks") (defArgs s_Table_product_without_checks) (defBody s_Table_product_without_checks) (defScope s_Table_product_without_checks) .none kV18 dc18 pm18 an18 cd18 ct18), sl18⟩) (c18 : PySem.W.codeIn K cd18 (Str.ofString "Table.product_without_checks") = true) (k18 : PySem.W.keepIn K (.ref f18) = true)
    {f19 : Addr} {od19 an19 : Option Addr} {sl19 : Array (Option Value)} {oc19 kV19 dc19 pm19 cd19 ct19 : Value}
    (a19 : PySem.W.findIn K (.ref C_Table) (Str.ofString "__call__") = some (some (.ref f19))) (i19 : PySem.W.isFn K (.ref f19) = true)
    (y19 : PySem.W.fnIn K f19 = true)
    (l19 : K.lookup f19 = some ⟨oc19, od19, .func (PySem.W.fnOf (Str.ofString "__call__") (Str.ofString "Table.__call__") (defArgs s_Table_call) (defBody s_Table_call) (defScope s_Table_call) .none kV19 dc19 pm19 an19 cd19 ct19), sl19⟩) (c19 : PySem.W.codeIn K cd19 (Str.ofString "Table.__call__") = true) (k19 : PySem.W.keepIn K (.ref f19) = true)
    {f20 : Addr} {od20 an20 : Option Addr} {sl20 : Array (Option Value)} {oc20 kV20 dc20 pm20 cd20 ct20 : Value}
    (a20 : PySem.W.nsIn K mainGlobals (Str.ofString "product_of") = some (some (.ref f20))) (l20 : K.lookup f20 = some ⟨oc20, od20, .func (PySem.W.fnOf (Str.ofString "product_of") (Str.ofString "product_of") (defArgs s_product_of) (defBody s_product_of) (defScope s_product_of) .none kV20 dc20 pm20 an20 cd20 ct20), sl20⟩) (c20 : PySem.W.codeIn K cd20 (Str.ofString "product_of") = true) (k20 : PySem.W.keepIn K (.ref f20) = true)
    {f21 : Addr} {od21 an21 : Option Addr} {sl21 : Array (Option Value)} {oc21 kV21 dc21 pm21 cd21 ct21 : Value}
    (a21 : PySem.W.nsIn K mainGlobals (Str.ofString "opposite") = some (some (.ref f21))) (l21 : K.lookup f21 = some ⟨oc21, od21, .func (PySem.W.fnOf (Str.ofString "opposite") (Str.ofString "opposite") (defArgs s_opposite) (defBody s_opposite) (defScope s_opposite) .none kV21 dc21 pm21 an21 cd21 ct21), sl21⟩) (c21 : PySem.W.codeIn K cd21 (Str.ofString "opposite") = true) (k21 : PySem.W.keepIn K (.ref f21) = true)
    {f22 : Addr} {od22 an22 : Option Addr} {sl22 : Array (Option Value)} {oc22 kV22 dc22 pm22 cd22 ct22 : Value}
    (a22 : PySem.W.nsIn K mainGlobals (Str.ofString "blended") = some (some (.ref f22))) (l22 : K.lookup f22 = some ⟨oc22, od22, .func (PySem.W.fnOf (Str.ofString "blended") (Str.ofString "blended") (defArgs s_blended) (defBody s_blended) (defScope s_blended) .none kV22 dc22 pm22 an22 cd22 ct22), sl22⟩) (c22 : PySem.W.codeIn K cd22 (Str.ofString "blended") = true) (k22 : PySem.W.keepIn K (.ref f22) = true)
    {f23 : Addr} {od23 an23 : Option Addr} {sl23 : Array (Option Value)} {oc23 kV23 dc23 pm23 cd23 ct23 : Value}
    (a23 : PySem.W.nsIn K mainGlobals (Str.ofString "both_ways") = some (some (.ref f23))) (l23 : K.lookup f23 = some ⟨oc23, od23, .func (PySem.W.fnOf (Str.ofString "both_ways") (Str.ofString "both_ways") (defArgs s_both_ways) (defBody s_both_ways) (defScope s_both_ways) .none kV23 dc23 pm23 an23 cd23 ct23), sl23⟩) (c23 : PySem.W.codeIn K cd23 (Str.ofString "both_ways") = true) (k23 : PySem.W.keepIn K (.ref f23) = true)
    {f24 : Addr} {od24 an24 : Option Addr} {sl24 : Array (Option Value)} {oc24 kV24 dc24 pm24 cd24 ct24 : Value}
    (a24 : PySem.W.nsIn K mainGlobals (Str.ofString "check_square") = some (some (.ref f24))) (l24 : K.lookup f24 = some ⟨oc24, od24, .func (PySem.W.fnOf (Str.ofString "check_square") (Str.ofString "check_square") (defArgs s_check_square) (defBody s_check_square) (defScope s_check_square) .none kV24 dc24 pm24 an24 cd24 ct24), sl24⟩) (c24 : PySem.W.codeIn K cd24 (Str.ofString "check_square") = true) (k24 : PySem.W.keepIn K (.ref f24) = true)
    {f25 : Addr} {od25 an25 : Option Addr} {sl25 : Array (Option Value)} {oc25 kV25 dc25 pm25 cd25 ct25 : Value}
    (a25 : PySem.W.nsIn K mainGlobals (Str.ofString "changed") = some (some (.ref f25))) (l25 : K.lookup f25 = some ⟨oc25, od25, .func (PySem.W.fnOf (Str.ofString "changed") (Str.ofString "changed") (defArgs s_changed) (defBody s_changed) (defScope s_changed) .none kV25 dc25 pm25 an25 cd25 ct25), sl25⟩) (c25 : PySem.W.codeIn K cd25 (Str.ofString "changed") = true) (k25 : PySem.W.keepIn K (.ref f25) = true)
    {f26 : Addr} {od26 an26 : Option Addr} {sl26 : Array (Option Value)} {oc26 kV26 dc26 pm26 cd26 ct26 : Value}
    (a26 : PySem.W.nsIn K mainGlobals (Str.ofString "_law_low") = some (some (.ref f26))) (l26 : K.lookup f26 = some ⟨oc26, od26, .func (PySem.W.fnOf (Str.ofString "_law_low") (Str.ofString "_law_low") (defArgs s_law_low) (defBody s_law_low) (defScope s_law_low) .none kV26 dc26 pm26 an26 cd26 ct26), sl26⟩) (c26 : PySem.W.codeIn K cd26 (Str.ofString "_law_low") = true) (k26 : PySem.W.keepIn K (.ref f26) = true)
    {f27 : Addr} {od27 an27 : Option Addr} {sl27 : Array (Option Value)} {oc27 kV27 dc27 pm27 cd27 ct27 : Value}
    (a27 : PySem.W.nsIn K mainGlobals (Str.ofString "_law_add") = some (some (.ref f27))) (l27 : K.lookup f27 = some ⟨oc27, od27, .func (PySem.W.fnOf (Str.ofString "_law_add") (Str.ofString "_law_add") (defArgs s_law_add) (defBody s_law_add) (defScope s_law_add) .none kV27 dc27 pm27 an27 cd27 ct27), sl27⟩) (c27 : PySem.W.codeIn K cd27 (Str.ofString "_law_add") = true) (k27 : PySem.W.keepIn K (.ref f27) = true)
    {f28 : Addr} {od28 an28 : Option Addr} {sl28 : Array (Option Value)} {oc28 kV28 dc28 pm28 cd28 ct28 : Value}
    (a28 : PySem.W.nsIn K mainGlobals (Str.ofString "_law_mul") = some (some (.ref f28))) (l28 : K.lookup f28 = some ⟨oc28, od28, .func (PySem.W.fnOf (Str.ofString "_law_mul") (Str.ofString "_law_mul") (defArgs s_law_mul) (defBody s_law_mul) (defScope s_law_mul) .none kV28 dc28 pm28 an28 cd28 ct28), sl28⟩) (c28 : PySem.W.codeIn K cd28 (Str.ofString "_law_mul") = true) (k28 : PySem.W.keepIn K (.ref f28) = true)
    {f29 : Addr} {od29 an29 : Option Addr} {sl29 : Array (Option Value)} {oc29 kV29 dc29 pm29 cd29 ct29 : Value}
    (a29 : PySem.W.nsIn K mainGlobals (Str.ofString "_law_number") = some (some (.ref f29))) (l29 : K.lookup f29 = some ⟨oc29, od29, .func (PySem.W.fnOf (Str.ofString "_law_number") (Str.ofString "_law_number") (defArgs s_law_number) (defBody s_law_number) (defScope s_law_number) .none kV29 dc29 pm29 an29 cd29 ct29), sl29⟩) (c29 : PySem.W.codeIn K cd29 (Str.ofString "_law_number") = true) (k29 : PySem.W.keepIn K (.ref f29) = true)
    {f30 : Addr} {od30 an30 : Option Addr} {sl30 : Array (Option Value)} {oc30 kV30 dc30 pm30 cd30 ct30 : Value}
    (a30 : PySem.W.nsIn K mainGlobals (Str.ofString "_law_alike") = some (some (.ref f30))) (l30 : K.lookup f30 = some ⟨oc30, od30, .func (PySem.W.fnOf (Str.ofString "_law_alike") (Str.ofString "_law_alike") (defArgs s_law_alike) (defBody s_law_alike) (defScope s_law_alike) .none kV30 dc30 pm30 an30 cd30 ct30), sl30⟩) (c30 : PySem.W.codeIn K cd30 (Str.ofString "_law_alike") = true) (k30 : PySem.W.keepIn K (.ref f30) = true)
    {f31 : Addr} {od31 an31 : Option Addr} {sl31 : Array (Option Value)} {oc31 kV31 dc31 pm31 cd31 ct31 : Value}
    (a31 : PySem.W.nsIn K mainGlobals (Str.ofString "_law_products") = some (some (.ref f31))) (l31 : K.lookup f31 = some ⟨oc31, od31, .func (PySem.W.fnOf (Str.ofString "_law_products") (Str.ofString "_law_products") (defArgs s_law_products) (defBody s_law_products) (defScope s_law_products) .none kV31 dc31 pm31 an31 cd31 ct31), sl31⟩) (c31 : PySem.W.codeIn K cd31 (Str.ofString "_law_products") = true) (k31 : PySem.W.keepIn K (.ref f31) = true)
    {f32 : Addr} {od32 an32 : Option Addr} {sl32 : Array (Option Value)} {oc32 kV32 dc32 pm32 cd32 ct32 : Value}
    (a32 : PySem.W.nsIn K mainGlobals (Str.ofString "_law_times") = some (some (.ref f32))) (l32 : K.lookup f32 = some ⟨oc32, od32, .func (PySem.W.fnOf (Str.ofString "_law_times") (Str.ofString "_law_times") (defArgs s_law_times) (defBody s_law_times) (defScope s_law_times) .none kV32 dc32 pm32 an32 cd32 ct32), sl32⟩) (c32 : PySem.W.codeIn K cd32 (Str.ofString "_law_times") = true) (k32 : PySem.W.keepIn K (.ref f32) = true)
    {f33 : Addr} {od33 an33 : Option Addr} {sl33 : Array (Option Value)} {oc33 kV33 dc33 pm33 cd33 ct33 : Value}
    (a33 : PySem.W.nsIn K mainGlobals (Str.ofString "_law_copied") = some (some (.ref f33))) (l33 : K.lookup f33 = some ⟨oc33, od33, .func (PySem.W.fnOf (Str.ofString "_law_copied") (Str.ofString "_law_copied") (defArgs s_law_copied) (defBody s_law_copied) (defScope s_law_copied) .none kV33 dc33 pm33 an33 cd33 ct33), sl33⟩) (c33 : PySem.W.codeIn K cd33 (Str.ofString "_law_copied") = true) (k33 : PySem.W.keepIn K (.ref f33) = true)
    {f34 : Addr} {od34 an34 : Option Addr} {sl34 : Array (Option Value)} {oc34 kV34 dc34 pm34 cd34 ct34 : Value}
    (a34 : PySem.W.nsIn K mainGlobals (Str.ofString "_law_plus") = some (some (.ref f34))) (l34 : K.lookup f34 = some ⟨oc34, od34, .func (PySem.W.fnOf (Str.ofString "_law_plus") (Str.ofString "_law_plus") (defArgs s_law_plus) (defBody s_law_plus) (defScope s_law_plus) .none kV34 dc34 pm34 an34 cd34 ct34), sl34⟩) (c34 : PySem.W.codeIn K cd34 (Str.ofString "_law_plus") = true) (k34 : PySem.W.keepIn K (.ref f34) = true)
    {f35 : Addr} {od35 an35 : Option Addr} {sl35 : Array (Option Value)} {oc35 kV35 dc35 pm35 cd35 ct35 : Value}
    (a35 : PySem.W.nsIn K mainGlobals (Str.ofString "_law_image") = some (some (.ref f35))) (l35 : K.lookup f35 = some ⟨oc35, od35, .func (PySem.W.fnOf (Str.ofString "_law_image") (Str.ofString "_law_image") (defArgs s_law_image) (defBody s_law_image) (defScope s_law_image) .none kV35 dc35 pm35 an35 cd35 ct35), sl35⟩) (c35 : PySem.W.codeIn K cd35 (Str.ofString "_law_image") = true) (k35 : PySem.W.keepIn K (.ref f35) = true)
    {f36 : Addr} {od36 an36 : Option Addr} {sl36 : Array (Option Value)} {oc36 kV36 dc36 pm36 cd36 ct36 : Value}
    (a36 : PySem.W.nsIn K mainGlobals (Str.ofString "_law_map") = some (some (.ref f36))) (l36 : K.lookup f36 = some ⟨oc36, od36, .func (PySem.W.fnOf (Str.ofString "_law_map") (Str.ofString "_law_map") (defArgs s_law_map) (defBody s_law_map) (defScope s_law_map) .none kV36 dc36 pm36 an36 cd36 ct36), sl36⟩) (c36 : PySem.W.codeIn K cd36 (Str.ofString "_law_map") = true) (k36 : PySem.W.keepIn K (.ref f36) = true)
    {f37 : Addr} {od37 an37 : Option Addr} {sl37 : Array (Option Value)} {oc37 kV37 dc37 pm37 cd37 ct37 : Value}
    (a37 : PySem.W.nsIn K mainGlobals (Str.ofString "_law_is") = some (some (.ref f37))) (l37 : K.lookup f37 = some ⟨oc37, od37, .func (PySem.W.fnOf (Str.ofString "_law_is") (Str.ofString "_law_is") (defArgs s_law_is) (defBody s_law_is) (defScope s_law_is) .none kV37 dc37 pm37 an37 cd37 ct37), sl37⟩) (c37 : PySem.W.codeIn K cd37 (Str.ofString "_law_is") = true) (k37 : PySem.W.keepIn K (.ref f37) = true)
    {f38 : Addr} {od38 an38 : Option Addr} {sl38 : Array (Option Value)} {oc38 kV38 dc38 pm38 cd38 ct38 : Value}
    (a38 : PySem.W.nsIn K mainGlobals (Str.ofString "_law_wholes") = some (some (.ref f38))) (l38 : K.lookup f38 = some ⟨oc38, od38, .func (PySem.W.fnOf (Str.ofString "_law_wholes") (Str.ofString "_law_wholes") (defArgs s_law_wholes) (defBody s_law_wholes) (defScope s_law_wholes) .none kV38 dc38 pm38 an38 cd38 ct38), sl38⟩) (c38 : PySem.W.codeIn K cd38 (Str.ofString "_law_wholes") = true) (k38 : PySem.W.keepIn K (.ref f38) = true)
    {f39 : Addr} {od39 an39 : Option Addr} {sl39 : Array (Option Value)} {oc39 kV39 dc39 pm39 cd39 ct39 : Value}
    (a39 : PySem.W.nsIn K mainGlobals (Str.ofString "_law_changed_right") = some (some (.ref f39))) (l39 : K.lookup f39 = some ⟨oc39, od39, .func (PySem.W.fnOf (Str.ofString "_law_changed_right") (Str.ofString "_law_changed_right") (defArgs s_law_changed_right) (defBody s_law_changed_right) (defScope s_law_changed_right) .none kV39 dc39 pm39 an39 cd39 ct39), sl39⟩) (c39 : PySem.W.codeIn K cd39 (Str.ofString "_law_changed_right") = true) (k39 : PySem.W.keepIn K (.ref f39) = true)
    {f40 : Addr} {od40 an40 : Option Addr} {sl40 : Array (Option Value)} {oc40 kV40 dc40 pm40 cd40 ct40 : Value}
    (a40 : PySem.W.nsIn K mainGlobals (Str.ofString "_law_portion_right") = some (some (.ref f40))) (l40 : K.lookup f40 = some ⟨oc40, od40, .func (PySem.W.fnOf (Str.ofString "_law_portion_right") (Str.ofString "_law_portion_right") (defArgs s_law_portion_right) (defBody s_law_portion_right) (defScope s_law_portion_right) .none kV40 dc40 pm40 an40 cd40 ct40), sl40⟩) (c40 : PySem.W.codeIn K cd40 (Str.ofString "_law_portion_right") = true) (k40 : PySem.W.keepIn K (.ref f40) = true)
    {f41 : Addr} {od41 an41 : Option Addr} {sl41 : Array (Option Value)} {oc41 kV41 dc41 pm41 cd41 ct41 : Value}
    (a41 : PySem.W.nsIn K mainGlobals (Str.ofString "_law_right") = some (some (.ref f41))) (l41 : K.lookup f41 = some ⟨oc41, od41, .func (PySem.W.fnOf (Str.ofString "_law_right") (Str.ofString "_law_right") (defArgs s_law_right) (defBody s_law_right) (defScope s_law_right) .none kV41 dc41 pm41 an41 cd41 ct41), sl41⟩) (c41 : PySem.W.codeIn K cd41 (Str.ofString "_law_right") = true) (k41 : PySem.W.keepIn K (.ref f41) = true)
    {f42 : Addr} {od42 an42 : Option Addr} {sl42 : Array (Option Value)} {oc42 kV42 dc42 pm42 cd42 ct42 : Value}
    (a42 : PySem.W.nsIn K mainGlobals (Str.ofString "law") = some (some (.ref f42))) (l42 : K.lookup f42 = some ⟨oc42, od42, .func (PySem.W.fnOf (Str.ofString "law") (Str.ofString "law") (defArgs s_law) (defBody s_law) (defScope s_law) .none kV42 dc42 pm42 an42 cd42 ct42), sl42⟩) (c42 : PySem.W.codeIn K cd42 (Str.ofString "law") = true) (k42 : PySem.W.keepIn K (.ref f42) = true)
    (z_abs : PySem.W.nsIn K mainGlobals (Str.ofString "abs") = some none)
    (z_all : PySem.W.nsIn K mainGlobals (Str.ofString "all") = some none)
    (z_bool : PySem.W.nsIn K mainGlobals (Str.ofString "bool") = some none)
    (z_enumerate : PySem.W.nsIn K mainGlobals (Str.ofString "enumerate") = some none)
    (z_int : PySem.W.nsIn K mainGlobals (Str.ofString "int") = some none)
    (z_isinstance : PySem.W.nsIn K mainGlobals (Str.ofString "isinstance") = some none)
    (z_len : PySem.W.nsIn K mainGlobals (Str.ofString "len") = some none)
    (z_list : PySem.W.nsIn K mainGlobals (Str.ofString "list") = some none)
    (z_range : PySem.W.nsIn K mainGlobals (Str.ofString "range") = some none)
    (z_tuple : PySem.W.nsIn K mainGlobals (Str.ofString "tuple") = some none)
    (z_zip : PySem.W.nsIn K mainGlobals (Str.ofString "zip") = some none)
    (g_gcd : PySem.W.nsIn K mainGlobals (Str.ofString "gcd") = some (some (.builtin "math.gcd")))
    (g_lcm : PySem.W.nsIn K mainGlobals (Str.ofString "lcm") = some (some (.builtin "math.lcm")))
    (hm : ∀ ns : List Int, ns.length ≤ 63 → w_law (ns, ()) (fun r _ => r = true) noX 0) :
    ∃ fd : FuncData, (∀ (s : Shared) (v : Value), BindsTo s fd ⟨[v], []⟩ [(Str.ofString "_law_script", v)]) ∧ ∀ base : Heap, K.In base → base.Ns mainGlobals mg → FnOk l.prog w K mg base CX0 14 fa fd P_law (spLaw K) := by
  have e := hfa.symm.trans (PySem.W.mg_of X G a42)
  cases e
  let T : Txt K mg := {
    c_Table := C_Table, m_Table := PySem.W.mg_of X G aC_Table, cl_Table := ⟨pg_Table, hd_Table, po_Table, sa_Table⟩,
    na_Table_products := nf_Table_products,
    na_Table_below := nf_Table_below,
    na_Table_cells := nf_Table_cells,
    ne_Table := ⟨nea_Table, neb_Table⟩,
    ic_Table := ⟨⟨pg_Table, hd_Table, po_Table, sa_Table⟩, iha_Table, ihn_Table, ihk_Table, ihm_Table, kit_self _⟩,
    a_law_pool := f0, d_law_pool := _, F_law_pool := fun_mk (st := s_law_pool) l0 c0 k0, m_law_pool := PySem.W.mg_of X G a0,
    a_law_pick := f1, d_law_pick := _, F_law_pick := fun_mk (st := s_law_pick) l1 c1 k1, m_law_pick := PySem.W.mg_of X G a1,
    a_lowest := f2, d_lowest := _, F_lowest := fun_mk (st := s_lowest) l2 c2 k2, m_lowest := PySem.W.mg_of X G a2,
    a_sum_two := f3, d_sum_two := _, F_sum_two := fun_mk (st := s_sum_two) l3 c3 k3, m_sum_two := PySem.W.mg_of X G a3,
    a_product_two := f4, d_product_two := _, F_product_two := fun_mk (st := s_product_two) l4 c4 k4, m_product_two := PySem.W.mg_of X G a4,
    a_is_number := f5, d_is_number := _, F_is_number := fun_mk (st := s_is_number) l5 c5 k5, m_is_number := PySem.W.mg_of X G a5,
    a_checked := f6, d_checked := _, F_checked := fun_mk (st := s_checked) l6 c6 k6, m_checked := PySem.W.mg_of X G a6,
    a_check_numbers := f7, d_check_numbers := _, F_check_numbers := fun_mk (st := s_check_numbers) l7 c7 k7, m_check_numbers := PySem.W.mg_of X G a7,
    a_integers_of := f8, d_integers_of := _, F_integers_of := fun_mk (st := s_integers_of) l8 c8 k8, m_integers_of := PySem.W.mg_of X G a8,
    a_numbers_of := f9, d_numbers_of := _, F_numbers_of := fun_mk (st := s_numbers_of) l9 c9 k9, m_numbers_of := PySem.W.mg_of X G a9,
    a_fresh := f10, d_fresh := _, F_fresh := fun_mk (st := s_fresh) l10 c10 k10, m_fresh := PySem.W.mg_of X G a10,
    a_plus_row := f11, d_plus_row := _, F_plus_row := fun_mk (st := s_plus_row) l11 c11 k11, m_plus_row := PySem.W.mg_of X G a11,
    a_scaled_row := f12, d_scaled_row := _, F_scaled_row := fun_mk (st := s_scaled_row) l12 c12 k12, m_scaled_row := PySem.W.mg_of X G a12,
    a_check_rows := f13, d_check_rows := _, F_check_rows := fun_mk (st := s_check_rows) l13 c13 k13, m_check_rows := PySem.W.mg_of X G a13,
    a_Table_init := f14, d_Table_init := _, F_Table_init := fun_mk (st := s_Table_init) l14 c14 k14,
    mk_Table := ⟨ms_Table, a14, i14, kc_Table⟩,
    a_Table_size := f15, d_Table_size := _, F_Table_size := fun_mk (st := s_Table_size) l15 c15 k15,
    p_Table_size := p15, pr_Table_size := ⟨a15, g15, t15, ⟨rs15, r15⟩⟩,
    a_Table_products := f16, d_Table_products := _, F_Table_products := fun_mk (st := s_Table_products) l16 c16 k16,
    p_Table_products := p16, pr_Table_products := ⟨a16, g16, t16, ⟨rs16, r16⟩⟩,
    a_Table_eq := f17, d_Table_eq := _, F_Table_eq := fun_mk (st := s_Table_eq) l17 c17 k17,
    eq_Table := ⟨a17, i17⟩,
    a_Table_product_without_checks := f18, d_Table_product_without_checks := _, F_Table_product_without_checks := fun_mk (st := s_Table_product_without_checks) l18 c18 k18,
    me_Table_product_without_checks := ⟨a18, i18, k18⟩,
    a_Table_call := f19, d_Table_call := _, F_Table_call := fun_mk (st := s_Table_call) l19 c19 k19,
    co_Table := ⟨a19, i19, y19⟩,
    a_product_of := f20, d_product_of := _, F_product_of := fun_mk (st := s_product_of) l20 c20 k20, m_product_of := PySem.W.mg_of X G a20,
    a_opposite := f21, d_opposite := _, F_opposite := fun_mk (st := s_opposite) l21 c21 k21, m_opposite := PySem.W.mg_of X G a21,
    a_blended := f22, d_blended := _, F_blended := fun_mk (st := s_blended) l22 c22 k22, m_blended := PySem.W.mg_of X G a22,
    a_both_ways := f23, d_both_ways := _, F_both_ways := fun_mk (st := s_both_ways) l23 c23 k23, m_both_ways := PySem.W.mg_of X G a23,
    a_check_square := f24, d_check_square := _, F_check_square := fun_mk (st := s_check_square) l24 c24 k24, m_check_square := PySem.W.mg_of X G a24,
    a_changed := f25, d_changed := _, F_changed := fun_mk (st := s_changed) l25 c25 k25, m_changed := PySem.W.mg_of X G a25,
    a_law_low := f26, d_law_low := _, F_law_low := fun_mk (st := s_law_low) l26 c26 k26, m_law_low := PySem.W.mg_of X G a26,
    a_law_add := f27, d_law_add := _, F_law_add := fun_mk (st := s_law_add) l27 c27 k27, m_law_add := PySem.W.mg_of X G a27,
    a_law_mul := f28, d_law_mul := _, F_law_mul := fun_mk (st := s_law_mul) l28 c28 k28, m_law_mul := PySem.W.mg_of X G a28,
    a_law_number := f29, d_law_number := _, F_law_number := fun_mk (st := s_law_number) l29 c29 k29, m_law_number := PySem.W.mg_of X G a29,
    a_law_alike := f30, d_law_alike := _, F_law_alike := fun_mk (st := s_law_alike) l30 c30 k30, m_law_alike := PySem.W.mg_of X G a30,
    a_law_products := f31, d_law_products := _, F_law_products := fun_mk (st := s_law_products) l31 c31 k31, m_law_products := PySem.W.mg_of X G a31,
    a_law_times := f32, d_law_times := _, F_law_times := fun_mk (st := s_law_times) l32 c32 k32, m_law_times := PySem.W.mg_of X G a32,
    a_law_copied := f33, d_law_copied := _, F_law_copied := fun_mk (st := s_law_copied) l33 c33 k33, m_law_copied := PySem.W.mg_of X G a33,
    a_law_plus := f34, d_law_plus := _, F_law_plus := fun_mk (st := s_law_plus) l34 c34 k34, m_law_plus := PySem.W.mg_of X G a34,
    a_law_image := f35, d_law_image := _, F_law_image := fun_mk (st := s_law_image) l35 c35 k35, m_law_image := PySem.W.mg_of X G a35,
    a_law_map := f36, d_law_map := _, F_law_map := fun_mk (st := s_law_map) l36 c36 k36, m_law_map := PySem.W.mg_of X G a36,
    a_law_is := f37, d_law_is := _, F_law_is := fun_mk (st := s_law_is) l37 c37 k37, m_law_is := PySem.W.mg_of X G a37,
    a_law_wholes := f38, d_law_wholes := _, F_law_wholes := fun_mk (st := s_law_wholes) l38 c38 k38, m_law_wholes := PySem.W.mg_of X G a38,
    a_law_changed_right := f39, d_law_changed_right := _, F_law_changed_right := fun_mk (st := s_law_changed_right) l39 c39 k39, m_law_changed_right := PySem.W.mg_of X G a39,
    a_law_portion_right := f40, d_law_portion_right := _, F_law_portion_right := fun_mk (st := s_law_portion_right) l40 c40 k40, m_law_portion_right := PySem.W.mg_of X G a40,
    a_law_right := f41, d_law_right := _, F_law_right := fun_mk (st := s_law_right) l41 c41 k41, m_law_right := PySem.W.mg_of X G a41,
    a_law := fa, d_law := _, F_law := fun_mk (st := s_law) l42 c42 k42, m_law := PySem.W.mg_of X G a42,
    z_abs := PySem.W.mg_none_of X G z_abs,
    z_all := PySem.W.mg_none_of X G z_all,
    z_bool := PySem.W.mg_none_of X G z_bool,
    z_enumerate := PySem.W.mg_none_of X G z_enumerate,
    z_int := PySem.W.mg_none_of X G z_int,
    z_isinstance := PySem.W.mg_none_of X G z_isinstance,
    z_len := PySem.W.mg_none_of X G z_len,
    z_list := PySem.W.mg_none_of X G z_list,
    z_range := PySem.W.mg_none_of X G z_range,
    z_tuple := PySem.W.mg_none_of X G z_tuple,
    z_zip := PySem.W.mg_none_of X G z_zip,
    m_gcd := PySem.W.mg_of X G g_gcd,
    m_lcm := PySem.W.mg_of X G g_lcm
  }
  exact ⟨_, fun s v => .of_eq rfl, fun base _ _ => ok_law T hm⟩

end Dc
namespace Dc
open PySem PySem.Spec L2
theorem gcd_pos_of {a b : Int} (h : b ≠ 0) : 0 < Nat.gcd a.natAbs b.natAbs := Nat.gcd_pos_of_pos_right _ (by omega)
theorem gcd_le_of {a b : Int} (h : b ≠ 0) : Nat.gcd a.natAbs b.natAbs ≤ b.natAbs := Nat.gcd_le_right _ (by omega)
theorem fdiv_negr (a : Int) (g : Nat) : Int.fdiv a (-(g : Int)) = -a / (g : Int) := by
  have := Int.neg_fdiv_neg (-a) (g : Int)
  rw [Int.neg_neg] at this
  rw [this, Int.fdiv_eq_ediv_of_nonneg _ (by omega)]
theorem fdiv_posr (a : Int) (g : Nat) : Int.fdiv a (g : Int) = a / (g : Int) := Int.fdiv_eq_ediv_of_nonneg _ (by omega)
theorem lowest_eq {a b : Int} (h : b ≠ 0) (hb : b.natAbs < 2 ^ 9000) : w_lowest (a, b, ()) = ret (ofQ (Rat.divInt a b)) := by
  have g0 := gcd_pos_of (a := a) h
  have g1 := gcd_le_of (a := a) h
  unfold w_lowest wb_lowest
  simp only [bnd_ret, bnd_assoc, bnd_grd, bnd_ite, grd_true, fnR_bnd, fnR_ite, fnR_grd, fnR_ret, sq_nx]
  generalize hg : Nat.gcd a.natAbs b.natAbs = g at *
  by_cases q : b < 0
  · rw [ite_ok (decide_eq_true q), grd_ok (fdivOk_of (by omega) (by omega)), grd_ok (fdivOk_of (by omega) (by omega)), fdiv_negr, fdiv_negr, ← low_neg q, hg]
  · rw [ite_no (decide_eq_false q), grd_ok (fdivOk_of (by omega) (by omega)), grd_ok (fdivOk_of (by omega) (by omega)), fdiv_posr, fdiv_posr, ← low_pos (by omega), hg]
theorem gcd_loop {β δ : Type} (t : Int × Int → W Bool) (f : Int × Int → W (Fl (Int × Int) (Int × Int) β)) (ht : ∀ s, t s = ret (!decide (s.2 = 0))) (hf : ∀ s : Int × Int, 0 < s.2 → f s = ret (.nx (s.2, s.1 % s.2))) :
    ∀ (n : Nat) (x y : Int), 0 ≤ x → 0 ≤ y → y.toNat < n → whW (δ := δ) t f n (x, y) = ret (.nx ((Nat.gcd x.natAbs y.natAbs : Nat), 0))
  | 0, _, _, _, _, h => by omega
  | n + 1, x, y, hx, hy, h => by
    show bnd (t (x, y)) _ = _
    rw [ht, bnd_ret]
    by_cases q : y = 0
    · subst q
      rw [ite_no (by simp)]
      simp [Int.natAbs_of_nonneg hx]
    · rw [ite_ok (by simp [q]), hf _ (by show 0 < y; omega), bnd_ret]
      have m0 := Int.emod_nonneg x q
      have m1 := Int.emod_lt_of_pos x (show 0 < y by omega)
      have := gcd_loop (δ := δ) t f ht hf n y (x % y) hy m0 (by omega)
      refine this.trans ?_
      have e : (x % y).natAbs = x.natAbs % y.natAbs := by
        rw [Int.natAbs_emod_of_nonneg hx]
      rw [e, Nat.gcd_comm y.natAbs, ← Nat.gcd_rec, Nat.gcd_comm y.natAbs]
theorem iabs (a : Int) : (if a < 0 then -a else a) = (a.natAbs : Int) := by split <;> omega
theorem law_low_eq {a b : Int} (h : b ≠ 0) (hb : b.natAbs < 2 ^ 9000) : w_law_low (a, b, ()) = ret (ofQ (Rat.divInt a b)) := by
  have g0 := gcd_pos_of (a := a) h
  have g1 := gcd_le_of (a := a) h
  unfold w_law_low wb_law_low
  simp only [bnd_ret, bnd_assoc, bnd_grd, bnd_ite, grd_true, fnR_bnd, fnR_ite, fnR_grd, fnR_ret, sq_nx, iabs]
  rw [gcd_loop _ _ (fun s => rfl) (fun s hs => by rw [grd_ok (by simp [modOk]; exact hs)]) _ _ _ (by omega) (by omega) (by omega), bnd_ret, sq_nx]
  simp only [fnR_ite, fnR_grd, fnR_ret, Int.natAbs_natCast]
  generalize hg : Nat.gcd a.natAbs b.natAbs = g at *
  by_cases q : 0 < b
  · rw [ite_ok (decide_eq_true q), grd_ok (fdivOk_of (by omega) (by omega)), grd_ok (fdivOk_of (by omega) (by omega)), fdiv_posr, fdiv_posr, ← low_pos (by omega), hg]
  · rw [ite_no (decide_eq_false q), grd_ok (fdivOk_of (by omega) (by omega)), grd_ok (fdivOk_of (by omega) (by omega)), fdiv_posr, fdiv_posr, ← low_neg (by omega), hg]
end Dc
namespace Dc
open PySem PySem.Spec L2
theorem small {x : Nat} (h : x < 2 ^ 64) : x < 2 ^ 9000 := Nat.lt_of_lt_of_le h (Nat.pow_le_pow_right (by decide) (by decide))
theorem lsmall {x : Nat} (h : x < 2 ^ 64) : x.log2 < 9000 := log2_lt (small h) (by decide)
theorem ixN_of {n : Nat} {k : Int} (h : 0 ≤ k) (h2 : k < n) : ixN n k = some k.toNat := by
  unfold ixN
  simp only [h, h2]
  simp
theorem ix_in {α : Type} [Inhabited α] {l : List α} {k : Int} (h : 0 ≤ k) (h2 : k < l.length) : ixOk l k = true ∧ ixAt l k ∈ l := by
  have e := ixN_of h h2
  refine ⟨by simp [ixOk, e], ?_⟩
  have hk : k.toNat < l.length := by omega
  unfold ixAt
  rw [e, Option.getD_some, List.getD_eq_getElem?_getD, List.getElem?_eq_getElem hk, Option.getD_some]
  exact List.getElem_mem hk
/-- numbers of the law's pool -/
structure Num (g : Bool) (x : Fr) : Prop where
  red : Red x
  up : x.1.natAbs ≤ 9999
  dn : x.2.natAbs ≤ 9999
  sm : g = false → x.2.natAbs ≤ 9
theorem Num.of {g : Bool} {a b m : Int} (h1 : 1 ≤ b) (h2 : b ≤ m) (ha : a.natAbs ≤ m.natAbs) (hm : m ≤ 9999) (hg : g = false → m ≤ 9) : Num g (ofQ (Rat.divInt a b)) := by
  have h := low_le (a := a) (b := b) (by omega)
  exact ⟨red_ofQ _, by omega, by omega, fun z => by have := hg z; omega⟩
theorem law_number_tr (g : Bool) : Tr 5 (w_law_number (g, ())) (Num g) := by
  unfold w_law_number wb_law_number
  simp only [bnd_ret, bnd_assoc, bnd_grd, bnd_ifr, grd_true, fnR_bnd, fnR_ite, fnR_grd, fnR_ret, sq_nx, sq_rt]
  refine Tr.bnd (a := 1) (b := 4) Tr.pick fun k hk => ?_
  refine Tr.ite (fun q => Tr.ret ?_) fun q => ?_
  · have q := of_decide_eq_true q
    exact ⟨red_int k, by show k.natAbs ≤ 9999; omega, by show (1 : Int).natAbs ≤ 9999; decide, fun _ => by show (1 : Int).natAbs ≤ 9; decide⟩
  have q := of_decide_eq_false q
  refine Tr.bnd (a := 0) (b := 4) (S := fun m : Int => 1 ≤ m ∧ m ≤ 9999 ∧ (g = false → m ≤ 9)) (Tr.ite (fun hg => ?_) fun hg => Tr.ret ⟨by decide, by decide, fun _ => by decide⟩) fun m hm => ?_
  · have i1 := ix_in (l := ([9, 9, 9, 99, 9999] : List Int)) (k := k - 2) (by omega) (by have : ([9, 9, 9, 99, 9999] : List Int).length = 5 := rfl; omega)
    refine Tr.grd i1.1 (Tr.ret ?_)
    generalize ixAt ([9, 9, 9, 99, 9999] : List Int) (k - 2) = m at i1 ⊢
    have hz : 1 ≤ m ∧ m ≤ 9999 := by
      have := i1.2
      simp at this
      omega
    exact ⟨hz.1, hz.2, fun z => by rw [hg] at z; cases z⟩
  · obtain ⟨h1, h2, h3⟩ := hm
    refine Tr.bnd (a := 1) (b := 3) (Tr.pick (by omega) (lsmall (by omega))) fun x hx => ?_
    refine Tr.bnd (a := 1) (b := 2) Tr.pick fun y hy => ?_
    have i1 := ix_in (l := [1, m]) hy.1 hy.2
    refine Tr.grd i1.1 ?_
    generalize ixAt [1, m] y = z at i1
    have hz : 1 ≤ z ∧ z ≤ m := by
      have := i1.2
      simp at this
      omega
    refine Tr.bnd (a := 1) (b := 1) (Tr.pick (by omega) (lsmall (by omega))) fun u hu => ?_
    refine Tr.bnd (a := 1) (b := 0) Tr.pick fun v hv => ?_
    have i2 := ix_in (l := [1 + x, -(1 + x)]) hv.1 hv.2
    refine Tr.grd i2.1 ?_
    generalize ixAt [1 + x, -(1 + x)] v = a at i2
    have ha : a.natAbs ≤ m.natAbs := by
      have := i2.2
      simp at this
      omega
    rw [law_low_eq (by omega) (small (by omega)), bnd_ret]
    exact Tr.ret (Num.of (m := m) (by omega) (by omega) ha h2 h3)
end Dc
namespace Dc
open PySem PySem.Spec L2
theorem rangeF_mem {lo : Int} {n : Nat} {y : Int} (h : y ∈ rangeF lo n) : lo ≤ y ∧ y < lo + n := by
  obtain ⟨i, hi⟩ := List.getElem?_of_mem h
  have := rangeF_get _ _ _ _ hi
  omega
/-! ### alike -/
def dOk : Nat → D → Prop
  | _, .int _ => True
  | _, .bl _ => True
  | _, .non => True
  | n + 1, .lst ds => ds.length ≤ 16777216 ∧ ∀ d ∈ ds, dOk n d
  | n + 1, .tup ds => ds.length ≤ 16777216 ∧ ∀ d ∈ ds, dOk n d
  | _, _ => False
theorem alike_loop {n : Nat} {d : D} (ih : ∀ e ∈ itemsD d, w_law_alike n (e, e, ()) = ret true) (f : Unit → Int → W (Fl Unit Unit Bool))
    (hf : ∀ y, f () y = grd (true && ixOk (itemsD d) y) (grd (true && ixOk (itemsD d) y) (bnd (w_law_alike n (ixAt (itemsD d) y, ixAt (itemsD d) y, ())) fun t => ite (!t) (ret (Fl.rt false)) (ret (Fl.nx ()))))) :
    forW (δ := Empty) f () (rangeF 0 ((itemsD d).length : Int).toNat) = ret (.nx ()) := by
  have := forW_eq (δ := Empty) (f := f) (g := fun _ _ => ()) (s := ()) (xs := rangeF 0 ((itemsD d).length : Int).toNat) (fun y hy s => by
    have hm := rangeF_mem hy
    have i := ix_in (l := itemsD d) (k := y) (by omega) (by omega)
    cases s
    rw [hf, grd_ok (by simp [i.1]), grd_ok (by simp [i.1]), ih _ i.2, bnd_ret]
    rfl)
  rw [this]
theorem alike_leaf {n : Nat} {d : D} (h0 : nonD d = false) (h1 : isD "list" d = false) (h2 : isD "tuple" d = false) (h3 : isD "int" d = true) (h4 : SeqAt.shaped (toP d) = true) (h5 : PyData.eqv (toP d) (toP d) = true) : w_law_alike (n + 1) (d, d, ()) = ret true := by
  unfold w_law_alike
  simp only [bnd_ret, bnd_assoc, bnd_grd, bnd_ifr, grd_true, fnR_bnd, fnR_ite, fnR_grd, fnR_ret, sq_nx, sq_rt, h0, h1, h2, h3, h4, h5, ite_false, ite_true, bnd_ite, Bool.or_false, Bool.and_true, beq_self_eq_true]
theorem alike_node {n : Nat} {d : D} (h0 : nonD d = false) (h1 : (isD "list" d || isD "tuple" d) = true) (hs : seqD d = true) (hl : (itemsD d).length ≤ 16777216) (ih : ∀ e ∈ itemsD d, w_law_alike n (e, e, ()) = ret true) : w_law_alike (n + 1) (d, d, ()) = ret true := by
  have hk : isD "list" d = false → isD "tuple" d = true := fun z => by simpa [z] using h1
  unfold w_law_alike
  simp only [bnd_ret, bnd_assoc, bnd_grd, bnd_ifr, grd_true, fnR_bnd, fnR_ite, fnR_grd, fnR_ret, sq_nx, sq_rt, h0, h1, hs, ite_false, ite_true, bnd_ite, Bool.not_true, Bool.not_false, decide_true, fnR_stuck]
  cases e : isD "list" d
  · simp only [hk e, ite_false, ite_true, Bool.not_true, Bool.not_false]
    rw [grd_ok (by simp [rngOk]; omega), alike_loop ih _ fun y => rfl, bnd_ret]
    rfl
  · simp only [ite_false, ite_true, Bool.not_true, Bool.not_false]
    rw [grd_ok (by simp [rngOk]; omega), alike_loop ih _ fun y => rfl, bnd_ret]
    rfl
theorem alike_self : ∀ (n : Nat) (d : D), dOk n d → w_law_alike (n + 1) (d, d, ()) = ret true := by
  intro n
  induction n with
  | zero =>
    intro d h
    cases d with
    | lst ds => exact h.elim
    | tup ds => exact h.elim
    | str s => exact h.elim
    | non => rfl
    | int i => exact alike_leaf rfl rfl rfl rfl rfl (by simp [toP, PyData.eqv])
    | bl b => exact alike_leaf rfl rfl rfl rfl rfl (by simp [toP, PyData.eqv])
  | succ n ih =>
    intro d h
    cases d with
    | lst ds => exact alike_node rfl rfl rfl h.1 fun e he => ih e (h.2 e he)
    | tup ds => exact alike_node rfl rfl rfl h.1 fun e he => ih e (h.2 e he)
    | str s => exact h.elim
    | non => rfl
    | int i => exact alike_leaf rfl rfl rfl rfl rfl (by simp [toP, PyData.eqv])
    | bl b => exact alike_leaf rfl rfl rfl rfl rfl (by simp [toP, PyData.eqv])
end Dc
namespace Dc
open PySem PySem.Spec L2
def lineD (l : List Fr) : D := D.lst (l.map fun z => D.tup [D.int z.1, D.int z.2])
theorem alike_pair (a b : Int) : w_law_alike 6 (D.tup [D.int a, D.int b], D.tup [D.int a, D.int b], ()) = ret true := alike_self 5 _ ⟨by show 2 ≤ 16777216; decide, fun d hd => by
  simp only [List.mem_cons, List.not_mem_nil, or_false] at hd
  rcases hd with rfl | rfl <;> exact True.intro⟩
theorem alike_line {l : List Fr} (h : l.length ≤ 16777216) : w_law_alike 6 (D.lst (l.map fun z => D.tup [D.int z.1, D.int z.2]), D.lst (l.map fun z => D.tup [D.int z.1, D.int z.2]), ()) = ret true := alike_self 5 _ ⟨by rw [List.length_map]; exact h, fun d hd => by
  obtain ⟨x, _, rfl⟩ := List.mem_map.mp hd
  exact ⟨by show 2 ≤ 16777216; decide, fun d hd => by
    simp only [List.mem_cons, List.not_mem_nil, or_false] at hd
    rcases hd with rfl | rfl <;> exact True.intro⟩⟩
/-- not too great -/
def Sz (n : Nat) (x : Fr) : Prop := x.1.natAbs < 2 ^ n ∧ x.2.natAbs < 2 ^ n
theorem mul_lt_pow {a b n m : Nat} (h : a < 2 ^ n) (h2 : b < 2 ^ m) : a * b < 2 ^ (n + m) := by
  rw [Nat.pow_add]
  rcases Nat.eq_zero_or_pos b with z | z
  · rw [z, Nat.mul_zero]; exact Nat.mul_pos (Nat.pow_pos (by decide)) (Nat.pow_pos (by decide))
  · exact Nat.lt_of_lt_of_le ((Nat.mul_lt_mul_right z).mpr h) (Nat.mul_le_mul_left _ (Nat.le_of_lt h2))
theorem is_number_eq {x : Fr} (h : Red x) : w_is_number (x, ()) = ret true := by
  unfold w_is_number wb_is_number
  simp only [bnd_ret, bnd_assoc, bnd_grd, bnd_ite, grd_true, fnR_bnd, fnR_ite, fnR_grd, fnR_ret, sq_nx, sq_rt]
  rw [ite_ok (decide_eq_true h.1), h.2]
  rfl
theorem check_numbers_eq {l : List Fr} (h : ∀ x ∈ l, Red x) : w_check_numbers (l, ()) = ret () := by
  unfold w_check_numbers wb_check_numbers
  simp only [bnd_ret]
  rw [forW_eq (g := fun _ _ => ()) (fun x hx s => by
    simp only [bnd_ret, is_number_eq (h x hx), bnd_assoc, bnd_ifs]
    rfl), bnd_ret]
  rfl
theorem law_add_eq {x y : Fr} (hx : x.2 ≠ 0) (hy : y.2 ≠ 0) (sx : Sz 4000 x) (sy : Sz 4000 y) : w_law_add (x, y, ()) = ret (ofQ (toQ x + toQ y)) := by
  have b := mul_lt_pow sx.2 sy.2
  unfold w_law_add wb_law_add
  simp only [bnd_ret, bnd_assoc, bnd_grd, fnR_bnd, fnR_grd, fnR_ret]
  rw [grd_ok (mulOk_of sx.1 sy.2), grd_ok (mulOk_of sy.1 sx.2), grd_ok (mulOk_of sx.2 sy.2), law_low_eq (Int.mul_ne_zero hx hy) (by rw [Int.natAbs_mul]; exact Nat.lt_of_lt_of_le b (Nat.pow_le_pow_right (by decide) (by decide))), bnd_ret, toQ_add hx hy]
theorem law_mul_eq {x y : Fr} (hx : x.2 ≠ 0) (hy : y.2 ≠ 0) (sx : Sz 4000 x) (sy : Sz 4000 y) : w_law_mul (x, y, ()) = ret (ofQ (toQ x * toQ y)) := by
  have b := mul_lt_pow sx.2 sy.2
  unfold w_law_mul wb_law_mul
  simp only [bnd_ret, bnd_assoc, bnd_grd, fnR_bnd, fnR_grd, fnR_ret]
  rw [grd_ok (mulOk_of sx.1 sy.1), grd_ok (mulOk_of sx.2 sy.2), law_low_eq (Int.mul_ne_zero hx hy) (by rw [Int.natAbs_mul]; exact Nat.lt_of_lt_of_le b (Nat.pow_le_pow_right (by decide) (by decide))), bnd_ret, toQ_mul]
theorem law_add_gen {x y : Fr} (hx : x.2 ≠ 0) (hy : y.2 ≠ 0) (bx : x.1.natAbs < 2 ^ 100000) (by_ : y.1.natAbs < 2 ^ 100000) (b : x.2.natAbs * y.2.natAbs < 2 ^ 9000) : w_law_add (x, y, ()) = ret (ofQ (toQ x + toQ y)) := by
  have l1 : x.2.natAbs < 2 ^ 9000 := Nat.lt_of_le_of_lt (Nat.le_mul_of_pos_right _ (by omega)) b
  have l2 : y.2.natAbs < 2 ^ 9000 := Nat.lt_of_le_of_lt (Nat.le_mul_of_pos_left _ (by omega)) b
  unfold w_law_add wb_law_add
  simp only [bnd_ret, bnd_assoc, bnd_grd, fnR_bnd, fnR_grd, fnR_ret]
  rw [grd_ok (mulOk_of bx l2), grd_ok (mulOk_of by_ l1), grd_ok (mulOk_of l1 l2), law_low_eq (Int.mul_ne_zero hx hy) (by rw [Int.natAbs_mul]; exact b), bnd_ret, toQ_add hx hy]
theorem Num.sz {g : Bool} {x : Fr} (h : Num g x) : Sz 4000 x := by
  have h1 := h.up
  have h2 := h.dn
  have e : (2 : Nat) ^ 14 ≤ 2 ^ 4000 := Nat.pow_le_pow_right (by decide) (by decide)
  exact ⟨Nat.lt_of_lt_of_le (show x.1.natAbs < 2 ^ 14 by omega) e, Nat.lt_of_lt_of_le (show x.2.natAbs < 2 ^ 14 by omega) e⟩
theorem Num.ne {g : Bool} {x : Fr} (h : Num g x) : x.2 ≠ 0 := red_ne h.red
def addL (l m : List Fr) : List Fr := (l.zip m).map fun z => ofQ (toQ z.1 + toQ z.2)
def mulL (x : Fr) (l : List Fr) : List Fr := l.map fun z => ofQ (toQ x * toQ z)
theorem flat1 {α : Type} (x : α) : ∀ n : Nat, (List.replicate n [x]).flatten = List.replicate n x
  | 0 => rfl
  | n + 1 => by rw [List.replicate_succ, List.flatten_cons, flat1 x n]; rfl
theorem repOk1 {n : Int} (h0 : 0 ≤ n) (h : n ≤ 16777216) : repOk 1 n = true := by
  simp only [repOk, Bool.and_eq_true, decide_eq_true_eq]
  omega
end Dc
namespace Dc
open PySem PySem.Spec L2
theorem Tr.then {α β : Type} {n : Nat} (a : Nat) {m : W α} {k : α → W β} {S : α → Prop} {T : β → Prop} (h : Tr a m S) (h2 : ∀ x, S x → Tr (n - a) (k x) T) (ha : a ≤ n := by decide) : Tr n (Dc.bnd m k) T :=
  (Tr.bnd h h2).up (by omega)
theorem Tr.mapN {α β : Type} {n L N : Nat} {f : α → W β} {S : β → Prop} {xs : List α} (h : ∀ x ∈ xs, Tr n (f x) S) (hl : xs.length ≤ L) (hN : L * n ≤ N := by decide) : Tr N (mapW f xs) (fun ys => ys.length = xs.length ∧ ∀ y ∈ ys, S y) :=
  (Tr.map (S := fun _ y => S y) h).mono (Nat.le_trans (Nat.mul_le_mul_right n hl) hN) fun ys z => ⟨z.len, fun y hy => by
    obtain ⟨_, _, q⟩ := z.all y hy
    exact q⟩
theorem Tr.forN {α β γ δ : Type} {n L N : Nat} {f : γ → α → W (Fl γ γ β)} {xs : List α} {s : γ} (R : γ → Prop) (h0 : R s) (h : ∀ x ∈ xs, ∀ s, R s → Tr n (f s x) (fun fl => ∃ s', fl = .nx s' ∧ R s')) (hl : xs.length ≤ L) (hN : L * n ≤ N := by decide) : Tr N (forW (δ := δ) f s xs) (fun fl => ∃ s', fl = .nx s' ∧ R s') :=
  (Tr.for h0 h).up (Nat.le_trans (Nat.mul_le_mul_right n hl) hN)
/-- a line of numbers -/
def Lin (g : Bool) (n : Nat) (l : List Fr) : Prop := l.length = n ∧ ∀ x ∈ l, Num g x
theorem num_int {g : Bool} {n : Int} (h : n.natAbs ≤ 9999) : Num g (n, 1) := ⟨red_int n, h, by show (1 : Int).natAbs ≤ 9999; decide, fun _ => by show (1 : Int).natAbs ≤ 9; decide⟩
theorem lin_set {g : Bool} {n : Nat} {l : List Fr} (h : Lin g n l) {x : Fr} (hx : Num g x) (i : Nat) : Lin g n (l.set i x) := ⟨by rw [List.length_set]; exact h.1, fun y hy => by
  rcases List.mem_or_eq_of_mem_set hy with q | q
  · exact h.2 y q
  · rw [q]; exact hx⟩
theorem mem2 {a b x : Int} (h : x ∈ [a, b]) : x = a ∨ x = b := by simpa using h
theorem mulSmall {i j : Int} (hi : i.natAbs < 2 ^ 64) (hj : j.natAbs < 2 ^ 64) : mulOk i j = true := mulOk_of hi hj
theorem eqvAll_refl {α : Type} {to : α → PyData} (h : ∀ x, PyData.eqv (to x) (to x) = true) : ∀ l : List α, PyData.eqvAll (l.map to) (l.map to) = true
  | [] => rfl
  | x :: r => by
    show (PyData.eqv (to x) (to x) && PyData.eqvAll (r.map to) (r.map to)) = true
    rw [h, eqvAll_refl h r]
    rfl
theorem eqv_pair (x : Fr) : PyData.eqv (PyData.tuple [PyData.int x.1, PyData.int x.2]) (PyData.tuple [PyData.int x.1, PyData.int x.2]) = true := by simp [PyData.eqv, PyData.eqvAll]
theorem eqv_line (l : List Fr) : PyData.eqv (PyData.list (l.map fun z => PyData.tuple [PyData.int z.1, PyData.int z.2])) (PyData.list (l.map fun z => PyData.tuple [PyData.int z.1, PyData.int z.2])) = true := by
  simp only [PyData.eqv]
  exact eqvAll_refl eqv_pair l
theorem eqv_rows (l : List (List Fr)) : PyData.eqv (PyData.list (l.map fun z => PyData.list (z.map fun z => PyData.tuple [PyData.int z.1, PyData.int z.2]))) (PyData.list (l.map fun z => PyData.list (z.map fun z => PyData.tuple [PyData.int z.1, PyData.int z.2]))) = true := by
  simp only [PyData.eqv]
  exact eqvAll_refl eqv_line l
end Dc
namespace Dc
open PySem PySem.Spec L2
theorem mapW_ret {α : Type} (l : List α) : mapW (fun y => ret y) l = ret l := by
  rw [mapW_eq (g := fun y => y) fun _ _ => rfl, List.map_id']
theorem flat_eq {α : Type} : ∀ (n : Nat) (rows : List (List α)), n + rows.flatten.length ≤ 16777216 → flatW (fun y => ret y) (fun _ z => ret z) n rows = ret rows.flatten
  | _, [], _ => rfl
  | n, r :: t, h => by
    rw [List.flatten_cons, List.length_append] at h
    show bnd (ret r) _ = _
    rw [bnd_ret, grd_ok (decide_eq_true (by omega)), mapW_ret, bnd_ret, flat_eq (n + r.length) t (by omega), bnd_ret]
    rfl
/-- the least common denominator -/
def lcmL (l : List Fr) : Int := l.foldl (fun s x => ((Nat.lcm s.natAbs x.2.natAbs : Nat) : Int)) 1
theorem lcmL_go : ∀ (l : List Fr) (s : Int), 0 < s → (∀ x ∈ l, 1 ≤ x.2) → 0 < l.foldl (fun s x => ((Nat.lcm s.natAbs x.2.natAbs : Nat) : Int)) s ∧ s ∣ l.foldl (fun s x => ((Nat.lcm s.natAbs x.2.natAbs : Nat) : Int)) s ∧ ∀ x ∈ l, x.2 ∣ l.foldl (fun s x => ((Nat.lcm s.natAbs x.2.natAbs : Nat) : Int)) s
  | [], s, hs, _ => ⟨hs, Int.dvd_refl _, fun _ h => by cases h⟩
  | x :: r, s, hs, h => by
    have hx := h x (List.mem_cons_self ..)
    have hp : 0 < ((Nat.lcm s.natAbs x.2.natAbs : Nat) : Int) := by
      have := Nat.lcm_pos (m := s.natAbs) (n := x.2.natAbs) (by omega) (by omega)
      omega
    obtain ⟨h1, h2, h3⟩ := lcmL_go r _ hp fun y hy => h y (List.mem_cons_of_mem _ hy)
    have d1 : s ∣ ((Nat.lcm s.natAbs x.2.natAbs : Nat) : Int) := Int.natAbs_dvd_natAbs.mp (by rw [Int.natAbs_natCast]; exact Nat.dvd_lcm_left ..)
    have d2 : x.2 ∣ ((Nat.lcm s.natAbs x.2.natAbs : Nat) : Int) := Int.natAbs_dvd_natAbs.mp (by rw [Int.natAbs_natCast]; exact Nat.dvd_lcm_right ..)
    refine ⟨h1, Int.dvd_trans d1 h2, fun y hy => ?_⟩
    rcases List.mem_cons.mp hy with q | q
    · rw [q]; exact Int.dvd_trans d2 h2
    · exact h3 y q
theorem lcmL_loop {f : Int → Fr → W (Fl Int Int (List Int × Int))} (hf : ∀ s x, f s x = grd (lcmOk s x.2) (ret (.nx ((Nat.lcm s.natAbs x.2.natAbs : Nat) : Int)))) : ∀ (l : List Fr) (s : Int), 0 < s → (∀ x ∈ l, 1 ≤ x.2) → l.foldl (fun s x => ((Nat.lcm s.natAbs x.2.natAbs : Nat) : Int)) s < 2 ^ 13000 → forW (δ := Empty) f s l = ret (.nx (l.foldl (fun s x => ((Nat.lcm s.natAbs x.2.natAbs : Nat) : Int)) s))
  | [], s, hs, _, _ => rfl
  | x :: r, s, hs, h, hb => by
    have hx := h x (List.mem_cons_self ..)
    have hp : 0 < ((Nat.lcm s.natAbs x.2.natAbs : Nat) : Int) := by
      have := Nat.lcm_pos (m := s.natAbs) (n := x.2.natAbs) (by omega) (by omega)
      omega
    obtain ⟨h1, h2, h3⟩ := lcmL_go (x :: r) s hs h
    have l1 := Int.le_of_dvd h1 h2
    have l2 := Int.le_of_dvd h1 (h3 x (List.mem_cons_self ..))
    have e : ((2 : Int) ^ 13000) = ((2 ^ 13000 : Nat) : Int) := by simp
    generalize hB : List.foldl (fun s x => ((Nat.lcm s.natAbs x.2.natAbs : Nat) : Int)) s (x :: r) = B at *
    show bnd (f s x) _ = _
    rw [e] at hb
    rw [hf, grd_ok (lcmOk_of (by omega) (by omega)), bnd_ret]
    refine (lcmL_loop hf r _ hp (fun y hy => h y (List.mem_cons_of_mem _ hy)) (by rw [e]; rw [← hB] at hb; exact hb)).trans ?_
    rw [← hB]
    rfl
def intsL (l : List Fr) : List Int := l.map fun x => x.1 * Int.fdiv (lcmL l) x.2
theorem integers_of_eq {l : List Fr} (h : ∀ x ∈ l, Red x) (hz : ∀ x ∈ l, Sz 4000 x) (hb : lcmL l < 2 ^ 13000) : w_integers_of (l, ()) = ret (intsL l, lcmL l) := by
  have h1 : ∀ x ∈ l, 1 ≤ x.2 := fun x hx => (h x hx).1
  unfold w_integers_of wb_integers_of
  simp only [bnd_ret, bnd_assoc, bnd_grd, grd_true, fnR_bnd, fnR_ite, fnR_grd, fnR_ret, sq_nx, sq_rt]
  rw [lcmL_loop (fun s x => rfl) l 1 (by decide) h1 hb, bnd_ret, sq_nx]
  have hp := (lcmL_go l 1 (by decide) h1).1
  have e : ((2 : Int) ^ 13000) = ((2 ^ 13000 : Nat) : Int) := by simp
  rw [e] at hb
  change lcmL l < _ at hb
  change 0 < lcmL l at hp
  change fnR (bnd (mapW (fun y92 => grd (fdivOk (lcmL l) y92.2) (grd (mulOk y92.1 (Int.fdiv (lcmL l) y92.2)) (ret (y92.1 * Int.fdiv (lcmL l) y92.2)))) l) fun t => ret (Fl.rt (t, lcmL l))) = _
  rw [mapW_eq (g := fun x => x.1 * Int.fdiv (lcmL l) x.2) fun x hx => by
    have q := h1 x hx
    have z := hz x hx
    rw [grd_ok (fdivOk_of (by omega) (Nat.lt_of_lt_of_le z.2 (Nat.pow_le_pow_right (by decide) (by decide)))), grd_ok (mulOk_of (m := 13000) z.1 ?_)]
    rw [Int.fdiv_eq_ediv_of_nonneg _ (by omega)]
    have := Int.natAbs_ediv_le_natAbs (lcmL l) x.2
    omega, bnd_ret]
  rfl
theorem lcmL_dvd {l : List Fr} (h : ∀ x ∈ l, Red x) {x : Fr} (hx : x ∈ l) : x.2 ∣ lcmL l := (lcmL_go l 1 (by decide) fun y hy => (h y hy).1).2.2 x hx
theorem lcmL_pos {l : List Fr} (h : ∀ x ∈ l, Red x) : 0 < lcmL l := (lcmL_go l 1 (by decide) fun y hy => (h y hy).1).1
/-- over a common denominator -/
theorem over {x : Fr} {B : Int} (h : 1 ≤ x.2) (hB : 0 < B) (hd : x.2 ∣ B) : Rat.divInt (x.1 * Int.fdiv B x.2) B = toQ x := by
  obtain ⟨k, rfl⟩ := hd
  have hk : k ≠ 0 := by rintro rfl; simp at hB
  rw [Int.fdiv_eq_ediv_of_nonneg _ (by omega), Int.mul_ediv_cancel_left _ (by omega)]
  exact Rat.divInt_mul_right hk
theorem divInt_add_same {a b d : Int} (hd : d ≠ 0) : Rat.divInt a d + Rat.divInt b d = Rat.divInt (a + b) d := by
  rw [Rat.divInt_add_divInt _ _ hd hd, ← Int.add_mul, Rat.divInt_mul_right hd]
/-- totals -/
def zadd (f : Int) (T r : List Int) : List Int := List.zipWith (fun t m => t + f * m) T r
def totF : List Int → List Int → List (List Int) → List Int
  | T, f :: fs, r :: rs => totF (if f ≠ 0 then zadd f T r else T) fs rs
  | T, _, _ => T
theorem zadd_len {f : Int} {T r : List Int} (h : r.length = T.length) : (zadd f T r).length = T.length := by
  rw [zadd, List.length_zipWith]; omega
theorem add_loop {f : List Int → Int × Int → W (Fl (List Int) (List Int) (List Fr))} {c : Int} (hf : ∀ s y, f s y = grd (ixOk s y.1) (grd (mulOk c y.2) (ret (.nx (s.set ((ixN s.length y.1).getD 0) (ixAt s y.1 + c * y.2)))))) : ∀ (r T P : List Int), r.length = T.length → (∀ m ∈ r, mulOk c m = true) → forW (δ := List Int) f (P ++ T) (enumF P.length r) = ret (.nx (P ++ zadd c T r))
  | [], [], P, _, _ => by simp [zadd]; rfl
  | [], _ :: _, _, h, _ => by simp at h
  | _ :: _, [], _, h, _ => by simp at h
  | m :: r, t :: T, P, h, hm => by
    show bnd (f (P ++ t :: T) ((P.length : Int), m)) _ = _
    have hl : ((P ++ t :: T).length) = P.length + (T.length + 1) := by simp
    have e : ixN (P ++ t :: T).length (P.length : Int) = some P.length := by
      rw [ixN_of (by omega) (by omega)]; simp
    rw [hf, grd_ok (show ixOk (P ++ t :: T) (P.length : Int) = true by unfold ixOk; rw [e]; rfl), grd_ok (hm m (List.mem_cons_self ..)), bnd_ret]
    have e1 : ixAt (P ++ t :: T) (P.length : Int) = t := by
      unfold ixAt; rw [e]; simp
    have e2 : (P ++ t :: T).set ((ixN (P ++ t :: T).length (P.length : Int)).getD 0) (ixAt (P ++ t :: T) (P.length : Int) + c * m) = (P ++ [t + c * m]) ++ T := by
      rw [e1, e]; simp
    have ih := add_loop hf r T (P ++ [t + c * m]) (by simpa using h) fun x hx => hm x (List.mem_cons_of_mem _ hx)
    have e3 : ((P ++ [t + c * m]).length : Int) = (P.length : Int) + 1 := by simp
    rw [e3] at ih
    show forW f ((P ++ t :: T).set ((ixN (P ++ t :: T).length (P.length : Int)).getD 0) (ixAt (P ++ t :: T) (P.length : Int) + c * m)) (enumF ((P.length : Int) + 1) r) = _
    rw [e2, ih]
    simp [zadd]
end Dc
namespace Dc
open PySem PySem.Spec L2
theorem flat_slice {α : Type} {size : Nat} : ∀ (rows : List (List α)) (i : Nat) (h : i < rows.length), (∀ r ∈ rows, r.length = size) → (rows.flatten.drop (i * size)).take size = rows[i]
  | [], _, h, _ => by simp at h
  | r :: rs, 0, _, hr => by
    have := hr r (List.mem_cons_self ..)
    rw [Nat.zero_mul, List.drop_zero, List.flatten_cons, List.take_append_of_le_length (by omega), List.take_of_length_le (by omega), List.getElem_cons_zero]
  | r :: rs, i + 1, h, hr => by
    have hl := hr r (List.mem_cons_self ..)
    have e : (i + 1) * size = r.length + i * size := by rw [hl, Nat.add_mul]; omega
    rw [List.flatten_cons, e, List.drop_append, List.drop_eq_nil_of_le (by omega), List.nil_append, Nat.add_sub_cancel_left, flat_slice rs i (by simpa using h) fun x hx => hr x (List.mem_cons_of_mem _ hx), List.getElem_cons_succ]
theorem flat_len {α : Type} {size : Nat} : ∀ (rows : List (List α)), (∀ r ∈ rows, r.length = size) → rows.flatten.length = rows.length * size
  | [], _ => by simp
  | r :: rs, h => by
    rw [List.flatten_cons, List.length_append, flat_len rs fun x hx => h x (List.mem_cons_of_mem _ hx), h r (List.mem_cons_self ..), List.length_cons, Nat.add_mul]; omega
/-- a line over a common denominator -/
def over_ (F : Int) (l : List Fr) : List Int := l.map fun x => x.1 * Int.fdiv F x.2
theorem numbers_of_eq {l : List Int} {b : Int} (h : b ≠ 0) (hb : b.natAbs < 2 ^ 9000) : w_numbers_of (l, b, ()) = ret (l.map fun t => ofQ (Rat.divInt t b)) := by
  unfold w_numbers_of wb_numbers_of
  simp only [bnd_ret, bnd_assoc, fnR_bnd, fnR_ret]
  rw [mapW_eq (g := fun t => ofQ (Rat.divInt t b)) fun z _ => lowest_eq h hb, bnd_ret]
theorem natpow_cast (n : Nat) : ((2 : Int) ^ n) = ((2 ^ n : Nat) : Int) := by simp
theorem pow_mono {a n m : Nat} (h : a < 2 ^ n) (hnm : n ≤ m) : a < 2 ^ m := Nat.lt_of_lt_of_le h (Nat.pow_le_pow_right (by decide) hnm)
theorem sz_low {a b : Int} {n : Nat} (h : b ≠ 0) (ha : a.natAbs < 2 ^ n) (hb : b.natAbs < 2 ^ n) : Sz n (ofQ (Rat.divInt a b)) := by
  have := low_le (a := a) h
  exact ⟨by omega, by omega⟩
def toF (D t : Int) : Fr := ofQ (Rat.divInt t D)
end Dc
namespace Dc
open PySem PySem.Spec L2
theorem rng_loop {σ α β γ δ : Type} {R : σ → γ} {f : γ → Int → W (Fl γ γ β)} {g : σ → α → σ} {I : Nat → σ → Prop} : ∀ (xs : List α) (k : Nat) (s : σ), I k s →
    (∀ (i : Nat) (h : i < xs.length) (s : σ), I (k + i) s → f (R s) ((k + i : Nat) : Int) = ret (.nx (R (g s xs[i]))) ∧ I (k + i + 1) (g s xs[i])) →
    forW (δ := δ) f (R s) (rangeF (k : Int) xs.length) = ret (.nx (R (xs.foldl g s))) ∧ I (k + xs.length) (xs.foldl g s)
  | [], k, s, h0, _ => ⟨rfl, h0⟩
  | x :: r, k, s, h0, h => by
    obtain ⟨e, i⟩ := h 0 (by simp) s h0
    rw [show k + 0 = k by omega] at e
    have ih := rng_loop (δ := δ) (R := R) (f := f) (g := g) (I := I) r (k + 1) (g s x) i fun i hi s hs => by
      have := h (i + 1) (by simp; omega) s (by rw [show k + (i + 1) = k + 1 + i by omega]; exact hs)
      rw [show k + (i + 1) = k + 1 + i by omega] at this
      simpa using this
    rw [show k + (x :: r).length = k + 1 + r.length by simp; omega]
    refine ⟨?_, ih.2⟩
    show bnd (f (R s) (k : Int)) _ = _
    rw [e, bnd_ret]
    have e2 : ((k : Int) + 1) = ((k + 1 : Nat) : Int) := by simp
    show forW f (R (g s x)) (rangeF ((k : Int) + 1) r.length) = _
    rw [e2]
    exact ih.1
theorem ix_nat {α : Type} [Inhabited α] {l : List α} {i : Nat} (h : i < l.length) : ixOk l (i : Int) = true ∧ ixAt l (i : Int) = l[i] := by
  have e : ixN l.length (i : Int) = some i := by rw [ixN_of (by omega) (by omega)]; simp
  refine ⟨by unfold ixOk; rw [e]; rfl, ?_⟩
  unfold ixAt
  rw [e, Option.getD_some, List.getD_eq_getElem?_getD, List.getElem?_eq_getElem h]
  rfl
/-- totals, step by step -/
def stp (c : Int) (T r : List Int) : List Int := if c ≠ 0 then zadd c T r else T
def inn (a : Int) (b : List Int) (T : List Int) (P : List (List Int)) : List Int := (b.zip P).foldl (fun T z => stp (a * z.1) T z.2) T
def tot (a b : List Int) (P : List (List (List Int))) (T : List Int) : List Int := (a.zip P).foldl (fun T z => inn z.1 b T z.2) T
theorem stp_len {c : Int} {T r : List Int} (h : r.length = T.length) : (stp c T r).length = T.length := by
  unfold stp
  split
  · exact zadd_len h
  · rfl
/-- n lists of n lists of n -/
structure Cub {α : Type} (n : Nat) (P : List (List (List α))) : Prop where
  len : P.length = n
  row : ∀ r ∈ P, r.length = n
  lin : ∀ r ∈ P, ∀ l ∈ r, l.length = n
theorem rngOk_n {n : Nat} (h : n ≤ 1000000) : rngOk 0 (n : Int) = true := by simp [rngOk]; omega
theorem flat_at {α : Type} {n : Nat} : ∀ (P : List (List α)) (i j : Nat) (hi : i < P.length) (hj : j < P[i].length), (∀ r ∈ P, r.length = n) → ∃ h : i * n + j < P.flatten.length, P.flatten[i * n + j] = P[i][j]
  | [], _, _, hi, _, _ => by simp at hi
  | r :: t, 0, j, hi, hj, hr => by
    have hj' : j < r.length := hj
    refine ⟨by rw [List.flatten_cons, List.length_append]; omega, ?_⟩
    simp only [Nat.zero_mul, Nat.zero_add, List.flatten_cons]
    rw [List.getElem_append_left hj']
    rfl
  | r :: t, i + 1, j, hi, hj, hr => by
    have hl := hr r (List.mem_cons_self ..)
    obtain ⟨h, e⟩ := flat_at t i j (by simpa using hi) (by simpa using hj) fun q hq => hr q (List.mem_cons_of_mem _ hq)
    have e2 : (i + 1) * n + j = r.length + (i * n + j) := by rw [hl, Nat.add_mul]; omega
    refine ⟨by rw [List.flatten_cons, List.length_append]; omega, ?_⟩
    simp only [e2, List.flatten_cons]
    rw [List.getElem_append_right (by omega)]
    simp only [Nat.add_sub_cancel_left]
    exact e
theorem pwc_loop {n : Nat} {a b : List Int} {P : List (List (List Int))} (hn : n ≤ 1000) (ha : a.length = n) (hb : b.length = n) (hP : Cub n P) (ba : ∀ u ∈ a, u.natAbs < 2 ^ 4000) (bb : ∀ u ∈ b, u.natAbs < 2 ^ 4000) (bP : ∀ r ∈ P, ∀ l ∈ r, ∀ c ∈ l, c.natAbs < 2 ^ 8000) {f : List Int → Int → W (Fl (List Int) (List Int) (List Fr))}
    (hf : ∀ s y, f s y = grd (rngOk 0 (n : Int)) (bnd (forW (fun s2 y2 => grd (ixOk a y) (grd (ixOk b y2) (grd (mulOk (ixAt a y) (ixAt b y2)) (bnd (ite (!decide (ixAt a y * ixAt b y2 = 0)) (grd (mulOk y (n : Int)) (grd (ixOk P.flatten (y * (n : Int) + y2)) (bnd (forW (fun s3 y3 => grd (ixOk s3 y3.1) (grd (mulOk (ixAt a y * ixAt b y2) y3.2) (ret (Fl.nx (s3.set ((ixN s3.length y3.1).getD 0) (ixAt s3 y3.1 + ixAt a y * ixAt b y2 * y3.2)))))) s2 (enumF 0 (ixAt P.flatten (y * (n : Int) + y2)))) (sq fun s => ret (Fl.nx s))))) (ret (Fl.nx s2))) (sq fun s => ret (Fl.nx s)))))) s (rangeF 0 (n : Int).toNat)) (sq fun s => ret (Fl.nx s)))) :
    forW (δ := Empty) f (List.replicate n 0) (rangeF 0 (n : Int).toNat) = ret (.nx (tot a b P (List.replicate n 0))) ∧ (tot a b P (List.replicate n 0)).length = n := by
  have lz : (a.zip P).length = n := by rw [List.length_zip, ha, hP.len]; omega
  have key := rng_loop (δ := Empty) (R := fun T => T) (f := f) (g := fun T (z : Int × List (List Int)) => inn z.1 b T z.2) (I := fun _ T => T.length = n) (a.zip P) 0 (List.replicate n 0) (List.length_replicate ..) fun i hi T hT => ?_
  · rw [lz] at key
    exact key
  · rw [Nat.zero_add]
    rw [lz] at hi
    have hia : i < a.length := by omega
    have hiP : i < P.length := by rw [hP.len]; exact hi
    have lb : (b.zip P[i]).length = n := by rw [List.length_zip, hb, hP.row _ (List.getElem_mem hiP)]; omega
    rw [List.getElem_zip, hf, grd_ok (rngOk_n (by omega))]
    have k2 := rng_loop (δ := List Int) (R := fun T => T) (g := fun T (z : Int × List Int) => stp (a[i] * z.1) T z.2) (I := fun _ T => T.length = n) (f := fun s2 y2 => grd (ixOk a (i : Int)) (grd (ixOk b y2) (grd (mulOk (ixAt a (i : Int)) (ixAt b y2)) (bnd (ite (!decide (ixAt a (i : Int) * ixAt b y2 = 0)) (grd (mulOk (i : Int) (n : Int)) (grd (ixOk P.flatten ((i : Int) * (n : Int) + y2)) (bnd (forW (fun s3 y3 => grd (ixOk s3 y3.1) (grd (mulOk (ixAt a (i : Int) * ixAt b y2) y3.2) (ret (Fl.nx (s3.set ((ixN s3.length y3.1).getD 0) (ixAt s3 y3.1 + ixAt a (i : Int) * ixAt b y2 * y3.2)))))) s2 (enumF 0 (ixAt P.flatten ((i : Int) * (n : Int) + y2)))) (sq fun s => ret (Fl.nx s))))) (ret (Fl.nx s2))) (sq fun s => ret (Fl.nx s)))))) (β := List Fr)
      (b.zip P[i]) 0 T hT fun j hj T2 hT2 => ?_
    · rw [lb] at k2
      refine ⟨?_, k2.2⟩
      have e := k2.1
      refine (congrArg (fun z => bnd z _) e).trans ?_
      rfl
    · rw [Nat.zero_add]
      rw [lb] at hj
      have hjb : j < b.length := by omega
      have hjP : j < P[i].length := by rw [hP.row _ (List.getElem_mem hiP)]; exact hj
      have hl := hP.lin _ (List.getElem_mem hiP) _ (List.getElem_mem hjP)
      obtain ⟨hf1, hf2⟩ := flat_at (n := n) P i j hiP hjP hP.row
      have ea := ix_nat hia
      have eb := ix_nat hjb
      have ep := ix_nat hf1
      have en : ((i : Int) * (n : Int) + (j : Int)) = ((i * n + j : Nat) : Int) := by simp
      rw [List.getElem_zip]
      refine ⟨?_, ?_⟩
      · rw [grd_ok ea.1, grd_ok eb.1, ea.2, eb.2, grd_ok (mulOk_of (ba _ (List.getElem_mem hia)) (bb _ (List.getElem_mem hjb))), en, ep.2, hf2]
        by_cases q : a[i] * b[j] = 0
        · rw [ite_no (by simp [q]), bnd_ret, sq_nx]
          show _ = ret (Fl.nx (stp (a[i] * b[j]) T2 P[i][j]))
          rw [stp, if_neg (by simp [q])]
        · rw [ite_ok (by simp [q]), grd_ok (mulOk_of (n := 64) (m := 64) (by omega) (by omega)), grd_ok ep.1]
          have al := add_loop (f := fun s3 y3 => grd (ixOk s3 y3.1) (grd (mulOk (a[i] * b[j]) y3.2) (ret (Fl.nx (s3.set ((ixN s3.length y3.1).getD 0) (ixAt s3 y3.1 + a[i] * b[j] * y3.2)))))) (c := a[i] * b[j]) (fun _ _ => rfl) P[i][j] T2 [] (by rw [hl, hT2]) fun m hm =>
            mulOk_of (n := 8000) (m := 8000) (by rw [Int.natAbs_mul]; exact mul_lt_pow (n := 4000) (m := 4000) (ba _ (List.getElem_mem hia)) (bb _ (List.getElem_mem hjb))) (bP _ (List.getElem_mem hiP) _ (List.getElem_mem hjP) m hm)
          refine (congrArg (fun z => bnd (bnd z _) _) al).trans ?_
          show ret (Fl.nx (zadd (a[i] * b[j]) T2 P[i][j])) = ret (Fl.nx (stp (a[i] * b[j]) T2 P[i][j]))
          rw [stp, if_pos q]
      · show (stp (a[i] * b[j]) T2 P[i][j]).length = n
        rw [stp_len (by rw [hl, hT2]), hT2]
end Dc
namespace Dc
open PySem PySem.Spec L2
structure Bd (k : Nat) (x : Fr) : Prop where
  red : Red x
  sz : Sz k x
theorem Bd.up {k m : Nat} {x : Fr} (h : Bd k x) (hk : k ≤ m) : Bd m x := ⟨h.red, pow_mono h.sz.1 hk, pow_mono h.sz.2 hk⟩
theorem Bd.ne {k : Nat} {x : Fr} (h : Bd k x) : x.2 ≠ 0 := red_ne h.red
theorem Num.bd {g : Bool} {x : Fr} (h : Num g x) : Bd 14 x := ⟨h.red, by have := h.up; show x.1.natAbs < 2 ^ 14; omega, by have := h.dn; show x.2.natAbs < 2 ^ 14; omega⟩
theorem bd_ofQ {a b : Int} {k : Nat} (h : b ≠ 0) (ha : a.natAbs < 2 ^ k) (hb : b.natAbs < 2 ^ k) : Bd k (ofQ (Rat.divInt a b)) := ⟨red_ofQ _, sz_low h ha hb⟩
theorem lcmL_le {k : Nat} : ∀ (l : List Fr) (s : Int), 0 < s → (∀ x ∈ l, Bd k x) → (l.foldl (fun s x => ((Nat.lcm s.natAbs x.2.natAbs : Nat) : Int)) s).natAbs ≤ s.natAbs * 2 ^ (k * l.length)
  | [], s, _, _ => by simp
  | x :: r, s, hs, h => by
    have hx := h x (List.mem_cons_self ..)
    have h1 := hx.red.1
    have hp : 0 < ((Nat.lcm s.natAbs x.2.natAbs : Nat) : Int) := by
      have := Nat.lcm_pos (m := s.natAbs) (n := x.2.natAbs) (by omega) (by omega)
      omega
    have ih := lcmL_le r _ hp fun y hy => h y (List.mem_cons_of_mem _ hy)
    refine Nat.le_trans ih ?_
    have e : k * (x :: r).length = k + k * r.length := by simp [Nat.mul_add]; omega
    rw [e, Nat.pow_add, ← Nat.mul_assoc, Int.natAbs_natCast]
    refine Nat.mul_le_mul_right _ ?_
    refine Nat.le_trans (Nat.le_of_dvd (Nat.mul_pos (by omega) (by omega)) (Nat.lcm_dvd_mul _ _)) (Nat.mul_le_mul_left _ (Nat.le_of_lt hx.sz.2))
theorem lcmL_bd {k : Nat} {l : List Fr} (h : ∀ x ∈ l, Bd k x) : (lcmL l).natAbs ≤ 2 ^ (k * l.length) := by
  have := lcmL_le l 1 (by decide) h
  rw [show (1 : Int).natAbs = 1 from rfl, Nat.one_mul] at this
  exact this
theorem lcmL_lt {k n m : Nat} {l : List Fr} (h : ∀ x ∈ l, Bd k x) (hl : l.length ≤ n) (hm : k * n < m := by decide) : (lcmL l).natAbs < 2 ^ m :=
  Nat.lt_of_le_of_lt (Nat.le_trans (lcmL_bd h) (Nat.pow_le_pow_right (by decide) (Nat.mul_le_mul_left k hl))) (Nat.pow_lt_pow_right (by decide) hm)
theorem lcmL_z {l : List Fr} {m : Nat} (h : (lcmL l).natAbs < 2 ^ m) (hm : m ≤ 13000 := by decide) : lcmL l < 2 ^ 13000 := by
  have := pow_mono h hm
  rw [natpow_cast]
  omega
/-- a number over a common denominator -/
theorem ov_lt {k m : Nat} {x : Fr} {F : Int} (hx : Bd k x) (hF : F.natAbs < 2 ^ m) (h0 : 0 < F) : (x.1 * Int.fdiv F x.2).natAbs < 2 ^ (k + m) := by
  rw [Int.natAbs_mul]
  refine mul_lt_pow hx.sz.1 ?_
  have := hx.red.1
  rw [Int.fdiv_eq_ediv_of_nonneg _ (by omega)]
  have := Int.natAbs_ediv_le_natAbs F x.2
  omega
theorem pwc_eq {n m : Nat} {x y : List Fr} {PI : List (List (List Int))} {below : Int} {pr : List (List (List Fr))} (hn : n ≤ 6) (hx : x.length = n) (hy : y.length = n) (bx : ∀ z ∈ x, Bd 64 z) (by_ : ∀ z ∈ y, Bd 64 z) (hP : Cub n PI) (bP : ∀ r ∈ PI, ∀ l ∈ r, ∀ c ∈ l, c.natAbs < 2 ^ 8000) (h0 : 0 < below) (hb : below.natAbs < 2 ^ 6100) :
    w_Table_product_without_checks ((PI.flatten, below, pr, ()), x, y, ()) = ret ((tot (intsL x) (intsL y) PI (List.replicate n 0)).map (toF (lcmL x * lcmL y * below))) := by
  have rx : ∀ z ∈ x, Red z := fun z hz => (bx z hz).red
  have ry : ∀ z ∈ y, Red z := fun z hz => (by_ z hz).red
  have zx : (lcmL x).natAbs < 2 ^ 400 := lcmL_lt (n := 6) bx (by omega)
  have zy : (lcmL y).natAbs < 2 ^ 400 := lcmL_lt (n := 6) by_ (by omega)
  have px := lcmL_pos rx
  have py := lcmL_pos ry
  have ia : (intsL x).length = n := by rw [intsL, List.length_map, hx]
  have ib : (intsL y).length = n := by rw [intsL, List.length_map, hy]
  unfold w_Table_product_without_checks wb_Table_product_without_checks
  simp only [bnd_ret, bnd_assoc, bnd_grd, grd_true, fnR_bnd, fnR_ite, fnR_grd, fnR_ret, sq_nx, sq_rt]
  rw [integers_of_eq rx (fun z hz => ((bx z hz).up (by decide)).sz) (lcmL_z zx), bnd_ret, integers_of_eq ry (fun z hz => ((by_ z hz).up (by decide)).sz) (lcmL_z zy), bnd_ret]
  dsimp only
  rw [ia, grd_ok (show repOk ([0] : List Int).length (n : Int) = true from repOk1 (by omega) (by omega)), grd_ok (rngOk_n (by omega)), flat1]
  have L := pwc_loop (n := n) (a := intsL x) (b := intsL y) (P := PI) (by omega) ia ib hP (fun u hu => by
    obtain ⟨z, hz, rfl⟩ := List.mem_map.mp hu
    exact pow_mono (ov_lt (bx z hz) zx px) (by decide)) (fun u hu => by
    obtain ⟨z, hz, rfl⟩ := List.mem_map.mp hu
    exact pow_mono (ov_lt (by_ z hz) zy py) (by decide)) bP (fun s y => rfl)
  have e : (n : Int).toNat = n := Int.toNat_natCast n
  rw [show List.replicate (n : Int).toNat (0 : Int) = List.replicate n 0 by rw [e]]
  refine (congrArg (fun z => bnd z _) L.1).trans ?_
  rw [bnd_ret, sq_nx]
  have m1 : (lcmL x * lcmL y).natAbs < 2 ^ 800 := by rw [Int.natAbs_mul]; exact mul_lt_pow zx zy
  have m2 : (lcmL x * lcmL y * below).natAbs < 2 ^ 6900 := by rw [Int.natAbs_mul]; exact mul_lt_pow m1 hb
  rw [grd_ok (mulOk_of zx zy), grd_ok (mulOk_of m1 hb), numbers_of_eq (Int.mul_ne_zero (Int.mul_ne_zero (by omega) (by omega)) (by omega)) (pow_mono m2 (by decide)), bnd_ret, fnR_ret]
  rfl
theorem den_dvd {a b : Int} (h : 0 < b) : (ofQ (Rat.divInt a b)).2 ∣ b := by
  rw [← low_pos h]
  have d : (((Nat.gcd a.natAbs b.natAbs : Nat) : Int)) ∣ b := Int.natAbs_dvd_natAbs.mp (by rw [Int.natAbs_natCast]; exact Nat.gcd_dvd_right ..)
  exact ⟨_, (Int.ediv_mul_cancel d).symm⟩
theorem fee_eq {x y : Fr} {A B : Int} (hx : Red x) (hy : Red y) (hA : 0 < A) (hB : 0 < B) (dx : x.2 ∣ A) (dy : y.2 ∣ B) : (ofQ (toQ x * toQ y)).2 ∣ A * B ∧ (ofQ (toQ x * toQ y)).1 * Int.fdiv (A * B) (ofQ (toQ x * toQ y)).2 = (x.1 * Int.fdiv A x.2) * (y.1 * Int.fdiv B y.2) := by
  have hAB : 0 < A * B := Int.mul_pos hA hB
  have d : (ofQ (toQ x * toQ y)).2 ∣ A * B := by
    rw [← toQ_mul]
    exact Int.dvd_trans (den_dvd (Int.mul_pos (by have := hx.1; omega) (by have := hy.1; omega))) (Int.mul_dvd_mul dx dy)
  refine ⟨d, ?_⟩
  have e := over (x := ofQ (toQ x * toQ y)) (red_ofQ _).1 hAB d
  rw [toQ_ofQ] at e
  have e2 : toQ x * toQ y = Rat.divInt ((x.1 * Int.fdiv A x.2) * (y.1 * Int.fdiv B y.2)) (A * B) := by rw [← over hx.1 hA dx, ← over hy.1 hB dy, Rat.divInt_mul_divInt]
  have hne : A * B ≠ 0 := by omega
  have q := (Rat.divInt_eq_divInt_iff hne hne).mp (e.trans e2)
  exact Int.eq_of_mul_eq_mul_right hne q
theorem due_cell {fee x : Fr} {t C F : Int} (hf : Bd 300 fee) (hx : Bd 300 x) (hC : 0 < C) (hF : 0 < F) (dC : fee.2 ∣ C) (dF : x.2 ∣ F) (ht : t.natAbs < 2 ^ 8000) (hD : (C * F).natAbs < 2 ^ 8000) :
    ite (decide (x.1 = 0)) (ret (ofQ (Rat.divInt t (C * F)))) (bnd (w_law_mul (fee, x, ())) fun u => w_law_add (ofQ (Rat.divInt t (C * F)), u, ())) = ret (ofQ (Rat.divInt (t + (fee.1 * Int.fdiv C fee.2) * (x.1 * Int.fdiv F x.2)) (C * F))) := by
  have hD0 : C * F ≠ 0 := Int.mul_ne_zero (by omega) (by omega)
  by_cases q : x.1 = 0
  · rw [ite_ok (by simp [q]), q, Int.zero_mul, Int.mul_zero, Int.add_zero]
  · rw [ite_no (by simp [q]), law_mul_eq hf.ne hx.ne (hf.up (by decide)).sz (hx.up (by decide)).sz, bnd_ret]
    have s2 : Sz 600 (ofQ (toQ fee * toQ x)) := by
      rw [← toQ_mul]
      exact sz_low (Int.mul_ne_zero hf.ne hx.ne) (by rw [Int.natAbs_mul]; exact pow_mono (mul_lt_pow hf.sz.1 hx.sz.1) (by decide)) (by rw [Int.natAbs_mul]; exact pow_mono (mul_lt_pow hf.sz.2 hx.sz.2) (by decide))
    have s1 : Sz 8000 (ofQ (Rat.divInt t (C * F))) := sz_low hD0 ht hD
    rw [law_add_gen (red_ne (red_ofQ _)) (red_ne (red_ofQ _)) (pow_mono s1.1 (by decide)) (pow_mono s2.1 (by decide)) (pow_mono (mul_lt_pow s1.2 s2.2) (by decide)), toQ_ofQ, toQ_ofQ, ← over (x := fee) hf.red.1 hC dC, ← over (x := x) hx.red.1 hF dF, Rat.divInt_mul_divInt, divInt_add_same hD0]
theorem due_row {fee : Fr} {C F : Int} (hf : Bd 300 fee) (hC : 0 < C) (hF : 0 < F) (dC : fee.2 ∣ C) (hD : (C * F).natAbs < 2 ^ 8000) : ∀ (T : List Int) (line : List Fr), line.length = T.length → (∀ x ∈ line, Bd 300 x ∧ x.2 ∣ F) → (∀ t ∈ T, t.natAbs < 2 ^ 8000) →
    mapW (fun y1 : Fr × Fr => ite (decide (y1.2.1 = 0)) (ret y1.1) (bnd (w_law_mul (fee, y1.2, ())) fun u => w_law_add (y1.1, u, ()))) ((T.map (toF (C * F))).zip line) = ret ((zadd (fee.1 * Int.fdiv C fee.2) T (over_ F line)).map (toF (C * F)))
  | [], [], _, _, _ => rfl
  | [], _ :: _, h, _, _ => by simp at h
  | _ :: _, [], h, _, _ => by simp at h
  | t :: T, x :: line, h, hx, ht => by
    have h1 := hx x (List.mem_cons_self ..)
    have c := due_cell hf h1.1 hC hF dC h1.2 (ht t (List.mem_cons_self ..)) hD
    show bnd (ite (decide (x.1 = 0)) (ret (toF (C * F) t)) (bnd (w_law_mul (fee, x, ())) fun u => w_law_add (toF (C * F) t, u, ()))) _ = _
    unfold toF at c ⊢
    rw [c, bnd_ret]
    have ih := due_row hf hC hF dC hD T line (by simpa using h) (fun y hy => hx y (List.mem_cons_of_mem _ hy)) (fun y hy => ht y (List.mem_cons_of_mem _ hy))
    unfold toF at ih
    change bnd (mapW _ ((T.map fun t => ofQ (Rat.divInt t (C * F))).zip line)) _ = _
    rw [ih, bnd_ret]
    rfl
theorem zadd_small {f : Int} {T r : List Int} {k B : Nat} (hT : ∀ t ∈ T, t.natAbs ≤ k * B) (hr : ∀ m ∈ r, (f * m).natAbs ≤ B) : ∀ t ∈ zadd f T r, t.natAbs ≤ (k + 1) * B := fun t ht => by
  unfold zadd at ht
  rw [← List.map_uncurry_zip_eq_zipWith] at ht
  obtain ⟨⟨a, m⟩, hz, rfl⟩ := List.mem_map.mp ht
  have h1 := hT a (List.of_mem_zip hz).1
  have h2 := hr m (List.of_mem_zip hz).2
  show (a + f * m).natAbs ≤ _
  have := Int.natAbs_add_le a (f * m)
  rw [Nat.add_mul]
  omega
theorem stp_small {f : Int} {T r : List Int} {k B : Nat} (hT : ∀ t ∈ T, t.natAbs ≤ k * B) (hr : ∀ m ∈ r, (f * m).natAbs ≤ B) : ∀ t ∈ stp f T r, t.natAbs ≤ (k + 1) * B := fun t ht => by
  unfold stp at ht
  split at ht
  · exact zadd_small hT hr t ht
  · exact Nat.le_trans (hT t ht) (Nat.mul_le_mul_right _ (by omega))
end Dc
namespace Dc
open PySem PySem.Spec L2
def lcmP (P : List (List (List Fr))) : Int := lcmL P.flatten.flatten
def ovP (P : List (List (List Fr))) : List (List (List Int)) := P.map fun r => r.map (over_ (lcmP P))
def prodL (P : List (List (List Fr))) (x y : List Fr) : List Fr := (tot (intsL x) (intsL y) (ovP P) (List.replicate P.length 0)).map (toF (lcmL x * lcmL y * lcmP P))
/-- the products of a table -/
structure Tb (n : Nat) (P : List (List (List Fr))) : Prop where
  cub : Cub n P
  num : ∀ r ∈ P, ∀ l ∈ r, ∀ x ∈ l, Bd 300 x
  lcmb : (lcmP P).natAbs < 2 ^ 6100
/-- a row -/
structure Rw (n : Nat) (x : List Fr) : Prop where
  len : x.length = n
  bd : ∀ z ∈ x, Bd 64 z
theorem Rw.red {n : Nat} {x : List Fr} (h : Rw n x) : ∀ z ∈ x, Red z := fun z hz => (h.bd z hz).red
theorem Tb.flat {n : Nat} {P : List (List (List Fr))} (h : Tb n P) : ∀ x ∈ P.flatten.flatten, Bd 300 x := fun x hx => by
  obtain ⟨l, hl, hx⟩ := List.mem_flatten.mp hx
  obtain ⟨r, hr, hl⟩ := List.mem_flatten.mp hl
  exact h.num r hr l hl x hx
theorem Tb.flen {n : Nat} {P : List (List (List Fr))} (h : Tb n P) : P.flatten.length = n * n := by rw [flat_len P h.cub.row, h.cub.len]
theorem Tb.fflen {n : Nat} {P : List (List (List Fr))} (h : Tb n P) : P.flatten.flatten.length = n * n * n := by
  rw [flat_len P.flatten (fun l hl => by
    obtain ⟨r, hr, hl⟩ := List.mem_flatten.mp hl
    exact h.cub.lin r hr l hl), h.flen]
theorem cube_le {n : Nat} (h : n ≤ 6) : n * n * n ≤ 216 := Nat.mul_le_mul (Nat.mul_le_mul h h) h
theorem Tb.lcm {n : Nat} {P : List (List (List Fr))} (h : Tb n P) (hn : n ≤ 6) : (lcmP P).natAbs < 2 ^ 6100 := h.lcmb
theorem Tb.pos {n : Nat} {P : List (List (List Fr))} (h : Tb n P) : 0 < lcmP P := lcmL_pos fun x hx => (h.flat x hx).red
theorem Tb.dvd {n : Nat} {P : List (List (List Fr))} (h : Tb n P) : ∀ r ∈ P, ∀ l ∈ r, ∀ x ∈ l, x.2 ∣ lcmP P := fun r hr l hl x hx => lcmL_dvd (fun x hx => (h.flat x hx).red) (List.mem_flatten.mpr ⟨l, List.mem_flatten.mpr ⟨r, hr, hl⟩, hx⟩)
theorem Tb.ov {n : Nat} {P : List (List (List Fr))} (h : Tb n P) : Cub n (ovP P) := by
  refine ⟨by rw [ovP, List.length_map, h.cub.len], fun r hr => ?_, fun r hr l hl => ?_⟩
  · obtain ⟨q, hq, rfl⟩ := List.mem_map.mp hr
    rw [List.length_map, h.cub.row q hq]
  · obtain ⟨q, hq, rfl⟩ := List.mem_map.mp hr
    obtain ⟨m, hm, rfl⟩ := List.mem_map.mp hl
    rw [over_, List.length_map, h.cub.lin q hq m hm]
theorem Tb.ovlt {n : Nat} {P : List (List (List Fr))} (h : Tb n P) (hn : n ≤ 6) : ∀ r ∈ ovP P, ∀ l ∈ r, ∀ c ∈ l, c.natAbs < 2 ^ 6400 := fun r hr l hl c hc => by
  obtain ⟨q, hq, rfl⟩ := List.mem_map.mp hr
  obtain ⟨m, hm, rfl⟩ := List.mem_map.mp hl
  obtain ⟨x, hx, rfl⟩ := List.mem_map.mp hc
  exact ov_lt (h.num q hq m hm x hx) (h.lcm hn) h.pos
/-- the table's product -/
theorem table_mul {n : Nat} {P : List (List (List Fr))} {x y : List Fr} (h : Tb n P) (hn : n ≤ 6) (hx : Rw n x) (hy : Rw n y) : w_Table_product_without_checks (((ovP P).flatten, lcmP P, P, ()), x, y, ()) = ret (prodL P x y) := by
  rw [pwc_eq (m := 0) hn hx.len hy.len hx.bd hy.bd h.ov (fun r hr l hl c hc => pow_mono (h.ovlt hn r hr l hl c hc) (by decide)) h.pos (pow_mono (h.lcm hn) (by decide)), prodL, h.cub.len]
theorem check_rows_eq {rows : List (List Fr)} {n : Nat} (h : ∀ r ∈ rows, Rw n r) : w_check_rows (rows, (n : Int), ()) = ret () := by
  unfold w_check_rows wb_check_rows
  simp only [bnd_ret, bnd_assoc, bnd_grd, bnd_ifs, grd_true]
  rw [forW_eq (g := fun _ _ => ()) (fun r hr s => by
    rw [check_numbers_eq (h r hr).red, bnd_ret]), bnd_ret, sq_nx, forW_eq (g := fun _ _ => ()) (fun r hr s => by
    rw [ite_no (by simp [(h r hr).len])]), bnd_ret]
  rfl
theorem table_call {n : Nat} {P : List (List (List Fr))} {x y : List Fr} (h : Tb n P) (hn : n ≤ 6) (hx : Rw n x) (hy : Rw n y) : w_Table_call (((ovP P).flatten, lcmP P, P, ()), x, y, ()) = ret (prodL P x y) := by
  unfold w_Table_call wb_Table_call
  simp only [bnd_ret, bnd_assoc, bnd_grd, grd_true, fnR_bnd, fnR_ret]
  rw [h.cub.len, check_rows_eq (n := n) (fun r hr => by
    simp only [List.mem_cons, List.not_mem_nil, or_false] at hr
    rcases hr with rfl | rfl
    · exact hx
    · exact hy), bnd_ret, table_mul h hn hx hy, bnd_ret]
/-- the law's product -/
theorem times_step {n : Nat} {P : List (List (List Fr))} {x y : List Fr} (h : Tb n P) (hn : n ≤ 6) (hx : Rw n x) (hy : Rw n y) (i j : Nat) (hi : i < n) (hj : j < n) (T : List Int) (hT : T.length = n) (k : Nat) (hk : k ≤ 36) (bT : ∀ t ∈ T, t.natAbs ≤ k * 2 ^ 7340) (hia : i < x.length) (hjb : j < y.length) (hiP : i < P.length) (hjP : j < P[i].length) :
    bnd (w_law_mul (x[i], y[j], ())) (fun v => bnd (ite (!decide (v.1 = 0)) (bnd (mapW (fun y1 : Fr × Fr => ite (decide (y1.2.1 = 0)) (ret y1.1) (bnd (w_law_mul (v, y1.2, ())) fun u => w_law_add (y1.1, u, ()))) ((T.map (toF (lcmL x * lcmL y * lcmP P))).zip P[i][j])) fun w => ret (Fl.nx w)) (ret (Fl.nx (T.map (toF (lcmL x * lcmL y * lcmP P)))))) (sq fun s => ret (Fl.nx s)))
      = (ret (Fl.nx ((stp ((x[i].1 * Int.fdiv (lcmL x) x[i].2) * (y[j].1 * Int.fdiv (lcmL y) y[j].2)) T (over_ (lcmP P) P[i][j])).map (toF (lcmL x * lcmL y * lcmP P)))) : W (Fl (List Fr) (List Fr) (List Fr))) ∧ ∀ t ∈ stp ((x[i].1 * Int.fdiv (lcmL x) x[i].2) * (y[j].1 * Int.fdiv (lcmL y) y[j].2)) T (over_ (lcmP P) P[i][j]), t.natAbs ≤ (k + 1) * 2 ^ 7340 := by
  have bx := hx.bd _ (List.getElem_mem hia)
  have by_ := hy.bd _ (List.getElem_mem hjb)
  have zx : (lcmL x).natAbs < 2 ^ 400 := lcmL_lt (n := 6) hx.bd (by have := hx.len; omega)
  have zy : (lcmL y).natAbs < 2 ^ 400 := lcmL_lt (n := 6) hy.bd (by have := hy.len; omega)
  have zP := h.lcm hn
  have px := lcmL_pos hx.red
  have py := lcmL_pos hy.red
  have pP := h.pos
  have dx := lcmL_dvd hx.red (List.getElem_mem hia)
  have dy := lcmL_dvd hy.red (List.getElem_mem hjb)
  obtain ⟨fd, fe⟩ := fee_eq bx.red by_.red px py dx dy
  have hC : 0 < lcmL x * lcmL y := Int.mul_pos px py
  have zC : (lcmL x * lcmL y).natAbs < 2 ^ 800 := by rw [Int.natAbs_mul]; exact mul_lt_pow zx zy
  have hD : (lcmL x * lcmL y * lcmP P).natAbs < 2 ^ 8000 := by rw [Int.natAbs_mul]; exact pow_mono (mul_lt_pow zC zP) (by decide)
  have bf : Bd 300 (ofQ (toQ x[i] * toQ y[j])) := by
    rw [← toQ_mul]
    exact bd_ofQ (Int.mul_ne_zero bx.ne by_.ne) (by rw [Int.natAbs_mul]; exact pow_mono (mul_lt_pow bx.sz.1 by_.sz.1) (by decide)) (by rw [Int.natAbs_mul]; exact pow_mono (mul_lt_pow bx.sz.2 by_.sz.2) (by decide))
  rw [law_mul_eq bx.ne by_.ne (bx.up (by decide)).sz (by_.up (by decide)).sz, bnd_ret, ← fe]
  have hl := h.cub.lin _ (List.getElem_mem hiP) _ (List.getElem_mem hjP)
  have hline : ∀ z ∈ P[i][j], Bd 300 z ∧ z.2 ∣ lcmP P := fun z hz => ⟨h.num _ (List.getElem_mem hiP) _ (List.getElem_mem hjP) z hz, h.dvd _ (List.getElem_mem hiP) _ (List.getElem_mem hjP) z hz⟩
  have tT : ∀ t ∈ T, t.natAbs < 2 ^ 8000 := fun t ht => by
    have b1 := bT t ht
    have b2 : k * 2 ^ 7340 < 2 ^ (6 + 7340) := by
      rw [Nat.pow_add]
      exact (Nat.mul_lt_mul_right (Nat.pow_pos (by decide))).mpr (by omega)
    exact pow_mono (Nat.lt_of_le_of_lt b1 b2) (by decide)
  generalize hfee : ofQ (toQ x[i] * toQ y[j]) = fee at *
  have cz : fee.1 * Int.fdiv (lcmL x * lcmL y) fee.2 ≠ 0 ↔ fee.1 ≠ 0 := by
    obtain ⟨q, hq⟩ := fd
    have q0 : q ≠ 0 := by rintro rfl; simp at hq; omega
    rw [hq, Int.fdiv_eq_ediv_of_nonneg _ (by have := bf.red.1; omega), Int.mul_ediv_cancel_left _ bf.ne]
    constructor
    · intro z y; exact z (by rw [y, Int.zero_mul])
    · intro z; exact Int.mul_ne_zero z q0
  refine ⟨?_, stp_small bT fun m hm => ?_⟩
  · by_cases q : fee.1 = 0
    · rw [ite_no (by simp [q]), bnd_ret, sq_nx, stp, if_neg (by rw [cz]; simp [q])]
    · rw [ite_ok (by simp [q]), due_row bf hC pP fd hD T P[i][j] (by rw [hl, hT]) (fun z hz => ⟨(hline z hz).1.up (by decide), (hline z hz).2⟩) tT, bnd_ret, bnd_ret, sq_nx, stp, if_pos (cz.mpr q)]
  · obtain ⟨z, hz, rfl⟩ := List.mem_map.mp hm
    rw [fe, Int.natAbs_mul, Int.natAbs_mul]
    exact Nat.le_of_lt (pow_mono (mul_lt_pow (mul_lt_pow (ov_lt bx zx px) (ov_lt by_ zy py)) (ov_lt (hline z hz).1 zP pP)) (by decide))
theorem law_times_all {n : Nat} {P : List (List (List Fr))} {x y : List Fr} (h : Tb n P) (hn : n ≤ 6) (hx : Rw n x) (hy : Rw n y) : w_law_times (P, x, y, ()) = ret (prodL P x y) ∧ (tot (intsL x) (intsL y) (ovP P) (List.replicate n 0)).length = n ∧ ∀ t ∈ tot (intsL x) (intsL y) (ovP P) (List.replicate n 0), t.natAbs ≤ (n * n) * 2 ^ 7340 := by
  have ia : (intsL x).length = n := by rw [intsL, List.length_map, hx.len]
  have ib : (intsL y).length = n := by rw [intsL, List.length_map, hy.len]
  unfold w_law_times wb_law_times
  simp only [bnd_ret, bnd_assoc, bnd_grd, grd_true, fnR_bnd, fnR_ite, fnR_grd, fnR_ret, sq_nx, sq_rt]
  rw [h.cub.len, grd_ok (show repOk ([(0, 1)] : List Fr).length (n : Int) = true from repOk1 (by omega) (by omega)), grd_ok (rngOk_n (by omega)), flat1, Int.toNat_natCast]
  have lz : ((intsL x).zip (ovP P)).length = n := by rw [List.length_zip, ia, h.ov.len]; omega
  have e0 : List.replicate n ((0, 1) : Fr) = (List.replicate n (0 : Int)).map (toF (lcmL x * lcmL y * lcmP P)) := by
    rw [List.map_replicate]
    congr 1
    unfold toF
    rw [Rat.zero_divInt]
    rfl
  rw [e0]
  have key := rng_loop (δ := Empty) (β := List Fr) (R := fun T : List Int => T.map (toF (lcmL x * lcmL y * lcmP P))) (g := fun T (z : Int × List (List Int)) => inn z.1 (intsL y) T z.2) (I := fun i T => T.length = n ∧ ∀ t ∈ T, t.natAbs ≤ (i * n) * 2 ^ 7340)
    (f := fun s y1 => grd (rngOk 0 (n : Int)) (bnd (forW (fun s2 y2 => grd (ixOk x y1) (grd (ixOk y y2) (bnd (w_law_mul (ixAt x y1, ixAt y y2, ())) fun v => bnd (ite (!decide (v.1 = 0)) (grd (ixOk P y1) (grd (ixOk (ixAt P y1) y2) (bnd (mapW (fun y3 : Fr × Fr => ite (decide (y3.2.1 = 0)) (ret y3.1) (bnd (w_law_mul (v, y3.2, ())) fun u => w_law_add (y3.1, u, ()))) (s2.zip (ixAt (ixAt P y1) y2))) fun w => ret (Fl.nx w)))) (ret (Fl.nx s2))) (sq fun s => ret (Fl.nx s))))) s (rangeF 0 n)) (sq fun s => ret (Fl.nx s))))
    ((intsL x).zip (ovP P)) 0 (List.replicate n 0) ⟨List.length_replicate .., fun t ht => by rw [List.eq_of_mem_replicate ht]; simp⟩ fun i hi T hT => ?_
  · rw [lz] at key
    rw [Nat.zero_add] at key
    refine ⟨(congrArg (fun z => bnd z _) key.1).trans ?_, key.2.1, key.2.2⟩
    rw [bnd_ret, prodL, h.cub.len]
    rfl
  · rw [Nat.zero_add]
    rw [Nat.zero_add] at hT
    rw [lz] at hi
    have hia : i < x.length := by rw [hx.len]; exact hi
    have hiP : i < P.length := by rw [h.cub.len]; exact hi
    have hii : i < (intsL x).length := by rw [ia]; exact hi
    have hio : i < (ovP P).length := by rw [h.ov.len]; exact hi
    have lr := h.cub.row _ (List.getElem_mem hiP)
    have eo : (ovP P)[i] = P[i].map (over_ (lcmP P)) := by simp [ovP]
    have ea : (intsL x)[i] = x[i].1 * Int.fdiv (lcmL x) x[i].2 := by simp [intsL]
    have lb : ((intsL y).zip (ovP P)[i]).length = n := by rw [List.length_zip, ib, eo, List.length_map, lr]; omega
    rw [List.getElem_zip]
    have xi := ix_nat hia
    have pi_ := ix_nat hiP
    have k2 := rng_loop (δ := List Fr) (β := List Fr) (R := fun T : List Int => T.map (toF (lcmL x * lcmL y * lcmP P))) (g := fun T (z : Int × List Int) => stp ((intsL x)[i] * z.1) T z.2) (I := fun j T => T.length = n ∧ ∀ t ∈ T, t.natAbs ≤ (i * n + j) * 2 ^ 7340)
      (f := fun s2 y2 => grd (ixOk x (i : Int)) (grd (ixOk y y2) (bnd (w_law_mul (ixAt x (i : Int), ixAt y y2, ())) fun v => bnd (ite (!decide (v.1 = 0)) (grd (ixOk P (i : Int)) (grd (ixOk (ixAt P (i : Int)) y2) (bnd (mapW (fun y3 : Fr × Fr => ite (decide (y3.2.1 = 0)) (ret y3.1) (bnd (w_law_mul (v, y3.2, ())) fun u => w_law_add (y3.1, u, ()))) (s2.zip (ixAt (ixAt P (i : Int)) y2))) fun w => ret (Fl.nx w)))) (ret (Fl.nx s2))) (sq fun s => ret (Fl.nx s)))))
      ((intsL y).zip (ovP P)[i]) 0 T ⟨hT.1, by simpa using hT.2⟩ fun j hj T2 hT2 => ?_
    · rw [lb] at k2
      refine ⟨?_, k2.2.1, fun t ht => ?_⟩
      · show grd (rngOk 0 (n : Int)) _ = _
        rw [grd_ok (rngOk_n (by omega))]
        exact congrArg (fun z => bnd z _) k2.1
      · have q := k2.2.2 t ht
        rw [Nat.zero_add] at q
        rw [Nat.add_mul, Nat.one_mul]
        exact q
    · rw [Nat.zero_add]
      rw [Nat.zero_add] at hT2
      rw [lb] at hj
      have hjb : j < y.length := by rw [hy.len]; exact hj
      have hjP : j < P[i].length := by rw [lr]; exact hj
      have hk : i * n + j ≤ 35 := by
        have : i * n ≤ 5 * 6 := Nat.mul_le_mul (by omega) hn
        omega
      obtain ⟨s1, s2⟩ := times_step h hn hx hy i j hi hj T2 hT2.1 (i * n + j) (by omega) hT2.2 hia hjb hiP hjP
      have yj := ix_nat hjb
      have pj := ix_nat hjP
      have eb : (intsL y)[j]'(by rw [ib]; exact hj) = y[j].1 * Int.fdiv (lcmL y) y[j].2 := by simp [intsL]
      have el : ((ovP P)[i])[j]'(by rw [eo, List.length_map]; exact hjP) = over_ (lcmP P) P[i][j] := by simp [ovP]
      rw [List.getElem_zip]
      dsimp only
      rw [ea, eb, el]
      refine ⟨?_, ?_, s2⟩
      · rw [grd_ok xi.1, grd_ok yj.1, xi.2, yj.2]
        simp only [pi_.1, pi_.2, pj.1, pj.2, grd_true]
        exact s1
      · rw [stp_len (by rw [over_, List.length_map, h.cub.lin _ (List.getElem_mem hiP) _ (List.getElem_mem hjP), hT2.1]), hT2.1]
theorem law_times_eq {n : Nat} {P : List (List (List Fr))} {x y : List Fr} (h : Tb n P) (hn : n ≤ 6) (hx : Rw n x) (hy : Rw n y) : w_law_times (P, x, y, ()) = ret (prodL P x y) := (law_times_all h hn hx hy).1
theorem prodL_gen {n m : Nat} {P : List (List (List Fr))} {x y : List Fr} (h : Tb n P) (hn : n ≤ 6) (hx : Rw n x) (hy : Rw n y) (hD : (lcmL x * lcmL y * lcmP P).natAbs < 2 ^ m) : (prodL P x y).length = n ∧ ∀ z ∈ prodL P x y, Red z ∧ z.1.natAbs < 2 ^ 8000 ∧ z.2.natAbs < 2 ^ m := by
  obtain ⟨_, h1, h2⟩ := law_times_all h hn hx hy
  rw [← h.cub.len] at h1 h2
  refine ⟨by rw [prodL, List.length_map, h1, h.cub.len], fun z hz => ?_⟩
  obtain ⟨t, ht, rfl⟩ := List.mem_map.mp hz
  have b := h2 t ht
  rw [h.cub.len] at b
  have n2 : n * n ≤ 6 * 6 := Nat.mul_le_mul hn hn
  have px := lcmL_pos hx.red
  have py := lcmL_pos hy.red
  have pP := h.pos
  have b2 : (n * n) * 2 ^ 7340 < 2 ^ (6 + 7340) := by
    rw [Nat.pow_add]
    exact (Nat.mul_lt_mul_right (Nat.pow_pos (by decide))).mpr (by omega)
  have l := low_le (a := t) (Int.mul_ne_zero (Int.mul_ne_zero (show lcmL x ≠ 0 by omega) (show lcmL y ≠ 0 by omega)) (show lcmP P ≠ 0 by omega))
  exact ⟨red_ofQ _, Nat.lt_of_le_of_lt l.1 (pow_mono (Nat.lt_of_le_of_lt b b2) (by decide)), Nat.lt_of_le_of_lt l.2 hD⟩
theorem prodL_bd {n : Nat} {P : List (List (List Fr))} {x y : List Fr} (h : Tb n P) (hn : n ≤ 6) (hx : Rw n x) (hy : Rw n y) : (prodL P x y).length = n ∧ ∀ z ∈ prodL P x y, Bd 8000 z := by
  have zx : (lcmL x).natAbs < 2 ^ 400 := lcmL_lt (n := 6) hx.bd (by have := hx.len; omega)
  have zy : (lcmL y).natAbs < 2 ^ 400 := lcmL_lt (n := 6) hy.bd (by have := hy.len; omega)
  have zC : (lcmL x * lcmL y).natAbs < 2 ^ 800 := by rw [Int.natAbs_mul]; exact mul_lt_pow zx zy
  obtain ⟨h1, h2⟩ := prodL_gen h hn hx hy (m := 8000) (by rw [Int.natAbs_mul]; exact pow_mono (mul_lt_pow zC (h.lcm hn)) (by decide))
  exact ⟨h1, fun z hz => ⟨(h2 z hz).1, (h2 z hz).2.1, (h2 z hz).2.2⟩⟩
end Dc
namespace Dc
open PySem PySem.Spec L2
theorem fld_add {β : Type} : ∀ (xs acc : List β), acc.length + xs.length ≤ 16777216 → fldW (fun acc y => addW (ret y) acc) acc xs = ret (acc ++ xs)
  | [], acc, _ => by rw [List.append_nil]; rfl
  | x :: r, acc, h => by
    simp at h
    show bnd (addW (ret x) acc) _ = _
    unfold addW
    rw [bnd_ret, grd_ok (decide_eq_true (by omega)), bnd_ret]
    have := fld_add r (acc ++ [x]) (by simp; omega)
    unfold addW at this
    rw [this, List.append_assoc]
    rfl
theorem fld_flat {β : Type} : ∀ (xs : List (List β)) (acc : List β), acc.length + xs.flatten.length ≤ 16777216 → fldW (fun acc y => fldW (fun acc z => addW (ret z) acc) acc y) acc xs = ret (acc ++ xs.flatten)
  | [], acc, _ => by rw [List.flatten_nil, List.append_nil]; rfl
  | x :: r, acc, h => by
    rw [List.flatten_cons, List.length_append] at h
    show bnd (fldW _ acc x) _ = _
    rw [fld_add x acc (by omega), bnd_ret, fld_flat r (acc ++ x) (by rw [List.length_append]; omega), List.append_assoc]
    rfl
theorem fld_flat2 {β : Type} : ∀ (xs : List (List (List β))) (acc : List β), acc.length + xs.flatten.flatten.length ≤ 16777216 → fldW (fun acc x => fldW (fun acc y => fldW (fun acc z => addW (ret z) acc) acc y) acc x) acc xs = ret (acc ++ xs.flatten.flatten)
  | [], acc, _ => by simp; rfl
  | x :: r, acc, h => by
    rw [List.flatten_cons, List.flatten_append, List.length_append] at h
    show bnd (fldW _ acc x) _ = _
    rw [fld_flat x acc (by omega), bnd_ret, fld_flat2 r (acc ++ x.flatten) (by rw [List.length_append]; omega), List.append_assoc, List.flatten_cons, List.flatten_append]
theorem slice_at {α : Type} {l : List α} {i n : Nat} (h : i * n + n ≤ l.length) :
    (l.drop (HT.sIx l.length 0 (some ((i : Int) * (n : Int))))).take (HT.sIx l.length l.length (some ((i : Int) * (n : Int) + (n : Int))) - HT.sIx l.length 0 (some ((i : Int) * (n : Int)))) = (l.drop (i * n)).take n := by
  have en : ((i : Int) * (n : Int)) = ((i * n : Nat) : Int) := by simp
  have en2 : ((i : Int) * (n : Int) + (n : Int)) = ((i * n + n : Nat) : Int) := by simp
  rw [en2, en, HT.sIx_nat, HT.sIx_nat, Nat.min_eq_left h, Nat.min_eq_left (by omega), Nat.add_sub_cancel_left]
theorem rg_ok {n : Nat} (h1 : 1 ≤ n) (h6 : n ≤ 6) : rgOk 0 ((n : Int) * (n : Int) * (n : Int)) (n : Int) = true ∧ rgN 0 ((n : Int) * (n : Int) * (n : Int)) (n : Int) = n * n := by
  have : n = 1 ∨ n = 2 ∨ n = 3 ∨ n = 4 ∨ n = 5 ∨ n = 6 := by omega
  rcases this with rfl | rfl | rfl | rfl | rfl | rfl <;> exact ⟨by decide +kernel, by decide +kernel⟩
theorem cells_eq {n : Nat} {rows : List (List Fr)} {F : Int} (hr : ∀ r ∈ rows, r.length = n) :
    (stepF 0 (n : Int) rows.length).map (fun y => ((rows.flatten.map fun x => x.1 * Int.fdiv F x.2).drop (HT.sIx (rows.flatten.map fun x => x.1 * Int.fdiv F x.2).length 0 (some y))).take (HT.sIx (rows.flatten.map fun x => x.1 * Int.fdiv F x.2).length (rows.flatten.map fun x => x.1 * Int.fdiv F x.2).length (some (y + (n : Int))) - HT.sIx (rows.flatten.map fun x => x.1 * Int.fdiv F x.2).length 0 (some y))) = rows.map (over_ F) := by
  refine List.ext_getElem (by rw [List.length_map, List.length_map, stepF_len]) fun i h1 h2 => ?_
  rw [List.length_map, stepF_len] at h1
  rw [List.getElem_map, List.getElem_map]
  have e : (stepF 0 (n : Int) rows.length)[i]'(by rw [stepF_len]; exact h1) = (i : Int) * (n : Int) := by
    have := stepF_get 0 (n : Int) rows.length i _ (List.getElem?_eq_getElem (by rw [stepF_len]; exact h1))
    rw [this, Int.zero_add]
  rw [e]
  have fl : (rows.flatten.map fun x => x.1 * Int.fdiv F x.2).length = rows.length * n := by rw [List.length_map, flat_len rows hr]
  have b : i * n + n ≤ rows.length * n := by
    have := Nat.mul_le_mul_right n (show i + 1 ≤ rows.length by omega)
    rw [Nat.add_mul] at this
    omega
  rw [slice_at (by rw [fl]; exact b), ← List.map_drop, ← List.map_take, flat_slice rows i h1 hr]
  rfl
theorem ov_flat (P : List (List (List Fr))) (F : Int) : (P.map fun r => r.map (over_ F)).flatten = P.flatten.map (over_ F) := by
  rw [List.map_flatten]
theorem all_true {α : Type} : ∀ l : List α, (l.map fun _ => true).all id = true
  | [] => rfl
  | _ :: r => by rw [List.map_cons, List.all_cons, all_true r]; rfl
theorem table_init {n : Nat} {P : List (List (List Fr))} (h : Tb n P) (h1 : 1 ≤ n) (hn : n ≤ 6) : w_Table_init (P, ()) = ret ((ovP P).flatten, lcmP P, P, ()) := by
  unfold w_Table_init wb_Table_init
  simp only [bnd_ret, bnd_assoc, bnd_grd, grd_true, fnR_bnd, fnR_ite, fnR_grd, fnR_ret, sq_nx, sq_rt]
  rw [forW_eq (g := fun _ _ => ()) (fun r hr s => by
    rw [forW_eq (g := fun _ _ => ()) (fun l hl s => by
      rw [check_numbers_eq fun x hx => (h.num r hr l hl x hx).red, bnd_ret]), bnd_ret]
    rfl), bnd_ret, sq_nx, h.cub.len, mapW_eq (g := fun _ => true) (fun r hr => by
    rw [h.cub.row r hr, ite_ok (decide_eq_true rfl), mapW_eq (g := fun _ => true) (fun l hl => by rw [h.cub.lin r hr l hl, decide_eq_true rfl]), bnd_ret, all_true]), bnd_ret]
  rw [all_true, ite_no (show decide ((n : Int) = 0) = false from decide_eq_false (by omega)), bnd_ret, ite_no (show (!true) = false from rfl), bnd_ret, sq_nx]
  have c216 := cube_le hn
  have ff := h.fflen
  rw [fld_flat2 P [] (by rw [ff]; simp; omega), bnd_ret, List.nil_append, integers_of_eq (fun x hx => (h.flat x hx).red) (fun x hx => ((h.flat x hx).up (by decide)).sz) (lcmL_z (h.lcm hn)), bnd_ret]
  obtain ⟨r1, r2⟩ := rg_ok h1 hn
  have n2 : n * n ≤ 6 * 6 := Nat.mul_le_mul hn hn
  have en : ((n : Int) * (n : Int)) = ((n * n : Nat) : Int) := by simp
  rw [grd_ok (mulOk_of (n := 64) (m := 64) (i := (n : Int)) (j := (n : Int)) (by omega) (by omega)), grd_ok (mulOk_of (n := 64) (m := 64) (i := (n : Int) * (n : Int)) (j := (n : Int)) (by rw [en]; omega) (by omega)), grd_ok r1, r2, ← h.flen]
  have cm : mapW (fun y => ret (((P.flatten.flatten.map fun x => x.1 * Int.fdiv (lcmP P) x.2).drop (HT.sIx (P.flatten.flatten.map fun x => x.1 * Int.fdiv (lcmP P) x.2).length 0 (some y))).take (HT.sIx (P.flatten.flatten.map fun x => x.1 * Int.fdiv (lcmP P) x.2).length (P.flatten.flatten.map fun x => x.1 * Int.fdiv (lcmP P) x.2).length (some (y + (n : Int))) - HT.sIx (P.flatten.flatten.map fun x => x.1 * Int.fdiv (lcmP P) x.2).length 0 (some y)))) (stepF 0 (n : Int) P.flatten.length) = ret (P.flatten.map (over_ (lcmP P))) := by
    rw [mapW_eq (g := _) fun y _ => rfl]
    exact congrArg ret (cells_eq fun l hl => by
      obtain ⟨r, hr, hl⟩ := List.mem_flatten.mp hl
      exact h.cub.lin r hr l hl)
  refine (congrArg (fun z => fnI (bnd z fun v => ret (Fl.nx (v, lcmP P, P, ())))) cm).trans ?_
  rw [ovP, ov_flat]
  rfl
theorem table_products {c : List (List Int)} {b : Int} {P : List (List (List Fr))} : w_Table_products ((c, b, P, ()), ()) = ret P := rfl
theorem table_size {c : List (List Int)} {b : Int} {P : List (List (List Fr))} : w_Table_size ((c, b, P, ()), ()) = ret (P.length : Int) := by
  unfold w_Table_size wb_Table_size
  simp only [bnd_ret, bnd_assoc, bnd_grd, grd_true, fnR_bnd, fnR_ret]
end Dc
namespace Dc
open PySem PySem.Spec L2
/-! ### the product in fractions -/
def zaddQ (f : Rat) (T r : List Rat) : List Rat := List.zipWith (fun t m => t + f * m) T r
def innQ (a : Rat) (b T : List Rat) (P : List (List Rat)) : List Rat := (b.zip P).foldl (fun T z => zaddQ (a * z.1) T z.2) T
def totQ (a b : List Rat) (P : List (List (List Rat))) (T : List Rat) : List Rat := (a.zip P).foldl (fun T z => innQ z.1 b T z.2) T
def addQ (T U : List Rat) : List Rat := List.zipWith (fun t u => t + u) T U
theorem zaddQ_len {f : Rat} {T r : List Rat} (h : r.length = T.length) : (zaddQ f T r).length = T.length := by
  rw [zaddQ, List.length_zipWith]; omega
theorem zaddQ_zero : ∀ {T r : List Rat}, r.length = T.length → zaddQ 0 T r = T
  | [], _, _ => rfl
  | _ :: _, [], h => by simp at h
  | t :: T, m :: r, h => by
    show (t + 0 * m) :: zaddQ 0 T r = _
    rw [zaddQ_zero (by simpa using h), Rat.zero_mul, Rat.add_zero]
theorem innQ_len {a : Rat} : ∀ {b T : List Rat} {P : List (List Rat)}, (∀ l ∈ P, l.length = T.length) → (innQ a b T P).length = T.length
  | [], T, P, _ => by simp [innQ]
  | _ :: _, T, [], _ => by simp [innQ]
  | z :: b, T, l :: P, h => by
    have hl := h l (List.mem_cons_self ..)
    have e := zaddQ_len (f := a * z) hl
    show (innQ a b (zaddQ (a * z) T l) P).length = _
    rw [innQ_len (fun q hq => by rw [e]; exact h q (List.mem_cons_of_mem _ hq)), e]
theorem innQ_zero : ∀ {b T : List Rat} {P : List (List Rat)}, (∀ l ∈ P, l.length = T.length) → innQ 0 b T P = T
  | [], T, P, _ => by simp [innQ]
  | _ :: _, T, [], _ => by simp [innQ]
  | z :: b, T, l :: P, h => by
    show innQ 0 b (zaddQ (0 * z) T l) P = _
    rw [Rat.zero_mul, zaddQ_zero (h l (List.mem_cons_self ..)), innQ_zero fun q hq => h q (List.mem_cons_of_mem _ hq)]
/-! from integers over a common denominator -/
def qd (D : Int) (T : List Int) : List Rat := T.map fun t => Rat.divInt t D
theorem qd_zadd {c C F : Int} (hC : C ≠ 0) (hF : F ≠ 0) : ∀ {T r : List Int}, qd (C * F) (zadd c T r) = zaddQ (Rat.divInt c C) (qd (C * F) T) (qd F r)
  | [], _ => rfl
  | _ :: _, [] => rfl
  | t :: T, m :: r => by
    show Rat.divInt (t + c * m) (C * F) :: qd (C * F) (zadd c T r) = (Rat.divInt t (C * F) + Rat.divInt c C * Rat.divInt m F) :: zaddQ _ (qd (C * F) T) (qd F r)
    rw [qd_zadd hC hF, Rat.divInt_mul_divInt, divInt_add_same (Int.mul_ne_zero hC hF)]
theorem qd_stp {c C F : Int} (hC : C ≠ 0) (hF : F ≠ 0) {T r : List Int} (h : r.length = T.length) : qd (C * F) (stp c T r) = zaddQ (Rat.divInt c C) (qd (C * F) T) (qd F r) := by
  unfold stp
  split
  · exact qd_zadd hC hF
  · rename_i q
    have q : c = 0 := by simpa using q
    rw [q, Rat.zero_divInt, zaddQ_zero (by simpa [qd] using h)]
theorem qd_inn {a A B F : Int} (hA : A ≠ 0) (hB : B ≠ 0) (hF : F ≠ 0) : ∀ {b T : List Int} {P : List (List Int)}, (∀ l ∈ P, l.length = T.length) → qd (A * B * F) (inn a b T P) = innQ (Rat.divInt a A) (qd B b) (qd (A * B * F) T) (P.map (qd F)) ∧ (inn a b T P).length = T.length
  | [], T, P, _ => ⟨by simp [inn, innQ, qd], by simp [inn]⟩
  | _ :: _, T, [], _ => ⟨by simp [inn, innQ, qd], by simp [inn]⟩
  | z :: b, T, l :: P, h => by
    have hl := h l (List.mem_cons_self ..)
    have e := stp_len (c := a * z) hl
    obtain ⟨i1, i2⟩ := qd_inn hA hB hF (a := a) (b := b) (T := stp (a * z) T l) (P := P) fun q hq => by rw [e]; exact h q (List.mem_cons_of_mem _ hq)
    refine ⟨?_, i2.trans e⟩
    show qd _ (inn a b (stp (a * z) T l) P) = innQ _ (qd B b) (zaddQ (Rat.divInt a A * Rat.divInt z B) (qd _ T) (qd F l)) (P.map (qd F))
    rw [i1, qd_stp (Int.mul_ne_zero hA hB) hF hl, Rat.divInt_mul_divInt]
theorem qd_tot {A B F : Int} (hA : A ≠ 0) (hB : B ≠ 0) (hF : F ≠ 0) : ∀ {a b T : List Int} {P : List (List (List Int))}, (∀ r ∈ P, ∀ l ∈ r, l.length = T.length) → qd (A * B * F) (tot a b P T) = totQ (qd A a) (qd B b) (P.map fun r => r.map (qd F)) (qd (A * B * F) T)
  | [], b, T, P, _ => by simp [tot, totQ, qd]
  | _ :: _, b, T, [], _ => by simp [tot, totQ, qd]
  | z :: a, b, T, r :: P, h => by
    obtain ⟨i1, i2⟩ := qd_inn hA hB hF (a := z) (b := b) (T := T) (P := r) (h r (List.mem_cons_self ..))
    show qd _ (tot a b P (inn z b T r)) = totQ (qd A a) (qd B b) (P.map fun r => r.map (qd F)) (innQ (Rat.divInt z A) (qd B b) (qd _ T) (r.map (qd F)))
    rw [← i1]
    exact qd_tot hA hB hF fun q hq l hl => by rw [i2]; exact h q (List.mem_cons_of_mem _ hq) l hl
abbrev tQ (l : List Fr) : List Rat := l.map toQ
def prodQ (P : List (List (List Fr))) (x y : List Fr) : List Rat := totQ (tQ x) (tQ y) (P.map fun r => r.map tQ) (List.replicate P.length 0)
theorem qd_over {F : Int} {l : List Fr} (hF : 0 < F) (h : ∀ x ∈ l, 1 ≤ x.2 ∧ x.2 ∣ F) : qd F (over_ F l) = tQ l := by
  unfold qd over_ tQ
  rw [List.map_map]
  exact List.map_congr_left fun x hx => over (h x hx).1 hF (h x hx).2
theorem prodL_Q {n : Nat} {P : List (List (List Fr))} {x y : List Fr} (h : Tb n P) (hx : Rw n x) (hy : Rw n y) : prodL P x y = (prodQ P x y).map ofQ := by
  have px := lcmL_pos hx.red
  have py := lcmL_pos hy.red
  have pP := h.pos
  have e : (tot (intsL x) (intsL y) (ovP P) (List.replicate P.length 0)).map (toF (lcmL x * lcmL y * lcmP P)) = (qd (lcmL x * lcmL y * lcmP P) (tot (intsL x) (intsL y) (ovP P) (List.replicate P.length 0))).map ofQ := by
    unfold qd
    rw [List.map_map]
    rfl
  rw [prodL, e, qd_tot (by omega) (by omega) (by omega) (fun r hr l hl => by rw [List.length_replicate, h.cub.len]; exact h.ov.lin r hr l hl), prodQ]
  have e1 : qd (lcmL x) (intsL x) = tQ x := qd_over px fun z hz => ⟨(hx.bd z hz).red.1, lcmL_dvd hx.red hz⟩
  have e2 : qd (lcmL y) (intsL y) = tQ y := qd_over py fun z hz => ⟨(hy.bd z hz).red.1, lcmL_dvd hy.red hz⟩
  have e3 : ((ovP P).map fun r => r.map (qd (lcmP P))) = P.map fun r => r.map tQ := by
    unfold ovP
    rw [List.map_map]
    refine List.map_congr_left fun r hr => ?_
    show (r.map (over_ (lcmP P))).map (qd (lcmP P)) = _
    rw [List.map_map]
    exact List.map_congr_left fun l hl => qd_over pP fun z hz => ⟨(h.num r hr l hl z hz).red.1, h.dvd r hr l hl z hz⟩
  have e4 : qd (lcmL x * lcmL y * lcmP P) (List.replicate P.length 0) = List.replicate P.length 0 := by
    unfold qd
    rw [List.map_replicate, Rat.zero_divInt]
  rw [e1, e2, e3, e4]
/-! ### sums -/
theorem zaddQ_add {f g : Rat} : ∀ {T U r : List Rat}, zaddQ (f + g) (addQ T U) r = addQ (zaddQ f T r) (zaddQ g U r)
  | [], _, _ => rfl
  | _ :: _, [], [] => rfl
  | _ :: _, [], _ :: _ => rfl
  | _ :: _, _ :: _, [] => rfl
  | t :: T, u :: U, m :: r => by
    show ((t + u) + (f + g) * m) :: zaddQ (f + g) (addQ T U) r = ((t + f * m) + (u + g * m)) :: addQ (zaddQ f T r) (zaddQ g U r)
    rw [zaddQ_add]
    congr 1
    grind
theorem innQ_add {a : Rat} : ∀ {b c T U : List Rat} {P : List (List Rat)}, b.length = c.length → innQ a (addQ b c) (addQ T U) P = addQ (innQ a b T P) (innQ a c U P)
  | [], [], T, U, P, _ => by simp [innQ, addQ]
  | [], _ :: _, _, _, _, h => by simp at h
  | _ :: _, [], _, _, _, h => by simp at h
  | z :: b, w :: c, T, U, [], _ => by simp [innQ]
  | z :: b, w :: c, T, U, l :: P, h => by
    show innQ a (addQ b c) (zaddQ (a * (z + w)) (addQ T U) l) P = addQ (innQ a b (zaddQ (a * z) T l) P) (innQ a c (zaddQ (a * w) U l) P)
    rw [Rat.mul_add, zaddQ_add, innQ_add (by simpa using h)]
theorem totQ_add : ∀ {a b c T U : List Rat} {P : List (List (List Rat))}, b.length = c.length → totQ a (addQ b c) P (addQ T U) = addQ (totQ a b P T) (totQ a c P U)
  | [], b, c, T, U, P, _ => by simp [totQ]
  | _ :: _, b, c, T, U, [], _ => by simp [totQ]
  | z :: a, b, c, T, U, r :: P, h => by
    show totQ a (addQ b c) P (innQ z (addQ b c) (addQ T U) r) = addQ (totQ a b P (innQ z b T r)) (totQ a c P (innQ z c U r))
    rw [innQ_add h, totQ_add h]
theorem addQ_zero : ∀ n : Nat, addQ (List.replicate n 0) (List.replicate n 0) = List.replicate n 0
  | 0 => rfl
  | n + 1 => by
    rw [List.replicate_succ]
    show (0 + 0 : Rat) :: addQ (List.replicate n 0) (List.replicate n 0) = _
    rw [addQ_zero n, Rat.add_zero]
theorem tQ_add : ∀ l m : List Fr, tQ (addL l m) = addQ (tQ l) (tQ m)
  | [], _ => rfl
  | _ :: _, [] => rfl
  | x :: l, y :: m => by
    have := tQ_add l m
    unfold addL at this ⊢
    show toQ (ofQ (toQ x + toQ y)) :: tQ ((l.zip m).map _) = (toQ x + toQ y) :: addQ (tQ l) (tQ m)
    rw [this, toQ_ofQ]
theorem addL_of : ∀ p q : List Rat, addL (p.map ofQ) (q.map ofQ) = (addQ p q).map ofQ
  | [], _ => rfl
  | _ :: _, [] => rfl
  | x :: p, y :: q => by
    have := addL_of p q
    unfold addL at this ⊢
    show ofQ (toQ (ofQ x) + toQ (ofQ y)) :: ((p.map ofQ).zip (q.map ofQ)).map _ = ofQ (x + y) :: (addQ p q).map ofQ
    rw [this, toQ_ofQ, toQ_ofQ]
theorem addL_rw {n : Nat} {x y : List Fr} (hx : x.length = n) (hy : y.length = n) (bx : ∀ z ∈ x, Bd 14 z) (by_ : ∀ z ∈ y, Bd 14 z) : Rw n (addL x y) := by
  refine ⟨by rw [addL, List.length_map, List.length_zip]; omega, fun z hz => ?_⟩
  obtain ⟨⟨u, v⟩, hm, rfl⟩ := List.mem_map.mp hz
  have hu := bx _ (List.of_mem_zip hm).1
  have hv := by_ _ (List.of_mem_zip hm).2
  show Bd 64 (ofQ (toQ u + toQ v))
  rw [← toQ_add hu.ne hv.ne]
  have m1 := mul_lt_pow hu.sz.1 hv.sz.2
  have m2 := mul_lt_pow hv.sz.1 hu.sz.2
  have m3 := mul_lt_pow hu.sz.2 hv.sz.2
  refine bd_ofQ (Int.mul_ne_zero hu.ne hv.ne) ?_ (by rw [Int.natAbs_mul]; exact pow_mono m3 (by decide))
  have a := Int.natAbs_add_le (u.1 * v.2) (v.1 * u.2)
  rw [Int.natAbs_mul, Int.natAbs_mul] at a
  omega
theorem prodL_add {n : Nat} {P : List (List (List Fr))} {x y z : List Fr} (h : Tb n P) (hx : Rw n x) (hy : Rw n y) (hz : Rw n z) (hs : Rw n (addL y z)) : prodL P x (addL y z) = addL (prodL P x y) (prodL P x z) := by
  rw [prodL_Q h hx hs, prodL_Q h hx hy, prodL_Q h hx hz, addL_of, prodQ, tQ_add]
  have := totQ_add (a := tQ x) (b := tQ y) (c := tQ z) (T := List.replicate P.length 0) (U := List.replicate P.length 0) (P := P.map fun r => r.map tQ) (by rw [List.length_map, List.length_map, hy.len, hz.len])
  rw [addQ_zero] at this
  rw [this]
  rfl
end Dc
namespace Dc
open PySem PySem.Spec L2
/-! ### units -/
def unitF (n : Nat) (s : Int) : List Fr := (rangeF 0 n).map fun k => ((if decide (k = s) = true then (1 : Int) else 0), (1 : Int))
def uQ (off : Int) (n : Nat) (s : Int) : List Rat := (rangeF off n).map fun k => if k = s then 1 else 0
theorem unitF_rw (n : Nat) (s : Int) : Rw n (unitF n s) := by
  refine ⟨by rw [unitF, List.length_map, rangeF_len], fun z hz => ?_⟩
  obtain ⟨k, _, rfl⟩ := List.mem_map.mp hz
  refine ⟨red_int _, ?_, ?_⟩
  · show (if decide (k = s) = true then (1 : Int) else 0).natAbs < 2 ^ 64
    split <;> decide
  · show (1 : Int).natAbs < 2 ^ 64
    decide
theorem toQ_one : toQ (1, 1) = 1 := by decide +kernel
theorem toQ_zero : toQ (0, 1) = 0 := by decide +kernel
theorem tQ_unit (n : Nat) (s : Int) : tQ (unitF n s) = uQ 0 n s := by
  unfold tQ unitF uQ
  rw [List.map_map]
  refine List.map_congr_left fun k _ => ?_
  show toQ ((if decide (k = s) = true then (1 : Int) else 0), (1 : Int)) = _
  by_cases q : k = s
  · rw [if_pos (decide_eq_true q), if_pos q, toQ_one]
  · rw [if_neg (by simp [q]), if_neg q, toQ_zero]
theorem zaddQ_one : ∀ (n : Nat) (l : List Rat), l.length = n → zaddQ 1 (List.replicate n 0) l = l
  | 0, [], _ => rfl
  | 0, _ :: _, h => by simp at h
  | n + 1, [], h => by simp at h
  | n + 1, x :: l, h => by
    rw [List.replicate_succ]
    show (0 + 1 * x) :: zaddQ 1 (List.replicate n 0) l = _
    rw [zaddQ_one n l (by simpa using h), Rat.one_mul, Rat.zero_add]
theorem inn_out {a : Rat} {s : Int} {T : List Rat} : ∀ (P : List (List Rat)) (off : Int) (n : Nat), s < off → (∀ l ∈ P, l.length = T.length) → innQ a (uQ off n s) T P = T
  | [], _, _, _, _ => by simp [innQ]
  | _ :: _, _, 0, _, _ => by simp [innQ, uQ, rangeF]
  | l :: P, off, n + 1, h, hl => by
    show innQ a (uQ (off + 1) n s) (zaddQ (a * (if off = s then 1 else 0)) T l) P = _
    rw [if_neg (by omega), Rat.mul_zero, zaddQ_zero (hl l (List.mem_cons_self ..))]
    exact inn_out P (off + 1) n (by omega) fun q hq => hl q (List.mem_cons_of_mem _ hq)
theorem inn_in {a : Rat} {T : List Rat} : ∀ (P : List (List Rat)) (off : Int) (k : Nat), k < P.length → (∀ l ∈ P, l.length = T.length) → innQ a (uQ off P.length (off + k)) T P = zaddQ a T (P.getD k [])
  | [], _, _, h, _ => by simp at h
  | l :: P, off, 0, _, hl => by
    have e := zaddQ_len (f := a) (hl l (List.mem_cons_self ..))
    show innQ a (uQ (off + 1) P.length (off + (0 : Nat))) (zaddQ (a * (if off = off + (0 : Nat) then 1 else 0)) T l) P = _
    rw [if_pos (by simp), Rat.mul_one, inn_out P (off + 1) _ (by simp; omega) fun q hq => by rw [e]; exact hl q (List.mem_cons_of_mem _ hq)]
    rfl
  | l :: P, off, k + 1, h, hl => by
    show innQ a (uQ (off + 1) P.length (off + (k + 1 : Nat))) (zaddQ (a * (if off = off + (k + 1 : Nat) then 1 else 0)) T l) P = _
    rw [if_neg (by omega), Rat.mul_zero, zaddQ_zero (hl l (List.mem_cons_self ..)), show off + ((k + 1 : Nat) : Int) = off + 1 + (k : Int) by omega, inn_in P (off + 1) k (by simpa using h) fun q hq => hl q (List.mem_cons_of_mem _ hq)]
    rfl
theorem tot_out {s : Int} {b T : List Rat} : ∀ (P : List (List (List Rat))) (off : Int) (n : Nat), s < off → (∀ r ∈ P, ∀ l ∈ r, l.length = T.length) → totQ (uQ off n s) b P T = T
  | [], _, _, _, _ => by simp [totQ]
  | _ :: _, _, 0, _, _ => by simp [totQ, uQ, rangeF]
  | r :: P, off, n + 1, h, hl => by
    show totQ (uQ (off + 1) n s) b P (innQ (if off = s then 1 else 0) b T r) = _
    rw [if_neg (by omega), innQ_zero (hl r (List.mem_cons_self ..))]
    exact tot_out P (off + 1) n (by omega) fun q hq => hl q (List.mem_cons_of_mem _ hq)
theorem tot_in {b T : List Rat} : ∀ (P : List (List (List Rat))) (off : Int) (k : Nat), k < P.length → (∀ r ∈ P, ∀ l ∈ r, l.length = T.length) → totQ (uQ off P.length (off + k)) b P T = innQ 1 b T (P.getD k [])
  | [], _, _, h, _ => by simp at h
  | r :: P, off, 0, _, hl => by
    have e := innQ_len (a := 1) (b := b) (hl r (List.mem_cons_self ..))
    show totQ (uQ (off + 1) P.length (off + (0 : Nat))) b P (innQ (if off = off + (0 : Nat) then 1 else 0) b T r) = _
    rw [if_pos (by simp), tot_out P (off + 1) _ (by simp; omega) fun q hq l hl' => by rw [e]; exact hl q (List.mem_cons_of_mem _ hq) l hl']
    rfl
  | r :: P, off, k + 1, h, hl => by
    show totQ (uQ (off + 1) P.length (off + (k + 1 : Nat))) b P (innQ (if off = off + (k + 1 : Nat) then 1 else 0) b T r) = _
    rw [if_neg (by omega), innQ_zero (hl r (List.mem_cons_self ..)), show off + ((k + 1 : Nat) : Int) = off + 1 + (k : Int) by omega, tot_in P (off + 1) k (by simpa using h) fun q hq => hl q (List.mem_cons_of_mem _ hq)]
    rfl
theorem ofQ_tQ {l : List Fr} (h : ∀ x ∈ l, Red x) : (tQ l).map ofQ = l := by
  unfold tQ
  rw [List.map_map]
  refine (List.map_congr_left (g := id) fun x hx => ofQ_toQ (h x hx)).trans ?_
  simp
theorem getD_map {α β : Type} {f : α → β} {l : List α} {k : Nat} {d : β} (h : k < l.length) : (l.map f).getD k d = f l[k] := by
  rw [List.getD_eq_getElem?_getD, List.getElem?_map, List.getElem?_eq_getElem h]
  rfl
theorem prodL_unit {n : Nat} {P : List (List (List Fr))} (h : Tb n P) (i j : Nat) (hi : i < P.length) (hj : j < P[i].length) : prodL P (unitF n (i : Int)) (unitF n (j : Int)) = P[i][j] := by
  have lr := h.cub.row _ (List.getElem_mem hi)
  have ll := h.cub.lin _ (List.getElem_mem hi) _ (List.getElem_mem hj)
  have t1 := tot_in (b := uQ 0 n (j : Int)) (T := List.replicate P.length 0) (P.map fun r => r.map tQ) 0 i (by rw [List.length_map]; exact hi) (fun r hr l hl => by
    obtain ⟨q, hq, rfl⟩ := List.mem_map.mp hr
    obtain ⟨m, hm, rfl⟩ := List.mem_map.mp hl
    rw [List.length_replicate, List.length_map, h.cub.lin q hq m hm, h.cub.len])
  have t2 := inn_in (a := 1) (T := List.replicate P.length 0) (P[i].map tQ) 0 j (by rw [List.length_map]; exact hj) (fun l hl => by
    obtain ⟨m, hm, rfl⟩ := List.mem_map.mp hl
    rw [List.length_replicate, List.length_map, h.cub.lin _ (List.getElem_mem hi) m hm, h.cub.len])
  rw [List.length_map, Int.zero_add, h.cub.len, getD_map hi] at t1
  rw [List.length_map, Int.zero_add, lr, getD_map hj, h.cub.len] at t2
  rw [prodL_Q h (unitF_rw n i) (unitF_rw n j), prodQ, tQ_unit, tQ_unit, h.cub.len, t1, t2, zaddQ_one _ _ (by rw [List.length_map, ll]), ofQ_tQ fun x hx => (h.num _ (List.getElem_mem hi) _ (List.getElem_mem hj) x hx).red]
/-! ### what the law draws -/
theorem Tr.rng {σ β δ : Type} {m : Nat} {f : σ → Int → W (Fl σ σ β)} {R : Nat → σ → Prop} : ∀ (n k : Nat) (s : σ), R k s → (∀ i, i < n → ∀ s, R (k + i) s → Tr m (f s ((k + i : Nat) : Int)) (fun fl => ∃ s', fl = .nx s' ∧ R (k + i + 1) s')) → Tr (n * m) (forW (δ := δ) f s (rangeF (k : Int) n)) (fun fl => ∃ s', fl = .nx s' ∧ R (k + n) s')
  | 0, k, s, h, _ => Tr.ret ⟨s, rfl, h⟩
  | n + 1, k, s, h, hf => by
    have e : (n + 1) * m = m + n * m := by rw [Nat.add_mul]; omega
    rw [e]
    have h0 := hf 0 (by omega) s h
    rw [show k + 0 = k by omega] at h0
    refine Tr.bnd h0 fun fl hfl => ?_
    obtain ⟨s', rfl, h'⟩ := hfl
    have ih := Tr.rng (δ := δ) (f := f) (R := R) n (k + 1) s' h' fun i hi s hs => by
      have := hf (i + 1) (by omega) s (by rw [show k + (i + 1) = k + 1 + i by omega]; exact hs)
      rw [show k + (i + 1) = k + 1 + i by omega] at this
      exact this
    rw [show k + 1 + n = k + (n + 1) by omega] at ih
    have e2 : ((k : Int) + 1) = ((k + 1 : Nat) : Int) := by simp
    show Tr (n * m) (forW f s' (rangeF ((k : Int) + 1) n)) _
    rw [e2]
    exact ih
structure Ln (n : Nat) (l : List Fr) : Prop where
  len : l.length = n
  bd : ∀ x ∈ l, Bd 14 x
theorem Ln.rw_ {n : Nat} {l : List Fr} (h : Ln n l) : Rw n l := ⟨h.len, fun x hx => (h.bd x hx).up (by decide)⟩
theorem bd_int {k : Int} (h : k.natAbs < 2 ^ 14) : Bd 14 (k, 1) := ⟨red_int k, h, by show (1 : Int).natAbs < 2 ^ 14; decide⟩
theorem ln_noughts (n : Nat) : Ln n (List.replicate n (0, 1)) := ⟨List.length_replicate .., fun x hx => by rw [List.eq_of_mem_replicate hx]; exact bd_int (by decide)⟩
theorem ln_set {n : Nat} {l : List Fr} (h : Ln n l) {x : Fr} (hx : Bd 14 x) (i : Nat) : Ln n (l.set i x) := ⟨by rw [List.length_set]; exact h.len, fun y hy => by
  rcases List.mem_or_eq_of_mem_set hy with q | q
  · exact h.bd y q
  · rw [q]; exact hx⟩
theorem ln_draw {n : Nat} (g : Bool) (hn : n ≤ 6) : Tr 30 (mapW (fun _ : Int => w_law_number (g, ())) (rangeF 0 n)) (Ln n) :=
  (Tr.mapN (L := 6) (fun _ _ => (law_number_tr g)) (by rw [rangeF_len]; exact hn)).cons fun l hl => ⟨by rw [hl.1, rangeF_len], fun x hx => (hl.2 x hx).bd⟩
/-- products as they are drawn -/
structure Td (n k : Nat) (P : List (List (List Fr))) : Prop where
  cub : Cub n P
  num : ∀ r ∈ P, ∀ l ∈ r, ∀ x ∈ l, Bd k x
theorem Td.tb {n k : Nat} {P : List (List (List Fr))} (h : Td n k P) (hk : k ≤ 300) (hb : k * (n * n * n) < 6100) : Tb n P := by
  have hf : ∀ x ∈ P.flatten.flatten, Bd k x := fun x hx => by
    obtain ⟨l, hl, hx⟩ := List.mem_flatten.mp hx
    obtain ⟨r, hr, hl⟩ := List.mem_flatten.mp hl
    exact h.num r hr l hl x hx
  have hl : P.flatten.flatten.length = n * n * n := by
    rw [flat_len P.flatten (fun l hl => by
      obtain ⟨r, hr, hl⟩ := List.mem_flatten.mp hl
      exact h.cub.lin r hr l hl), flat_len P h.cub.row, h.cub.len]
  refine ⟨h.cub, fun r hr l hl x hx => (h.num r hr l hl x hx).up hk, Nat.lt_of_le_of_lt (lcmL_bd hf) ?_⟩
  rw [hl]
  exact Nat.pow_lt_pow_right (by decide) hb
theorem Td.tb14 {n : Nat} {P : List (List (List Fr))} (h : Td n 14 P) (hn : n ≤ 6) : Tb n P := h.tb (by decide) (by have := cube_le hn; omega)
theorem law_products_tr {n : Nat} (g : Bool) (h1 : 1 ≤ n) (hn : n ≤ 6) : Tr 1500 (w_law_products ((n : Int), g, ())) (Td n 14) := by
  have hr : rngOk 0 (n : Int) = true := rngOk_n (by omega)
  unfold w_law_products wb_law_products
  simp only [bnd_ret, bnd_assoc, bnd_grd, bnd_ifr, grd_true, fnR_bnd, fnR_ite, fnR_grd, fnR_ret, sq_nx, sq_rt, hr, Int.toNat_natCast, flat1]
  refine Tr.then 1 Tr.pick fun kind _ => ?_
  refine Tr.then (6 * 240) (S := fun fl => ∃ s : List (List (List Fr)), fl = Fl.nx s ∧ s.length = n ∧ ∀ r ∈ s, r.length = n ∧ ∀ l ∈ r, Ln n l) ((Tr.rng (m := 240) (R := fun i (s : List (List (List Fr))) => s.length = i ∧ ∀ r ∈ s, r.length = n ∧ ∀ l ∈ r, Ln n l) n 0 [] ⟨rfl, fun _ h => by cases h⟩ fun i hi s hs => ?_).mono (Nat.mul_le_mul_right _ hn) fun fl hfl => by
    obtain ⟨s, e, q⟩ := hfl
    rw [Nat.zero_add] at q
    exact ⟨s, e, q⟩) fun fl hfl => ?_
  · rw [Nat.zero_add] at hs ⊢
    refine Tr.then (6 * 40) (S := fun fl => ∃ t : List (List Fr), fl = Fl.nx t ∧ t.length = n ∧ ∀ l ∈ t, Ln n l) ((Tr.rng (m := 40) (R := fun j (t : List (List Fr)) => t.length = j ∧ ∀ l ∈ t, Ln n l) n 0 [] ⟨rfl, fun _ h => by cases h⟩ fun j hj t ht => ?_).mono (Nat.mul_le_mul_right _ hn) fun fl hfl => by
      obtain ⟨s, e, q⟩ := hfl
      rw [Nat.zero_add] at q
      exact ⟨s, e, q⟩) fun fl hfl => ?_
    · rw [Nat.zero_add] at ht ⊢
      refine Tr.grd (repOk1 (by omega) (by omega)) ?_
      refine Tr.then 31 (S := fun fl => ∃ l : List Fr, fl = Fl.nx l ∧ Ln n l) (Tr.ite (fun _ => ?_) fun _ => ?_) fun fl hfl => ?_
      · refine Tr.then 5 (law_number_tr g) fun x hx => Tr.then 1 (Tr.pick (by omega) (lsmall (by omega))) fun u hu => ?_
        have i1 := ix_in (l := List.replicate n ((0, 1) : Fr)) (k := u) hu.1 (by rw [List.length_replicate]; exact hu.2)
        exact Tr.grd i1.1 (Tr.ret ⟨_, rfl, ln_set (ln_noughts n) hx.bd _⟩)
      · refine Tr.then 1 (S := fun _ => True) (Tr.ite (fun _ => Tr.ret trivial) fun _ => Tr.then 1 Tr.pick fun _ _ => Tr.ret trivial) fun b _ => ?_
        refine Tr.then 30 (S := fun fl => ∃ l : List Fr, fl = Fl.nx l ∧ Ln n l) (Tr.ite (fun _ => Tr.then 30 (ln_draw g hn) fun l hl => Tr.ret ⟨l, rfl, hl⟩) fun _ => Tr.ret ⟨_, rfl, ln_noughts n⟩) fun fl hfl => ?_
        obtain ⟨l, rfl, hl⟩ := hfl
        exact Tr.ret ⟨l, rfl, hl⟩
      · obtain ⟨l, rfl, hl⟩ := hfl
        simp only [sq_nx]
        refine Tr.then 0 (S := fun b => b = true → (j : Int) < (i : Int)) (Tr.ite (fun _ => Tr.ret fun z => of_decide_eq_true z) fun _ => Tr.ret fun z => by cases z) fun b hb => ?_
        refine Tr.then 0 (S := fun fl => ∃ l : List Fr, fl = Fl.nx l ∧ Ln n l) (Tr.ite (fun z => ?_) fun _ => Tr.ret ⟨l, rfl, hl⟩) fun fl hfl => ?_
        · have hji := hb z
          have i1 := ix_in (l := s) (k := (j : Int)) (by omega) (by rw [hs.1]; exact hji)
          have r1 := hs.2 _ i1.2
          have i2 := ix_in (l := ixAt s (j : Int)) (k := (i : Int)) (by omega) (by rw [r1.1]; omega)
          exact Tr.grd i1.1 (Tr.grd i2.1 (Tr.ret ⟨_, rfl, r1.2 _ i2.2⟩))
        · obtain ⟨l, rfl, hl⟩ := hfl
          simp only [sq_nx]
          refine Tr.grd (decide_eq_true (by rw [ht.1]; omega)) (Tr.ret ⟨_, rfl, by rw [List.length_append, ht.1]; rfl, fun q hq => ?_⟩)
          rcases List.mem_append.mp hq with q1 | q1
          · exact ht.2 q q1
          · rw [List.mem_singleton.mp q1]; exact hl
    · obtain ⟨t, rfl, ht⟩ := hfl
      simp only [sq_nx]
      refine Tr.grd (decide_eq_true (by rw [hs.1]; omega)) (Tr.ret ⟨_, rfl, by rw [List.length_append, hs.1]; rfl, fun q hq => ?_⟩)
      rcases List.mem_append.mp hq with q1 | q1
      · exact hs.2 q q1
      · rw [List.mem_singleton.mp q1]; exact ht
  · obtain ⟨s, rfl, hs⟩ := hfl
    simp only [sq_nx, fnR_ret, bnd_ret]
    exact Tr.ret ⟨⟨hs.1, fun r hr => (hs.2 r hr).1, fun r hr l hl => ((hs.2 r hr).2 l hl).len⟩, fun r hr l hl => ((hs.2 r hr).2 l hl).bd⟩
end Dc
namespace Dc
open PySem PySem.Spec L2
/-! ### sums by places -/
def sumN : Nat → (Nat → Rat) → Rat
  | 0, _ => 0
  | n + 1, f => f 0 + sumN n fun i => f (i + 1)
theorem sumN_congr : ∀ {n : Nat} {f g : Nat → Rat}, (∀ i, i < n → f i = g i) → sumN n f = sumN n g
  | 0, _, _, _ => rfl
  | n + 1, f, g, h => by
    show f 0 + _ = g 0 + _
    rw [h 0 (by omega), sumN_congr fun i hi => h (i + 1) (by omega)]
theorem sumN_zero : ∀ {n : Nat} {f : Nat → Rat}, (∀ i, i < n → f i = 0) → sumN n f = 0
  | 0, _, _ => rfl
  | n + 1, f, h => by
    show f 0 + _ = 0
    rw [h 0 (by omega), sumN_zero fun i hi => h (i + 1) (by omega), Rat.add_zero]
theorem sumN_add : ∀ {n : Nat} {f g : Nat → Rat}, sumN n (fun i => f i + g i) = sumN n f + sumN n g
  | 0, _, _ => by
    show (0 : Rat) = 0 + 0
    rw [Rat.add_zero]
  | n + 1, f, g => by
    show (f 0 + g 0) + sumN n (fun i => f (i + 1) + g (i + 1)) = (f 0 + sumN n fun i => f (i + 1)) + (g 0 + sumN n fun i => g (i + 1))
    rw [sumN_add]
    grind
theorem sumN_mul {c : Rat} : ∀ {n : Nat} {f : Nat → Rat}, sumN n (fun i => c * f i) = c * sumN n f
  | 0, _ => by
    show (0 : Rat) = c * 0
    rw [Rat.mul_zero]
  | n + 1, f => by
    show c * f 0 + sumN n (fun i => c * f (i + 1)) = c * (f 0 + sumN n fun i => f (i + 1))
    rw [sumN_mul, Rat.mul_add]
theorem sumN_comm : ∀ {n m : Nat} {f : Nat → Nat → Rat}, sumN n (fun i => sumN m (f i)) = sumN m (fun j => sumN n fun i => f i j)
  | 0, m, f => (sumN_zero fun _ _ => rfl).symm
  | n + 1, m, f => by
    show sumN m (f 0) + sumN n (fun i => sumN m (f (i + 1))) = sumN m fun j => f 0 j + sumN n fun i => f (i + 1) j
    rw [sumN_comm, sumN_add]
theorem getD_cons0 {α : Type} {x d : α} {l : List α} : (x :: l).getD 0 d = x := rfl
theorem getD_consS {α : Type} {x d : α} {l : List α} {i : Nat} : (x :: l).getD (i + 1) d = l.getD i d := by
  simp [List.getD_eq_getElem?_getD]
theorem zaddQ_get {f : Rat} : ∀ {T r : List Rat} {k : Nat}, r.length = T.length → (zaddQ f T r).getD k 0 = T.getD k 0 + f * r.getD k 0
  | [], [], k, _ => by
    show (0 : Rat) = 0 + f * 0
    rw [Rat.mul_zero, Rat.add_zero]
  | [], _ :: _, _, h => by simp at h
  | _ :: _, [], _, h => by simp at h
  | t :: T, m :: r, 0, _ => rfl
  | t :: T, m :: r, k + 1, h => by
    show ((t + f * m) :: zaddQ f T r).getD (k + 1) 0 = _
    rw [getD_consS, getD_consS, getD_consS, zaddQ_get (by simpa using h)]
theorem innQ_get {a : Rat} {k : Nat} : ∀ {b T : List Rat} {P : List (List Rat)}, b.length = P.length → (∀ l ∈ P, l.length = T.length) → (innQ a b T P).getD k 0 = T.getD k 0 + sumN b.length (fun j => a * b.getD j 0 * (P.getD j []).getD k 0)
  | [], T, [], _, _ => by
    show T.getD k 0 = T.getD k 0 + 0
    rw [Rat.add_zero]
  | [], _, _ :: _, h, _ => by simp at h
  | _ :: _, _, [], h, _ => by simp at h
  | z :: b, T, l :: P, h, hl => by
    have h0 := hl l (List.mem_cons_self ..)
    have e := zaddQ_len (f := a * z) h0
    show (innQ a b (zaddQ (a * z) T l) P).getD k 0 = T.getD k 0 + (a * z * l.getD k 0 + sumN b.length fun j => a * (z :: b).getD (j + 1) 0 * ((l :: P).getD (j + 1) []).getD k 0)
    rw [innQ_get (by simpa using h) fun q hq => by rw [e]; exact hl q (List.mem_cons_of_mem _ hq), zaddQ_get h0]
    simp only [getD_consS]
    rw [Rat.add_assoc]
theorem totQ_get {k : Nat} : ∀ {a b T : List Rat} {P : List (List (List Rat))}, a.length = P.length → (∀ r ∈ P, r.length = b.length) → (∀ r ∈ P, ∀ l ∈ r, l.length = T.length) →
    (totQ a b P T).getD k 0 = T.getD k 0 + sumN a.length (fun i => sumN b.length fun j => a.getD i 0 * b.getD j 0 * ((P.getD i []).getD j []).getD k 0)
  | [], _, T, [], _, _, _ => by
    show T.getD k 0 = T.getD k 0 + 0
    rw [Rat.add_zero]
  | [], _, _, _ :: _, h, _, _ => by simp at h
  | _ :: _, _, _, [], h, _, _ => by simp at h
  | z :: a, b, T, r :: P, h, hr, hl => by
    have h0 := hl r (List.mem_cons_self ..)
    have e := innQ_len (a := z) (b := b) h0
    show (totQ a b P (innQ z b T r)).getD k 0 = T.getD k 0 + ((sumN b.length fun j => z * b.getD j 0 * (r.getD j []).getD k 0) + sumN a.length fun i => sumN b.length fun j => (z :: a).getD (i + 1) 0 * b.getD j 0 * (((r :: P).getD (i + 1) []).getD j []).getD k 0)
    rw [totQ_get (by simpa using h) (fun q hq => hr q (List.mem_cons_of_mem _ hq)) (fun q hq l hl' => by rw [e]; exact hl q (List.mem_cons_of_mem _ hq) l hl'), innQ_get (hr r (List.mem_cons_self ..)).symm h0]
    simp only [getD_consS]
    rw [Rat.add_assoc]
theorem totQ_len {a b : List Rat} : ∀ {P : List (List (List Rat))} {T : List Rat}, (∀ r ∈ P, ∀ l ∈ r, l.length = T.length) → (totQ a b P T).length = T.length := by
  induction a with
  | nil => intro P T _; simp [totQ]
  | cons z a ih =>
    intro P T h
    cases P with
    | nil => simp [totQ]
    | cons r P =>
      have h0 := h r (List.mem_cons_self ..)
      have e := innQ_len (a := z) (b := b) h0
      show (totQ a b P (innQ z b T r)).length = _
      rw [ih fun q hq l hl => by rw [e]; exact h q (List.mem_cons_of_mem _ hq) l hl, e]
theorem getD_ext {α : Type} {d : α} {l m : List α} (h : l.length = m.length) (e : ∀ k, k < l.length → l.getD k d = m.getD k d) : l = m := by
  refine List.ext_getElem h fun k h1 h2 => ?_
  have := e k h1
  rw [List.getD_eq_getElem?_getD, List.getD_eq_getElem?_getD, List.getElem?_eq_getElem h1, List.getElem?_eq_getElem h2] at this
  exact this
/-! ### a table's product by places -/
def at3 (P : List (List (List Fr))) (i j k : Nat) : Rat := toQ (((P.getD i []).getD j []).getD k (0, 1))
def at1 (x : List Fr) (i : Nat) : Rat := toQ (x.getD i (0, 1))
theorem tQ_get (x : List Fr) (i : Nat) : (tQ x).getD i 0 = at1 x i := by
  unfold at1 tQ
  rw [List.getD_eq_getElem?_getD, List.getD_eq_getElem?_getD, List.getElem?_map]
  cases x[i]? with
  | none => exact toQ_zero.symm
  | some z => rfl
theorem tQ3_get (P : List (List (List Fr))) (i j k : Nat) : ((((P.map fun r => r.map tQ).getD i []).getD j []).getD k 0) = at3 P i j k := by
  unfold at3
  have e1 : (P.map fun r => r.map tQ).getD i [] = (P.getD i []).map tQ := by
    rw [List.getD_eq_getElem?_getD, List.getD_eq_getElem?_getD, List.getElem?_map]
    cases P[i]? <;> rfl
  have e2 : ∀ r : List (List Fr), (r.map tQ).getD j [] = tQ (r.getD j []) := fun r => by
    rw [List.getD_eq_getElem?_getD, List.getD_eq_getElem?_getD, List.getElem?_map]
    cases r[j]? <;> rfl
  rw [e1, e2]
  exact tQ_get _ _
theorem rep_get (n k : Nat) : (List.replicate n (0 : Rat)).getD k 0 = 0 := by
  rw [List.getD_eq_getElem?_getD]
  by_cases h : k < n
  · rw [List.getElem?_replicate_of_lt h]; rfl
  · rw [List.getElem?_eq_none (by rw [List.length_replicate]; omega)]; rfl
theorem prodQ_len {n : Nat} {P : List (List (List Fr))} {x y : List Fr} (h : Cub n P) : (prodQ P x y).length = n := by
  rw [prodQ, totQ_len (fun r hr l hl => by
    obtain ⟨q, hq, rfl⟩ := List.mem_map.mp hr
    obtain ⟨m, hm, rfl⟩ := List.mem_map.mp hl
    rw [List.length_replicate, List.length_map, h.lin q hq m hm, h.len]), List.length_replicate, h.len]
theorem prodQ_get {n : Nat} {P : List (List (List Fr))} {x y : List Fr} (h : Cub n P) (hx : x.length = n) (hy : y.length = n) (k : Nat) : (prodQ P x y).getD k 0 = sumN n fun i => sumN n fun j => at1 x i * at1 y j * at3 P i j k := by
  rw [prodQ, totQ_get (by rw [List.length_map, List.length_map, hx, h.len]) (fun r hr => by
    obtain ⟨q, hq, rfl⟩ := List.mem_map.mp hr
    rw [List.length_map, List.length_map, h.row q hq, hy]) (fun r hr l hl => by
    obtain ⟨q, hq, rfl⟩ := List.mem_map.mp hr
    obtain ⟨m, hm, rfl⟩ := List.mem_map.mp hl
    rw [List.length_replicate, List.length_map, h.lin q hq m hm, h.len]), rep_get, Rat.zero_add, List.length_map, List.length_map, hx, hy]
  exact sumN_congr fun i _ => sumN_congr fun j _ => by rw [tQ_get, tQ_get, tQ3_get]
/-! ### the product the other way about -/
def oppP (n : Nat) (P : List (List (List Fr))) : List (List (List Fr)) := (rangeF 0 n).map fun i => (rangeF 0 n).map fun j => ixAt (ixAt P j) i
theorem rangeF_at {n i : Nat} (h : i < n) : (rangeF 0 n)[i]'(by rw [rangeF_len]; exact h) = (i : Int) := by
  have e := rangeF_get 0 n i _ (List.getElem?_eq_getElem (by rw [rangeF_len]; exact h))
  rw [e.1, Int.zero_add]
theorem opp_at {n : Nat} {P : List (List (List Fr))} (h : Cub n P) {i j : Nat} (hi : i < n) (hj : j < n) : ((oppP n P).getD i []).getD j [] = (P.getD j []).getD i [] := by
  have hjP : j < P.length := by rw [h.len]; exact hj
  have hiP : i < P[j].length := by rw [h.row _ (List.getElem_mem hjP)]; exact hi
  unfold oppP
  rw [getD_map (by rw [rangeF_len]; exact hi), getD_map (by rw [rangeF_len]; exact hj), rangeF_at hi, rangeF_at hj, (ix_nat hjP).2, (ix_nat hiP).2]
  simp [List.getD_eq_getElem?_getD, List.getElem?_eq_getElem hjP, List.getElem?_eq_getElem hiP]
theorem lcmL_min : ∀ (l : List Fr) (s M : Int), s ∣ M → (∀ x ∈ l, x.2 ∣ M) → l.foldl (fun s x => ((Nat.lcm s.natAbs x.2.natAbs : Nat) : Int)) s ∣ M
  | [], _, _, h, _ => h
  | x :: r, s, M, h, hx => lcmL_min r _ M (Int.natAbs_dvd_natAbs.mp (by rw [Int.natAbs_natCast]; exact Nat.lcm_dvd (Int.natAbs_dvd_natAbs.mpr h) (Int.natAbs_dvd_natAbs.mpr (hx x (List.mem_cons_self ..))))) fun y hy => hx y (List.mem_cons_of_mem _ hy)
theorem lcm_dvd_of {l : List Fr} {M : Int} (h : ∀ x ∈ l, x.2 ∣ M) : lcmL l ∣ M := lcmL_min l 1 M (Int.one_dvd _) h
theorem lcm_sub {n : Nat} {P Q : List (List (List Fr))} (h : Tb n P) (hs : ∀ x ∈ Q.flatten.flatten, x ∈ P.flatten.flatten) : (lcmP Q).natAbs < 2 ^ 6100 := by
  have d : lcmP Q ∣ lcmP P := lcm_dvd_of fun x hx => lcmL_dvd (fun x hx => (h.flat x hx).red) (hs x hx)
  have p := h.pos
  have le := Nat.le_of_dvd (by omega) (Int.natAbs_dvd_natAbs.mpr d)
  exact Nat.lt_of_le_of_lt le h.lcmb
theorem opp_tb {n : Nat} {P : List (List (List Fr))} (h : Tb n P) : Tb n (oppP n P) := by
  have key : ∀ r ∈ oppP n P, r.length = n ∧ ∀ l ∈ r, ∃ q ∈ P, l ∈ q := fun r hr => by
    obtain ⟨i, hi, rfl⟩ := List.mem_map.mp hr
    refine ⟨by rw [List.length_map, rangeF_len], fun l hl => ?_⟩
    obtain ⟨j, hj, rfl⟩ := List.mem_map.mp hl
    have mi := rangeF_mem hi
    have mj := rangeF_mem hj
    have i1 := ix_in (l := P) (k := j) (by omega) (by rw [h.cub.len]; omega)
    have i2 := ix_in (l := ixAt P j) (k := i) (by omega) (by rw [h.cub.row _ i1.2]; omega)
    exact ⟨_, i1.2, i2.2⟩
  have sub : ∀ x ∈ (oppP n P).flatten.flatten, x ∈ P.flatten.flatten := fun x hx => by
    obtain ⟨l, hl, hx⟩ := List.mem_flatten.mp hx
    obtain ⟨r, hr, hl⟩ := List.mem_flatten.mp hl
    obtain ⟨q, hq, hl⟩ := (key r hr).2 l hl
    exact List.mem_flatten.mpr ⟨l, List.mem_flatten.mpr ⟨q, hq, hl⟩, hx⟩
  refine ⟨⟨by rw [oppP, List.length_map, rangeF_len], fun r hr => (key r hr).1, fun r hr l hl => ?_⟩, fun r hr l hl => ?_, lcm_sub h sub⟩
  · obtain ⟨q, hq, hl⟩ := (key r hr).2 l hl
    exact h.cub.lin q hq l hl
  · obtain ⟨q, hq, hl⟩ := (key r hr).2 l hl
    exact h.num q hq l hl
theorem cub_ext {α : Type} {n : Nat} {P Q : List (List (List α))} (h : Cub n P) (h2 : Cub n Q) (e : ∀ i j, i < n → j < n → (P.getD i []).getD j [] = (Q.getD i []).getD j []) : P = Q := by
  refine getD_ext (d := []) (by rw [h.len, h2.len]) fun i hi => ?_
  rw [h.len] at hi
  have hiP : i < P.length := by rw [h.len]; exact hi
  have hiQ : i < Q.length := by rw [h2.len]; exact hi
  have e1 : P.getD i [] = P[i] := by simp [List.getD_eq_getElem?_getD, List.getElem?_eq_getElem hiP]
  have e2 : Q.getD i [] = Q[i] := by simp [List.getD_eq_getElem?_getD, List.getElem?_eq_getElem hiQ]
  have l1 := h.row _ (List.getElem_mem hiP)
  have l2 := h2.row _ (List.getElem_mem hiQ)
  refine getD_ext (d := []) (by rw [e1, e2, l1, l2]) fun j hj => ?_
  rw [e1, l1] at hj
  exact e i j hi hj
theorem opp_opp {n : Nat} {P : List (List (List Fr))} (h : Tb n P) : oppP n (oppP n P) = P := cub_ext (opp_tb (opp_tb h)).cub h.cub fun i j hi hj => by rw [opp_at (opp_tb h).cub hi hj, opp_at h.cub hj hi]
theorem prodL_opp {n : Nat} {P : List (List (List Fr))} {x y : List Fr} (h : Tb n P) (hx : Rw n x) (hy : Rw n y) : prodL (oppP n P) x y = prodL P y x := by
  have ho := opp_tb h
  rw [prodL_Q ho hx hy, prodL_Q h hy hx]
  congr 1
  refine getD_ext (d := 0) (by rw [prodQ_len ho.cub, prodQ_len h.cub]) fun k _ => ?_
  rw [prodQ_get ho.cub hx.len hy.len, prodQ_get h.cub hy.len hx.len, sumN_comm]
  refine sumN_congr fun i hi => sumN_congr fun j hj => ?_
  unfold at3
  rw [opp_at h.cub hj hi, Rat.mul_comm (at1 x j)]
end Dc
namespace Dc
open PySem PySem.Spec L2
/-! ### alike: lines, rows, products -/
def Few {α : Type} (l : List α) : Prop := l.length ≤ 1000000
theorem dok_line {n : Nat} {l : List Fr} (h : Few l) : dOk (n + 2) (D.lst (l.map fun z => D.tup [D.int z.1, D.int z.2])) := ⟨by rw [List.length_map]; exact Nat.le_trans h (by decide), fun d hd => by
  obtain ⟨x, _, rfl⟩ := List.mem_map.mp hd
  exact ⟨by show 2 ≤ 16777216; decide, fun d hd => by
    simp only [List.mem_cons, List.not_mem_nil, or_false] at hd
    rcases hd with rfl | rfl <;> cases n <;> exact True.intro⟩⟩
theorem dok_rows {n : Nat} {r : List (List Fr)} (h : Few r) (h2 : ∀ l ∈ r, Few l) : dOk (n + 3) (D.lst (r.map fun z => D.lst (z.map fun z => D.tup [D.int z.1, D.int z.2]))) := ⟨by rw [List.length_map]; exact Nat.le_trans h (by decide), fun d hd => by
  obtain ⟨x, hx, rfl⟩ := List.mem_map.mp hd
  exact dok_line (h2 x hx)⟩
theorem dok_prods {n : Nat} {P : List (List (List Fr))} (h : Few P) (h2 : ∀ r ∈ P, Few r) (h3 : ∀ r ∈ P, ∀ l ∈ r, Few l) : dOk (n + 4) (D.lst (P.map fun z => D.lst (z.map fun z => D.lst (z.map fun z => D.tup [D.int z.1, D.int z.2])))) := ⟨by rw [List.length_map]; exact Nat.le_trans h (by decide), fun d hd => by
  obtain ⟨x, hx, rfl⟩ := List.mem_map.mp hd
  exact dok_rows (h2 x hx) (h3 x hx)⟩
theorem alike_l {l : List Fr} (h : Few l) : w_law_alike 6 (D.lst (l.map fun z => D.tup [D.int z.1, D.int z.2]), D.lst (l.map fun z => D.tup [D.int z.1, D.int z.2]), ()) = ret true := alike_self 5 _ (dok_line h)
theorem alike_r {r : List (List Fr)} (h : Few r) (h2 : ∀ l ∈ r, Few l) : w_law_alike 6 (D.lst (r.map fun z => D.lst (z.map fun z => D.tup [D.int z.1, D.int z.2])), D.lst (r.map fun z => D.lst (z.map fun z => D.tup [D.int z.1, D.int z.2])), ()) = ret true := alike_self 5 _ (dok_rows h h2)
theorem alike_p {P : List (List (List Fr))} (h : Few P) (h2 : ∀ r ∈ P, Few r) (h3 : ∀ r ∈ P, ∀ l ∈ r, Few l) : w_law_alike 6 (D.lst (P.map fun z => D.lst (z.map fun z => D.lst (z.map fun z => D.tup [D.int z.1, D.int z.2]))), D.lst (P.map fun z => D.lst (z.map fun z => D.lst (z.map fun z => D.tup [D.int z.1, D.int z.2]))), ()) = ret true := alike_self 5 _ (dok_prods h h2 h3)
theorem few_n {α : Type} {n : Nat} {l : List α} (h : l.length = n) (hn : n ≤ 36) : Few l := by unfold Few; omega
theorem alike_c {n : Nat} {P : List (List (List Fr))} (h : Cub n P) (hn : n ≤ 36) : w_law_alike 6 (D.lst (P.map fun z => D.lst (z.map fun z => D.lst (z.map fun z => D.tup [D.int z.1, D.int z.2]))), D.lst (P.map fun z => D.lst (z.map fun z => D.lst (z.map fun z => D.tup [D.int z.1, D.int z.2]))), ()) = ret true := alike_p (few_n h.len hn) (fun r hr => few_n (h.row r hr) hn) fun r hr l hl => few_n (h.lin r hr l hl) hn
theorem alike_np {n : Nat} {P : List (List (List Fr))} (h : Cub n P) (hn : n ≤ 36) (k : Int) : w_law_alike 6 (D.lst (List.map (fun z => z) [D.int k, D.lst (P.map fun z => D.lst (z.map fun z => D.lst (z.map fun z => D.tup [D.int z.1, D.int z.2])))]), D.lst (List.map (fun z => z) [D.int k, D.lst (P.map fun z => D.lst (z.map fun z => D.lst (z.map fun z => D.tup [D.int z.1, D.int z.2])))]), ()) = ret true := by
  rw [List.map_id']
  refine alike_self 5 _ ⟨by show 2 ≤ 16777216; decide, fun d hd => ?_⟩
  simp only [List.mem_cons, List.not_mem_nil, or_false] at hd
  rcases hd with rfl | rfl
  · exact True.intro
  · exact dok_prods (n := 0) (few_n h.len hn) (fun r hr => few_n (h.row r hr) hn) fun r hr l hl => few_n (h.lin r hr l hl) hn
theorem eqv_prods (P : List (List (List Fr))) : PyData.eqv (PyData.list (P.map fun z => PyData.list (z.map fun z => PyData.list (z.map fun z => PyData.tuple [PyData.int z.1, PyData.int z.2])))) (PyData.list (P.map fun z => PyData.list (z.map fun z => PyData.list (z.map fun z => PyData.tuple [PyData.int z.1, PyData.int z.2])))) = true := by
  simp only [PyData.eqv]
  exact eqvAll_refl eqv_rows P
/-- a table as the program keeps it -/
abbrev tbV (P : List (List (List Fr))) : List (List Int) × Int × List (List (List Fr)) × Unit := ((ovP P).flatten, lcmP P, P, ())
theorem mapW_unit {n : Nat} {s : Int} : mapW (fun y => ret ((if decide (y = s) = true then (1 : Int) else 0), (1 : Int))) (rangeF 0 n) = ret (unitF n s) := mapW_eq fun _ _ => rfl
theorem mapW_unit2 {n : Nat} {s : Int} : mapW (fun y => ite (decide (y = s)) (ret (1, 1)) (ret (0, 1))) (rangeF 0 n) = ret (unitF n s) := mapW_eq fun y _ => by
  by_cases q : y = s
  · rw [ite_ok (decide_eq_true q), if_pos (decide_eq_true q)]
  · rw [ite_no (decide_eq_false q), if_neg (by simp [q])]
def unitsF (n : Nat) : List (List Fr) := (rangeF 0 n).map (unitF n)
theorem units_rw {n : Nat} : ∀ u ∈ unitsF n, Rw n u := fun u hu => by
  obtain ⟨s, _, rfl⟩ := List.mem_map.mp hu
  exact unitF_rw n s
theorem units_len (n : Nat) : (unitsF n).length = n := by rw [unitsF, List.length_map, rangeF_len]
theorem stepF_one : ∀ (lo : Int) (n : Nat), stepF lo 1 n = rangeF lo n
  | _, 0 => rfl
  | lo, n + 1 => by rw [stepF, rangeF, stepF_one (lo + 1) n]
theorem rg_one {n : Nat} (hn : n ≤ 36) : rgOk 0 (n : Int) 1 = true ∧ rgN 0 (n : Int) 1 = n := by
  have : ∀ m : Fin 37, rgOk 0 (m.val : Int) 1 = true ∧ rgN 0 (m.val : Int) 1 = m.val := by decide +kernel
  exact this ⟨n, by omega⟩
end Dc
namespace Dc
open PySem PySem.Spec L2
theorem bd_mul {k m : Nat} {x y : Fr} (hx : Bd k x) (hy : Bd m y) : Bd (k + m) (ofQ (toQ x * toQ y)) := by
  rw [← toQ_mul]
  exact bd_ofQ (Int.mul_ne_zero hx.ne hy.ne) (by rw [Int.natAbs_mul]; exact mul_lt_pow hx.sz.1 hy.sz.1) (by rw [Int.natAbs_mul]; exact mul_lt_pow hx.sz.2 hy.sz.2)
theorem bd_add {k m : Nat} {x y : Fr} (hx : Bd k x) (hy : Bd m y) : Bd (k + m + 1) (ofQ (toQ x + toQ y)) := by
  rw [← toQ_add hx.ne hy.ne]
  have m1 := mul_lt_pow hx.sz.1 hy.sz.2
  have m2 := mul_lt_pow hy.sz.1 hx.sz.2
  rw [Nat.add_comm m k] at m2
  have m3 := mul_lt_pow hx.sz.2 hy.sz.2
  refine bd_ofQ (Int.mul_ne_zero hx.ne hy.ne) ?_ (by rw [Int.natAbs_mul]; exact pow_mono m3 (Nat.le_succ _))
  have a := Int.natAbs_add_le (x.1 * y.2) (y.1 * x.2)
  rw [Int.natAbs_mul, Int.natAbs_mul] at a
  rw [Nat.pow_succ]
  omega
/-- a and f times b -/
def fma (f a b : Fr) : Fr := ofQ (toQ a + toQ f * toQ b)
def plusL (f : Fr) (a b : List Fr) : List Fr := (a.zip b).map fun z => fma f z.1 z.2
theorem bd_fma {k m p : Nat} {f a b : Fr} (hf : Bd k f) (ha : Bd m a) (hb : Bd p b) : Bd (m + (k + p) + 1) (fma f a b) := by
  have := bd_add ha (bd_mul hf hb)
  rw [toQ_ofQ] at this
  exact this
theorem fma_dvd {f a b : Fr} (hf : Red f) (ha : Red a) (hb : Red b) : (fma f a b).2 ∣ a.2 * (f.2 * b.2) := by
  have h1 := hf.1
  have h2 := ha.1
  have h3 := hb.1
  have h4 : 0 < f.2 * b.2 := Int.mul_pos (by omega) (by omega)
  have e : fma f a b = ofQ (Rat.divInt (a.1 * (f.2 * b.2) + f.1 * b.1 * a.2) (a.2 * (f.2 * b.2))) := by
    unfold fma
    rw [← toQ_mul]
    exact congrArg ofQ (toQ_add (x := a) (y := (f.1 * b.1, f.2 * b.2)) (by omega) (by show f.2 * b.2 ≠ 0; omega)).symm
  rw [e]
  exact den_dvd (Int.mul_pos (by omega) h4)
theorem law_plus_eq {f : Fr} {a b : List Fr} (hf : Bd 900 f) (ha : ∀ x ∈ a, Bd 900 x) (hb : ∀ x ∈ b, Bd 900 x) : w_law_plus (a, f, b, ()) = ret (plusL f a b) := by
  unfold w_law_plus wb_law_plus
  simp only [bnd_ret, bnd_assoc, fnR_bnd, fnR_ret]
  rw [mapW_eq (g := fun z => fma f z.1 z.2) (fun z hz => by
    have h1 := ha _ (List.of_mem_zip hz).1
    have h2 := hb _ (List.of_mem_zip hz).2
    have h3 := bd_mul hf h2
    rw [law_mul_eq hf.ne h2.ne (hf.up (by decide)).sz (h2.up (by decide)).sz, bnd_ret, law_add_eq h1.ne h3.ne (h1.up (by decide)).sz (h3.up (by decide)).sz, toQ_ofQ]
    rfl), bnd_ret]
  rfl
theorem product_two_eq {x y : Fr} (hx : Bd 4000 x) (hy : Bd 4000 y) : w_product_two (x, y, ()) = ret (ofQ (toQ x * toQ y)) := by
  have b := mul_lt_pow hx.sz.2 hy.sz.2
  unfold w_product_two wb_product_two
  simp only [bnd_ret, bnd_assoc, bnd_grd, fnR_bnd, fnR_grd, fnR_ret]
  rw [grd_ok (mulOk_of hx.sz.1 hy.sz.1), grd_ok (mulOk_of hx.sz.2 hy.sz.2), lowest_eq (Int.mul_ne_zero hx.ne hy.ne) (by rw [Int.natAbs_mul]; exact pow_mono b (by decide)), bnd_ret, toQ_mul]
theorem sum_two_eq {x y : Fr} (hx : Bd 4000 x) (hy : Bd 4000 y) : w_sum_two (x, y, ()) = ret (ofQ (toQ x + toQ y)) := by
  have b := mul_lt_pow hx.sz.2 hy.sz.2
  unfold w_sum_two wb_sum_two
  simp only [bnd_ret, bnd_assoc, bnd_grd, fnR_bnd, fnR_grd, fnR_ret]
  rw [grd_ok (mulOk_of hx.sz.1 hy.sz.2), grd_ok (mulOk_of hy.sz.1 hx.sz.2), grd_ok (mulOk_of hx.sz.2 hy.sz.2), lowest_eq (Int.mul_ne_zero hx.ne hy.ne) (by rw [Int.natAbs_mul]; exact pow_mono b (by decide)), bnd_ret, toQ_add hx.ne hy.ne]
theorem checked_eq {x : Fr} (h : Red x) : w_checked (x, ()) = ret x := by
  unfold w_checked wb_checked
  simp only [bnd_ret, bnd_assoc, fnR_bnd, fnR_ret, is_number_eq h]
  rfl
theorem rows_eq {f : Fr} {a b : List Fr} (hf : Bd 900 f) (ha : ∀ x ∈ a, Bd 900 x) (hb : ∀ x ∈ b, Bd 900 x) : (bnd (w_scaled_row (f, b, ())) fun s => w_plus_row (a, s, ())) = ret (plusL f a b) := by
  unfold w_scaled_row wb_scaled_row w_plus_row wb_plus_row
  simp only [bnd_ret, bnd_assoc, fnR_bnd, fnR_ret]
  rw [mapW_eq (g := fun y => ofQ (toQ f * toQ y)) (fun y hy => product_two_eq (hf.up (by decide)) ((hb y hy).up (by decide))), bnd_ret]
  rw [mapW_eq (g := fun z => ofQ (toQ z.1 + toQ z.2)) (fun z hz => by
    obtain ⟨y, hy, e⟩ := List.mem_map.mp (List.of_mem_zip hz).2
    refine sum_two_eq ((ha _ (List.of_mem_zip hz).1).up (by decide)) ?_
    rw [← e]
    exact (bd_mul hf (hb y hy)).up (by decide)), bnd_ret, List.zip_map_right, List.map_map]
  unfold plusL
  congr 1
  refine List.map_congr_left fun z _ => ?_
  show ofQ (toQ z.1 + toQ (ofQ (toQ f * toQ z.2))) = fma f z.1 z.2
  rw [toQ_ofQ]
  rfl
/-! ### the blend of two tables -/
def blP (f : Fr) (P Q : List (List (List Fr))) : List (List (List Fr)) := (P.zip Q).map fun z => (z.1.zip z.2).map fun w => plusL f w.1 w.2
theorem plusL_len {n : Nat} {f : Fr} {a b : List Fr} (ha : a.length = n) (hb : b.length = n) : (plusL f a b).length = n := by
  rw [plusL, List.length_map, List.length_zip]; omega
theorem bl_cub {n : Nat} {f : Fr} {P Q : List (List (List Fr))} (h : Cub n P) (h2 : Cub n Q) : Cub n (blP f P Q) := by
  refine ⟨by rw [blP, List.length_map, List.length_zip, h.len, h2.len]; omega, fun r hr => ?_, fun r hr l hl => ?_⟩
  · obtain ⟨z, hz, rfl⟩ := List.mem_map.mp hr
    rw [List.length_map, List.length_zip, h.row _ (List.of_mem_zip hz).1, h2.row _ (List.of_mem_zip hz).2]; omega
  · obtain ⟨z, hz, rfl⟩ := List.mem_map.mp hr
    obtain ⟨w, hw, rfl⟩ := List.mem_map.mp hl
    exact plusL_len (h.lin _ (List.of_mem_zip hz).1 _ (List.of_mem_zip hw).1) (h2.lin _ (List.of_mem_zip hz).2 _ (List.of_mem_zip hw).2)
theorem bl_mem {f x : Fr} {P Q : List (List (List Fr))} {r : List (List Fr)} {l : List Fr} (hr : r ∈ blP f P Q) (hl : l ∈ r) (hx : x ∈ l) : ∃ a b, x = fma f a b ∧ (∃ r ∈ P, ∃ l ∈ r, a ∈ l) ∧ ∃ r ∈ Q, ∃ l ∈ r, b ∈ l := by
  obtain ⟨z, hz, rfl⟩ := List.mem_map.mp hr
  obtain ⟨w, hw, rfl⟩ := List.mem_map.mp hl
  obtain ⟨y, hy, rfl⟩ := List.mem_map.mp hx
  exact ⟨_, _, rfl, ⟨_, (List.of_mem_zip hz).1, _, (List.of_mem_zip hw).1, (List.of_mem_zip hy).1⟩, ⟨_, (List.of_mem_zip hz).2, _, (List.of_mem_zip hw).2, (List.of_mem_zip hy).2⟩⟩
/-- products whose lower numbers go into one that is not great -/
structure Tk (n : Nat) (P : List (List (List Fr))) : Prop where
  td : Td n 14 P
  dv : ∃ M : Int, 0 < M ∧ M.natAbs ≤ 2 ^ 14 ∧ ∀ r ∈ P, ∀ l ∈ r, ∀ x ∈ l, x.2 ∣ M
theorem tb_of {n k : Nat} {P : List (List (List Fr))} {M : Int} (c : Cub n P) (hb : ∀ r ∈ P, ∀ l ∈ r, ∀ x ∈ l, Bd k x) (hk : k ≤ 300) (hM : 0 < M) (hl : M.natAbs < 2 ^ 6100) (hd : ∀ r ∈ P, ∀ l ∈ r, ∀ x ∈ l, x.2 ∣ M) : Tb n P := by
  refine ⟨c, fun r hr l hl x hx => (hb r hr l hl x hx).up hk, ?_⟩
  have dv : lcmP P ∣ M := lcm_dvd_of fun x hx => by
    obtain ⟨l, hl, hx⟩ := List.mem_flatten.mp hx
    obtain ⟨r, hr, hl⟩ := List.mem_flatten.mp hl
    exact hd r hr l hl x hx
  exact Nat.lt_of_le_of_lt (Nat.le_of_dvd (by omega) (Int.natAbs_dvd_natAbs.mpr dv)) hl
theorem le_pow_mul {a b n m : Nat} (h : a ≤ 2 ^ n) (h2 : b ≤ 2 ^ m) : a * b ≤ 2 ^ (n + m) := by
  rw [Nat.pow_add]
  exact Nat.mul_le_mul h h2
theorem bl_tb {n : Nat} {f : Fr} {P Q : List (List (List Fr))} (hf : Bd 14 f) (h : Tk n P) (h2 : Tk n Q) : Tb n (blP f P Q) := by
  obtain ⟨M, m1, m2, m3⟩ := h.dv
  obtain ⟨N, n1, n2, n3⟩ := h2.dv
  have f1 := hf.red.1
  refine tb_of (k := 43) (M := M * (f.2 * N)) (bl_cub h.td.cub h2.td.cub) (fun r hr l hl x hx => ?_) (by decide) (Int.mul_pos m1 (Int.mul_pos (by omega) n1)) ?_ fun r hr l hl x hx => ?_
  · obtain ⟨a, b, rfl, ⟨r1, hr1, l1, hl1, ha⟩, ⟨r2, hr2, l2, hl2, hb⟩⟩ := bl_mem hr hl hx
    exact bd_fma hf (h.td.num r1 hr1 l1 hl1 a ha) (h2.td.num r2 hr2 l2 hl2 b hb)
  · rw [Int.natAbs_mul, Int.natAbs_mul]
    exact Nat.lt_of_le_of_lt (le_pow_mul m2 (le_pow_mul (Nat.le_of_lt hf.sz.2) n2)) (Nat.pow_lt_pow_right (by decide) (by decide))
  · obtain ⟨a, b, rfl, ⟨r1, hr1, l1, hl1, ha⟩, ⟨r2, hr2, l2, hl2, hb⟩⟩ := bl_mem hr hl hx
    exact Int.dvd_trans (fma_dvd hf.red (h.td.num r1 hr1 l1 hl1 a ha).red (h2.td.num r2 hr2 l2 hl2 b hb).red) (Int.mul_dvd_mul (m3 r1 hr1 l1 hl1 a ha) (Int.mul_dvd_mul (Int.dvd_refl _) (n3 r2 hr2 l2 hl2 b hb)))
theorem blended_eq {n : Nat} {f : Fr} {P Q : List (List (List Fr))} (hf : Bd 14 f) (h : Tk n P) (h2 : Tk n Q) (h1 : 1 ≤ n) (hn : n ≤ 6) : w_blended (tbV P, tbV Q, f, ()) = ret (tbV (blP f P Q)) := by
  have ht := bl_tb hf h h2
  unfold w_blended wb_blended
  simp only [bnd_ret, bnd_assoc, bnd_grd, bnd_ifr, grd_true, fnR_bnd, fnR_ite, fnR_grd, fnR_ret, sq_nx, sq_rt, table_size, table_products, h.td.cub.len, h2.td.cub.len, checked_eq hf.red, decide_true, Bool.not_true, ite_false]
  rw [mapW_eq (g := fun z : List (List Fr) × List (List Fr) => (z.1.zip z.2).map fun w => plusL f w.1 w.2) (fun z hz => mapW_eq fun w hw => rows_eq (hf.up (by decide)) (fun x hx => (h.td.num _ (List.of_mem_zip hz).1 _ (List.of_mem_zip hw).1 x hx).up (by decide)) fun x hx => (h2.td.num _ (List.of_mem_zip hz).2 _ (List.of_mem_zip hw).2 x hx).up (by decide)), bnd_ret]
  change bnd (w_Table_init (blP f P Q, ())) _ = _
  rw [table_init ht h1 hn, bnd_ret]
theorem opp_tk {n : Nat} {P : List (List (List Fr))} (h : Tk n P) (hn : n ≤ 6) : Tk n (oppP n P) := by
  have ho := opp_tb (h.td.tb14 hn)
  have mem : ∀ r ∈ oppP n P, ∀ l ∈ r, ∃ r' ∈ P, l ∈ r' := fun r hr l hl => by
    obtain ⟨i, hi, rfl⟩ := List.mem_map.mp hr
    obtain ⟨j, hj, rfl⟩ := List.mem_map.mp hl
    have mi := rangeF_mem hi
    have mj := rangeF_mem hj
    have i1 := ix_in (l := P) (k := j) (by omega) (by rw [h.td.cub.len]; omega)
    have i2 := ix_in (l := ixAt P j) (k := i) (by omega) (by rw [h.td.cub.row _ i1.2]; omega)
    exact ⟨_, i1.2, i2.2⟩
  obtain ⟨M, m1, m2, m3⟩ := h.dv
  exact ⟨⟨ho.cub, fun r hr l hl x hx => by
    obtain ⟨r', hr', hl'⟩ := mem r hr l hl
    exact h.td.num r' hr' l hl' x hx⟩, M, m1, m2, fun r hr l hl x hx => by
    obtain ⟨r', hr', hl'⟩ := mem r hr l hl
    exact m3 r' hr' l hl' x hx⟩
end Dc
namespace Dc
open PySem PySem.Spec L2
theorem inn_small {a : Int} {A B C : Nat} (ha : a.natAbs ≤ A) : ∀ {b T : List Int} {P : List (List Int)} {k : Nat}, (∀ u ∈ b, u.natAbs ≤ B) → (∀ l ∈ P, ∀ c ∈ l, c.natAbs ≤ C) → (∀ t ∈ T, t.natAbs ≤ k * (A * B * C)) → ∀ t ∈ inn a b T P, t.natAbs ≤ (k + P.length) * (A * B * C)
  | [], T, P, k, _, _, hT, t, ht => Nat.le_trans (hT t ht) (Nat.mul_le_mul_right _ (Nat.le_add_right _ _))
  | u :: b, T, [], k, _, _, hT, t, ht => Nat.le_trans (hT t ht) (Nat.mul_le_mul_right _ (Nat.le_add_right _ _))
  | u :: b, T, l :: P, k, hb, hP, hT, t, ht => by
    have h1 := stp_small (f := a * u) (r := l) hT fun m hm => by
      rw [Int.natAbs_mul, Int.natAbs_mul]
      exact Nat.mul_le_mul (Nat.mul_le_mul ha (hb u List.mem_cons_self)) (hP l List.mem_cons_self m hm)
    have h2 := inn_small (T := stp (a * u) T l) (k := k + 1) ha (fun v hv => hb v (List.mem_cons_of_mem _ hv)) (fun r hr => hP r (List.mem_cons_of_mem _ hr)) h1 t ht
    rw [List.length_cons, show k + (P.length + 1) = k + 1 + P.length by omega]
    exact h2
theorem tot_small {A B C n : Nat} {b : List Int} (hb : ∀ u ∈ b, u.natAbs ≤ B) : ∀ {a T : List Int} {P : List (List (List Int))} {k : Nat}, (∀ u ∈ a, u.natAbs ≤ A) → (∀ r ∈ P, r.length = n) → (∀ r ∈ P, ∀ l ∈ r, ∀ c ∈ l, c.natAbs ≤ C) → (∀ t ∈ T, t.natAbs ≤ k * (A * B * C)) → ∀ t ∈ tot a b P T, t.natAbs ≤ (k + P.length * n) * (A * B * C)
  | [], T, P, k, _, _, _, hT, t, ht => Nat.le_trans (hT t ht) (Nat.mul_le_mul_right _ (Nat.le_add_right _ _))
  | u :: a, T, [], k, _, _, _, hT, t, ht => Nat.le_trans (hT t ht) (Nat.mul_le_mul_right _ (Nat.le_add_right _ _))
  | u :: a, T, r :: P, k, ha, hl, hP, hT, t, ht => by
    have h1 := inn_small (ha u List.mem_cons_self) hb (hP r List.mem_cons_self) hT
    rw [hl r List.mem_cons_self] at h1
    have h2 := tot_small (T := inn u b T r) (k := k + n) hb (fun v hv => ha v (List.mem_cons_of_mem _ hv)) (fun q hq => hl q (List.mem_cons_of_mem _ hq)) (fun q hq => hP q (List.mem_cons_of_mem _ hq)) h1 t ht
    rw [List.length_cons, show k + (P.length + 1) * n = k + n + P.length * n by rw [Nat.add_mul, Nat.one_mul]; omega]
    exact h2
/-- rows of a map -/
structure Mr (n : Nat) (l : List Fr) : Prop where
  ln : Ln n l
  dv : ∀ x ∈ l, x.2 ∣ 2520
theorem Mr.lcm {n : Nat} {l : List Fr} (h : Mr n l) : 0 < lcmL l ∧ lcmL l ∣ 2520 ∧ (lcmL l).natAbs < 2 ^ 12 := by
  have d := lcm_dvd_of h.dv
  have p : 0 < lcmL l := lcmL_pos fun x hx => (h.ln.bd x hx).red
  have l1 := Int.le_of_dvd (by decide) d
  exact ⟨p, d, by omega⟩
theorem Mr.ints {n : Nat} {l : List Fr} (h : Mr n l) : ∀ u ∈ intsL l, u.natAbs ≤ 2 ^ 26 := fun u hu => by
  obtain ⟨x, hx, rfl⟩ := List.mem_map.mp hu
  exact Nat.le_of_lt (ov_lt (h.ln.bd x hx) h.lcm.2.2 h.lcm.1)
theorem Tk.tb {n : Nat} {P : List (List (List Fr))} (h : Tk n P) (hn : n ≤ 6) : Tb n P := h.td.tb14 hn
theorem Tk.lcm {n : Nat} {P : List (List (List Fr))} (h : Tk n P) : 0 < lcmP P ∧ (lcmP P).natAbs < 2 ^ 15 := by
  obtain ⟨M, m1, m2, m3⟩ := h.dv
  have p : 0 < lcmP P := lcmL_pos fun x hx => by
    obtain ⟨l, hl, hx⟩ := List.mem_flatten.mp hx
    obtain ⟨r, hr, hl⟩ := List.mem_flatten.mp hl
    exact (h.td.num r hr l hl x hx).red
  have dv : lcmP P ∣ M := lcm_dvd_of fun x hx => by
    obtain ⟨l, hl, hx⟩ := List.mem_flatten.mp hx
    obtain ⟨r, hr, hl⟩ := List.mem_flatten.mp hl
    exact m3 r hr l hl x hx
  have l1 := Int.le_of_dvd m1 dv
  exact ⟨p, by omega⟩
theorem prod_fine {n : Nat} {P : List (List (List Fr))} {x y : List Fr} (h : Tk n P) (hn : n ≤ 6) (hx : Mr n x) (hy : Mr n y) : (prodL P x y).length = n ∧ ∀ z ∈ prodL P x y, Bd 90 z ∧ z.2 ∣ 2520 * (2520 * lcmP P) := by
  have hb := h.tb hn
  refine ⟨(prodL_bd hb hn hx.ln.rw_ hy.ln.rw_).1, fun z hz => ?_⟩
  obtain ⟨p1, d1, b1⟩ := hx.lcm
  obtain ⟨p2, d2, b2⟩ := hy.lcm
  obtain ⟨p3, b3⟩ := h.lcm
  have pD : 0 < lcmL x * lcmL y * lcmP P := Int.mul_pos (Int.mul_pos p1 p2) p3
  obtain ⟨t, ht, rfl⟩ := List.mem_map.mp hz
  have ov := hb.ov
  have s := tot_small (A := 2 ^ 26) (B := 2 ^ 26) (C := 2 ^ 29) (n := n) (k := 0) hy.ints hx.ints ov.row (fun r hr l hl c hc => by
    obtain ⟨r', hr', rfl⟩ := List.mem_map.mp hr
    obtain ⟨l', hl', rfl⟩ := List.mem_map.mp hl
    obtain ⟨c', hc', rfl⟩ := List.mem_map.mp hc
    exact Nat.le_of_lt (ov_lt (h.td.num r' hr' l' hl' c' hc') b3 p3)) (fun t ht => by rw [List.eq_of_mem_replicate ht]; simp) t ht
  rw [ov.len, Nat.zero_add] at s
  have n36 : n * n ≤ 36 := Nat.mul_le_mul hn hn
  have s2 : t.natAbs ≤ 36 * (2 ^ 26 * 2 ^ 26 * 2 ^ 29) := Nat.le_trans s (Nat.mul_le_mul_right _ n36)
  refine ⟨bd_ofQ (by omega) (Nat.lt_of_le_of_lt s2 (by decide)) ?_, Int.dvd_trans (den_dvd pD) ?_⟩
  · rw [Int.natAbs_mul, Int.natAbs_mul]
    exact pow_mono (mul_lt_pow (mul_lt_pow b1 b2) b3) (by decide)
  · rw [Int.mul_assoc]
    exact Int.mul_dvd_mul d1 (Int.mul_dvd_mul d2 (Int.dvd_refl _))
/-! ### a table changed -/
def chP (P : List (List (List Fr))) (L R : List (List Fr)) : List (List (List Fr)) := L.map fun l => R.map fun r => prodL P l r
structure Mp (n : Nat) (L : List (List Fr)) : Prop where
  len : L.length = n
  row : ∀ l ∈ L, Mr n l
theorem ch_tb {n : Nat} {P : List (List (List Fr))} {L R : List (List Fr)} (h : Tk n P) (hn : n ≤ 6) (hL : Mp n L) (hR : Mp n R) : Tb n (chP P L R) := by
  obtain ⟨p3, b3⟩ := h.lcm
  have f : ∀ r ∈ chP P L R, ∀ l ∈ r, ∃ x y, Mr n x ∧ Mr n y ∧ l = prodL P x y := fun r hr l hl => by
    obtain ⟨x, hx, rfl⟩ := List.mem_map.mp hr
    obtain ⟨y, hy, rfl⟩ := List.mem_map.mp hl
    exact ⟨x, y, hL.row x hx, hR.row y hy, rfl⟩
  refine tb_of (k := 90) (M := 2520 * (2520 * lcmP P)) ⟨by rw [chP, List.length_map, hL.len], fun r hr => ?_, fun r hr l hl => ?_⟩ (fun r hr l hl x hx => ?_) (by decide) (by omega) ?_ fun r hr l hl x hx => ?_
  · obtain ⟨x, hx, rfl⟩ := List.mem_map.mp hr
    rw [List.length_map, hR.len]
  · obtain ⟨x, y, hx, hy, rfl⟩ := f r hr l hl
    exact (prod_fine h hn hx hy).1
  · obtain ⟨u, y, hu, hy, rfl⟩ := f r hr l hl
    exact ((prod_fine h hn hu hy).2 x hx).1
  · rw [Int.natAbs_mul, Int.natAbs_mul]
    exact Nat.lt_of_lt_of_le (show (2520 : Int).natAbs * ((2520 : Int).natAbs * (lcmP P).natAbs) < 2 ^ 40 by
      have : (2520 : Int).natAbs = 2520 := rfl
      rw [this]
      omega) (Nat.pow_le_pow_right (by decide) (by decide))
  · obtain ⟨u, y, hu, hy, rfl⟩ := f r hr l hl
    exact ((prod_fine h hn hu hy).2 x hx).2
theorem forW_unit {α β δ : Type} {f : Unit → α → W (Fl Unit Unit β)} : ∀ (xs : List α), (∀ x ∈ xs, f () x = ret (.nx ())) → forW (δ := δ) f () xs = ret (.nx ())
  | [], _ => rfl
  | x :: r, h => by
    show bnd (f () x) _ = _
    rw [h x List.mem_cons_self, bnd_ret]
    exact forW_unit r fun y hy => h y (List.mem_cons_of_mem _ hy)
theorem check_square_eq {n : Nat} {L : List (List Fr)} (h : Mp n L) : w_check_square (L, (n : Int), ()) = ret () := by
  unfold w_check_square wb_check_square
  simp only [bnd_ret, bnd_assoc, bnd_grd, bnd_ifr, grd_true, fnU_bnd, fnU_grd, fnU_nx, fnU_ite, sq_nx, sq_rt, h.len, decide_true, Bool.not_true, ite_false]
  rw [mapW_eq (g := fun _ => true) (fun l hl => by rw [(h.row l hl).ln.len]; simp), bnd_ret, all_true]
  rfl
theorem changed_eq {n : Nat} {P : List (List (List Fr))} {L R : List (List Fr)} (h : Tk n P) (h1 : 1 ≤ n) (hn : n ≤ 6) (hL : Mp n L) (hR : Mp n R) : w_changed (tbV P, L, R, ()) = ret (tbV (chP P L R)) := by
  unfold w_changed wb_changed w_product_of wb_product_of
  simp only [bnd_ret, bnd_assoc, bnd_grd, bnd_ifr, grd_true, fnR_bnd, fnR_ite, fnR_grd, fnR_ret, sq_nx, sq_rt, table_size, h.td.cub.len]
  rw [grd_ok (decide_eq_true (by rw [hL.len, hR.len]; omega)), forW_unit (L ++ R) (fun l hl => by
    rw [check_numbers_eq (fun x hx => ?_), bnd_ret]
    rcases List.mem_append.mp hl with q | q
    · exact ((hL.row l q).ln.bd x hx).red
    · exact ((hR.row l q).ln.bd x hx).red), bnd_ret, sq_nx, check_square_eq hL, bnd_ret, check_square_eq hR, bnd_ret, mapW_eq (g := fun l => R.map fun r => prodL P l r) (fun l hl => mapW_eq fun r hr => by
      rw [table_mul (h.tb hn) hn (hL.row l hl).ln.rw_ (hR.row r hr).ln.rw_, bnd_ret]), bnd_ret]
  change fnR (bnd (w_Table_init (chP P L R, ())) _) = _
  rw [table_init (ch_tb h hn hL hR) h1 hn, bnd_ret]
  rfl
end Dc
namespace Dc
open PySem PySem.Spec L2
/-! ### the image of a row -/
def imgL (L : List (List Fr)) (x : List Fr) : List Fr := (x.zip L).foldl (fun T z => plusL z.1 T z.2) (List.replicate x.length (0, 1))
abbrev E2 : Int := 6350400
theorem plus_int {f : Fr} (hf : Red f) (df : f.2 ∣ 2520) : ∀ (T : List Int) (l : List Fr), (∀ x ∈ l, Red x ∧ x.2 ∣ 2520) → plusL f (T.map (toF E2)) l = (zadd (f.1 * Int.fdiv 2520 f.2) T (over_ 2520 l)).map (toF E2)
  | [], _, _ => by simp [plusL, zadd]
  | t :: T, [], _ => by simp [plusL, zadd, over_]
  | t :: T, x :: l, h => by
    have ih := plus_int hf df T l fun y hy => h y (List.mem_cons_of_mem _ hy)
    obtain ⟨hx, dx⟩ := h x List.mem_cons_self
    show fma f (toF E2 t) x :: plusL f (T.map (toF E2)) l = toF E2 (t + f.1 * Int.fdiv 2520 f.2 * (x.1 * Int.fdiv 2520 x.2)) :: (zadd (f.1 * Int.fdiv 2520 f.2) T (over_ 2520 l)).map (toF E2)
    rw [ih]
    congr 1
    unfold fma toF
    rw [toQ_ofQ, ← over hf.1 (show (0 : Int) < 2520 by decide) df, ← over hx.1 (show (0 : Int) < 2520 by decide) dx, Rat.divInt_mul_divInt, show (2520 * 2520 : Int) = E2 from rfl, divInt_add_same (by decide)]
theorem img_loop {n : Nat} {f : List Fr → Fr × List Fr → W (Fl (List Fr) (List Fr) (List Fr))} (hf : ∀ s y, f s y = bnd (w_law_plus (s, y.1, y.2, ())) fun v => ret (.nx v)) : ∀ (x : List Fr) (L : List (List Fr)) (T : List Int) (k : Nat), (∀ z ∈ x, Bd 14 z ∧ z.2 ∣ 2520) → (∀ l ∈ L, Mr n l) → T.length = n → (∀ t ∈ T, t.natAbs ≤ k * 2 ^ 52) → k + x.length ≤ 6 →
    forW (δ := Empty) f (T.map (toF E2)) (x.zip L) = ret (.nx ((x.zip L).foldl (fun T z => plusL z.1 T z.2) (T.map (toF E2)))) ∧ ∃ T' : List Int, (x.zip L).foldl (fun T z => plusL z.1 T z.2) (T.map (toF E2)) = T'.map (toF E2) ∧ T'.length = n ∧ ∀ t ∈ T', t.natAbs ≤ 6 * 2 ^ 52
  | [], L, T, k, _, _, hl, hT, hk => ⟨rfl, T, rfl, hl, fun t ht => Nat.le_trans (hT t ht) (Nat.mul_le_mul_right _ (by have : k + 0 ≤ 6 := hk; omega))⟩
  | z :: x, [], T, k, _, _, hl, hT, hk => ⟨rfl, T, rfl, hl, fun t ht => Nat.le_trans (hT t ht) (Nat.mul_le_mul_right _ (by omega))⟩
  | z :: x, l :: L, T, k, hx, hL, hl, hT, hk => by
    obtain ⟨bz, dz⟩ := hx z List.mem_cons_self
    have ml := hL l List.mem_cons_self
    rw [List.length_cons] at hk
    have e := plus_int bz.red dz T l fun y hy => ⟨(ml.ln.bd y hy).red, ml.dv y hy⟩
    have bf : (z.1 * Int.fdiv 2520 z.2).natAbs < 2 ^ (14 + 12) := ov_lt bz (by decide) (by decide)
    have sm := zadd_small (f := z.1 * Int.fdiv 2520 z.2) (r := over_ 2520 l) (B := 2 ^ 52) hT fun m hm => by
      obtain ⟨y, hy, rfl⟩ := List.mem_map.mp hm
      have := ov_lt (m := 12) (F := 2520) (ml.ln.bd y hy) (by decide) (by decide)
      rw [Int.natAbs_mul]
      exact Nat.le_of_lt (mul_lt_pow bf this)
    have ln : (zadd (z.1 * Int.fdiv 2520 z.2) T (over_ 2520 l)).length = n := by
      rw [zadd_len (by rw [over_, List.length_map, ml.ln.len, hl]), hl]
    obtain ⟨i1, i2⟩ := img_loop hf x L _ (k + 1) (fun y hy => hx y (List.mem_cons_of_mem _ hy)) (fun y hy => hL y (List.mem_cons_of_mem _ hy)) ln sm (by omega)
    have bT : ∀ y ∈ T.map (toF E2), Bd 900 y := fun y hy => by
      obtain ⟨t, ht, rfl⟩ := List.mem_map.mp hy
      have : t.natAbs < 2 ^ 56 := Nat.lt_of_le_of_lt (hT t ht) (Nat.lt_of_le_of_lt (Nat.mul_le_mul_right _ (show k ≤ 6 by omega)) (by decide))
      exact (bd_ofQ (by decide) this (by decide)).up (by decide)
    refine ⟨?_, ?_⟩
    · show bnd (f (T.map (toF E2)) (z, l)) _ = _
      rw [hf, law_plus_eq (bz.up (by decide)) bT fun y hy => (ml.ln.bd y hy).up (by decide)]
      simp only [bnd_ret]
      rw [e]
      refine Eq.trans i1 ?_
      show _ = ret (Fl.nx ((x.zip L).foldl (fun T z => plusL z.1 T z.2) (plusL z (T.map (toF E2)) l)))
      rw [e]
    · show ∃ T' : List Int, (x.zip L).foldl (fun T z => plusL z.1 T z.2) (plusL z (T.map (toF E2)) l) = T'.map (toF E2) ∧ _
      rw [e]
      exact i2
theorem noughts_int (n : Nat) : List.replicate n ((0, 1) : Fr) = (List.replicate n (0 : Int)).map (toF E2) := by
  rw [List.map_replicate]
  congr 1
theorem img_eq {n : Nat} {L : List (List Fr)} {x : List Fr} (hL : Mp n L) (hn : n ≤ 6) (hx : Mr n x) : w_law_image (L, x, ()) = ret (imgL L x) ∧ Rw n (imgL L x) := by
  have hl := hx.ln.len
  have lp := fun f hf => img_loop (n := n) (f := f) hf x L (List.replicate n 0) 0 (fun z hz => ⟨hx.ln.bd z hz, hx.dv z hz⟩) hL.row List.length_replicate (fun t ht => by rw [List.eq_of_mem_replicate ht]; simp) (by omega)
  have e0 : imgL L x = (x.zip L).foldl (fun T z => plusL z.1 T z.2) ((List.replicate n (0 : Int)).map (toF E2)) := by rw [← noughts_int, imgL, hl]
  constructor
  · unfold w_law_image wb_law_image
    simp only [bnd_ret, bnd_assoc, bnd_grd, grd_true, fnR_bnd, fnR_grd, fnR_ret, hl, Int.toNat_natCast, flat1]
    rw [grd_ok (show repOk ([(0, 1)] : List Fr).length (n : Int) = true from repOk1 (by omega) (by omega)), noughts_int, (lp _ fun s y => rfl).1, bnd_ret, sq_nx, fnR_ret, e0]
  · obtain ⟨T', e1, l1, b1⟩ := (lp _ fun s y => rfl).2
    rw [e0, e1]
    refine ⟨by rw [List.length_map, l1], fun z hz => ?_⟩
    obtain ⟨t, ht, rfl⟩ := List.mem_map.mp hz
    exact (bd_ofQ (k := 56) (by decide) (Nat.lt_of_le_of_lt (b1 t ht) (by decide)) (by decide)).up (by decide)
/-! in fractions -/
theorem tQ_plus {f : Fr} : ∀ (T l : List Fr), tQ (plusL f T l) = zaddQ (toQ f) (tQ T) (tQ l)
  | [], _ => by simp [plusL, zaddQ]
  | t :: T, [] => by simp [plusL, zaddQ]
  | t :: T, x :: l => by
    show toQ (fma f t x) :: tQ (plusL f T l) = (toQ t + toQ f * toQ x) :: zaddQ (toQ f) (tQ T) (tQ l)
    rw [tQ_plus T l, fma, toQ_ofQ]
theorem tQ_img : ∀ (x : List Fr) (L : List (List Fr)) (T : List Fr), tQ ((x.zip L).foldl (fun T z => plusL z.1 T z.2) T) = innQ 1 (tQ x) (tQ T) (L.map tQ)
  | [], _, _ => rfl
  | z :: x, [], _ => rfl
  | z :: x, l :: L, T => by
    show tQ ((x.zip L).foldl (fun T z => plusL z.1 T z.2) (plusL z T l)) = innQ 1 (tQ x) (zaddQ (1 * toQ z) (tQ T) (tQ l)) (L.map tQ)
    rw [tQ_img x L, tQ_plus, Rat.one_mul]
theorem at_rows (L : List (List Fr)) (j k : Nat) : ((L.map tQ).getD j []).getD k 0 = at1 (L.getD j []) k := by
  rw [← tQ_get]
  congr 1
  simp only [List.getD_eq_getElem?_getD, List.getElem?_map]
  cases L[j]? <;> rfl
theorem at_img {n : Nat} {L : List (List Fr)} {x : List Fr} (hL : L.length = n) (hl : ∀ l ∈ L, l.length = n) (hx : x.length = n) (k : Nat) : at1 (imgL L x) k = sumN n fun i => at1 x i * at1 (L.getD i []) k := by
  rw [← tQ_get, imgL, tQ_img, innQ_get (by rw [List.length_map, List.length_map, hx, hL]) (fun l h => by
    obtain ⟨m, hm, rfl⟩ := List.mem_map.mp h
    rw [List.length_map, List.length_map, List.length_replicate, hl m hm, hx]), List.length_map, hx]
  have z : (tQ (List.replicate n ((0, 1) : Fr))).getD k 0 = 0 := by
    rw [show tQ (List.replicate n ((0, 1) : Fr)) = List.replicate n 0 by rw [tQ, List.map_replicate, toQ_zero], rep_get]
  rw [z, Rat.zero_add]
  refine sumN_congr fun i _ => ?_
  rw [tQ_get, at_rows, Rat.one_mul]
/-! ### sums -/
theorem sumN_pull {n m p : Nat} {g : Nat → Nat → Nat → Rat} : (sumN n fun i => sumN m fun j => sumN p fun a => g i j a) = sumN p fun a => sumN n fun i => sumN m fun j => g i j a := by
  rw [show (sumN n fun i => sumN m fun j => sumN p fun a => g i j a) = sumN n fun i => sumN p fun a => sumN m fun j => g i j a from sumN_congr fun i _ => sumN_comm]
  exact sumN_comm
theorem sumN_mulr {c : Rat} {n : Nat} {f : Nat → Rat} : sumN n f * c = sumN n fun i => f i * c := by
  rw [Rat.mul_comm, ← sumN_mul]
  exact sumN_congr fun i _ => Rat.mul_comm _ _
theorem prodL_ch {n : Nat} {P : List (List (List Fr))} {L R : List (List Fr)} {x y : List Fr} (h : Tk n P) (hn : n ≤ 6) (hL : Mp n L) (hR : Mp n R) (hx : Rw n x) (hy : Rw n y) (ix : Rw n (imgL L x)) (iy : Rw n (imgL R y)) : prodL (chP P L R) x y = prodL P (imgL L x) (imgL R y) := by
  have hc := ch_tb h hn hL hR
  have hb := h.tb hn
  rw [prodL_Q hc hx hy, prodL_Q hb ix iy]
  congr 1
  refine getD_ext (d := 0) (by rw [prodQ_len hc.cub, prodQ_len hb.cub]) fun k hk => ?_
  rw [prodQ_get hc.cub hx.len hy.len, prodQ_get hb.cub ix.len iy.len]
  have e3 : ∀ i j, i < n → j < n → at3 (chP P L R) i j k = sumN n fun a => sumN n fun b => at1 (L.getD i []) a * at1 (R.getD j []) b * at3 P a b k := fun i j hi hj => by
    have hi' : i < L.length := by rw [hL.len]; exact hi
    have hj' : j < R.length := by rw [hR.len]; exact hj
    have gl : L.getD i [] = L[i] := by rw [List.getD_eq_getElem?_getD, List.getElem?_eq_getElem hi']; rfl
    have gr : R.getD j [] = R[j] := by rw [List.getD_eq_getElem?_getD, List.getElem?_eq_getElem hj']; rfl
    have ml := (hL.row _ (List.getElem_mem hi')).ln.rw_
    have mr := (hR.row _ (List.getElem_mem hj')).ln.rw_
    unfold at3
    rw [chP, getD_map hi', getD_map hj']
    show at1 (prodL P L[i] R[j]) k = _
    rw [← tQ_get, prodL_Q hb ml mr, tQ, List.map_map]
    rw [show (toQ ∘ ofQ) = id from funext fun q => toQ_ofQ q, List.map_id, prodQ_get hb.cub ml.len mr.len, gl, gr]
    rfl
  have lhs : (sumN n fun i => sumN n fun j => at1 x i * at1 y j * at3 (chP P L R) i j k) = sumN n fun i => sumN n fun j => sumN n fun a => sumN n fun b => at1 x i * at1 y j * (at1 (L.getD i []) a * at1 (R.getD j []) b * at3 P a b k) := by
    refine sumN_congr fun i hi => sumN_congr fun j hj => ?_
    rw [e3 i j hi hj, ← sumN_mul]
    exact sumN_congr fun a _ => sumN_mul.symm
  have rhs : (sumN n fun a => sumN n fun b => at1 (imgL L x) a * at1 (imgL R y) b * at3 P a b k) = sumN n fun a => sumN n fun b => sumN n fun i => sumN n fun j => at1 x i * at1 y j * (at1 (L.getD i []) a * at1 (R.getD j []) b * at3 P a b k) := by
    refine sumN_congr fun a _ => sumN_congr fun b _ => ?_
    rw [at_img hL.len (fun l hl => (hL.row l hl).ln.len) hx.len, at_img hR.len (fun l hl => (hR.row l hl).ln.len) hy.len, sumN_mulr, sumN_mulr]
    refine sumN_congr fun i _ => ?_
    rw [Rat.mul_assoc, Rat.mul_comm, sumN_mulr, sumN_mulr]
    refine sumN_congr fun j _ => ?_
    grind
  rw [lhs, rhs, sumN_pull (g := fun i j a => sumN n fun b => at1 x i * at1 y j * (at1 (L.getD i []) a * at1 (R.getD j []) b * at3 P a b k))]
  exact sumN_congr fun a _ => sumN_pull
end Dc
namespace Dc
open PySem PySem.Spec L2
theorem lin_draw {n : Nat} (g : Bool) (hn : n ≤ 6) : Tr 30 (mapW (fun _ : Int => w_law_number (g, ())) (rangeF 0 n)) (Lin g n) :=
  (Tr.mapN (L := 6) (fun _ _ => law_number_tr g) (by rw [rangeF_len]; exact hn)).cons fun l hl => ⟨by rw [hl.1, rangeF_len], hl.2⟩
theorem lin_noughts (g : Bool) (n : Nat) : Lin g n (List.replicate n (0, 1)) := ⟨List.length_replicate .., fun x hx => by rw [List.eq_of_mem_replicate hx]; exact num_int (by decide)⟩
structure Tn (g : Bool) (n : Nat) (P : List (List (List Fr))) : Prop where
  cub : Cub n P
  num : ∀ r ∈ P, ∀ l ∈ r, ∀ x ∈ l, Num g x
theorem products_num {n : Nat} (g : Bool) (h1 : 1 ≤ n) (hn : n ≤ 6) : Tr 1500 (w_law_products ((n : Int), g, ())) (Tn g n) := by
  have hr : rngOk 0 (n : Int) = true := rngOk_n (by omega)
  unfold w_law_products wb_law_products
  simp only [bnd_ret, bnd_assoc, bnd_grd, bnd_ifr, grd_true, fnR_bnd, fnR_ite, fnR_grd, fnR_ret, sq_nx, sq_rt, hr, Int.toNat_natCast, flat1]
  refine Tr.then 1 Tr.pick fun kind _ => ?_
  refine Tr.then (6 * 240) (S := fun fl => ∃ s : List (List (List Fr)), fl = Fl.nx s ∧ s.length = n ∧ ∀ r ∈ s, r.length = n ∧ ∀ l ∈ r, Lin g n l) ((Tr.rng (m := 240) (R := fun i (s : List (List (List Fr))) => s.length = i ∧ ∀ r ∈ s, r.length = n ∧ ∀ l ∈ r, Lin g n l) n 0 [] ⟨rfl, fun _ h => by cases h⟩ fun i hi s hs => ?_).mono (Nat.mul_le_mul_right _ hn) fun fl hfl => by
    obtain ⟨s, e, q⟩ := hfl
    rw [Nat.zero_add] at q
    exact ⟨s, e, q⟩) fun fl hfl => ?_
  · rw [Nat.zero_add] at hs ⊢
    refine Tr.then (6 * 40) (S := fun fl => ∃ t : List (List Fr), fl = Fl.nx t ∧ t.length = n ∧ ∀ l ∈ t, Lin g n l) ((Tr.rng (m := 40) (R := fun j (t : List (List Fr)) => t.length = j ∧ ∀ l ∈ t, Lin g n l) n 0 [] ⟨rfl, fun _ h => by cases h⟩ fun j hj t ht => ?_).mono (Nat.mul_le_mul_right _ hn) fun fl hfl => by
      obtain ⟨s, e, q⟩ := hfl
      rw [Nat.zero_add] at q
      exact ⟨s, e, q⟩) fun fl hfl => ?_
    · rw [Nat.zero_add] at ht ⊢
      refine Tr.grd (repOk1 (by omega) (by omega)) ?_
      refine Tr.then 31 (S := fun fl => ∃ l : List Fr, fl = Fl.nx l ∧ Lin g n l) (Tr.ite (fun _ => ?_) fun _ => ?_) fun fl hfl => ?_
      · refine Tr.then 5 (law_number_tr g) fun x hx => Tr.then 1 (Tr.pick (by omega) (lsmall (by omega))) fun u hu => ?_
        have i1 := ix_in (l := List.replicate n ((0, 1) : Fr)) (k := u) hu.1 (by rw [List.length_replicate]; exact hu.2)
        exact Tr.grd i1.1 (Tr.ret ⟨_, rfl, lin_set (lin_noughts g n) hx _⟩)
      · refine Tr.then 1 (S := fun _ => True) (Tr.ite (fun _ => Tr.ret trivial) fun _ => Tr.then 1 Tr.pick fun _ _ => Tr.ret trivial) fun b _ => ?_
        refine Tr.then 30 (S := fun fl => ∃ l : List Fr, fl = Fl.nx l ∧ Lin g n l) (Tr.ite (fun _ => Tr.then 30 (lin_draw g hn) fun l hl => Tr.ret ⟨l, rfl, hl⟩) fun _ => Tr.ret ⟨_, rfl, lin_noughts g n⟩) fun fl hfl => ?_
        obtain ⟨l, rfl, hl⟩ := hfl
        exact Tr.ret ⟨l, rfl, hl⟩
      · obtain ⟨l, rfl, hl⟩ := hfl
        simp only [sq_nx]
        refine Tr.then 0 (S := fun b => b = true → (j : Int) < (i : Int)) (Tr.ite (fun _ => Tr.ret fun z => of_decide_eq_true z) fun _ => Tr.ret fun z => by cases z) fun b hb => ?_
        refine Tr.then 0 (S := fun fl => ∃ l : List Fr, fl = Fl.nx l ∧ Lin g n l) (Tr.ite (fun z => ?_) fun _ => Tr.ret ⟨l, rfl, hl⟩) fun fl hfl => ?_
        · have hji := hb z
          have i1 := ix_in (l := s) (k := (j : Int)) (by omega) (by rw [hs.1]; exact hji)
          have r1 := hs.2 _ i1.2
          have i2 := ix_in (l := ixAt s (j : Int)) (k := (i : Int)) (by omega) (by rw [r1.1]; omega)
          exact Tr.grd i1.1 (Tr.grd i2.1 (Tr.ret ⟨_, rfl, r1.2 _ i2.2⟩))
        · obtain ⟨l, rfl, hl⟩ := hfl
          simp only [sq_nx]
          refine Tr.grd (decide_eq_true (by rw [ht.1]; omega)) (Tr.ret ⟨_, rfl, by rw [List.length_append, ht.1]; rfl, fun q hq => ?_⟩)
          rcases List.mem_append.mp hq with q1 | q1
          · exact ht.2 q q1
          · rw [List.mem_singleton.mp q1]; exact hl
    · obtain ⟨t, rfl, ht⟩ := hfl
      simp only [sq_nx]
      refine Tr.grd (decide_eq_true (by rw [hs.1]; omega)) (Tr.ret ⟨_, rfl, by rw [List.length_append, hs.1]; rfl, fun q hq => ?_⟩)
      rcases List.mem_append.mp hq with q1 | q1
      · exact hs.2 q q1
      · rw [List.mem_singleton.mp q1]; exact ht
  · obtain ⟨s, rfl, hs⟩ := hfl
    simp only [sq_nx, fnR_ret, bnd_ret]
    exact Tr.ret ⟨⟨hs.1, fun r hr => (hs.2 r hr).1, fun r hr l hl => ((hs.2 r hr).2 l hl).1⟩, fun r hr l hl => ((hs.2 r hr).2 l hl).2⟩
theorem dv2520 {x : Fr} (h : Num false x) : x.2 ∣ 2520 := by
  have r := h.red.1
  have s := h.sm rfl
  have e : x.2 = 1 ∨ x.2 = 2 ∨ x.2 = 3 ∨ x.2 = 4 ∨ x.2 = 5 ∨ x.2 = 6 ∨ x.2 = 7 ∨ x.2 = 8 ∨ x.2 = 9 := by omega
  rcases e with e | e | e | e | e | e | e | e | e <;> rw [e] <;> decide
theorem Tn.td {g : Bool} {n : Nat} {P : List (List (List Fr))} (h : Tn g n P) : Td n 14 P := ⟨h.cub, fun r hr l hl x hx => (h.num r hr l hl x hx).bd⟩
theorem tk_small {n : Nat} {P : List (List (List Fr))} (h : Tn false n P) : Tk n P := ⟨h.td, 2520, by decide, by decide, fun r hr l hl x hx => dv2520 (h.num r hr l hl x hx)⟩
theorem tk_one {g : Bool} {P : List (List (List Fr))} (h : Tn g 1 P) : Tk 1 P := by
  have t := h.td.tb14 (by decide)
  refine ⟨h.td, lcmP P, t.pos, ?_, t.dvd⟩
  have b := lcmL_bd (k := 14) (l := P.flatten.flatten) fun x hx => by
    obtain ⟨l, hl, hx⟩ := List.mem_flatten.mp hx
    obtain ⟨r, hr, hl⟩ := List.mem_flatten.mp hl
    exact h.td.num r hr l hl x hx
  rw [t.fflen] at b
  exact b
def whP (P : List (List (List Fr))) : List (List (List Fr)) := P.map fun z => z.map fun z => z.map fun z => (z.1, (1 : Int))
theorem tk_whole {g : Bool} {n : Nat} {P : List (List (List Fr))} (h : Tn g n P) : Tk n (whP P) := by
  refine ⟨⟨⟨by rw [whP, List.length_map, h.cub.len], fun r hr => ?_, fun r hr l hl => ?_⟩, fun r hr l hl x hx => ?_⟩, 1, by decide, by decide, fun r hr l hl x hx => ?_⟩
  · obtain ⟨q, hq, rfl⟩ := List.mem_map.mp hr
    rw [List.length_map, h.cub.row q hq]
  · obtain ⟨q, hq, rfl⟩ := List.mem_map.mp hr
    obtain ⟨m, hm, rfl⟩ := List.mem_map.mp hl
    rw [List.length_map, h.cub.lin q hq m hm]
  · obtain ⟨q, hq, rfl⟩ := List.mem_map.mp hr
    obtain ⟨m, hm, rfl⟩ := List.mem_map.mp hl
    obtain ⟨y, hy, rfl⟩ := List.mem_map.mp hx
    exact bd_int (h.num q hq m hm y hy).bd.sz.1
  · obtain ⟨q, hq, rfl⟩ := List.mem_map.mp hr
    obtain ⟨m, hm, rfl⟩ := List.mem_map.mp hl
    obtain ⟨y, hy, rfl⟩ := List.mem_map.mp hx
    exact Int.dvd_refl _
/-! ### maps -/
structure MN (n : Nat) (L : List (List Fr)) : Prop where
  len : L.length = n
  row : ∀ l ∈ L, Lin false n l
theorem mr_of {n : Nat} {l : List Fr} (h : Lin false n l) : Mr n l := ⟨⟨h.1, fun x hx => (h.2 x hx).bd⟩, fun x hx => dv2520 (h.2 x hx)⟩
theorem mp_of {n : Nat} {L : List (List Fr)} (h : MN n L) : Mp n L := ⟨h.len, fun l hl => mr_of (h.row l hl)⟩
theorem mp_whole {n : Nat} {L : List (List Fr)} (h : MN n L) : Mp n (L.map fun z => z.map fun z => (z.1, (1 : Int))) := by
  refine ⟨by rw [List.length_map, h.len], fun l hl => ?_⟩
  obtain ⟨m, hm, rfl⟩ := List.mem_map.mp hl
  refine ⟨⟨by rw [List.length_map, (h.row m hm).1], fun x hx => ?_⟩, fun x hx => ?_⟩
  · obtain ⟨y, hy, rfl⟩ := List.mem_map.mp hx
    exact bd_int ((h.row m hm).2 y hy).bd.sz.1
  · obtain ⟨y, hy, rfl⟩ := List.mem_map.mp hx
    exact Int.one_dvd _
theorem mn_units (n : Nat) : MN n (unitsF n) := ⟨units_len n, fun l hl => by
  obtain ⟨s, _, rfl⟩ := List.mem_map.mp hl
  refine ⟨by rw [unitF, List.length_map, rangeF_len], fun x hx => ?_⟩
  obtain ⟨k, _, rfl⟩ := List.mem_map.mp hx
  exact num_int (by split <;> decide)⟩
theorem law_map_tr {n : Nat} (h1 : 1 ≤ n) (hn : n ≤ 6) : Tr 200 (w_law_map ((n : Int), ())) (MN n) := by
  have hr : rngOk 0 (n : Int) = true := rngOk_n (by omega)
  have hu : mapW (fun s : Int => mapW (fun y => ret ((if decide (y = s) = true then (1 : Int) else 0), (1 : Int))) (rangeF 0 n)) (rangeF 0 n) = ret (unitsF n) := mapW_eq fun s _ => mapW_unit
  unfold w_law_map wb_law_map
  simp only [bnd_ret, bnd_assoc, bnd_grd, grd_true, fnR_bnd, fnR_grd, fnR_ret, sq_nx, sq_rt, hr, Int.toNat_natCast, flat1, hu]
  refine Tr.then 1 Tr.pick fun kind _ => ?_
  refine Tr.then 180 ((Tr.mapN (n := 30) (L := 6) (S := Lin false n) (fun _ _ => lin_draw false hn) (by rw [rangeF_len]; exact hn)).cons fun L hL => (⟨by rw [hL.1, rangeF_len], hL.2⟩ : MN n L)) fun L hL => ?_
  have i1 := ix_in (l := L) (k := 0) (by omega) (by rw [hL.len]; omega)
  have s0 : Tr 0 (ite (decide (kind = 0)) (Dc.ret (Fl.rt (unitsF n))) (Dc.ret (Fl.nx ())) : W (Fl Unit Empty (List (List Fr)))) (fun fl => (∃ M, fl = Fl.rt M ∧ MN n M) ∨ fl = Fl.nx ()) := Tr.ite (fun _ => Tr.ret (.inl ⟨_, rfl, mn_units n⟩)) fun _ => Tr.ret (.inr rfl)
  refine Tr.then 0 s0 fun fl hfl => ?_
  rcases hfl with ⟨M, rfl, hM⟩ | rfl
  · exact Tr.ret hM
  simp only [sq_nx]
  refine Tr.then 0 (S := fun fl => (∃ M, fl = Fl.rt M ∧ MN n M) ∨ fl = Fl.nx ()) (Tr.ite (fun _ => ?_) fun _ => Tr.ret (.inr rfl)) fun fl hfl => ?_
  · rw [i1.1]
    simp only [grd_true]
    rw [mapW_eq (g := fun _ => ixAt L 0) fun _ _ => rfl, bnd_ret]
    refine Tr.ret (.inl ⟨_, rfl, by rw [List.length_map, rangeF_len], fun l hl => ?_⟩)
    obtain ⟨_, _, rfl⟩ := List.mem_map.mp hl
    exact hL.row _ i1.2
  rcases hfl with ⟨M, rfl, hM⟩ | rfl
  · exact Tr.ret hM
  simp only [sq_nx]
  refine Tr.then 1 (S := fun fl => ∃ M, fl = Fl.nx M ∧ MN n M) (Tr.ite (fun _ => ?_) fun _ => Tr.ret ⟨L, rfl, hL⟩) fun fl hfl => ?_
  · refine Tr.grd (repOk1 (by omega) (by omega)) (Tr.then 1 (Tr.pick (by omega) (lsmall (by omega))) fun k hk => ?_)
    have i2 := ix_in (l := L) (k := k) hk.1 (by rw [hL.len]; exact hk.2)
    refine Tr.grd i2.1 (Tr.ret ⟨_, rfl, by rw [List.length_set]; exact hL.len, fun l hl => ?_⟩)
    rcases List.mem_or_eq_of_mem_set hl with q | q
    · exact hL.row l q
    · rw [q]; exact lin_noughts false n
  obtain ⟨M, rfl, hM⟩ := hfl
  exact Tr.ret hM
end Dc
namespace Dc
open PySem PySem.Spec L2
theorem nott : (!true) = false := rfl
theorem law_is_eq {n : Nat} {P : List (List (List Fr))} (h : Cub n P) (hn : n ≤ 6) : w_law_is (tbV P, P, (n : Int), ()) = ret true := by
  unfold w_law_is wb_law_is
  simp only [bnd_ret, bnd_assoc, bnd_grd, bnd_ifr, grd_true, fnR_bnd, fnR_ite, fnR_grd, fnR_ret, sq_nx, sq_rt, ite_true, table_size, table_products, h.len]
  rw [alike_np h (by omega), bnd_ret]
theorem ch_due {n : Nat} {P : List (List (List Fr))} {L R : List (List Fr)} (h : Tk n P) (hn : n ≤ 6) (hL : Mp n L) (hR : Mp n R) : mapW (fun y => mapW (fun z => w_law_times (P, y, z, ())) R) L = ret (chP P L R) :=
  mapW_eq fun l hl => mapW_eq fun r hr => law_times_eq (h.tb hn) hn (hL.row l hl).ln.rw_ (hR.row r hr).ln.rw_
theorem changed_right_tr {n : Nat} {P : List (List (List Fr))} (h : Tk n P) (h1 : 1 ≤ n) (hn : n ≤ 6) : Tr 500 (w_law_changed_right (tbV P, P, ())) (fun r => r = true) := by
  have hr : rngOk 0 (n : Int) = true := rngOk_n (by omega)
  have hr0 : rngOk 0 2 = true := rfl
  unfold w_law_changed_right wb_law_changed_right
  simp only [bnd_ret, bnd_assoc, bnd_grd, grd_true, fnR_bnd, fnR_grd, fnR_ret, sq_nx, sq_rt, h.td.cub.len, Int.toNat_natCast, hr]
  refine Tr.then 200 (law_map_tr h1 hn) fun L0 hL0 => Tr.then 200 (law_map_tr h1 hn) fun R0 hR0 => ?_
  refine Tr.then 0 (S := fun fl => ∃ L R, fl = Fl.nx (L, R) ∧ Mp n L ∧ Mp n R) (Tr.ite (fun _ => Tr.ret ⟨_, _, rfl, mp_whole hL0, mp_whole hR0⟩) fun _ => Tr.ret ⟨_, _, rfl, mp_of hL0, mp_of hR0⟩) fun fl hfl => ?_
  obtain ⟨L, R1, rfl, hL, hR1⟩ := hfl
  simp only [sq_nx, bnd_ret, bnd_assoc, bnd_grd, grd_true, fnR_bnd, fnR_grd, fnR_ret, hr0]
  refine Tr.then 1 Tr.pick fun k _ => ?_
  refine Tr.then 0 (S := fun fl => ∃ R, fl = Fl.nx R ∧ Mp n R) (Tr.ite (fun _ => Tr.ret ⟨_, rfl, hL⟩) fun _ => Tr.ret ⟨_, rfl, hR1⟩) fun fl hfl => ?_
  obtain ⟨R, rfl, hR⟩ := hfl
  simp only [sq_nx, bnd_ret, bnd_assoc, bnd_grd, grd_true, fnR_bnd, fnR_grd, fnR_ret, hr0]
  have hc := ch_tb h hn hL hR
  rw [ch_due h hn hL hR, bnd_ret, changed_eq h h1 hn hL hR]
  simp only [law_is_eq hc.cub hn, nott, ite_false, sq_nx, bnd_ret, bnd_assoc, bnd_grd, grd_true, fnR_bnd, fnR_grd, fnR_ret, hr0]
  refine Tr.then 60 (Tr.mapN (n := 30) (L := 2) (S := Lin false n) (fun _ _ => lin_draw false hn) (by rw [rangeF_len]; decide)) fun ls hls => ?_
  have e2 : ls.length = 2 := by rw [hls.1, rangeF_len]; rfl
  match ls, e2, hls with
  | [x, y], _, hls =>
    have hx := mr_of (hls.2 x (by simp))
    have hy := mr_of (hls.2 y (by simp))
    obtain ⟨i1, r1⟩ := img_eq hL hn hx
    obtain ⟨i2, r2⟩ := img_eq hR hn hy
    have f1 := few_n (prodL_bd (h.tb hn) hn r1 r2).1 (by omega)
    rw [show pairL [x, y] = ret (x, y) from rfl, bnd_ret, table_call hc hn hx.ln.rw_ hy.ln.rw_, bnd_ret, i1, bnd_ret, i2, bnd_ret, law_times_eq (h.tb hn) hn r1 r2, bnd_ret, prodL_ch h hn hL hR hx.ln.rw_ hy.ln.rw_ r1 r2, alike_l f1, bnd_ret, nott, ite_no rfl, bnd_ret, sq_nx, eqv_rows, ite_true, bnd_ret, eqv_rows]
    exact Tr.ret rfl
theorem table_eq {P Q : List (List (List Fr))} : w_Table_eq (tbV P, tbV Q, ()) = ret (PyData.eqv (PyData.list (P.map fun z => PyData.list (z.map fun z => PyData.list (z.map fun z => PyData.tuple [PyData.int z.1, PyData.int z.2])))) (PyData.list (Q.map fun z => PyData.list (z.map fun z => PyData.list (z.map fun z => PyData.tuple [PyData.int z.1, PyData.int z.2]))))) := by
  unfold w_Table_eq wb_Table_eq
  simp only [bnd_ret, bnd_assoc, bnd_grd, bnd_ifr, grd_true, fnR_bnd, fnR_ite, fnR_grd, fnR_ret, sq_nx, sq_rt, ite_true]
/-- the blend, place by place, as the law writes it -/
theorem bl_list {n : Nat} {f : Fr} {P Q : List (List (List Fr))} (h : Cub n P) (h2 : Cub n Q) : ((rangeF 0 n).map fun i => (rangeF 0 n).map fun j => plusL f (ixAt (ixAt P i) j) (ixAt (ixAt Q i) j)) = blP f P Q := by
  refine List.ext_getElem (by rw [List.length_map, rangeF_len, (bl_cub h h2).len]) fun i h3 h4 => ?_
  have hi : i < n := by rw [List.length_map, rangeF_len] at h3; exact h3
  have hp : i < P.length := by rw [h.len]; exact hi
  have hq : i < Q.length := by rw [h2.len]; exact hi
  have ep : ixAt P (i : Int) = P[i] := (ix_nat hp).2
  have eq_ : ixAt Q (i : Int) = Q[i] := (ix_nat hq).2
  rw [List.getElem_map, rangeF_at hi]
  simp only [blP, List.getElem_map, List.getElem_zip]
  refine List.ext_getElem (by rw [List.length_map, rangeF_len, List.length_map, List.length_zip, h.row _ (List.getElem_mem hp), h2.row _ (List.getElem_mem hq)]; omega) fun j h5 h6 => ?_
  have hj : j < n := by rw [List.length_map, rangeF_len] at h5; exact h5
  have hp2 : j < P[i].length := by rw [h.row _ (List.getElem_mem hp)]; exact hj
  have hq2 : j < Q[i].length := by rw [h2.row _ (List.getElem_mem hq)]; exact hj
  rw [List.getElem_map, rangeF_at hj]
  simp only [List.getElem_map, List.getElem_zip]
  rw [ep, eq_, (ix_nat hp2).2, (ix_nat hq2).2]
theorem bl_due {n : Nat} {f : Fr} {P Q : List (List (List Fr))} (hf : Bd 14 f) (h : Tk n P) (h2 : Tk n Q) : mapW (fun i : Int => mapW (fun j : Int => grd (ixOk P i) (grd (ixOk (ixAt P i) j) (grd (ixOk Q i) (grd (ixOk (ixAt Q i) j) (w_law_plus (ixAt (ixAt P i) j, f, ixAt (ixAt Q i) j, ())))))) (rangeF 0 n)) (rangeF 0 n) = ret (blP f P Q) := by
  rw [← bl_list h.td.cub h2.td.cub]
  refine mapW_eq fun i hi => mapW_eq fun j hj => ?_
  have mi := rangeF_mem hi
  have mj := rangeF_mem hj
  have p1 := ix_in (l := P) (k := i) (by omega) (by rw [h.td.cub.len]; omega)
  have p2 := ix_in (l := ixAt P i) (k := j) (by omega) (by rw [h.td.cub.row _ p1.2]; omega)
  have q1 := ix_in (l := Q) (k := i) (by omega) (by rw [h2.td.cub.len]; omega)
  have q2 := ix_in (l := ixAt Q i) (k := j) (by omega) (by rw [h2.td.cub.row _ q1.2]; omega)
  rw [grd_ok p1.1, grd_ok p2.1, grd_ok q1.1, grd_ok q2.1, law_plus_eq (hf.up (by decide)) (fun x hx => (h.td.num _ p1.2 _ p2.2 x hx).up (by decide)) fun x hx => (h2.td.num _ q1.2 _ q2.2 x hx).up (by decide)]
theorem opp_ix {n : Nat} {P : List (List (List Fr))} {i j : Int} (hi : 0 ≤ i ∧ i < 0 + n) (hj : 0 ≤ j ∧ j < 0 + n) : ixAt (ixAt (oppP n P) i) j = ixAt (ixAt P j) i := by
  obtain ⟨a, rfl⟩ : ∃ a : Nat, i = (a : Int) := ⟨i.toNat, by omega⟩
  obtain ⟨b, rfl⟩ : ∃ b : Nat, j = (b : Int) := ⟨j.toNat, by omega⟩
  have ha : a < n := by omega
  have hb : b < n := by omega
  rw [(ix_nat (l := oppP n P) (i := a) (by rw [oppP, List.length_map, rangeF_len]; exact ha)).2]
  simp only [oppP, List.getElem_map, rangeF_at ha]
  rw [(ix_nat (l := (rangeF 0 n).map fun j => ixAt (ixAt P j) (a : Int)) (i := b) (by rw [List.length_map, rangeF_len]; exact hb)).2, List.getElem_map, rangeF_at hb]
theorem opp_due {n : Nat} {f : Fr} {P : List (List (List Fr))} (hf : Bd 14 f) (h : Tk n P) (hn : n ≤ 6) : mapW (fun i : Int => mapW (fun j : Int => grd (ixOk P i) (grd (ixOk (ixAt P i) j) (grd (ixOk P j) (grd (ixOk (ixAt P j) i) (w_law_plus (ixAt (ixAt P i) j, f, ixAt (ixAt P j) i, ())))))) (rangeF 0 n)) (rangeF 0 n) = ret (blP f P (oppP n P)) := by
  rw [← bl_list h.td.cub (opp_tk h hn).td.cub]
  refine mapW_eq fun i hi => mapW_eq fun j hj => ?_
  have mi := rangeF_mem hi
  have mj := rangeF_mem hj
  have p1 := ix_in (l := P) (k := i) (by omega) (by rw [h.td.cub.len]; omega)
  have p2 := ix_in (l := ixAt P i) (k := j) (by omega) (by rw [h.td.cub.row _ p1.2]; omega)
  have q1 := ix_in (l := P) (k := j) (by omega) (by rw [h.td.cub.len]; omega)
  have q2 := ix_in (l := ixAt P j) (k := i) (by omega) (by rw [h.td.cub.row _ q1.2]; omega)
  rw [grd_ok p1.1, grd_ok p2.1, grd_ok q1.1, grd_ok q2.1, law_plus_eq (hf.up (by decide)) (fun x hx => (h.td.num _ p1.2 _ p2.2 x hx).up (by decide)) fun x hx => (h.td.num _ q1.2 _ q2.2 x hx).up (by decide), opp_ix mi mj]
theorem eqvAll_swap {α : Type} {to : α → PyData} (h : ∀ x y, PyData.eqv (to x) (to y) = PyData.eqv (to y) (to x)) : ∀ l m : List α, PyData.eqvAll (l.map to) (m.map to) = PyData.eqvAll (m.map to) (l.map to)
  | [], [] => rfl
  | [], y :: m => by simp [PyData.eqvAll]
  | x :: l, [] => by simp [PyData.eqvAll]
  | x :: l, y :: m => by
    simp only [List.map_cons, PyData.eqvAll]
    rw [h x y, eqvAll_swap h l m]
theorem eqv_swap0 (x y : Fr) : PyData.eqv (PyData.tuple [PyData.int x.1, PyData.int x.2]) (PyData.tuple [PyData.int y.1, PyData.int y.2]) = PyData.eqv (PyData.tuple [PyData.int y.1, PyData.int y.2]) (PyData.tuple [PyData.int x.1, PyData.int x.2]) := by
  simp only [PyData.eqv, PyData.eqvAll, Bool.beq_comm (a := x.1), Bool.beq_comm (a := x.2), eq_comm (a := x.1), eq_comm (a := x.2), BEq.comm (a := x.1), BEq.comm (a := x.2)]
theorem eqv_swap (P Q : List (List (List Fr))) : PyData.eqv (PyData.list (P.map fun z => PyData.list (z.map fun z => PyData.list (z.map fun z => PyData.tuple [PyData.int z.1, PyData.int z.2])))) (PyData.list (Q.map fun z => PyData.list (z.map fun z => PyData.list (z.map fun z => PyData.tuple [PyData.int z.1, PyData.int z.2])))) = PyData.eqv (PyData.list (Q.map fun z => PyData.list (z.map fun z => PyData.list (z.map fun z => PyData.tuple [PyData.int z.1, PyData.int z.2])))) (PyData.list (P.map fun z => PyData.list (z.map fun z => PyData.list (z.map fun z => PyData.tuple [PyData.int z.1, PyData.int z.2])))) := by
  simp only [PyData.eqv]
  refine eqvAll_swap (fun x y => ?_) P Q
  simp only [PyData.eqv]
  refine eqvAll_swap (fun x y => ?_) x y
  simp only [PyData.eqv]
  exact eqvAll_swap eqv_swap0 x y
theorem portion_right_tr {n : Nat} {P : List (List (List Fr))} (h : Tk n P) (h1 : 1 ≤ n) (hn : n ≤ 6) : Tr 1 (w_law_portion_right (tbV P, P, ())) (fun r => r = true) := by
  have hr : rngOk 0 (n : Int) = true := rngOk_n (by omega)
  unfold w_law_portion_right wb_law_portion_right
  simp only [bnd_ret, bnd_assoc, bnd_grd, grd_true, fnR_bnd, fnR_grd, fnR_ret, sq_nx, sq_rt, h.td.cub.len, Int.toNat_natCast, hr]
  refine Tr.then 1 Tr.pick fun k hk => ?_
  have i1 := ix_in (l := ([(-1, 2), (-2, 3), (1, 1), (-1, 1), (0, 1)] : List Fr)) (k := k) hk.1 hk.2
  refine Tr.grd i1.1 ?_
  generalize ixAt ([(-1, 2), (-2, 3), (1, 1), (-1, 1), (0, 1)] : List Fr) k = f at i1
  have hf : Bd 14 f := by
    have := i1.2
    simp only [List.mem_cons, List.not_mem_nil, or_false] at this
    rcases this with rfl | rfl | rfl | rfl | rfl <;> exact ⟨⟨by decide, by decide⟩, by decide, by decide⟩
  rw [bl_due hf h h, bnd_ret, blended_eq hf h h h1 hn]
  simp only [law_is_eq (bl_cub h.td.cub h.td.cub) hn, nott, ite_false, table_eq, beq_self_eq_true, sq_nx, bnd_ret, bnd_assoc, bnd_grd, grd_true, fnR_bnd, fnR_grd, fnR_ret]
  rw [eqv_swap P]
  simp only [beq_self_eq_true, ite_true, bnd_ret]
  refine Tr.ret ?_
  generalize PyData.eqv _ _ = b
  cases b <;> rfl
end Dc
namespace Dc
open PySem PySem.Spec L2
theorem opp_row {n : Nat} {P : List (List (List Fr))} (h : Cub n P) : mapW (fun y1 : Int => mapW (fun y2 : Int => grd (ixOk P y2) (grd (ixOk (ixAt P y2) y1) (ret (ixAt (ixAt P y2) y1)))) (rangeF 0 n)) (rangeF 0 n) = ret (oppP n P) := by
  refine mapW_eq fun i hi => ?_
  have mi := rangeF_mem hi
  refine mapW_eq fun j hj => ?_
  have mj := rangeF_mem hj
  have i1 := ix_in (l := P) (k := j) (by omega) (by rw [h.len]; omega)
  have i2 := ix_in (l := ixAt P j) (k := i) (by omega) (by rw [h.row _ i1.2]; omega)
  rw [grd_ok i1.1, grd_ok i2.1]
theorem opposite_eq {n : Nat} {P : List (List (List Fr))} (h : Tb n P) (h1 : 1 ≤ n) (hn : n ≤ 6) : w_opposite (tbV P, ()) = ret (tbV (oppP n P)) := by
  obtain ⟨r1, r2⟩ := rg_one (n := n) (by omega)
  unfold w_opposite wb_opposite
  simp only [bnd_ret, bnd_assoc, bnd_grd, bnd_ifr, grd_true, fnR_bnd, fnR_ite, fnR_grd, fnR_ret, sq_nx, sq_rt, table_size, table_products, h.cub.len, r1, r2, stepF_one]
  rw [opp_row h.cub, bnd_ret, table_init (opp_tb h) h1 hn, bnd_ret]
theorem alike_two {n : Nat} {P Q : List (List (List Fr))} (h : Cub n P) (h2 : Cub n Q) (hn6 : n ≤ 6) : w_law_alike 6 (D.lst (List.map (fun z => D.lst (z.map fun z => D.lst (z.map fun z => D.lst (z.map fun z => D.tup [D.int z.1, D.int z.2])))) [P, Q]), D.lst (List.map (fun z => D.lst (z.map fun z => D.lst (z.map fun z => D.lst (z.map fun z => D.tup [D.int z.1, D.int z.2])))) [P, Q]), ()) = ret true := by
  refine alike_self 5 _ ⟨by show 2 ≤ 16777216; decide, fun d hd => ?_⟩
  obtain ⟨R, hR, rfl⟩ := List.mem_map.mp hd
  simp only [List.mem_cons, List.not_mem_nil, or_false] at hR
  rcases hR with rfl | rfl
  · exact dok_prods (n := 0) (few_n h.len (by omega)) (fun r hr => few_n (h.row r hr) (by omega)) fun r hr l hl => few_n (h.lin r hr l hl) (by omega)
  · exact dok_prods (n := 0) (few_n h2.len (by omega)) (fun r hr => few_n (h2.row r hr) (by omega)) fun r hr l hl => few_n (h2.lin r hr l hl) (by omega)
theorem both_ways_eq {n : Nat} {f : Fr} {P : List (List (List Fr))} (hf : Bd 14 f) (h : Tk n P) (h1 : 1 ≤ n) (hn : n ≤ 6) : w_both_ways (tbV P, f, ()) = ret (tbV (blP f P (oppP n P))) := by
  unfold w_both_ways wb_both_ways
  simp only [bnd_ret, bnd_assoc, bnd_grd, bnd_ifr, grd_true, fnR_bnd, fnR_ite, fnR_grd, fnR_ret, sq_nx, sq_rt, checked_eq hf.red, opposite_eq (h.tb hn) h1 hn, blended_eq hf h (opp_tk h hn) h1 hn]
theorem law_right_tr {m : Int} (hm : 1 ≤ m) (hm6 : m ≤ 6) : Tr 5000 (w_law_right (m, ())) (fun r => r = true) := by
  have hr2 : rngOk 0 2 = true := rfl
  unfold w_law_right wb_law_right
  simp only [bnd_ret, bnd_assoc, bnd_grd, grd_true, fnR_bnd, fnR_grd, fnR_ret, sq_nx, sq_rt, hr2]
  refine Tr.then 1 (Tr.pick (by omega) (lsmall (by omega))) fun k hk => ?_
  obtain ⟨n, hn⟩ : ∃ n : Nat, 1 + k = (n : Int) := ⟨(1 + k).toNat, by omega⟩
  have h1 : 1 ≤ n := by omega
  have h6 : n ≤ 6 := by omega
  have hr : rngOk 0 (n : Int) = true := rngOk_n (by omega)
  rw [hn]
  refine Tr.then 1 (S := fun _ => True) (Tr.ite (fun _ => Tr.ret trivial) fun _ => Tr.then 1 Tr.pick fun _ _ => Tr.ret trivial) fun g _ => ?_
  refine Tr.then 3000 (Tr.mapN (n := 1500) (L := 2) (S := Tn g n) (fun _ _ => products_num g h1 h6) (by rw [rangeF_len]; decide)) fun ls hls => ?_
  have e2 : ls.length = 2 := by rw [hls.1, rangeF_len]; rfl
  match ls, e2, hls with
  | [P0, Q0], _, hls =>
    have t1 := hls.2 P0 (by simp)
    have t2 := hls.2 Q0 (by simp)
    refine Tr.then 0 (S := fun b : Bool => b = false → n = 1 ∨ g = false) (Tr.ite (fun _ => Tr.ret fun z => by cases z) fun _ => Tr.ite (fun _ => Tr.ret .inr) fun z => Tr.ret fun _ => .inl (by have := of_decide_eq_false z; omega)) fun b hb => ?_
    refine Tr.then 0 (S := fun fl => ∃ P Q, fl = Fl.nx [P, Q] ∧ Tk n P ∧ Tk n Q) (Tr.ite (fun _ => Tr.ret ⟨whP P0, whP Q0, rfl, tk_whole t1, tk_whole t2⟩) fun z => Tr.ret ⟨P0, Q0, rfl, ?_⟩) fun fl hfl => ?_
    · rcases hb z with e | e
      · subst e; exact ⟨tk_one t1, tk_one t2⟩
      · subst e; exact ⟨tk_small t1, tk_small t2⟩
    obtain ⟨P, Q1, rfl, hP, hQ1⟩ := hfl
    have i0 : ∀ R : List (List (List Fr)), ixOk [P, R] 0 = true := fun _ => rfl
    have i1 : ∀ R : List (List (List Fr)), ixOk [P, R] 1 = true := fun _ => rfl
    have a0 : ∀ R : List (List (List Fr)), ixAt [P, R] 0 = P := fun _ => rfl
    have a1 : ∀ R : List (List (List Fr)), ixAt [P, R] 1 = R := fun _ => rfl
    simp only [sq_nx, bnd_ret, bnd_assoc, bnd_grd, grd_true, fnR_bnd, fnR_grd, fnR_ret, i0, i1, a0, a1, table_init (hP.tb h6) h1 h6, table_init (hQ1.tb h6) h1 h6]
    refine Tr.then 1 Tr.pick fun k _ => ?_
    refine Tr.then 0 (S := fun fl => ∃ R, fl = Fl.nx (tbV R, [P, R]) ∧ Tk n R) (Tr.ite (fun _ => Tr.ret ⟨P, rfl, hP⟩) fun _ => Tr.ret ⟨Q1, rfl, hQ1⟩) fun fl hfl => ?_
    obtain ⟨Q, rfl, hQ⟩ := hfl
    simp only [sq_nx, bnd_ret, bnd_assoc, bnd_grd, grd_true, fnR_bnd, fnR_grd, fnR_ret, i0, i1, a0, a1, hr, Int.toNat_natCast]
    refine Tr.then 1 Tr.pick fun k _ => ?_
    refine Tr.then 5 (S := Bd 14) (Tr.ite (fun _ => Tr.then 1 Tr.pick fun k hk => ?_) fun _ => (law_number_tr _).cons fun x hx => hx.bd) fun f hf => ?_
    · have q := ix_in (l := ([(0, 1), (1, 1), (-1, 1)] : List Fr)) (k := k) hk.1 hk.2
      refine Tr.grd q.1 (Tr.ret ?_)
      have := q.2
      generalize ixAt ([(0, 1), (1, 1), (-1, 1)] : List Fr) k = f at this
      simp only [List.mem_cons, List.not_mem_nil, or_false] at this
      rcases this with rfl | rfl | rfl <;> exact ⟨⟨by decide, by decide⟩, by decide, by decide⟩
    have c1 := (bl_tb hf hP (opp_tk hP h6)).cub
    have c2 := (bl_tb hf hP hQ).cub
    have c3 := (bl_tb hf hQ hP).cub
    simp only [opp_due hf hP h6, bl_due hf hP hQ, bl_due hf hQ hP, both_ways_eq hf hP h1 h6, blended_eq hf hP hQ h1 h6, blended_eq hf hQ hP h1 h6, law_is_eq c1 h6, law_is_eq c2 h6, law_is_eq c3 h6, nott, ite_false, sq_nx, bnd_ret, bnd_assoc, bnd_grd, grd_true, fnR_bnd, fnR_grd, fnR_ret]
    refine Tr.then 1000 (Tr.forN (n := 500) (L := 2) (fun _ : Unit => True) trivial (fun _ _ _ _ => ?_) (by rw [rangeF_len]; decide)) fun fl hfl => ?_
    · refine Tr.then 500 (changed_right_tr hQ h1 h6) fun b hb => ?_
      subst hb
      exact Tr.ret ⟨(), rfl, trivial⟩
    obtain ⟨_, rfl, _⟩ := hfl
    simp only [sq_nx, bnd_ret, bnd_assoc, bnd_grd, grd_true, fnR_bnd, fnR_grd, fnR_ret]
    refine Tr.then 1 (portion_right_tr hP h1 h6) fun b hb => ?_
    subst hb
    simp only [nott, ite_false, sq_nx, bnd_ret, bnd_assoc, bnd_grd, grd_true, fnR_bnd, fnR_grd, fnR_ret, table_products]
    rw [alike_two hP.td.cub hQ.td.cub h6, bnd_ret]
    exact Tr.ret rfl
theorem law_tr (ns : List Int) : Tr 10000 (w_law (ns, ())) (fun r => r = true) := by
  unfold w_law wb_law
  simp only [bnd_ret, bnd_assoc, bnd_grd, grd_true, fnR_bnd, fnR_grd, fnR_ret, bnd_ite, fnR_ite]
  refine Tr.then 5000 (law_right_tr (by decide) (by decide)) fun r hr => ?_
  rw [hr, ite_true]
  exact Tr.then 5000 (law_right_tr (by decide) (by decide)) fun r hr => Tr.ret hr
theorem law_true (ns : List Int) (_ : ns.length ≤ 63) : w_law (ns, ()) (fun r _ => r = true) noX 0 := law_tr ns _ _ 0 (Nat.le_trans (show 0 + 10000 ≤ 2 ^ 17 by decide) (Nat.pow_le_pow_right (by decide) (by decide))) fun r _ _ h => h
end Dc
open PySem PySem.W PyProof.Rows
set_option maxHeartbeats 0 in
theorem PySem.Challenge.cw_toldproducts_k10_both_ways_blended_chang_holds : PySem.Challenge.rw_toldproducts_k10_both_ways_blended_chang.Holds := by
  w_on; o_law; k_head; (case hw => w_witness2)
  k_fill
  refine L2.walk_of (l := PySem.Challenge.rw_toldproducts_k10_both_ways_blended_chang) (n := 63) (k := 14) (x := Str.ofString "_law_script") (CX := fun _ => L2.CX0) (sp := fun w => Dc.spLaw _) rfl (by decide) rfl ⟨rfl, by decide, by decide⟩ (fun w h Y => PySem.W.kIn_of Y) ?F (fun _ _ a ns hl _ hS => ⟨a, ns, rfl, hS, hl, fun _ => rfl⟩) (fun _ _ _ _ _ h => h)
  case F =>
    intro w mg fa h KX G hmg
    refine' Dc.all_mk KX G hmg ?aC_Table ?pg_Table ?hd_Table ?po_Table ?sa_Table ?ms_Table ?kc_Table ?nf_Table_products ?nf_Table_below ?nf_Table_cells ?nea_Table ?neb_Table ?iha_Table ?ihn_Table ?ihk_Table ?ihm_Table ?a0 ?l0 ?c0 ?k0 ?a1 ?l1 ?c1 ?k1 ?a2 ?l2 ?c2 ?k2 ?a3 ?l3 ?c3 ?k3 ?a4 ?l4 ?c4 ?k4 ?a5 ?l5 ?c5 ?k5 ?a6 ?l6 ?c6 ?k6 ?a7 ?l7 ?c7 ?k7 ?a8 ?l8 ?c8 ?k8 ?a9 ?l9 ?c9 ?k9 ?a10 ?l10 ?c10 ?k10 ?a11 ?l11 ?c11 ?k11 ?a12 ?l12 ?c12 ?k12 ?a13 ?l13 ?c13 ?k13 ?a14 ?i14 ?l14 ?c14 ?k14 ?a15 ?g15 ?t15 ?r15 ?l15 ?c15 ?k15 ?a16 ?g16 ?t16 ?r16 ?l16 ?c16 ?k16 ?a17 ?i17 ?l17 ?c17 ?k17 ?a18 ?i18 ?l18 ?c18 ?k18 ?a19 ?i19 ?y19 ?l19 ?c19 ?k19 ?a20 ?l20 ?c20 ?k20 ?a21 ?l21 ?c21 ?k21 ?a22 ?l22 ?c22 ?k22 ?a23 ?l23 ?c23 ?k23 ?a24 ?l24 ?c24 ?k24 ?a25 ?l25 ?c25 ?k25 ?a26 ?l26 ?c26 ?k26 ?a27 ?l27 ?c27 ?k27 ?a28 ?l28 ?c28 ?k28 ?a29 ?l29 ?c29 ?k29 ?a30 ?l30 ?c30 ?k30 ?a31 ?l31 ?c31 ?k31 ?a32 ?l32 ?c32 ?k32 ?a33 ?l33 ?c33 ?k33 ?a34 ?l34 ?c34 ?k34 ?a35 ?l35 ?c35 ?k35 ?a36 ?l36 ?c36 ?k36 ?a37 ?l37 ?c37 ?k37 ?a38 ?l38 ?c38 ?k38 ?a39 ?l39 ?c39 ?k39 ?a40 ?l40 ?c40 ?k40 ?a41 ?l41 ?c41 ?k41 ?a42 ?l42 ?c42 ?k42 ?z_abs ?z_all ?z_bool ?z_enumerate ?z_int ?z_isinstance ?z_len ?z_list ?z_range ?z_tuple ?z_zip ?g_gcd ?g_lcm Dc.law_true
    (case aC_Table => k_is)
    (case pg_Table => k_is)
    (case hd_Table => k_is)
    (case po_Table => k_is)
    (case sa_Table => k_is)
    (case ms_Table => k_is)
    (case kc_Table => k_is)
    (case nf_Table_products => k_is)
    (case nf_Table_below => k_is)
    (case nf_Table_cells => k_is)
    (case nea_Table => k_is)
    (case neb_Table => k_is)
    (case iha_Table => k_is)
    (case ihn_Table => k_is)
    (case ihk_Table => k_is)
    (case ihm_Table => k_is)
    (case a0 => k_is)
    (case l0 => k_is)
    (case c0 => k_is)
    (case k0 => k_is)
    (case a1 => k_is)
    (case l1 => k_is)
    (case c1 => k_is)
    (case k1 => k_is)
    (case a2 => k_is)
    (case l2 => k_is)
    (case c2 => k_is)
    (case k2 => k_is)
    (case a3 => k_is)
    (case l3 => k_is)
    (case c3 => k_is)
    (case k3 => k_is)
    (case a4 => k_is)
    (case l4 => k_is)
    (case c4 => k_is)
    (case k4 => k_is)
    (case a5 => k_is)
    (case l5 => k_is)
    (case c5 => k_is)
    (case k5 => k_is)
    (case a6 => k_is)
    (case l6 => k_is)
    (case c6 => k_is)
    (case k6 => k_is)
    (case a7 => k_is)
    (case l7 => k_is)
    (case c7 => k_is)
    (case k7 => k_is)
    (case a8 => k_is)
    (case l8 => k_is)
    (case c8 => k_is)
    (case k8 => k_is)
    (case a9 => k_is)
    (case l9 => k_is)
    (case c9 => k_is)
    (case k9 => k_is)
    (case a10 => k_is)
    (case l10 => k_is)
    (case c10 => k_is)
    (case k10 => k_is)
    (case a11 => k_is)
    (case l11 => k_is)
    (case c11 => k_is)
    (case k11 => k_is)
    (case a12 => k_is)
    (case l12 => k_is)
    (case c12 => k_is)
    (case k12 => k_is)
    (case a13 => k_is)
    (case l13 => k_is)
    (case c13 => k_is)
    (case k13 => k_is)
    (case a14 => k_is)
    (case i14 => k_is)
    (case l14 => k_is)
    (case c14 => k_is)
    (case k14 => k_is)
    (case a15 => k_is)
    (case g15 => k_is)
    (case t15 => k_is)
    (case r15 => k_is)
    (case l15 => k_is)
    (case c15 => k_is)
    (case k15 => k_is)
    (case a16 => k_is)
    (case g16 => k_is)
    (case t16 => k_is)
    (case r16 => k_is)
    (case l16 => k_is)
    (case c16 => k_is)
    (case k16 => k_is)
    (case a17 => k_is)
    (case i17 => k_is)
    (case l17 => k_is)
    (case c17 => k_is)
    (case k17 => k_is)
    (case a18 => k_is)
    (case i18 => k_is)
    (case l18 => k_is)
    (case c18 => k_is)
    (case k18 => k_is)
    (case a19 => k_is)
    (case i19 => k_is)
    (case y19 => k_is)
    (case l19 => k_is)
    (case c19 => k_is)
    (case k19 => k_is)
    (case a20 => k_is)
    (case l20 => k_is)
    (case c20 => k_is)
    (case k20 => k_is)
    (case a21 => k_is)
    (case l21 => k_is)
    (case c21 => k_is)
    (case k21 => k_is)
    (case a22 => k_is)
    (case l22 => k_is)
    (case c22 => k_is)
    (case k22 => k_is)
    (case a23 => k_is)
    (case l23 => k_is)
    (case c23 => k_is)
    (case k23 => k_is)
    (case a24 => k_is)
    (case l24 => k_is)
    (case c24 => k_is)
    (case k24 => k_is)
    (case a25 => k_is)
    (case l25 => k_is)
    (case c25 => k_is)
    (case k25 => k_is)
    (case a26 => k_is)
    (case l26 => k_is)
    (case c26 => k_is)
    (case k26 => k_is)
    (case a27 => k_is)
    (case l27 => k_is)
    (case c27 => k_is)
    (case k27 => k_is)
    (case a28 => k_is)
    (case l28 => k_is)
    (case c28 => k_is)
    (case k28 => k_is)
    (case a29 => k_is)
    (case l29 => k_is)
    (case c29 => k_is)
    (case k29 => k_is)
    (case a30 => k_is)
    (case l30 => k_is)
    (case c30 => k_is)
    (case k30 => k_is)
    (case a31 => k_is)
    (case l31 => k_is)
    (case c31 => k_is)
    (case k31 => k_is)
    (case a32 => k_is)
    (case l32 => k_is)
    (case c32 => k_is)
    (case k32 => k_is)
    (case a33 => k_is)
    (case l33 => k_is)
    (case c33 => k_is)
    (case k33 => k_is)
    (case a34 => k_is)
    (case l34 => k_is)
    (case c34 => k_is)
    (case k34 => k_is)
    (case a35 => k_is)
    (case l35 => k_is)
    (case c35 => k_is)
    (case k35 => k_is)
    (case a36 => k_is)
    (case l36 => k_is)
    (case c36 => k_is)
    (case k36 => k_is)
    (case a37 => k_is)
    (case l37 => k_is)
    (case c37 => k_is)
    (case k37 => k_is)
    (case a38 => k_is)
    (case l38 => k_is)
    (case c38 => k_is)
    (case k38 => k_is)
    (case a39 => k_is)
    (case l39 => k_is)
    (case c39 => k_is)
    (case k39 => k_is)
    (case a40 => k_is)
    (case l40 => k_is)
    (case c40 => k_is)
    (case k40 => k_is)
    (case a41 => k_is)
    (case l41 => k_is)
    (case c41 => k_is)
    (case k41 => k_is)
    (case a42 => k_is)
    (case l42 => k_is)
    (case c42 => k_is)
    (case k42 => k_is)
    (case z_abs => k_is)
    (case z_all => k_is)
    (case z_bool => k_is)
    (case z_enumerate => k_is)
    (case z_int => k_is)
    (case z_isinstance => k_is)
    (case z_len => k_is)
    (case z_list => k_is)
    (case z_range => k_is)
    (case z_tuple => k_is)
    (case z_zip => k_is)
    (case g_gcd => k_is)
    (case g_lcm => k_is)
