import PyProof.Rows.All
import HandS.ForMost
import HandS.Wide
import HandS.WideBits
import HandS.Gcd
import HandS.Flow
import HandS.IsInst
import HandS.Style
import HandS.Property
import HandS.Star
import HandS.Codes
import HandS.TryOnly
import HandS.OwnEq
import HandS.Conv
import HandS.IterVal
import HandS.More
import PySem.Challenge.RW_toldproducts_k03_whole_the_only_form
set_option Elab.async false
set_option linter.all false
set_option maxRecDepth 100000
/-! DcA: the judgements. A def of the program is told by a plain function into W, a small monad of wishes; encodings tell how values stand in the heap. -/
namespace Dc
open PySem PySem.Spec L2

/-! ### data as a whole -/
inductive D where
  | non | bl (b : Bool) | int (i : Int) | str (s : Str) | lst (ds : List D) | tup (ds : List D)

/-! ### the monad of wishes: c counts draws -/
structure Ex where
  cls : Nat
  val : D
abbrev WB := Nat → Prop
def W (α : Type) : Type := (α → WB) → (Ex → WB) → WB
def ret {α : Type} (x : α) : W α := fun Φ _ c => Φ x c
def bnd {α β : Type} (m : W α) (k : α → W β) : W β := fun Φ Ψ c => m (fun x c' => k x Φ Ψ c') Ψ c
def stuck {α : Type} : W α := fun _ _ _ => False
def raise {α : Type} (e : Ex) : W α := fun _ Ψ c => Ψ e c
def grd {α : Type} (b : Bool) (m : W α) : W α := fun Φ Ψ c => b = true ∧ m Φ Ψ c
def ite {α : Type} (b : Bool) (m n : W α) : W α := fun Φ Ψ c => if b = true then m Φ Ψ c else n Φ Ψ c
theorem bnd_ret {α β : Type} (x : α) (k : α → W β) : bnd (ret x) k = k x := (rfl)
theorem bnd_assoc {α β γ : Type} (m : W α) (k : α → W β) (l : β → W γ) : bnd (bnd m k) l = bnd m (fun x => bnd (k x) l) := (rfl)
theorem bnd_ret_r {α : Type} (m : W α) : bnd m ret = m := (rfl)
theorem bnd_stuck {α β : Type} (k : α → W β) : bnd stuck k = stuck := (rfl)
theorem bnd_grd {α β : Type} (b : Bool) (m : W α) (k : α → W β) : bnd (grd b m) k = grd b (bnd m k) := (rfl)
theorem grd_true {α : Type} (m : W α) : grd true m = m := by
  funext Φ Ψ c
  simp [grd]
theorem ite_true {α : Type} (m n : W α) : ite true m n = m := (rfl)
theorem ite_false {α : Type} (m n : W α) : ite false m n = n := by
  funext Φ Ψ c
  simp [ite]
theorem bnd_ite {α β : Type} (b : Bool) (m n : W α) (k : α → W β) : bnd (ite b m n) k = ite b (bnd m k) (bnd n k) := by
  funext Φ Ψ c
  cases b <;> simp [ite, bnd]
def noX : Ex → WB := fun _ _ => False

/-! ### encodings -/
abbrev AS := Addr → Prop
def Mv (O O' : AS) (H H' : Hp) : Prop := ∀ a o, ¬ O a → H a = some o → H' a = some o ∧ ¬ O' a
theorem Mv.refl {O : AS} {H : Hp} : Mv O O H H := fun _ _ h e => ⟨e, h⟩
theorem Mv.same {O : AS} {H H' : Hp} (s : Same H H') : Mv O O H H' := fun a o h e => ⟨s a o e, h⟩
theorem Mv.less {O O' : AS} {H : Hp} (h : ∀ a, O' a → O a) : Mv O O' H H := fun a _ n e => ⟨e, fun z => n (h a z)⟩
theorem Mv.trans {O O1 O2 : AS} {H H1 H2 : Hp} (x : Mv O O1 H H1) (y : Mv O1 O2 H1 H2) : Mv O O2 H H2 := fun a o n e =>
  let ⟨e1, n1⟩ := x a o n e
  y a o n1 e1
structure En (K : PySem.W.Frag) (α : Type) where
  r : AS → Hp → V → α → Prop
  mono : ∀ {O O' : AS} {H H' : Hp} {v : V} {x : α}, Mv O O' H H' → r O H v x → r O' H' v x
inductive F2 {α β : Type} (R : α → β → Prop) : List α → List β → Prop where
  | nil : F2 R [] []
  | cons {a b l m} : R a b → F2 R l m → F2 R (a :: l) (b :: m)
section
variable {α β : Type} {R S : α → β → Prop} {l : List α} {m : List β}
theorem F2.imp (h : F2 R l m) (f : ∀ a b, R a b → S a b) : F2 S l m := by
  induction h with
  | nil => exact .nil
  | cons r _ ih => exact .cons (f _ _ r) ih
theorem F2.length (h : F2 R l m) : l.length = m.length := by
  induction h with
  | nil => rfl
  | cons _ _ ih => simp [ih]
theorem F2.get (h : F2 R l m) : ∀ {i : Nat} {b : β}, m[i]? = some b → ∃ a, l[i]? = some a ∧ R a b := by
  induction h with
  | nil => intro i b e; simp at e
  | cons r _ ih =>
    intro i b e
    cases i with
    | zero => simp at e; subst e; exact ⟨_, by simp, r⟩
    | succ i => simpa using ih (by simpa using e)
theorem F2.get' (h : F2 R l m) : ∀ {i : Nat} {a : α}, l[i]? = some a → ∃ b, m[i]? = some b ∧ R a b := by
  induction h with
  | nil => intro i b e; simp at e
  | cons r _ ih =>
    intro i b e
    cases i with
    | zero => simp at e; subst e; exact ⟨_, by simp, r⟩
    | succ i => simpa using ih (by simpa using e)
theorem F2.append {l2 : List α} {m2 : List β} (h : F2 R l m) (h2 : F2 R l2 m2) : F2 R (l ++ l2) (m ++ m2) := by
  induction h with
  | nil => exact h2
  | cons r _ ih => exact .cons r ih
theorem F2.set (h : F2 R l m) : ∀ (i : Nat) {a : α} {b : β}, R a b → F2 R (l.set i a) (m.set i b) := by
  induction h with
  | nil => intro i a b _; exact .nil
  | cons r t ih =>
    intro i a b q
    cases i with
    | zero => exact .cons q t
    | succ i => exact .cons r (ih i q)
theorem F2.drop (h : F2 R l m) : ∀ (i : Nat), F2 R (l.drop i) (m.drop i) := by
  induction h with
  | nil => intro i; simp; exact .nil
  | cons r t ih =>
    intro i
    cases i with
    | zero => exact .cons r t
    | succ i => simpa using ih i
theorem F2.take (h : F2 R l m) : ∀ (i : Nat), F2 R (l.take i) (m.take i) := by
  induction h with
  | nil => intro i; simp; exact .nil
  | cons r t ih =>
    intro i
    cases i with
    | zero => simp; exact .nil
    | succ i => simpa using F2.cons r (ih i)
theorem F2.rep {a : α} {b : β} (r : R a b) : ∀ n : Nat, F2 R (List.replicate n a) (List.replicate n b)
  | 0 => .nil
  | n + 1 => .cons r (F2.rep r n)
theorem F2.rev (h : F2 R l m) : F2 R l.reverse m.reverse := by
  induction h with
  | nil => exact .nil
  | cons r _ ih => simpa using ih.append (.cons r .nil)
theorem F2.dropLast (h : F2 R l m) : F2 R l.dropLast m.dropLast := by
  rw [List.dropLast_eq_take, List.dropLast_eq_take, h.length]
  exact h.take _
theorem F2.eraseIdx (h : F2 R l m) : ∀ (i : Nat), F2 R (l.eraseIdx i) (m.eraseIdx i) := by
  induction h with
  | nil => intro i; simp; exact .nil
  | cons r t ih =>
    intro i
    cases i with
    | zero => simpa using t
    | succ i => simpa using F2.cons r (ih i)
end
section
variable {K : PySem.W.Frag} {α β γ : Type}
def kTup (K : PySem.W.Frag) (a : Addr) (xs : List V) : Prop :=
  ∃ (o : Obj) (its : Array Value) (n : Nat), K.lookup a = some o ∧ o.cls = .type "tuple" ∧ o.data = .seq its n ∧ its.size ≤ sizeLine ∧ Vals xs its.toList
def TupAt (K : PySem.W.Frag) (O : AS) (H : Hp) (a : Addr) (xs : List V) : Prop := (¬ O a ∧ Rd H a (.tup xs)) ∨ kTup K a xs
def LstAt (O : AS) (H : Hp) (a : Addr) (xs : List V) : Prop := ¬ O a ∧ H a = some (.lst xs)
def kLst (K : PySem.W.Frag) (a : Addr) (xs : List V) : Prop :=
  ∃ (o : Obj) (its : Array Value) (n : Nat), K.lookup a = some o ∧ o.cls = .type "list" ∧ o.dict = none ∧ o.data = .seq its n ∧ its.size ≤ sizeLine ∧ Vals xs its.toList
def LstR (K : PySem.W.Frag) (O : AS) (H : Hp) (a : Addr) (xs : List V) : Prop := (¬ O a ∧ Rd H a (.lst xs)) ∨ kLst K a xs
theorem Rd.mv {O O' : AS} {H H' : Hp} {a : Addr} {u : HO} (m : Mv O O' H H') (n : ¬ O a) (h : Rd H a u) : Rd H' a u ∧ ¬ O' a := by
  rcases h with h | ⟨o, h⟩
  · exact ⟨.inl (m _ _ n h).1, (m _ _ n h).2⟩
  · exact ⟨.inr ⟨o, (m _ _ n h).1⟩, (m _ _ n h).2⟩
theorem TupAt.mv {O O' : AS} {H H' : Hp} {a : Addr} {xs : List V} (m : Mv O O' H H') (h : TupAt K O H a xs) : TupAt K O' H' a xs := by
  rcases h with ⟨n, h⟩ | h
  · exact .inl ⟨(Rd.mv m n h).2, (Rd.mv m n h).1⟩
  · exact .inr h
theorem LstAt.mv {O O' : AS} {H H' : Hp} {a : Addr} {xs : List V} (m : Mv O O' H H') (h : LstAt O H a xs) : LstAt O' H' a xs := ⟨(m _ _ h.1 h.2).2, (m _ _ h.1 h.2).1⟩
theorem LstR.mv {O O' : AS} {H H' : Hp} {a : Addr} {xs : List V} (m : Mv O O' H H') (h : LstR K O H a xs) : LstR K O' H' a xs := by
  rcases h with ⟨n, h⟩ | h
  · exact .inl ⟨(Rd.mv m n h).2, (Rd.mv m n h).1⟩
  · exact .inr h
theorem LstAt.r {O : AS} {H : Hp} {a : Addr} {xs : List V} (h : LstAt O H a xs) : LstR K O H a xs := .inl ⟨h.1, .inl h.2⟩
theorem LstR.sq {O : AS} {H : Hp} {a : Addr} {xs : List V} (h : LstR K O H a xs) : SqL K H a xs := by
  rcases h with ⟨_, h⟩ | h
  · exact .inl h
  · exact .inr h
theorem SqL.r {H : Hp} {a : Addr} {xs : List V} (h : SqL K H a xs) : LstR K (fun _ => False) H a xs := by
  rcases h with h | h
  · exact .inl ⟨fun z => z, h⟩
  · exact .inr h
theorem TupAt.sq {O : AS} {H : Hp} {a : Addr} {xs : List V} (h : TupAt K O H a xs) : SqT K H a xs := by
  rcases h with ⟨_, h⟩ | h
  · exact .inl h
  · exact .inr h
theorem LstAt.sq {O : AS} {H : Hp} {a : Addr} {xs : List V} (h : LstAt O H a xs) : SqL K H a xs := .inl (.inl h.2)
def eI : En K Int := ⟨fun _ _ v x => v = .int x, fun _ h => h⟩
def eB : En K Bool := ⟨fun _ _ v x => v = .bl x, fun _ h => h⟩
def eS : En K Str := ⟨fun _ _ v x => v = .str x, fun _ h => h⟩
def eU : En K Unit := ⟨fun _ _ v _ => v = .non, fun _ h => h⟩
/-- a list that nobody writes at -/
def eL (e : En K α) : En K (List α) := ⟨fun O H v xs => ∃ a vs, v = .ref a ∧ LstAt O H a vs ∧ F2 (e.r O H) vs xs, fun m ⟨a, vs, e1, h, f⟩ => ⟨a, vs, e1, h.mv m, f.imp fun _ _ => e.mono m⟩⟩
/-- a list that is read alone (the script) -/
def eR (e : En K α) : En K (List α) := ⟨fun O H v xs => ∃ a vs, v = .ref a ∧ LstR K O H a vs ∧ F2 (e.r O H) vs xs, fun m ⟨a, vs, e1, h, f⟩ => ⟨a, vs, e1, h.mv m, f.imp fun _ _ => e.mono m⟩⟩
theorem eL_R {e : En K α} {O : AS} {H : Hp} {v : V} {xs : List α} (h : (eL e).r O H v xs) : (eR e).r O H v xs := by
  obtain ⟨a, vs, e1, l, f⟩ := h
  exact ⟨a, vs, e1, l.r, f⟩
/-- a tuple of two, three -/
def eP (e : En K α) (f : En K β) : En K (α × β) :=
  ⟨fun O H v x => ∃ a u w, v = .ref a ∧ TupAt K O H a [u, w] ∧ e.r O H u x.1 ∧ f.r O H w x.2, fun m ⟨a, u, w, e1, h, p, q⟩ => ⟨a, u, w, e1, h.mv m, e.mono m p, f.mono m q⟩⟩
def eP3 (e : En K α) (f : En K β) (g : En K γ) : En K (α × β × γ) :=
  ⟨fun O H v x => ∃ a u w z, v = .ref a ∧ TupAt K O H a [u, w, z] ∧ e.r O H u x.1 ∧ f.r O H w x.2.1 ∧ g.r O H z x.2.2, fun m ⟨a, u, w, z, e1, h, p, q, s⟩ => ⟨a, u, w, z, e1, h.mv m, e.mono m p, f.mono m q, g.mono m s⟩⟩
/-- None, or a value that is not None -/
def eO (e : En K α) : En K (Option α) :=
  ⟨fun O H v x => match x with | none => v = .non | some y => e.r O H v y ∧ v ≠ .non, fun {O O' H H' v x} m h => by
    cases x with
    | none => exact h
    | some y => exact ⟨e.mono m h.1, h.2⟩⟩
/-- a number -/
abbrev eN : En K (Int × Int) := eP eI eI
end

mutual
def rD (K : PySem.W.Frag) (O : AS) (H : Hp) : V → D → Prop
  | v, .non => v = .non
  | v, .bl b => v = .bl b
  | v, .int i => v = .int i
  | v, .str s => v = .str s
  | v, .lst ds => ∃ a vs, v = .ref a ∧ LstAt O H a vs ∧ rDs K O H vs ds
  | v, .tup ds => ∃ a vs, v = .ref a ∧ TupAt K O H a vs ∧ rDs K O H vs ds
def rDs (K : PySem.W.Frag) (O : AS) (H : Hp) : List V → List D → Prop
  | vs, [] => vs = []
  | vs, d :: ds => ∃ v r, vs = v :: r ∧ rD K O H v d ∧ rDs K O H r ds
end
mutual
theorem rD.mono {K : PySem.W.Frag} {O O' : AS} {H H' : Hp} (m : Mv O O' H H') : ∀ {v : V} (d : D), rD K O H v d → rD K O' H' v d
  | _, .non, h => h
  | _, .bl _, h => h
  | _, .int _, h => h
  | _, .str _, h => h
  | _, .lst ds, h => by
    obtain ⟨a, vs, e, l, r⟩ := (by simpa only [rD] using h : ∃ a vs, _)
    simp only [rD]
    exact ⟨a, vs, e, l.mv m, rDs.mono m ds r⟩
  | _, .tup ds, h => by
    obtain ⟨a, vs, e, l, r⟩ := (by simpa only [rD] using h : ∃ a vs, _)
    simp only [rD]
    exact ⟨a, vs, e, l.mv m, rDs.mono m ds r⟩
theorem rDs.mono {K : PySem.W.Frag} {O O' : AS} {H H' : Hp} (m : Mv O O' H H') : ∀ {vs : List V} (ds : List D), rDs K O H vs ds → rDs K O' H' vs ds
  | _, [], h => h
  | _, d :: ds, h => by
    obtain ⟨v, r, e, p, q⟩ := (by simpa only [rDs] using h : ∃ v r, _)
    simp only [rDs]
    exact ⟨v, r, e, rD.mono m d p, rDs.mono m ds q⟩
end
def eD {K : PySem.W.Frag} : En K D := ⟨rD K, fun m h => rD.mono m _ h⟩

/-! ### owned things -/
structure On (K : PySem.W.Frag) (α : Type) where
  r : AS → Hp → Addr → α → Prop
  mono : ∀ {O O' : AS} {H H' : Hp} {a : Addr} {x : α}, Mv O O' H H' → H' a = H a → r O H a x → r O' H' a x
  dom : ∀ {O : AS} {H : Hp} {a : Addr} {x : α}, r O H a x → H a ≠ none
/-- a list of one's own -/
def oL {K : PySem.W.Frag} {α : Type} (e : En K α) : On K (List α) :=
  ⟨fun O H a xs => ∃ vs, H a = some (.lst vs) ∧ F2 (e.r O H) vs xs, fun m h ⟨vs, q, f⟩ => ⟨vs, h.trans q, f.imp fun _ _ => e.mono m⟩, fun ⟨vs, q, _⟩ z => by rw [q] at z; cases z⟩

/-! ### what a law's pool of draws is: two objects -/
structure PoolK where
  r : Hp → Addr → Addr → Nat → Prop
  keep : ∀ {H H' : Hp} {a b : Addr} {c : Nat}, H' a = H a → H' b = H b → r H a b c → r H' a b c
  dom : ∀ {H : Hp} {a b : Addr} {c : Nat}, r H a b c → H a ≠ none ∧ H b ≠ none
abbrev PP := Option (Addr × Addr)
def foot (pp : PP) (x : Addr) : Prop := match pp with | none => False | some (a, b) => x = a ∨ x = b
def PoolOk (PK : PoolK) (pp : PP) (H : Hp) (c : Nat) : Prop := match pp with | none => True | some (a, b) => PK.r H a b c

/-! ### the slots -/
inductive Sl (K : PySem.W.Frag) : Type 1 where
  | nil
  | sh {α : Type} (en : En K α) (x : α)
  | ow {α : Type} (a : Addr) (on : On K α) (x : α)
  | pl
section
variable {K : PySem.W.Frag}
def get : List (Sl K) → Nat → Sl K
  | [], _ => .nil
  | s :: _, 0 => s
  | _ :: r, n + 1 => get r n
def put : List (Sl K) → Nat → Sl K → List (Sl K)
  | [], _, _ => []
  | _ :: r, 0, e => e :: r
  | s :: r, n + 1, e => s :: put r n e
def own1 : Sl K → List Addr
  | .ow a _ _ => [a]
  | _ => []
def owns : List (Sl K) → List Addr
  | [] => []
  | s :: r => own1 s ++ owns r
def SlOk (A : AS) (pp : PP) (H : Hp) (σ : St) (i : Nat) : Sl K → Prop
  | .nil => True
  | .sh en x => ∃ v, σ[i]? = some (some v) ∧ en.r A H v x
  | .ow a on x => σ[i]? = some (some (.ref a)) ∧ on.r A H a x
  | .pl => ∃ a b, pp = some (a, b) ∧ σ[i]? = some (some (.ref a))
def Av (O : AS) (pp : PP) (ρ : List (Sl K)) : AS := fun a => O a ∨ foot pp a ∨ a ∈ owns ρ
structure Sat (PK : PoolK) (O : AS) (pp : PP) (ρ : List (Sl K)) (c : Nat) (σ : St) (H : Hp) : Prop where
  len : σ.length = ρ.length
  nd : (owns ρ).Nodup
  new : ∀ a ∈ owns ρ, ¬ O a ∧ ¬ foot pp a
  dom : ∀ a, O a → H a ≠ none
  pool : PoolOk PK pp H c
  slots : ∀ i, SlOk (Av O pp ρ) pp H σ i (get ρ i)
theorem get_put_self : ∀ {ρ : List (Sl K)} {i : Nat} {s : Sl K}, get (put ρ i s) i = s ∨ get (put ρ i s) i = .nil
  | [], i, s => .inr (by cases i <;> rfl)
  | _ :: r, 0, s => .inl rfl
  | _ :: r, i + 1, s => get_put_self (ρ := r)
theorem get_put_ne : ∀ {ρ : List (Sl K)} {i j : Nat} {s : Sl K}, j ≠ i → get (put ρ i s) j = get ρ j
  | [], i, j, s, h => rfl
  | x :: r, 0, 0, s, h => absurd rfl h
  | x :: r, 0, j + 1, s, h => rfl
  | x :: r, i + 1, 0, s, h => rfl
  | x :: r, i + 1, j + 1, s, h => get_put_ne (ρ := r) (fun e => h (by omega))
theorem mem_owns : ∀ {ρ : List (Sl K)} {a : Addr}, a ∈ owns ρ → ∃ i, ∃ (α : Type) (on : On K α) (x : α), get ρ i = .ow a on x
  | [], a, h => by cases h
  | s :: r, a, h => by
    rcases List.mem_append.mp h with h | h
    · cases s with
      | ow b on x =>
        have e : a = b := by simpa [own1] using h
        subst e
        exact ⟨0, _, on, x, rfl⟩
      | nil => cases h
      | sh _ _ => cases h
      | pl => cases h
    · obtain ⟨i, α, on, x, e⟩ := mem_owns h
      exact ⟨i + 1, α, on, x, e⟩
theorem owns_mem : ∀ {ρ : List (Sl K)} {i : Nat} {α : Type} {a : Addr} {on : On K α} {x : α}, get ρ i = .ow a on x → a ∈ owns ρ
  | [], i, α, a, on, x, h => by cases h
  | s :: r, 0, α, a, on, x, h => by
    have e : s = .ow a on x := h
    subst e
    exact List.mem_append.mpr (.inl (by simp [own1]))
  | s :: r, i + 1, α, a, on, x, h => List.mem_append.mpr (.inr (owns_mem (ρ := r) h))
/-- what is put is among what is owned then; all else was -/
theorem owns_put : ∀ {ρ : List (Sl K)} {i : Nat} {s : Sl K} {b : Addr}, b ∈ owns (put ρ i s) → b ∈ own1 s ∨ b ∈ owns ρ
  | [], i, s, b, h => .inr h
  | x :: r, 0, s, b, h => by
    rcases List.mem_append.mp h with h | h
    · exact .inl h
    · exact .inr (List.mem_append.mpr (.inr h))
  | x :: r, i + 1, s, b, h => by
    rcases List.mem_append.mp h with h | h
    · exact .inr (List.mem_append.mpr (.inl h))
    · rcases owns_put (ρ := r) h with h | h
      · exact .inl h
      · exact .inr (List.mem_append.mpr (.inr h))
theorem owns_put_nodup : ∀ {ρ : List (Sl K)} {i : Nat} {s : Sl K}, (owns ρ).Nodup → (own1 s).Nodup → (∀ b ∈ own1 s, b ∉ owns ρ) → (owns (put ρ i s)).Nodup
  | [], i, s, h, _, _ => h
  | x :: r, 0, s, h, h1, h2 => by
    have h : (own1 x ++ owns r).Nodup := h
    rw [List.nodup_append] at h
    show (own1 s ++ owns r).Nodup
    rw [List.nodup_append]
    refine ⟨h1, h.2.1, fun a ha b hb e => ?_⟩
    subst e
    exact h2 a ha (List.mem_append.mpr (.inr hb))
  | x :: r, i + 1, s, h, h1, h2 => by
    have h : (own1 x ++ owns r).Nodup := h
    rw [List.nodup_append] at h
    show (own1 x ++ owns (put r i s)).Nodup
    rw [List.nodup_append]
    refine ⟨h.1, owns_put_nodup h.2.1 h1 fun b hb hr => h2 b hb (List.mem_append.mpr (.inr hr)), fun a ha b hb e => ?_⟩
    subst e
    rcases owns_put hb with hb | hb
    · exact h2 a hb (List.mem_append.mpr (.inl ha))
    · exact h.2.2 a ha a hb rfl
theorem own1_nodup (s : Sl K) : (own1 s).Nodup := by
  cases s <;> simp [own1]
/-- an owned thing changed in place: nothing else is owned -/
theorem owns_same : ∀ {ρ : List (Sl K)} {i : Nat} {α β : Type} {a : Addr} {on : On K α} {x : α} {on' : On K β} {y : β}, get ρ i = .ow a on x → owns (put ρ i (.ow a on' y)) = owns ρ
  | [], i, α, β, a, on, x, on', y, h => by cases h
  | s :: r, 0, α, β, a, on, x, on', y, h => by
    have e : s = .ow a on x := h
    subst e
    rfl
  | s :: r, i + 1, α, β, a, on, x, on', y, h => by
    show own1 s ++ owns (put r i _) = own1 s ++ owns r
    rw [owns_same (ρ := r) h]
theorem owns_free : ∀ {ρ : List (Sl K)} {i : Nat} {s : Sl K}, own1 s = [] → own1 (get ρ i) = [] → owns (put ρ i s) = owns ρ
  | [], i, s, _, _ => rfl
  | x :: r, 0, s, h, h2 => by
    show own1 s ++ owns r = own1 x ++ owns r
    rw [h, show own1 x = [] from h2]
  | x :: r, i + 1, s, h, h2 => by
    show own1 x ++ owns (put r i s) = own1 x ++ owns r
    rw [owns_free (ρ := r) h h2]
/-- an address is owned at one slot alone -/
theorem owns_inj : ∀ {ρ : List (Sl K)} {i j : Nat} {α β : Type} {a : Addr} {on : On K α} {x : α} {on' : On K β} {y : β}, (owns ρ).Nodup → get ρ i = .ow a on x → get ρ j = .ow a on' y → i = j
  | [], i, j, α, β, a, on, x, on', y, _, h, _ => by cases h
  | s :: r, 0, 0, α, β, a, on, x, on', y, _, _, _ => rfl
  | s :: r, 0, j + 1, α, β, a, on, x, on', y, n, h, h' => by
    have n : (own1 s ++ owns r).Nodup := n
    rw [List.nodup_append] at n
    have e : s = .ow a on x := h
    exact absurd rfl (n.2.2 a (by rw [e]; simp [own1]) a (owns_mem (ρ := r) h'))
  | s :: r, i + 1, 0, α, β, a, on, x, on', y, n, h, h' => by
    have n : (own1 s ++ owns r).Nodup := n
    rw [List.nodup_append] at n
    have e : s = .ow a on' y := h'
    exact absurd rfl (n.2.2 a (by rw [e]; simp [own1]) a (owns_mem (ρ := r) h))
  | s :: r, i + 1, j + 1, α, β, a, on, x, on', y, n, h, h' => by
    have n : (own1 s ++ owns r).Nodup := n
    rw [List.nodup_append] at n
    rw [owns_inj (ρ := r) n.2.1 h h']
theorem get_len : ∀ {ρ : List (Sl K)} {i : Nat}, get ρ i ≠ .nil → i < ρ.length
  | [], i, h => absurd (by cases i <;> rfl) h
  | _ :: r, 0, h => by simp
  | _ :: r, i + 1, h => by
    have := get_len (ρ := r) (i := i) h
    simp; omega
end
end Dc
/-! DcB: readings from wishes; expressions. -/
namespace Dc
open PySem PySem.Spec L2
section
variable {K : PySem.W.Frag} {PK : PoolK} {pp : PP} {ρ : List (Sl K)} {O : AS} {c : Nat} {σ : St} {H H' : Hp} {α β γ : Type}
def Dom (A : AS) (H : Hp) : Prop := ∀ a, A a → H a ≠ none
def Chg (pp : PP) (H H' : Hp) : Prop := ∀ a o, H a = some o → ¬ foot pp a → H' a = some o
theorem Chg.of (s : Same H H') : Chg pp H H' := fun a o e _ => s a o e
theorem Chg.refl : Chg pp H H := fun _ _ e _ => e
theorem Chg.trans {H1 : Hp} (x : Chg pp H H1) (y : Chg pp H1 H') : Chg pp H H' := fun a o e n => y a o (x a o e n) n
theorem Chg.mv (x : Chg pp H H') : Mv (Av O pp ρ) (Av O pp ρ) H H' := fun a o n e => ⟨x a o e fun z => n (.inr (.inl z)), n⟩
theorem put_len : ∀ {ρ : List (Sl K)} {i : Nat} {s : Sl K}, (put ρ i s).length = ρ.length
  | [], _, _ => rfl
  | _ :: _, 0, _ => rfl
  | _ :: r, i + 1, s => by
    show (put r i s).length + 1 = r.length + 1
    rw [put_len]
theorem Sat.av (S : Sat PK O pp ρ c σ H) : Dom (Av O pp ρ) H := fun a h => by
  rcases h with h | h | h
  · exact S.dom a h
  · cases pp with
    | none => exact h.elim
    | some p =>
      obtain ⟨a1, b1⟩ := p
      have q : PK.r H a1 b1 c := S.pool
      rcases (show a = a1 ∨ a = b1 from h) with e | e
      · rw [e]; exact (PK.dom q).1
      · rw [e]; exact (PK.dom q).2
  · obtain ⟨i, α, on, x, e⟩ := mem_owns h
    have q := S.slots i
    rw [e] at q
    exact on.dom q.2
theorem same_at (s : Same H H') {a : Addr} (h : H a ≠ none) : H' a = H a := by
  cases e : H a with
  | none => exact absurd e h
  | some o => exact s a o e
theorem SlOk.mv {A A' : AS} {i : Nat} {s : Sl K} (m : Mv A A' H H') (h : SlOk A pp H σ i s) (ho : ∀ a ∈ own1 s, H' a = H a) : SlOk A' pp H' σ i s := by
  cases s with
  | nil => exact True.intro
  | sh en x =>
    obtain ⟨v, e, r⟩ := h
    exact ⟨v, e, en.mono m r⟩
  | ow a on x => exact ⟨h.1, on.mono m (ho a (by simp [own1])) h.2⟩
  | pl => exact h
theorem Sat.same (S : Sat PK O pp ρ c σ H) (s : Same H H') : Sat PK O pp ρ c σ H' := by
  refine ⟨S.len, S.nd, S.new, fun a h => ?_, ?_, fun i => ?_⟩
  · rw [same_at s (S.dom a h)]; exact S.dom a h
  · cases pp with
    | none => exact True.intro
    | some p =>
      obtain ⟨a, b⟩ := p
      have q : PK.r H a b c := S.pool
      exact PK.keep (same_at s (PK.dom q).1) (same_at s (PK.dom q).2) q
  · refine (S.slots i).mv (Mv.same s) fun a ha => ?_
    cases e : get ρ i with
    | ow b on x =>
      rw [e] at ha
      have ha : a = b := by simpa [own1] using ha
      subst ha
      have q := S.slots i
      rw [e] at q
      exact same_at s (on.dom q.2)
    | _ => rw [e] at ha; cases ha
/-- an expression's reading -/
def rdE (PK : PoolK) (pp : PP) (ρ : List (Sl K)) (w : W α) (en : En K α) : TE := fun σ H Q => ∃ O Φ c, Sat PK O pp ρ c σ H ∧ w Φ noX c ∧
  ∀ x v H' c', Φ x c' → Chg pp H H' → Sat PK O pp ρ c' σ H' → en.r (Av O pp ρ) H' v x → Q v H'
def rdT (PK : PoolK) (pp : PP) (ρ : List (Sl K)) (w : W Bool) : TT := fun σ H Q => ∃ O Φ c, Sat PK O pp ρ c σ H ∧ w Φ noX c ∧
  ∀ x H' c', Φ x c' → Chg pp H H' → Sat PK O pp ρ c' σ H' → Q x H'
/-- encodings of argument lists -/
structure EA (K : PySem.W.Frag) (α : Type) where
  r : PP → AS → Hp → List V → α → Prop
  ents : α → List (Sl K)
  mono : ∀ {pp : PP} {O O' : AS} {H H' : Hp} {v : List V} {x : α}, Mv O O' H H' → r pp O H v x → r pp O' H' v x
  len : Nat
  hlen : ∀ {pp : PP} {O : AS} {H : Hp} {v : List V} {x : α}, r pp O H v x → v.length = len
  elen : ∀ x, (ents x).length = len
  eown : ∀ x, owns (ents x) = []
  eok : ∀ {pp : PP} {O : AS} {H : Hp} {v : List V} {x : α} {tl : St} (i : Nat), r pp O H v x → SlOk O pp H (v.map some ++ tl) i (get (ents x) i)
theorem SlOk.sft {A : AS} {pp : PP} {H : Hp} {σ : St} {i : Nat} {y : Option V} {s : Sl K} (h : SlOk A pp H σ i s) : SlOk A pp H (y :: σ) (i + 1) s := by
  cases s <;> simpa [SlOk] using h
def aN : EA K Unit := ⟨fun _ _ _ vs _ => vs = [], fun _ => [], fun _ h => h, 0, fun h => by rw [h]; rfl, fun _ => rfl, fun _ => rfl, fun i _ => True.intro⟩
def aC (e : En K α) (a : EA K β) : EA K (α × β) := ⟨fun pp O H vs x => ∃ v r, vs = v :: r ∧ e.r O H v x.1 ∧ a.r pp O H r x.2, fun x => .sh e x.1 :: a.ents x.2, fun m ⟨v, r, e1, p, q⟩ => ⟨v, r, e1, e.mono m p, a.mono m q⟩, a.len + 1,
  fun ⟨v, r, e1, _, q⟩ => by rw [e1, List.length_cons, a.hlen q], fun x => by rw [List.length_cons, a.elen], fun x => a.eown x.2, fun i ⟨v, r, e1, p, q⟩ => by
    subst e1
    cases i with
    | zero => exact ⟨v, rfl, p⟩
    | succ i => exact (a.eok i q).sft⟩
/-- the pool, handed on -/
def aPl (a : EA K β) : EA K β := ⟨fun pp O H vs x => ∃ b d r, pp = some (b, d) ∧ vs = .ref b :: r ∧ a.r pp O H r x, fun x => .pl :: a.ents x, fun m ⟨b, d, r, e1, e2, q⟩ => ⟨b, d, r, e1, e2, a.mono m q⟩, a.len + 1,
  fun ⟨_, _, r, _, e1, q⟩ => by rw [e1, List.length_cons, a.hlen q], fun x => by rw [List.length_cons, a.elen], fun x => a.eown x, fun i ⟨b, d, r, e1, e2, q⟩ => by
    subst e2
    cases i with
    | zero => exact ⟨b, d, e1, rfl⟩
    | succ i => exact (a.eok i q).sft⟩
def rdA (PK : PoolK) (pp : PP) (ρ : List (Sl K)) (w : W α) (en : EA K α) : TA := fun σ H Q => ∃ O Φ c, Sat PK O pp ρ c σ H ∧ w Φ noX c ∧
  ∀ x v H' c', Φ x c' → Chg pp H H' → Sat PK O pp ρ c' σ H' → en.r pp (Av O pp ρ) H' v x → Q v H'
end
section
variable {X : Cx} {PK : PoolK} {pp : PP} {ρ : List (Sl X.K)} {α β γ δ : Type}
abbrev PX (X : Cx) (PK : PoolK) (pp : PP) (ρ : List (Sl X.K)) (e : Expr) (w : W α) (en : En X.K α) : Prop := PE X e (rdE PK pp ρ w en)
abbrev PTX (X : Cx) (PK : PoolK) (pp : PP) (ρ : List (Sl X.K)) (e : Expr) (w : W Bool) : Prop := PT X e (rdT PK pp ρ w)
abbrev PAX (X : Cx) (PK : PoolK) (pp : PP) (ρ : List (Sl X.K)) (es : List Expr) (w : W α) (en : EA X.K α) : Prop := PA X es (rdA PK pp ρ w en)
theorem _root_.L2.PE.weak {X : Cx} {e : Expr} {t t' : TE} (h : PE X e t) (f : ∀ σ H Q, t' σ H Q → t σ H Q) : PE X e t' := ⟨fun pins s σ H Q I q => h.run pins s σ H Q I (f σ H Q q)⟩
theorem _root_.L2.PT.weak {X : Cx} {e : Expr} {t t' : TT} (h : PT X e t) (f : ∀ σ H Q, t' σ H Q → t σ H Q) : PT X e t' := ⟨fun pins s σ H Q I q => h.run pins s σ H Q I (f σ H Q q)⟩
theorem _root_.L2.PA.weak {X : Cx} {e : List Expr} {t t' : TA} (h : PA X e t) (f : ∀ σ H Q, t' σ H Q → t σ H Q) : PA X e t' := ⟨fun pos pins s σ H Q I q => h.run pos pins s σ H Q I (f σ H Q q)⟩
variable {e a b : Expr} {pos : Pos}

/-! ### names, constants -/
theorem xv (i : Nat) {x : Str} {en : En X.K α} {y : α} (hg : get ρ i = .sh en y) (hN : X.N[i]? = some x := by rfl)
    (hv : Vis X.env.scope x := by first | exact Or.inl rfl | exact Or.inr (Or.inl rfl) | exact Or.inr (Or.inr rfl)) (hd : (x == ("__debug__" : Str)) = false := by decide) (hcd : (x == ("__classdict__" : Str)) = false := by decide) :
    PX X PK pp ρ (.Name x pos) (ret y) en := (pe_var hN hv hd hcd).weak fun σ H Q ⟨O, Φ, c, S, hw, k⟩ => by
  have q := S.slots i
  rw [hg] at q
  obtain ⟨v, e, r⟩ := q
  exact ⟨v, e, k y v H c hw .refl S r⟩
theorem xint {i : Int} {j} : PX X PK pp ρ (.Constant (.int i) j pos) (ret i) eI := pe_int.weak fun σ H Q ⟨O, Φ, c, S, hw, k⟩ => k i _ H c hw .refl S rfl
theorem xbl {i : Bool} {j} : PX X PK pp ρ (.Constant (.bool i) j pos) (ret i) eB := pe_bl.weak fun σ H Q ⟨O, Φ, c, S, hw, k⟩ => k i _ H c hw .refl S rfl
theorem xstr {i : Str} {j} : PX X PK pp ρ (.Constant (.str i) j pos) (ret i) eS := pe_str.weak fun σ H Q ⟨O, Φ, c, S, hw, k⟩ => k i _ H c hw .refl S rfl
theorem xnon {j} : PX X PK pp ρ (.Constant .none j pos) (ret ()) eU := pe_non.weak fun σ H Q ⟨O, Φ, c, S, hw, k⟩ => k () _ H c hw .refl S rfl
/-- a module's constant -/
theorem xglob {x : Str} {v : V} {u : Value} {en : En X.K α} {y : α} (hg : Gl X x) (hm : X.mg x = some u) (r : RelV v u) (he : ∀ O H, en.r O H v y) (hd : (x == ("__debug__" : Str)) = false := by decide) :
    PX X PK pp ρ (.Name x pos) (ret y) en := (pe_glob hg hm r hd).weak fun σ H Q ⟨O, Φ, c, S, hw, k⟩ => k y _ H c hw .refl S (he _ _)

/-! ### operators -/
/-- by values: pre, res -/
def OpW (X : Cx) (f : Value → Value → Sem Value) (e1 : En X.K α) (e2 : En X.K β) (e3 : En X.K γ) (pre : α → β → Bool) (res : α → β → γ) : Prop :=
  OpR X f fun x y H Q => ∃ A a b, Dom A H ∧ e1.r A H x a ∧ e2.r A H y b ∧ pre a b = true ∧ ∀ v H', Same H H' → e3.r A H' v (res a b) → Q v H'
/-- two expressions, one behind the other -/
theorem two {wa : W α} {wb : W β} {ea : En X.K α} {eb : En X.K β} {σ : St} {H : Hp} {Φ : γ → WB} {g : α → β → W γ} {O : AS} {c : Nat} {R : V → V → Hp → Prop} (S : Sat PK O pp ρ c σ H)
    (hw : bnd wa (fun x => bnd wb fun y => g x y) Φ noX c) (k : ∀ x y v u H' c', g x y Φ noX c' → Chg pp H H' → Sat PK O pp ρ c' σ H' → ea.r (Av O pp ρ) H' v x → eb.r (Av O pp ρ) H' u y → R v u H') :
    rdE PK pp ρ wa ea σ H fun v H1 => rdE PK pp ρ wb eb σ H1 fun u H2 => R v u H2 :=
  ⟨O, _, c, S, hw, fun x v H1 c1 p1 ch1 S1 r1 => ⟨O, _, c1, S1, p1, fun y u H2 c2 p2 ch2 S2 r2 => k x y v u H2 c2 p2 (ch1.trans ch2) S2 (ea.mono ch2.mv r1) r2⟩⟩
theorem xop {op : Operator} {wa : W α} {wb : W β} {e1 : En X.K α} {e2 : En X.K β} {e3 : En X.K γ} {pre : α → β → Bool} {res : α → β → γ} (ho : OpW X (binaryOp op) e1 e2 e3 pre res) (ha : PX X PK pp ρ a wa e1) (hb : PX X PK pp ρ b wb e2) :
    PX X PK pp ρ (.BinOp a op b pos) (bnd wa fun x => bnd wb fun y => grd (pre x y) (ret (res x y))) e3 := (pe_op ho ha hb).weak fun σ H Q ⟨O, Φ, c, S, hw, k⟩ =>
  two S hw fun x y v u H' c' p ch S' r1 r2 => ⟨_, x, y, S'.av, r1, r2, p.1, fun z H2 s r3 => k _ _ _ _ p.2 (ch.trans (.of s)) (S'.same s) r3⟩
theorem xop0 {op : Operator} {wa : W α} {wb : W β} {e1 : En X.K α} {e2 : En X.K β} {e3 : En X.K γ} {res : α → β → γ} (ho : OpW X (binaryOp op) e1 e2 e3 (fun _ _ => true) res) (ha : PX X PK pp ρ a wa e1) (hb : PX X PK pp ρ b wb e2) :
    PX X PK pp ρ (.BinOp a op b pos) (bnd wa fun x => bnd wb fun y => ret (res x y)) e3 := (pe_op ho ha hb).weak fun σ H Q ⟨O, Φ, c, S, hw, k⟩ =>
  two S hw fun x y v u H' c' p ch S' r1 r2 => ⟨_, x, y, S'.av, r1, r2, rfl, fun z H2 s r3 => k _ _ _ _ p (ch.trans (.of s)) (S'.same s) r3⟩
theorem xcmp {op : CmpOp} {wa : W α} {wb : W β} {e1 : En X.K α} {e2 : En X.K β} {e3 : En X.K γ} {res : α → β → γ} (ho : OpW X (compareOp op) e1 e2 e3 (fun _ _ => true) res) (ha : PX X PK pp ρ a wa e1) (hb : PX X PK pp ρ b wb e2) (hm : behindInMarks op b = false := by first | exact nomark _ | rfl) :
    PX X PK pp ρ (.Compare a [op] [b] pos) (bnd wa fun x => bnd wb fun y => ret (res x y)) e3 := (pe_cmpR ho ha hb hm).weak fun σ H Q ⟨O, Φ, c, S, hw, k⟩ =>
  two S hw fun x y v u H' c' p ch S' r1 r2 => ⟨_, x, y, S'.av, r1, r2, rfl, fun z H2 s r3 => k _ _ _ _ p (ch.trans (.of s)) (S'.same s) r3⟩
theorem tcmp {op : CmpOp} {wa : W α} {wb : W β} {e1 : En X.K α} {e2 : En X.K β} {res : α → β → Bool} (ho : OpW X (compareOp op) e1 e2 eB (fun _ _ => true) res) (ha : PX X PK pp ρ a wa e1) (hb : PX X PK pp ρ b wb e2) (hm : behindInMarks op b = false := by first | exact nomark _ | rfl) :
    PTX X PK pp ρ (.Compare a [op] [b] pos) (bnd wa fun x => bnd wb fun y => ret (res x y)) := (pt_cmpR ho ha hb hm).weak fun σ H Q ⟨O, Φ, c, S, hw, k⟩ =>
  two S hw fun x y v u H' c' p ch S' r1 r2 => ⟨_, x, y, S'.av, r1, r2, rfl, fun z H2 s r3 => ⟨_, r3, k _ _ _ p (ch.trans (.of s)) (S'.same s)⟩⟩
def UnW (X : Cx) (f : Value → Sem Value) (e1 : En X.K α) (e3 : En X.K γ) (res : α → γ) : Prop :=
  UnR X f fun x H Q => ∃ A a, Dom A H ∧ e1.r A H x a ∧ ∀ v H', Same H H' → e3.r A H' v (res a) → Q v H'
theorem xun {op : UnaryOp} {wa : W α} {e1 : En X.K α} {e3 : En X.K γ} {res : α → γ} (ho : UnW X (unaryOp op) e1 e3 res) (ha : PX X PK pp ρ a wa e1) :
    PX X PK pp ρ (.UnaryOp op a pos) (bnd wa fun x => ret (res x)) e3 := (pe_un ho ha).weak fun σ H Q ⟨O, Φ, c, S, hw, k⟩ =>
  ⟨O, _, c, S, hw, fun x v H' c' p ch S' r1 => ⟨_, x, S'.av, r1, fun z H2 s r3 => k _ _ _ _ p (ch.trans (.of s)) (S'.same s) r3⟩⟩

/-! the rules of ints -/
theorem opII {f : Value → Value → Sem Value} {g : Int → Int → Int} (h : OpR X f (rI0 fun i j => .int (g i j))) : OpW X f (eI : En X.K Int) eI eI (fun _ _ => true) g := by
  intro pins s σ H x y v u Q I rx ry ⟨A, i, j, _, r1, r2, _, k⟩
  exact h pins s σ H x y v u Q I rx ry ⟨i, j, r1, r2, k _ _ (.refl _) rfl⟩
theorem opIIc {f : Value → Value → Sem Value} {C : Int → Int → Prop} {g : Int → Int → Int} {pre : Int → Int → Bool} (h : OpR X f (rI C fun i j => .int (g i j))) (hp : ∀ i j, pre i j = true → C i j) : OpW X f (eI : En X.K Int) eI eI pre g := by
  intro pins s σ H x y v u Q I rx ry ⟨A, i, j, _, r1, r2, p, k⟩
  exact h pins s σ H x y v u Q I rx ry ⟨i, j, r1, r2, hp i j p, k _ _ (.refl _) rfl⟩
theorem opIB {f : Value → Value → Sem Value} {g : Int → Int → Bool} (h : OpR X f (rI0 fun i j => .bl (g i j))) : OpW X f (eI : En X.K Int) eI eB (fun _ _ => true) g := by
  intro pins s σ H x y v u Q I rx ry ⟨A, i, j, _, r1, r2, _, k⟩
  exact h pins s σ H x y v u Q I rx ry ⟨i, j, r1, r2, k _ _ (.refl _) rfl⟩
def mulOk (i j : Int) : Bool := decide (Builtin.Int.intBits i + Builtin.Int.intBits j ≤ 134217728)
def divOk (_ j : Int) : Bool := decide (0 < j) && decide (j.natAbs.log2 < 9000)
def ndivOk (_ j : Int) : Bool := decide (j < 0) && decide (j.natAbs.log2 < 9000)
def modOk (_ j : Int) : Bool := decide (0 < j)
def powOk (i j : Int) : Bool := decide (0 ≤ j) && decide ((Builtin.Int.intBits i : Int) * j ≤ 134217728)
theorem w_add : OpW X (binaryOp .Add) (eI : En X.K Int) eI eI (fun _ _ => true) (· + ·) := opII op_add
theorem w_sub : OpW X (binaryOp .Sub) (eI : En X.K Int) eI eI (fun _ _ => true) (· - ·) := opII op_sub
theorem w_mul : OpW X (binaryOp .Mult) (eI : En X.K Int) eI eI mulOk (· * ·) := opIIc op_mulX fun i j h => by
  have := of_decide_eq_true h
  show (Builtin.Int.intBits i : Int) + (Builtin.Int.intBits j : Int) ≤ 134217728
  omega
theorem w_mod : OpW X (binaryOp .Mod) (eI : En X.K Int) eI eI modOk (· % ·) := opIIc op_mod fun i j h => of_decide_eq_true h
theorem op_fdivA : OpR X (binaryOp .FloorDiv) (rI (fun _ j => j ≠ 0 ∧ j.natAbs.log2 < 9000) fun i j => .int (i.fdiv j)) := opI fun i j _ _ _ _ _ hc q =>
  PyProof.Rows.floordiv_int hc.1 q (.inl (PyProof.noPylong_of_log2 hc.2))
def fdivOk (_ j : Int) : Bool := decide (j ≠ 0) && decide (j.natAbs.log2 < 9000)
theorem w_fdiv : OpW X (binaryOp .FloorDiv) (eI : En X.K Int) eI eI fdivOk Int.fdiv := opIIc op_fdivA fun i j h => by
  simpa [fdivOk] using h
theorem op_powX : OpR X (binaryOp .Pow) (rI (fun i j => 0 ≤ j ∧ (Builtin.Int.intBits i : Int) * j ≤ 2 ^ 27) fun i j => .int (i ^ j.toNat)) := opI fun _ _ _ _ _ _ _ hc q => PyProof.Rows.pow_int hc.1 hc.2 q
theorem w_pow : OpW X (binaryOp .Pow) (eI : En X.K Int) eI eI powOk (fun i j => i ^ j.toNat) := opIIc op_powX fun i j h => by
  simp only [powOk, Bool.and_eq_true, decide_eq_true_eq] at h
  exact ⟨h.1, by have := h.2; omega⟩
theorem w_neg : UnW X (unaryOp .USub) (eI : En X.K Int) eI (fun i => -i) := by
  intro pins s σ H x v Q I rx ⟨A, i, _, r1, k⟩
  exact un_neg pins s σ H x v Q I rx ⟨i, r1, k _ _ (.refl _) rfl⟩
theorem w_lt : OpW X (compareOp .Lt) (eI : En X.K Int) eI eB (fun _ _ => true) (fun i j => decide (i < j)) := opIB op_lt
theorem w_le : OpW X (compareOp .LtE) (eI : En X.K Int) eI eB (fun _ _ => true) (fun i j => decide (i ≤ j)) := opIB op_le
theorem w_gt : OpW X (compareOp .Gt) (eI : En X.K Int) eI eB (fun _ _ => true) (fun i j => decide (j < i)) := opIB op_gt
theorem w_ge : OpW X (compareOp .GtE) (eI : En X.K Int) eI eB (fun _ _ => true) (fun i j => decide (j ≤ i)) := opIB op_ge
theorem w_eqI : OpW X (compareOp .Eq) (eI : En X.K Int) eI eB (fun _ _ => true) (fun i j => decide (i = j)) := by
  intro pins s σ H x y v u Q I rx ry ⟨A, i, j, _, r1, r2, _, k⟩
  cases r1; cases r2
  exact op_eq pins s σ H _ _ v u Q I rx ry ⟨rfl, k _ _ (.refl _) (congrArg V.bl (by simp))⟩
theorem w_neI : OpW X (compareOp .NotEq) (eI : En X.K Int) eI eB (fun _ _ => true) (fun i j => !decide (i = j)) := by
  intro pins s σ H x y v u Q I rx ry ⟨A, i, j, _, r1, r2, _, k⟩
  cases r1; cases r2
  exact op_ne pins s σ H _ _ v u Q I rx ry ⟨rfl, k _ _ (.refl _) (congrArg V.bl (by simp))⟩
theorem w_eqB : OpW X (compareOp .Eq) (eB : En X.K Bool) eB eB (fun _ _ => true) (fun i j => i == j) := by
  intro pins s σ H x y v u Q I rx ry ⟨A, i, j, _, r1, r2, _, k⟩
  cases r1; cases r2
  exact op_eq pins s σ H _ _ v u Q I rx ry ⟨rfl, k _ _ (.refl _) (congrArg V.bl dec_bl)⟩
theorem w_eqS : OpW X (compareOp .Eq) (eS : En X.K Str) eS eB (fun _ _ => true) (fun i j => decide (i = j)) := by
  intro pins s σ H x y v u Q I rx ry ⟨A, i, j, _, r1, r2, _, k⟩
  cases r1; cases r2
  exact op_eq pins s σ H _ _ v u Q I rx ry ⟨rfl, k _ _ (.refl _) (congrArg V.bl (by simp))⟩
theorem w_neS : OpW X (compareOp .NotEq) (eS : En X.K Str) eS eB (fun _ _ => true) (fun i j => !decide (i = j)) := by
  intro pins s σ H x y v u Q I rx ry ⟨A, i, j, _, r1, r2, _, k⟩
  cases r1; cases r2
  exact op_ne pins s σ H _ _ v u Q I rx ry ⟨rfl, k _ _ (.refl _) (congrArg V.bl (by simp))⟩

/-! ### tests and truth values -/
theorem tval {w : W Bool} (h : PX X PK pp ρ e w eB) (he : ∀ whole, isTrue e X.env whole = (do let v ← whole; standAt e.pos; holding [v] (truthy v)) := by intro _; rfl) : PTX X PK pp ρ e w :=
  (pt_val h he).weak fun σ H Q ⟨O, Φ, c, S, hw, k⟩ => ⟨O, Φ, c, S, hw, fun x v H' c' p ch S' r => ⟨x, r, k x H' c' p ch S'⟩⟩
theorem tnot {w : W Bool} (h : PTX X PK pp ρ e w) : PTX X PK pp ρ (.UnaryOp .Not e pos) (bnd w fun x => ret (!x)) :=
  (pt_not h).weak fun σ H Q ⟨O, Φ, c, S, hw, k⟩ => ⟨O, _, c, S, hw, fun x H' c' p ch S' => k _ H' c' p ch S'⟩
abbrev PWX (X : Cx) (PK : PoolK) (pp : PP) (ρ : List (Sl X.K)) (e : Expr) (w : W Bool) : Prop := PW X e (rdT PK pp ρ w)
theorem _root_.L2.PW.weak {X : Cx} {e : Expr} {t t' : TT} (h : PW X e t) (f : ∀ σ H Q, t' σ H Q → t σ H Q) : PW X e t' := ⟨fun wh pins s σ H Q I q => h.run wh pins s σ H Q I (f σ H Q q)⟩
theorem tw {w : W Bool} (h : PWX X PK pp ρ e w) : PTX X PK pp ρ e w := h.pt
theorem wand1 {w : W Bool} (h : PTX X PK pp ρ a w) : PWX X PK pp ρ (.BoolOp .And [a] pos) w := pw_and1 h
theorem wor1 {w : W Bool} (h : PTX X PK pp ρ a w) : PWX X PK pp ρ (.BoolOp .Or [a] pos) w := pw_or1 h
theorem wand {rest : List Expr} {w u : W Bool} (h : PTX X PK pp ρ a w) (h2 : PWX X PK pp ρ (.BoolOp .And (b :: rest) pos) u) : PWX X PK pp ρ (.BoolOp .And (a :: b :: rest) pos) (bnd w fun x => ite x u (ret false)) :=
  (pw_and h h2).weak fun σ H Q ⟨O, Φ, c, S, hw, k⟩ => ⟨O, _, c, S, hw, fun x H' c' p ch S' => by
    cases x with
    | true => exact ⟨O, Φ, c', S', p, fun y H2 c2 p2 ch2 S2 => k y H2 c2 p2 (ch.trans ch2) S2⟩
    | false => exact k false H' c' (by simpa [ite, ret] using p) ch S'⟩
theorem wor {rest : List Expr} {w u : W Bool} (h : PTX X PK pp ρ a w) (h2 : PWX X PK pp ρ (.BoolOp .Or (b :: rest) pos) u) : PWX X PK pp ρ (.BoolOp .Or (a :: b :: rest) pos) (bnd w fun x => ite x (ret true) u) :=
  (pw_or h h2).weak fun σ H Q ⟨O, Φ, c, S, hw, k⟩ => ⟨O, _, c, S, hw, fun x H' c' p ch S' => by
    cases x with
    | true => exact k true H' c' p ch S'
    | false => exact ⟨O, Φ, c', S', by simpa [ite] using p, fun y H2 c2 p2 ch2 S2 => k y H2 c2 p2 (ch.trans ch2) S2⟩⟩
/-- and, or, not as values: bools -/
theorem xone {op} {w : W α} {en : En X.K α} (h : PX X PK pp ρ a w en) : PX X PK pp ρ (.BoolOp op [a] pos) w en := pe_one h
theorem xand {rest : List Expr} {w u : W Bool} (h : PX X PK pp ρ a w eB) (h2 : PX X PK pp ρ (.BoolOp .And (b :: rest) pos) u eB) : PX X PK pp ρ (.BoolOp .And (a :: b :: rest) pos) (bnd w fun x => ite x u (ret false)) eB :=
  (pe_and h h2).weak fun σ H Q ⟨O, Φ, c, S, hw, k⟩ => ⟨O, _, c, S, hw, fun x v H' c' p ch S' r => by
    refine ⟨x, r, ?_⟩
    cases x with
    | true => exact ⟨O, Φ, c', S', p, fun y v H2 c2 p2 ch2 S2 => k y v H2 c2 p2 (ch.trans ch2) S2⟩
    | false => exact k false _ H' c' (by simpa [ite, ret] using p) ch S' rfl⟩
theorem xor {rest : List Expr} {w u : W Bool} (h : PX X PK pp ρ a w eB) (h2 : PX X PK pp ρ (.BoolOp .Or (b :: rest) pos) u eB) : PX X PK pp ρ (.BoolOp .Or (a :: b :: rest) pos) (bnd w fun x => ite x (ret true) u) eB :=
  (pe_or h h2).weak fun σ H Q ⟨O, Φ, c, S, hw, k⟩ => ⟨O, _, c, S, hw, fun x v H' c' p ch S' r => by
    refine ⟨x, r, ?_⟩
    cases x with
    | true => exact k true _ H' c' p ch S' rfl
    | false => exact ⟨O, Φ, c', S', by simpa [ite] using p, fun y v H2 c2 p2 ch2 S2 => k y v H2 c2 p2 (ch.trans ch2) S2⟩⟩
theorem xnot {w : W Bool} (h : PX X PK pp ρ a w eB) : PX X PK pp ρ (.UnaryOp .Not a pos) (bnd w fun x => ret (!x)) eB :=
  (pe_not h).weak fun σ H Q ⟨O, Φ, c, S, hw, k⟩ => ⟨O, _, c, S, hw, fun x v H' c' p ch S' r => ⟨x, r, k _ _ H' c' p ch S' rfl⟩⟩
theorem xif {c : Expr} {w : W Bool} {u v : W α} {en : En X.K α} (hc : PTX X PK pp ρ c w) (ha : PX X PK pp ρ a u en) (hb : PX X PK pp ρ b v en) : PX X PK pp ρ (.IfExp c a b pos) (bnd w fun x => ite x u v) en :=
  (pe_ifExp hc ha hb).weak fun σ H Q ⟨O, Φ, c, S, hw, k⟩ => ⟨O, _, c, S, hw, fun x H' c' p ch S' => by
    cases x with
    | true => exact ⟨O, Φ, c', S', p, fun y v H2 c2 p2 ch2 S2 => k y v H2 c2 p2 (ch.trans ch2) S2⟩
    | false => exact ⟨O, Φ, c', S', by simpa [ite] using p, fun y v H2 c2 p2 ch2 S2 => k y v H2 c2 p2 (ch.trans ch2) S2⟩⟩
/-- x is None, for a value that may be None -/
theorem xisN {j pos'} {w : W (Option α)} {en : En X.K α} (h : PX X PK pp ρ a w (eO en)) : PX X PK pp ρ (.Compare a [.Is] [.Constant .none j pos'] pos) (bnd w fun x => ret x.isNone) eB :=
  (pe_cmp (pc_isN h)).weak fun σ H Q ⟨O, Φ, c, S, hw, k⟩ => ⟨O, _, c, S, hw, fun x v H' c' p ch S' r => by
    cases x with
    | none =>
      have e : v = .non := r
      exact k _ _ H' c' p ch S' (by rw [e]; rfl)
    | some y => exact k _ _ H' c' p ch S' (by show V.bl _ = V.bl false; rw [decide_eq_false r.2])⟩

/-! ### lists, tuples -/
theorem axn : PAX X PK pp ρ [] (ret ()) aN := (pa_nil).weak fun σ H Q ⟨O, Φ, c, S, hw, k⟩ => k () [] H c hw .refl S rfl
theorem axc {es : List Expr} {w : W α} {u : W β} {en : En X.K α} {ea : EA X.K β} (h : PX X PK pp ρ e w en) (h2 : PAX X PK pp ρ es u ea) (hs : starEach (e :: es) X.env = (false, eval e X.env) :: starEach es X.env := by rfl) :
    PAX X PK pp ρ (e :: es) (bnd w fun x => bnd u fun y => ret (x, y)) (aC en ea) := (pa_cons h h2 hs).weak fun σ H Q ⟨O, Φ, c, S, hw, k⟩ =>
  ⟨O, _, c, S, hw, fun x v H1 c1 p1 ch1 S1 r1 => ⟨O, _, c1, S1, p1, fun y u H2 c2 p2 ch2 S2 r2 => k _ _ H2 c2 p2 (ch1.trans ch2) S2 ⟨v, u, rfl, en.mono ch2.mv r1, r2⟩⟩⟩
/-- the pool's name as the first argument -/
theorem axp (i : Nat) {x : Str} {es : List Expr} {u : W β} {ea : EA X.K β} (hg : get ρ i = .pl) (h2 : PAX X PK pp ρ es u ea) (hN : X.N[i]? = some x := by rfl)
    (hv : Vis X.env.scope x := by first | exact Or.inl rfl | exact Or.inr (Or.inl rfl) | exact Or.inr (Or.inr rfl)) (hs : starEach (.Name x pos :: es) X.env = (false, eval (.Name x pos) X.env) :: starEach es X.env := by rfl) (hd : (x == ("__debug__" : Str)) = false := by decide) (hcd : (x == ("__classdict__" : Str)) = false := by decide) :
    PAX X PK pp ρ (.Name x pos :: es) u (aPl ea) := (pa_cons (pe_var hN hv hd hcd) h2 hs).weak fun σ H Q ⟨O, Φ, c, S, hw, k⟩ => by
  have q := S.slots i
  rw [hg] at q
  obtain ⟨b, d, e, q⟩ := q
  exact ⟨_, q, O, Φ, c, S, hw, fun y u H2 c2 p2 ch2 S2 r2 => k _ _ H2 c2 p2 ch2 S2 ⟨b, d, u, e, rfl, r2⟩⟩
theorem own_nils {K : PySem.W.Frag} : ∀ n : Nat, owns (List.replicate n (Sl.nil : Sl K)) = []
  | 0 => rfl
  | n + 1 => own_nils n
theorem get_nils {K : PySem.W.Frag} : ∀ n i : Nat, get (List.replicate n (Sl.nil : Sl K)) i = .nil
  | 0, i => by cases i <;> rfl
  | n + 1, 0 => rfl
  | n + 1, i + 1 => get_nils n i
/-- items of one kind -/
def aL (en : En X.K α) : Nat → EA X.K (List α)
  | n => ⟨fun _ O H vs xs => F2 (en.r O H) vs xs ∧ vs.length = n, fun _ => List.replicate n .nil, fun m ⟨f, l⟩ => ⟨f.imp fun _ _ => en.mono m, l⟩, n, fun h => h.2, fun _ => by simp, fun _ => own_nils n, fun i _ => by rw [get_nils n i]; exact True.intro⟩
theorem aln {en : En X.K α} : PAX X PK pp ρ [] (ret []) (aL en 0) := (pa_nil).weak fun σ H Q ⟨O, Φ, c, S, hw, k⟩ => k _ [] H c hw .refl S ⟨.nil, rfl⟩
theorem alc {es : List Expr} {w : W α} {u : W (List α)} {en : En X.K α} {n : Nat} (h : PX X PK pp ρ e w en) (h2 : PAX X PK pp ρ es u (aL en n)) (hs : starEach (e :: es) X.env = (false, eval e X.env) :: starEach es X.env := by rfl) :
    PAX X PK pp ρ (e :: es) (bnd w fun x => bnd u fun y => ret (x :: y)) (aL en (n + 1)) := (pa_cons h h2 hs).weak fun σ H Q ⟨O, Φ, c, S, hw, k⟩ =>
  ⟨O, _, c, S, hw, fun x v H1 c1 p1 ch1 S1 r1 => ⟨O, _, c1, S1, p1, fun y u H2 c2 p2 ch2 S2 r2 => k _ _ H2 c2 p2 (ch1.trans ch2) S2 ⟨.cons (en.mono ch2.mv r1) r2.1, by rw [List.length_cons, r2.2]⟩⟩⟩
theorem same_new {H : Hp} {p : Addr} {o : HO} (h : H p = none) : Same H (upd H p o) := fun b x e => by
  rw [upd_ne (ne_of_none e h)]
  exact e
theorem new_at {A : AS} {H : Hp} {p : Addr} (d : Dom A H) (h : H p = none) : ¬ A p := fun z => d p z h
theorem xlst {es : List Expr} {w : W (List α)} {en : En X.K α} {n : Nat} (h : PAX X PK pp ρ es w (aL en n)) (hn : n ≤ 1000000 := by decide) : PX X PK pp ρ (.List es pos) w (eL en) := (pe_lst h).weak fun σ H Q ⟨O, Φ, c, S, hw, k⟩ =>
  ⟨O, _, c, S, hw, fun x vs H1 c1 p1 ch1 S1 r1 => ⟨by have := r1.2; rw [sizeLine_eq]; omega, fun p np => by
    have s := same_new (o := .lst vs) np
    exact k _ _ _ c1 p1 (ch1.trans (.of s)) (S1.same s) ⟨p, vs, rfl, ⟨new_at S1.av np, upd_same⟩, r1.1.imp fun _ _ => en.mono (Mv.same s)⟩⟩⟩
theorem xtup2 {es : List Expr} {w : W (α × β × Unit)} {e1 : En X.K α} {e2 : En X.K β} {x1} (h : PAX X PK pp ρ es w (aC e1 (aC e2 aN))) : PX X PK pp ρ (.Tuple es x1 pos) (bnd w fun x => ret (x.1, x.2.1)) (eP e1 e2) := (pe_tup h).weak fun σ H Q ⟨O, Φ, c, S, hw, k⟩ =>
  ⟨O, _, c, S, hw, fun x vs H1 c1 p1 ch1 S1 r1 => by
    obtain ⟨v, _, rfl, q1, u, _, rfl, q2, rfl⟩ := r1
    refine ⟨by show 2 ≤ sizeLine; decide, fun p np => ?_⟩
    have s := same_new (o := .tup [v, u]) np
    exact k _ _ _ c1 p1 (ch1.trans (.of s)) (S1.same s) ⟨p, v, u, rfl, .inl ⟨new_at S1.av np, .inl upd_same⟩, e1.mono (Mv.same s) q1, e2.mono (Mv.same s) q2⟩⟩

/-! ### subscripts -/
def IxW (X : Cx) (e1 : En X.K α) (e2 : En X.K β) (e3 : En X.K γ) (pre : α → β → Bool) (res : α → β → γ) : Prop :=
  IxR X fun x y H Q => ∃ A a b, Dom A H ∧ e1.r A H x a ∧ e2.r A H y b ∧ pre a b = true ∧ ∀ v, e3.r A H v (res a b) → Q v H
theorem xix {wa : W α} {wb : W β} {e1 : En X.K α} {e2 : En X.K β} {e3 : En X.K γ} {pre : α → β → Bool} {res : α → β → γ} (ho : IxW X e1 e2 e3 pre res) (ha : PX X PK pp ρ a wa e1) (hb : PX X PK pp ρ b wb e2) (hs : PlainIx b := by exact fun _ _ => rfl) :
    PX X PK pp ρ (.Subscript a b pos) (bnd wa fun x => bnd wb fun y => grd (pre x y) (ret (res x y))) e3 := (pe_ix ho ha hb hs).weak fun σ H Q ⟨O, Φ, c, S, hw, k⟩ =>
  two S hw fun x y v u H' c' p ch S' r1 r2 => ⟨_, x, y, S'.av, r1, r2, p.1, fun z r3 => k _ _ _ _ p.2 ch S' r3⟩
/-- a pair's places -/
theorem xfst {w : W (α × β)} {e1 : En X.K α} {e2 : En X.K β} {j p'} (h : PX X PK pp ρ a w (eP e1 e2)) : PX X PK pp ρ (.Subscript a (.Constant (.int 0) j p') pos) (bnd w fun x => ret x.1) e1 :=
  (pe_ix ix_tup h pe_int (fun _ _ => rfl)).weak fun σ H Q ⟨O, Φ, c, S, hw, k⟩ => ⟨O, _, c, S, hw, fun x v H' c' p ch S' r => by
    obtain ⟨a, u, w, rfl, t, q1, q2⟩ := r
    exact ⟨a, [u, w], 0, u, rfl, rfl, t.sq, rfl, k _ _ H' c' p ch S' q1⟩⟩
theorem xsnd {w : W (α × β)} {e1 : En X.K α} {e2 : En X.K β} {j p'} (h : PX X PK pp ρ a w (eP e1 e2)) : PX X PK pp ρ (.Subscript a (.Constant (.int 1) j p') pos) (bnd w fun x => ret x.2) e2 :=
  (pe_ix ix_tup h pe_int (fun _ _ => rfl)).weak fun σ H Q ⟨O, Φ, c, S, hw, k⟩ => ⟨O, _, c, S, hw, fun x v H' c' p ch S' r => by
    obtain ⟨a, u, w, rfl, t, q1, q2⟩ := r
    exact ⟨a, [u, w], 1, w, rfl, rfl, t.sq, rfl, k _ _ H' c' p ch S' q2⟩⟩
/-- a list at a place of any sign -/
def ixOk {α : Type} (xs : List α) (i : Int) : Bool := (ixN xs.length i).isSome
def ixAt {α : Type} [Inhabited α] (xs : List α) (i : Int) : α := xs.getD ((ixN xs.length i).getD 0) default
theorem ixN_lt {n : Nat} {i : Int} {j : Nat} (h : ixN n i = some j) : j < n := (ixN_seq h).2.1
theorem w_ixR [Inhabited α] {en : En X.K α} : IxW X (eR en) eI en ixOk ixAt := by
  intro va sl pins s σ H x y v u Q I rx ry ⟨A, xs, i, _, ⟨a, vs, e1, l, f⟩, r2, p, k⟩ hs
  obtain ⟨j, hj⟩ := Option.isSome_iff_exists.mp p
  have hlt := ixN_lt hj
  obtain ⟨v1, g, rv⟩ := f.get (List.getElem?_eq_getElem hlt)
  refine ix_list va sl pins s σ H x y v u Q I rx ry ⟨a, vs, i, v1, e1, r2, l.sq, ?_, k _ ?_⟩ hs
  · unfold atI
    rw [f.length, hj]
    exact g
  · unfold ixAt
    rw [hj, Option.getD_some, List.getD_eq_getElem?_getD, List.getElem?_eq_getElem hlt]
    exact rv
theorem w_ixL [Inhabited α] {en : En X.K α} : IxW X (eL en) eI en ixOk ixAt := by
  intro va sl pins s σ H x y v u Q I rx ry ⟨A, xs, i, d, r1, r2, p, k⟩ hs
  exact w_ixR va sl pins s σ H x y v u Q I rx ry ⟨A, xs, i, d, eL_R r1, r2, p, k⟩ hs
theorem xslice {w : W (List α)} {en : En X.K α} {lo hi : Option Expr} {wl wh : W (Option Int)} {p2} (h : PX X PK pp ρ a w (eL en))
    (hl : PO X lo (fun σ H Q => ∃ O Φ c, Sat PK O pp ρ c σ H ∧ wl Φ noX c ∧ ∀ x H' c', Φ x c' → Chg pp H H' → Sat PK O pp ρ c' σ H' → Q x H'))
    (hh : PO X hi (fun σ H Q => ∃ O Φ c, Sat PK O pp ρ c σ H ∧ wh Φ noX c ∧ ∀ x H' c', Φ x c' → Chg pp H H' → Sat PK O pp ρ c' σ H' → Q x H')) :
    PX X PK pp ρ (.Subscript a (.Slice lo hi none p2) pos) (bnd w fun x => bnd wl fun l => bnd wh fun u => ret ((x.drop (HT.sIx x.length 0 l)).take (HT.sIx x.length x.length u - HT.sIx x.length 0 l))) (eL en) :=
  (pe_slice sl_list h hl hh).weak fun σ H Q ⟨O, Φ, c, S, hw, k⟩ => ⟨O, _, c, S, hw, fun x v H1 c1 p1 ch1 S1 r1 => ⟨O, _, c1, S1, p1, fun l H2 c2 p2 ch2 S2 => ⟨O, _, c2, S2, p2, fun u H3 c3 p3 ch3 S3 => by
    obtain ⟨a, vs, rfl, l1, f⟩ := (eL en).mono (ch2.trans ch3).mv r1
    refine ⟨a, vs, rfl, l1.sq, fun p np => ?_⟩
    have s := same_new (o := .lst (cutV vs l u)) np
    refine k _ _ _ c3 p3 (((ch1.trans ch2).trans ch3).trans (.of s)) (S3.same s) ⟨p, _, rfl, ⟨new_at S3.av np, upd_same⟩, ?_⟩
    have e : cutV vs l u = (vs.drop (HT.sIx x.length 0 l)).take (HT.sIx x.length x.length u - HT.sIx x.length 0 l) := by
      unfold cutV
      rw [f.length]
    have g : F2 (en.r (Av O pp ρ) H3) (cutV vs l u) _ := e ▸ (f.drop (HT.sIx x.length 0 l)).take (HT.sIx x.length x.length u - HT.sIx x.length 0 l)
    exact g.imp fun _ _ => en.mono (Mv.same s)⟩⟩⟩
abbrev POX (X : Cx) (PK : PoolK) (pp : PP) (ρ : List (Sl X.K)) (e : Option Expr) (w : W (Option Int)) : Prop := PO X e (fun σ H Q => ∃ O Φ c, Sat PK O pp ρ c σ H ∧ w Φ noX c ∧ ∀ x H' c', Φ x c' → Chg pp H H' → Sat PK O pp ρ c' σ H' → Q x H')
theorem _root_.L2.PO.weak {X : Cx} {e : Option Expr} {t t' : TO} (h : PO X e t) (f : ∀ σ H Q, t' σ H Q → t σ H Q) : PO X e t' := ⟨fun pins s σ H Q I q => h.run pins s σ H Q I (f σ H Q q)⟩
theorem on_none : POX X PK pp ρ none (ret none) := (po_none).weak fun σ H Q ⟨O, Φ, c, S, hw, k⟩ => k _ H c hw .refl S
theorem on_some {w : W Int} (h : PX X PK pp ρ e w eI) : POX X PK pp ρ (some e) (bnd w fun i => ret (some i)) := (po_some h).weak fun σ H Q ⟨O, Φ, c, S, hw, k⟩ => ⟨O, _, c, S, hw, fun x v H' c' p ch S' r => ⟨x, r, k _ H' c' p ch S'⟩⟩
end
end Dc
/-! DcC: defs and their calls, statements, loops, comprehensions. -/
namespace Dc
open PySem PySem.Spec L2
section
variable {K : PySem.W.Frag} {PK : PoolK} {pp : PP} {ρ ρ1 ρ2 : List (Sl K)} {O : AS} {c c' : Nat} {σ : St} {H H' H1 H2 : Hp} {α β γ δ : Type}

/-! ### how a state moves -/
structure Stp (pp : PP) (ρ ρ1 : List (Sl K)) (H H1 : Hp) : Prop where
  keep : ∀ a o, H a = some o → ¬ foot pp a → a ∉ owns ρ → H1 a = some o
  new : ∀ a ∈ owns ρ1, a ∈ owns ρ ∨ (H a = none ∧ ¬ foot pp a)
theorem Stp.trans (x : Stp pp ρ ρ1 H H1) (y : Stp pp ρ1 ρ2 H1 H2) : Stp pp ρ ρ2 H H2 := by
  refine ⟨fun a o e n no => y.keep a o (x.keep a o e n no) n fun z => ?_, fun a z => ?_⟩
  · rcases x.new a z with q | q
    · exact no q
    · rw [e] at q; cases q.1
  · rcases y.new a z with q | q
    · exact x.new a q
    · by_cases h : a ∈ owns ρ
      · exact .inl h
      · refine .inr ⟨?_, q.2⟩
        cases e : H a with
        | none => rfl
        | some o =>
          have := x.keep a o e q.2 h
          rw [q.1] at this; cases this
theorem Stp.of_chg (x : Chg pp H H1) (h : ∀ a ∈ owns ρ1, a ∈ owns ρ) : Stp pp ρ ρ1 H H1 := ⟨fun a o e n _ => x a o e n, fun a z => .inl (h a z)⟩
theorem Stp.mv (x : Stp pp ρ ρ1 H H1) : Mv (Av O pp ρ) (Av O pp ρ1) H H1 := fun a o n e => by
  refine ⟨x.keep a o e (fun z => n (.inr (.inl z))) fun z => n (.inr (.inr z)), fun z => ?_⟩
  rcases z with z | z | z
  · exact n (.inl z)
  · exact n (.inr (.inl z))
  · rcases x.new a z with q | q
    · exact n (.inr (.inr q))
    · rw [e] at q; cases q.1
theorem Stp.refl : Stp pp ρ ρ H H := ⟨fun _ _ e _ _ => e, fun _ z => .inl z⟩
/-- behind a call: the pool has moved on -/
theorem Sat.chg (S : Sat PK O pp ρ c σ H) (ch : Chg pp H H') (p : PoolOk PK pp H' c') : Sat PK O pp ρ c' σ H' := by
  refine ⟨S.len, S.nd, S.new, fun a h => ?_, p, fun i => ?_⟩
  · by_cases hf : foot pp a
    · cases pp with
      | none => exact hf.elim
      | some q =>
        obtain ⟨a1, b1⟩ := q
        have q : PK.r H' a1 b1 c' := p
        rcases (show a = a1 ∨ a = b1 from hf) with e | e
        · rw [e]; exact (PK.dom q).1
        · rw [e]; exact (PK.dom q).2
    · cases e : H a with
      | none => exact absurd e (S.dom a h)
      | some o => rw [ch a o e hf]; simp
  · refine (S.slots i).mv ch.mv fun a ha => ?_
    cases e : get ρ i with
    | ow b on x =>
      rw [e] at ha
      have ha : a = b := by simpa [own1] using ha
      subst ha
      have q := S.slots i
      rw [e] at q
      have hn := (S.new a (owns_mem e)).2
      cases e2 : H a with
      | none => exact absurd e2 (on.dom q.2)
      | some o => exact ch a o e2 hn
    | _ => rw [e] at ha; cases ha
/-- a slot is given a value that nobody writes at -/
theorem Sat.put (S : Sat PK O pp ρ c σ H) {i : Nat} {v : V} {en : En K α} {x : α} (r : en.r (Av O pp ρ) H v x) : Sat PK O pp (put ρ i (.sh en x)) c (σ.set i (some v)) H := by
  have less : ∀ a, Av O pp (Dc.put ρ i (.sh en x)) a → Av O pp ρ a := fun a h => by
    rcases h with h | h | h
    · exact .inl h
    · exact .inr (.inl h)
    · rcases owns_put h with h | h
      · cases h
      · exact .inr (.inr h)
  refine ⟨by rw [List.length_set, put_len]; exact S.len, owns_put_nodup S.nd (own1_nodup _) (fun b hb => by cases hb), fun a ha => ?_, S.dom, S.pool, fun j => ?_⟩
  · rcases owns_put ha with h | h
    · cases h
    · exact S.new a h
  · by_cases hj : j = i
    · subst hj
      rcases get_put_self (ρ := ρ) (i := j) (s := Sl.sh en x) with e | e
      · rw [e]
        have hl := get_len (ρ := Dc.put ρ j (.sh en x)) (i := j) (by rw [e]; intro z; cases z)
        rw [put_len, ← S.len] at hl
        exact ⟨v, List.getElem?_set_self hl, en.mono (Mv.less less) r⟩
      · rw [e]; exact True.intro
    · rw [get_put_ne hj]
      have q := (S.slots j).mv (Mv.less less) (fun _ _ => rfl)
      cases e : get ρ j with
      | nil => exact True.intro
      | sh en2 y =>
        rw [e] at q
        obtain ⟨v2, e2, r2⟩ := q
        exact ⟨v2, by rw [List.getElem?_set_ne (Ne.symm hj)]; exact e2, r2⟩
      | ow a on y =>
        rw [e] at q
        exact ⟨by rw [List.getElem?_set_ne (Ne.symm hj)]; exact q.1, q.2⟩
      | pl =>
        rw [e] at q
        obtain ⟨a, b, e2, e3⟩ := q
        exact ⟨a, b, e2, by rw [List.getElem?_set_ne (Ne.symm hj)]; exact e3⟩
/-- a slot forgotten -/
theorem Sat.drop (S : Sat PK O pp ρ c σ H) {ρ' : List (Sl K)} (hl : ρ'.length = ρ.length) (hn : (owns ρ').Nodup) (ho : ∀ a ∈ owns ρ', a ∈ owns ρ) (hs : ∀ i, get ρ' i = .nil ∨ get ρ' i = get ρ i) : Sat PK O pp ρ' c σ H := by
  have less : ∀ a, Av O pp ρ' a → Av O pp ρ a := fun a h => by
    rcases h with h | h | h
    · exact .inl h
    · exact .inr (.inl h)
    · exact .inr (.inr (ho a h))
  refine ⟨S.len.trans hl.symm, hn, fun a h => S.new a (ho a h), S.dom, S.pool, fun i => ?_⟩
  rcases hs i with e | e
  · rw [e]; exact True.intro
  · rw [e]; exact (S.slots i).mv (Mv.less less) (fun _ _ => rfl)
inductive Fit : List (Sl K) → List (Sl K) → Prop where
  | nil : Fit [] []
  | eq {s r r'} : Fit r r' → Fit (s :: r) (s :: r')
  | dr {s r r'} : Fit r r' → Fit (s :: r) (.nil :: r')
theorem Fit.len {r r' : List (Sl K)} (f : Fit r r') : r'.length = r.length := by
  induction f with
  | nil => rfl
  | eq _ ih => simp [ih]
  | dr _ ih => simp [ih]
theorem Fit.owns {r r' : List (Sl K)} (f : Fit r r') : ∀ a ∈ owns r', a ∈ Dc.owns r := by
  induction f with
  | nil => intro a h; exact h
  | eq _ ih =>
    intro a h
    rcases List.mem_append.mp h with h | h
    · exact List.mem_append.mpr (.inl h)
    · exact List.mem_append.mpr (.inr (ih a h))
  | dr _ ih =>
    intro a h
    rcases List.mem_append.mp h with h | h
    · cases h
    · exact List.mem_append.mpr (.inr (ih a h))
theorem Fit.nd {r r' : List (Sl K)} (f : Fit r r') : (Dc.owns r).Nodup → (Dc.owns r').Nodup := by
  induction f with
  | nil => intro h; exact h
  | @eq s r r' f ih =>
    intro h
    have h : (own1 s ++ Dc.owns r).Nodup := h
    show (own1 s ++ Dc.owns r').Nodup
    rw [List.nodup_append] at h ⊢
    exact ⟨h.1, ih h.2.1, fun a ha b hb => h.2.2 a ha b (f.owns b hb)⟩
  | @dr s r r' f ih =>
    intro h
    have h : (own1 s ++ Dc.owns r).Nodup := h
    rw [List.nodup_append] at h
    exact ih h.2.1
theorem Fit.get {r r' : List (Sl K)} (f : Fit r r') : ∀ i, get r' i = .nil ∨ get r' i = Dc.get r i := by
  induction f with
  | nil => intro i; exact .inr rfl
  | eq _ ih =>
    intro i
    cases i with
    | zero => exact .inr rfl
    | succ i => exact ih i
  | dr _ ih =>
    intro i
    cases i with
    | zero => exact .inl rfl
    | succ i => exact ih i
theorem Sat.fit {r r' : List (Sl K)} (S : Sat PK O pp r c σ H) (f : Fit r r') : Sat PK O pp r' c σ H := S.drop f.len (f.nd S.nd) f.owns f.get
theorem Fit.refl : ∀ {r : List (Sl K)}, Fit r r
  | [] => .nil
  | _ :: _ => .eq Fit.refl
theorem Fit.stp {r r' : List (Sl K)} (f : Fit r r') : Stp pp r r' H H := ⟨fun _ _ e _ _ => e, fun a z => .inl (f.owns a z)⟩

/-! ### ends of blocks -/
inductive Fl (γ δ β : Type) where
  | nx (s : γ) | bk (s : δ) | ct (s : δ) | rt (r : β)
def sq {γ' : Type} (k : γ → W (Fl γ' δ β)) : Fl γ δ β → W (Fl γ' δ β)
  | .nx s => k s
  | .bk s => ret (.bk s)
  | .ct s => ret (.ct s)
  | .rt r => ret (.rt r)
def FlOk (PK : PoolK) (pp : PP) (O : AS) (ρ : List (Sl K)) (H : Hp) (ρ' : γ → List (Sl K)) (ρl : δ → List (Sl K)) (er : En K β) (D : Ends) (H' : Hp) (c' : Nat) : Fl γ δ β → Prop
  | .nx s => ∀ σ', Stp pp ρ (ρ' s) H H' → Sat PK O pp (ρ' s) c' σ' H' → D.nx σ' H'
  | .bk s => ∀ σ', Stp pp ρ (ρl s) H H' → Sat PK O pp (ρl s) c' σ' H' → D.bk σ' H'
  | .ct s => ∀ σ', Stp pp ρ (ρl s) H H' → Sat PK O pp (ρl s) c' σ' H' → D.ct σ' H'
  | .rt r => ∀ v, (∀ a o, H a = some o → ¬ foot pp a → a ∉ owns ρ → H' a = some o) → PoolOk PK pp H' c' → er.r (fun a => O a ∨ foot pp a) H' v r → D.rt v H'
def rdS (PK : PoolK) (pp : PP) (ρ : List (Sl K)) (w : W (Fl γ δ β)) (ρ' : γ → List (Sl K)) (ρl : δ → List (Sl K)) (er : En K β) : TS := fun D σ H => ∃ O Φ c, Sat PK O pp ρ c σ H ∧ w Φ noX c ∧
  ∀ fl H' c', Φ fl c' → FlOk PK pp O ρ H ρ' ρl er D H' c' fl
/-- a statement that only goes on; ι: new addresses -/
def rdN {ι : Type} (PK : PoolK) (pp : PP) (ρ : List (Sl K)) (w : W γ) (ρ1 : ι → γ → List (Sl K)) : TS := fun D σ H => ∃ O Φ c, Sat PK O pp ρ c σ H ∧ w Φ noX c ∧
  ∀ i s H' c', Φ s c' → ∀ σ', Stp pp ρ (ρ1 i s) H H' → Sat PK O pp (ρ1 i s) c' σ' H' → D.nx σ' H'
theorem FlOk.mono {ρ ρ1 : List (Sl K)} {H H1 : Hp} {ρ' : γ → List (Sl K)} {ρl : δ → List (Sl K)} {er : En K β} {D : Ends} {fl : Fl γ δ β} (st : Stp pp ρ ρ1 H H1) (h : FlOk PK pp O ρ H ρ' ρl er D H' c' fl) : FlOk PK pp O ρ1 H1 ρ' ρl er D H' c' fl := by
  cases fl with
  | nx s => exact fun σ' t S => h σ' (st.trans t) S
  | bk s => exact fun σ' t S => h σ' (st.trans t) S
  | ct s => exact fun σ' t S => h σ' (st.trans t) S
  | rt r => exact fun v t p q => h v (fun a o e n no => t a o (st.keep a o e n no) n fun z => by
      rcases st.new a z with y | y
      · exact no y
      · rw [e] at y; cases y.1) p q
end
section
variable {X : Cx} {PK : PoolK} {pp : PP} {ρ : List (Sl X.K)} {α β γ δ ι : Type}
abbrev PSX (X : Cx) (PK : PoolK) (pp : PP) (ρ : List (Sl X.K)) (ss : List Stmt) (w : W (Fl γ δ β)) (ρ' : γ → List (Sl X.K)) (ρl : δ → List (Sl X.K)) (er : En X.K β) : Prop := PSs X ss (rdS PK pp ρ w ρ' ρl er)
theorem _root_.L2.PS.weak {X : Cx} {e : Stmt} {t t' : TS} (h : PS X e t) (f : ∀ D σ H, t' D σ H → t D σ H) : PS X e t' := ⟨fun pins s σ H D I q => h.run pins s σ H D I (f D σ H q)⟩
theorem _root_.L2.PSs.weak {X : Cx} {e : List Stmt} {t t' : TS} (h : PSs X e t) (f : ∀ D σ H, t' D σ H → t D σ H) : PSs X e t' := ⟨fun pins s σ H D I q => h.run pins s σ H D I (f D σ H q)⟩
theorem _root_.L2.PSs.ex {X : Cx} {e : List Stmt} {ι : Type} {t : ι → TS} (h : ∀ i, PSs X e (t i)) : PSs X e (fun D σ H => ∃ i, t i D σ H) := ⟨fun pins s σ H D I ⟨i, q⟩ => (h i).run pins s σ H D I q⟩
variable {st : Stmt} {rest : List Stmt} {e : Expr} {pos : Pos} {ρ' : γ → List (Sl X.K)} {ρl : δ → List (Sl X.K)} {er : En X.K β}

theorem snil {s : γ} (f : Fit ρ (ρ' s)) : PSX X PK pp ρ [] (ret (.nx s)) ρ' ρl er := (pss_nil).weak fun D σ H ⟨O, Φ, c, S, hw, k⟩ => k _ H c hw σ f.stp (S.fit f)
/-- a statement, then the rest -/
theorem sx {γ1 : Type} {w : W γ1} {ρ1 : ι → γ1 → List (Sl X.K)} {kk : γ1 → W (Fl γ δ β)} (h : PS X st (rdN PK pp ρ w ρ1)) (h2 : ∀ i s, PSX X PK pp (ρ1 i s) rest (kk s) ρ' ρl er) : PSX X PK pp ρ (st :: rest) (bnd w kk) ρ' ρl er :=
  (pss_cons h (PSs.ex fun p : ι × γ1 => h2 p.1 p.2)).weak fun D σ H ⟨O, Φ, c, S, hw, k⟩ => ⟨O, _, c, S, hw, fun i s H' c' p σ' t S' => ⟨(i, s), O, Φ, c', S', p, fun fl H2 c2 q => (k fl H2 c2 q).mono t⟩⟩
theorem sq_ {γ1 : Type} {w : W (Fl γ1 δ β)} {ρ1 : γ1 → List (Sl X.K)} {kk : γ1 → W (Fl γ δ β)} (h : PS X st (rdS PK pp ρ w ρ1 ρl er)) (h2 : ∀ s, PSX X PK pp (ρ1 s) rest (kk s) ρ' ρl er) : PSX X PK pp ρ (st :: rest) (bnd w (sq kk)) ρ' ρl er :=
  (pss_cons h (PSs.ex fun s : γ1 => h2 s)).weak fun D σ H ⟨O, Φ, c, S, hw, k⟩ => ⟨O, _, c, S, hw, fun fl H' c' p => by
    cases fl with
    | nx s => exact fun σ' t S' => ⟨s, O, Φ, c', S', p, fun fl H2 c2 q => (k fl H2 c2 q).mono t⟩
    | bk s => exact k (.bk s) H' c' p
    | ct s => exact k (.ct s) H' c' p
    | rt r => exact k (.rt r) H' c' p⟩
theorem sret {w : W β} (h : PX X PK pp ρ e w er) : PSX X PK pp ρ (.Return (some e) pos :: rest) (bnd w fun x => ret (.rt x)) ρ' ρl er :=
  (pss_cons (ps_ret h) pss_never).weak fun D σ H ⟨O, Φ, c, S, hw, k⟩ => ⟨O, _, c, S, hw, fun x v H' c' p ch S' r => k _ H' c' p v (fun a o e n _ => ch a o e n) S'.pool (er.mono (Mv.less fun a h => by
    rcases h with h | h
    · exact .inl h
    · exact .inr (.inl h)) r)⟩
theorem sretN {er : En X.K Unit} (he : ∀ O H, er.r O H .non ()) : PSX X PK pp ρ (.Return none pos :: rest) (ret (.rt ())) ρ' ρl er :=
  (pss_cons ps_retN pss_never).weak fun D σ H ⟨O, Φ, c, S, hw, k⟩ => k _ H c hw _ (fun a o e n _ => e) S.pool (he _ _)
theorem sbrk {s : δ} (f : Fit ρ (ρl s)) : PSX X PK pp ρ (.Break pos :: rest) (ret (.bk s)) ρ' ρl er := (pss_cons ps_break pss_never).weak fun D σ H ⟨O, Φ, c, S, hw, k⟩ => k _ H c hw σ f.stp (S.fit f)
theorem scont {s : δ} (f : Fit ρ (ρl s)) : PSX X PK pp ρ (.Continue pos :: rest) (ret (.ct s)) ρ' ρl er := (pss_cons ps_continue pss_never).weak fun D σ H ⟨O, Φ, c, S, hw, k⟩ => k _ H c hw σ f.stp (S.fit f)
/-- a statement that is never reached -/
theorem snever : PSX X PK pp ρ rest stuck ρ' ρl er := (pss_never).weak fun D σ H ⟨O, Φ, c, S, hw, k⟩ => hw
/-- x = e -/
theorem nset_ {i : Nat} {w : W α} {en : En X.K α} (h : PS X st (tAsg (rdE PK pp ρ w en) (gName i))) : PS X st (rdN PK pp ρ w fun (_ : Unit) x => put ρ i (.sh en x)) :=
  h.weak fun D σ H ⟨O, Φ, c, S, hw, k⟩ => ⟨O, _, c, S, hw, fun x v H' c' p ch S' r => k () x H' c' p _ (.of_chg ch fun a z => by
    rcases owns_put z with z | z
    · cases z
    · exact z) (S'.put r)⟩
theorem nset (i : Nat) {x : Str} {pos' : Pos} {w : W α} {en : En X.K α} (hN : X.N.Nodup) (he : PX X PK pp ρ e w en) (hi : X.N[i]? = some x := by rfl) (hx : Loc X.env.scope x := by first | exact Or.inl rfl | exact Or.inr rfl) (hs : swapsWith e (some (.Name x pos')) pos.line X.env = pure false := by rfl)
    (hf : X.fn x = true ∨ X.env.scope.names.lookup x = some .local := by first | exact .inl rfl | exact .inr rfl) : PS X (.Assign [.Name x pos'] e pos) (rdN PK pp ρ w fun (_ : Unit) x => put ρ i (.sh en x)) := nset_ (ps_set hN hi hx he hs hf)
/-- x op= e -/
theorem naug (i : Nat) {x : Str} {pos' : Pos} {op : Operator} {w : W β} {e1 : En X.K α} {e2 : En X.K β} {e3 : En X.K ι} {pre : α → β → Bool} {res : α → β → ι} {y : α} (hN : X.N.Nodup) (hg : get ρ i = .sh e1 y) (he : PX X PK pp ρ e w e2) (ho : OpW X (inplaceOp op) e1 e2 e3 pre res) (hi : X.N[i]? = some x := by rfl)
    (hx : Loc X.env.scope x := by first | exact Or.inl rfl | exact Or.inr rfl) (hf : X.fn x = true ∨ X.env.scope.names.lookup x = some .local := by first | exact .inl rfl | exact .inr rfl) :
    PS X (.AugAssign (.Name x pos') op e pos) (rdN PK pp ρ (bnd w fun z => grd (pre y z) (ret (res y z))) fun (_ : Unit) x => put ρ i (.sh e3 x)) :=
  (ps_aug hN hi hx he ho hf).weak fun D σ H ⟨O, Φ, c, S, hw, k⟩ => by
    have q := S.slots i
    rw [hg] at q
    obtain ⟨v, e, r⟩ := q
    exact ⟨v, e, O, _, c, S, hw, fun z u H' c' p ch S' r2 => ⟨_, y, z, S'.av, e1.mono ch.mv r, r2, p.1, fun o H2 s r3 => k () _ H2 c' p.2 _ (.of_chg (ch.trans (.of s)) fun a z => by
      rcases owns_put z with z | z
      · cases z
      · exact z) ((S'.same s).put r3)⟩⟩
theorem wi_add : OpW X (inplaceOp .Add) (eI : En X.K Int) eI eI (fun _ _ => true) (· + ·) := opII iop_add
theorem wi_sub : OpW X (inplaceOp .Sub) (eI : En X.K Int) eI eI (fun _ _ => true) (· - ·) := opII iop_sub
/-- an expression whose value is dropped -/
theorem nexpr {w : W α} {en : En X.K α} (h : PX X PK pp ρ e w en) (hs : swapsWith e none pos.line X.env = pure false := by rfl) : PS X (.Expr e pos) (rdN PK pp ρ w fun (_ : Unit) _ => ρ) :=
  (ps_expr h hs).weak fun D σ H ⟨O, Φ, c, S, hw, k⟩ => ⟨O, _, c, S, hw, fun x v H' c' p ch S' r => k () x H' c' p σ (.of_chg ch fun _ z => z) S'⟩
theorem npass : PS X (.Pass pos) (rdN PK pp ρ (ret ()) fun (_ : Unit) _ => ρ) := (ps_pass).weak fun D σ H ⟨O, Φ, c, S, hw, k⟩ => k () () H c hw σ .refl S
/-- if -/
theorem nif {c : Expr} {a b : List Stmt} {w : W Bool} {u v : W (Fl γ δ β)} (hc : PTX X PK pp ρ c w) (ha : PSX X PK pp ρ a u ρ' ρl er) (hb : PSX X PK pp ρ b v ρ' ρl er) : PS X (.If c a b pos) (rdS PK pp ρ (bnd w fun x => ite x u v) ρ' ρl er) :=
  (ps_if hc ha hb).weak fun D σ H ⟨O, Φ, c, S, hw, k⟩ => ⟨O, _, c, S, hw, fun x H' c' p ch S' => by
    have st : Stp pp ρ ρ H H' := .of_chg ch fun _ z => z
    cases x with
    | true => exact ⟨O, Φ, c', S', p, fun fl H2 c2 q => (k fl H2 c2 q).mono st⟩
    | false => exact ⟨O, Φ, c', S', by simpa [ite] using p, fun fl H2 c2 q => (k fl H2 c2 q).mono st⟩⟩
end
end Dc
/-! DcD: defs and their calls, walks, loops, comprehensions. -/
namespace Dc
open PySem PySem.Spec L2
open PyProof.Rows (envOfC)

/-! ### defs -/
/-- what a def promises that is told by a function into W -/
def spW {K : PySem.W.Frag} {α β : Type} (PK : PoolK) (ea : EA K α) (f : α → W β) (er : En K β) : Sp := fun vs H Q _ => ∃ pp O x Φ c, Dom O H ∧ (∀ a, foot pp a → O a) ∧ PoolOk PK pp H c ∧ ea.r pp O H vs x ∧ f x Φ noX c ∧
  ∀ y v H' c', Φ y c' → Chg pp H H' → PoolOk PK pp H' c' → er.r O H' v y → Q v H'
def fnR {β : Type} (w : W (Fl Empty Empty β)) : W β := bnd w fun fl => match fl with | .rt r => ret r | .nx z => nomatch z | .bk z => nomatch z | .ct z => nomatch z
def fnU (w : W (Fl Unit Empty Unit)) : W Unit := bnd w fun fl => match fl with | .rt r => ret r | .nx _ => ret () | .bk z => nomatch z | .ct z => nomatch z
def nilsTo {K : PySem.W.Frag} (n : Nat) (l : List (Sl K)) : List (Sl K) := l ++ List.replicate (n - l.length) .nil
theorem get_app {K : PySem.W.Frag} {l : List (Sl K)} {n i : Nat} : get (l ++ List.replicate n .nil) i = get l i ∨ get (l ++ List.replicate n .nil) i = .nil := by
  induction l generalizing i with
  | nil => exact .inr (get_nils n i)
  | cons s r ih =>
    cases i with
    | zero => exact .inl rfl
    | succ i => exact ih
theorem owns_app {K : PySem.W.Frag} : ∀ {l : List (Sl K)} {n : Nat}, owns (l ++ List.replicate n .nil) = owns l
  | [], n => own_nils n
  | s :: r, n => by
    show own1 s ++ owns (r ++ _) = own1 s ++ owns r
    rw [owns_app]
section
variable {P : Program} {w : World} {K : PySem.W.Frag} {mg : Str → Option Value} {base : Heap} {PK : PoolK} {α β : Type}
theorem own0 {ea : EA K α} {x : α} {n : Nat} {a : Addr} : a ∉ owns (ea.ents x ++ List.replicate n (Sl.nil : Sl K)) := fun h => by
  rw [owns_app, ea.eown] at h
  cases h
theorem sat_start {pp : PP} {O : AS} {H : Hp} {vs : List V} {x : α} {ea : EA K α} {N : List Str} {c : Nat} (hd : Dom O H) (hf : ∀ a, foot pp a → O a) (hp : PoolOk PK pp H c) (hr : ea.r pp O H vs x) (hN : ea.len ≤ N.length) :
    Sat PK O pp (ea.ents x ++ List.replicate (N.length - ea.len) .nil) c (L2.start N vs) H := by
  have e0 : owns (ea.ents x ++ List.replicate (N.length - ea.len) (Sl.nil : Sl K)) = [] := owns_app.trans (ea.eown x)
  have av : ∀ a, Av O pp (ea.ents x ++ List.replicate (N.length - ea.len) (Sl.nil : Sl K)) a → O a := fun a h => by
    rcases h with h | h | h
    · exact h
    · exact hf a h
    · rw [e0] at h; cases h
  have hl := ea.hlen hr
  refine ⟨?_, (by rw [e0]; exact List.nodup_nil), (fun a h => absurd h own0), hd, hp, fun i => ?_⟩
  · unfold L2.start
    rw [List.length_append, List.length_append, List.length_map, List.length_replicate, List.length_replicate, ea.elen, hl]
  · rcases get_app (l := ea.ents x) (n := N.length - ea.len) (i := i) with e | e
    · rw [e]
      exact (ea.eok i hr).mv (Mv.less av) fun _ _ => rfl
    · rw [e]; exact True.intro
theorem fn_gen {x qual : Str} {st : Stmt} {f : Addr} {fd : FuncData} {N ps : List Str} {k : Nat} {γ : Type} {ea : EA K α} {er : En K β} {fw : α → W β} {wb : α → W (Fl γ Empty β)} {ρ' : γ → List (Sl K)} (F : Fun K x qual st f fd) (S : FnScope N ps (defScope st)) (hl : ea.len = ps.length) (hN : ea.len ≤ N.length)
    (hnx : ∀ (x : α) (Φ : β → WB) (c : Nat), fw x Φ noX c → ∃ Φ' : Fl γ Empty β → WB, wb x Φ' noX c ∧ ∀ fl c', Φ' fl c' → match fl with | .rt r => Φ r c' | .nx _ => ∃ r, Φ r c' ∧ ∀ O H, er.r O H .non r | _ => True)
    (hbody : ∀ (cdv : Value) (A : Around) (outer : List Env) (s : Shared) (H : Hp) (E : XK) (pp : PP) (x : α), Room k (A.deeper (envOfC qual (defScope st) s.heap.objs.size f cdv)) →
      PSX (cxOf CX0 P w K mg base N qual (defScope st) f cdv A outer s H E).nox PK pp (ea.ents x ++ List.replicate (N.length - ea.len) .nil) (defBody st) (wb x) ρ' (fun z : Empty => nomatch z) er) : FnOk P w K mg base CX0 (k + 1) f fd ps (spW PK ea fw er) := by
  refine F.ok S (fun vs H Q E h => ?_) (fun cdv A outer s H vs Q E hr h => ?_)
  · obtain ⟨pp, O, x, Φ, c, _, _, _, r, _⟩ := h
    rw [ea.hlen r, hl]
  · obtain ⟨pp, O, x, Φ, c, hd, hf, hp, r, hw, q⟩ := h
    obtain ⟨Φ', hw', hk⟩ := hnx x Φ c hw
    refine ⟨_, hbody cdv A outer s H E pp x hr, O, Φ', c, sat_start hd hf hp r hN, hw', fun fl H' c' p => ?_⟩
    have z := hk fl c' p
    cases fl with
    | rt r =>
      intro v ch pl rv
      refine q r v H' c' z (fun a o e n => ch a o e n (own0 (ea := ea))) pl (er.mono (Mv.less fun a h => .inl h) rv)
    | nx s0 =>
      intro σ' stp S'
      obtain ⟨r, z1, z2⟩ := z
      refine q r .non H' c' z1 (fun a o e n => stp.keep a o e n (own0 (ea := ea))) S'.pool (z2 _ _)
    | bk z => exact nomatch z
    | ct z => exact nomatch z
theorem fn_R {x qual : Str} {st : Stmt} {f : Addr} {fd : FuncData} {N ps : List Str} {k : Nat} {ea : EA K α} {er : En K β} {wb : α → W (Fl Empty Empty β)} {ρ' : Empty → List (Sl K)} (F : Fun K x qual st f fd) (S : FnScope N ps (defScope st)) (hl : ea.len = ps.length) (hN : ea.len ≤ N.length)
    (hbody : ∀ (cdv : Value) (A : Around) (outer : List Env) (s : Shared) (H : Hp) (E : XK) (pp : PP) (x : α), Room k (A.deeper (envOfC qual (defScope st) s.heap.objs.size f cdv)) →
      PSX (cxOf CX0 P w K mg base N qual (defScope st) f cdv A outer s H E).nox PK pp (ea.ents x ++ List.replicate (N.length - ea.len) .nil) (defBody st) (wb x) ρ' (fun z : Empty => nomatch z) er) : FnOk P w K mg base CX0 (k + 1) f fd ps (spW PK ea (fun x => fnR (wb x)) er) :=
  fn_gen F S hl hN (fun x Φ c h => ⟨_, h, fun fl c' p => by
    cases fl with
    | rt r => exact p
    | nx z => exact nomatch z
    | bk z => exact nomatch z
    | ct z => exact nomatch z⟩) hbody
theorem fn_U {x qual : Str} {st : Stmt} {f : Addr} {fd : FuncData} {N ps : List Str} {k : Nat} {ea : EA K α} {wb : α → W (Fl Unit Empty Unit)} {ρ' : Unit → List (Sl K)} (F : Fun K x qual st f fd) (S : FnScope N ps (defScope st)) (hl : ea.len = ps.length) (hN : ea.len ≤ N.length)
    (hbody : ∀ (cdv : Value) (A : Around) (outer : List Env) (s : Shared) (H : Hp) (E : XK) (pp : PP) (x : α), Room k (A.deeper (envOfC qual (defScope st) s.heap.objs.size f cdv)) →
      PSX (cxOf CX0 P w K mg base N qual (defScope st) f cdv A outer s H E).nox PK pp (ea.ents x ++ List.replicate (N.length - ea.len) .nil) (defBody st) (wb x) ρ' (fun z : Empty => nomatch z) eU) : FnOk P w K mg base CX0 (k + 1) f fd ps (spW PK ea (fun x => fnU (wb x)) eU) :=
  fn_gen F S hl hN (fun x Φ c h => ⟨_, h, fun fl c' p => by
    cases fl with
    | rt r => exact p
    | nx z => exact ⟨(), p, fun _ _ => rfl⟩
    | bk z => exact nomatch z
    | ct z => exact nomatch z⟩) hbody
end
section
variable {X : Cx} {PK : PoolK} {pp : PP} {ρ : List (Sl X.K)} {α β γ δ : Type}
variable {e a b : Expr} {es : List Expr} {pos : Pos}
theorem xcall {k : Nat} {f : Addr} {fd : FuncData} {ps : List Str} {x : Str} {p : Pos} {ea : EA X.K α} {er : En X.K β} {fw : α → W β} {wa : W α} (F : FnOk X.prog X.w X.K X.mg X.base CX0 k f fd ps (spW PK ea fw er)) (hr : Room k X.A) (hm : X.mg x = some (.ref f)) (hk : PySem.W.keepIn X.K (.ref f) = true)
    (hb : Binds X.K fd ps []) (ha : PAX X PK pp ρ (e :: es) wa ea) (hg : Gl X x := by rfl) (hdb : (x == ("__debug__" : Str)) = false := by decide) (he : starEach (e :: es) X.env = (false, eval e X.env) :: starEach es X.env := by rfl)
    (hpl : (backTo pos (starEach es X.env)).any (·.1) = false := by rfl) : PX X PK pp ρ (.Call (.Name x p) (e :: es) [] pos) (bnd wa fw) er :=
  (pe_call F hr hg hm hk hb .nil pass0 ha hdb he hpl).weak fun σ H Q ⟨O, Φ, c, S, hw, kk⟩ => ⟨O, _, c, S, hw, fun y vs H1 c1 p1 ch1 S1 r1 => by
    show spW PK ea fw er (vs ++ []) H1 Q E0
    rw [List.append_nil]
    exact ⟨pp, Av O pp ρ, y, Φ, c1, S1.av, fun a h => .inr (.inl h), S1.pool, r1, p1, fun z v H2 c2 p2 ch2 pl2 rz => kk z v H2 c2 p2 (ch1.trans ch2) (S1.chg ch2 pl2) rz⟩⟩

/-! ### builtins -/
def CallW (X : Cx) (f : Value) (ea : EA X.K α) (e3 : En X.K γ) (pre : α → Bool) (res : α → γ) : Prop :=
  CallR X f fun xs H Q => ∃ pp A a, Dom A H ∧ ea.r pp A H xs a ∧ pre a = true ∧ ∀ v H', Same H H' → e3.r A H' v (res a) → Q v H'
theorem xcallB {id : String} {x : Str} {p : Pos} {ea : EA X.K α} {e3 : En X.K γ} {pre : α → Bool} {res : α → γ} {wa : W α} (hc : CallW X (.builtin id) ea e3 pre res) (hm : X.mg x = none) (hv : bootBuiltins x = some (.builtin id)) (ha : PAX X PK pp ρ (e :: es) wa ea) (hg : Gl X x := by rfl)
    (hn : x ≠ "__name__" := by decide) (hdb : (x == ("__debug__" : Str)) = false := by decide) (he : starEach (e :: es) X.env = (false, eval e X.env) :: starEach es X.env := by rfl) (hpl : (backTo pos (starEach es X.env)).any (·.1) = false := by rfl) :
    PX X PK pp ρ (.Call (.Name x p) (e :: es) [] pos) (bnd wa fun x => grd (pre x) (ret (res x))) e3 :=
  (pe_callB hc hg hm hv ha hn hdb he hpl).weak fun σ H Q ⟨O, Φ, c, S, hw, kk⟩ => ⟨O, _, c, S, hw, fun y vs H1 c1 p1 ch1 S1 r1 => ⟨pp, _, y, S1.av, r1, p1.1, fun v H2 s r2 => kk _ v H2 c1 p1.2 (ch1.trans (.of s)) (S1.same s) r2⟩⟩
theorem xcallT {id : String} {x : Str} {p : Pos} {ea : EA X.K α} {e3 : En X.K γ} {pre : α → Bool} {res : α → γ} {wa : W α} (hc : CallW X (.type id) ea e3 pre res) (hm : X.mg x = none) (hv : bootBuiltins x = some (.type id)) (ha : PAX X PK pp ρ (e :: es) wa ea) (hg : Gl X x := by rfl)
    (hn : x ≠ "__name__" := by decide) (hdb : (x == ("__debug__" : Str)) = false := by decide) (he : starEach (e :: es) X.env = (false, eval e X.env) :: starEach es X.env := by rfl) (hpl : (backTo pos (starEach es X.env)).any (·.1) = false := by rfl) :
    PX X PK pp ρ (.Call (.Name x p) (e :: es) [] pos) (bnd wa fun x => grd (pre x) (ret (res x))) e3 :=
  (pe_callTy hc hg hm hv ha hn hdb he hpl).weak fun σ H Q ⟨O, Φ, c, S, hw, kk⟩ => ⟨O, _, c, S, hw, fun y vs H1 c1 p1 ch1 S1 r1 => ⟨pp, _, y, S1.av, r1, p1.1, fun v H2 s r2 => kk _ v H2 c1 p1.2 (ch1.trans (.of s)) (S1.same s) r2⟩⟩
/-- a name of the module for a builtin (math.gcd) -/
theorem xcallG {id : String} {x : Str} {p : Pos} {ea : EA X.K α} {e3 : En X.K γ} {pre : α → Bool} {res : α → γ} {wa : W α} (hc : CallW X (.builtin id) ea e3 pre res) (hm : X.mg x = some (.builtin id)) (ha : PAX X PK pp ρ (e :: es) wa ea) (hg : Gl X x := by rfl)
    (hdb : (x == ("__debug__" : Str)) = false := by decide) (he : starEach (e :: es) X.env = (false, eval e X.env) :: starEach es X.env := by rfl) (hpl : (backTo pos (starEach es X.env)).any (·.1) = false := by rfl) :
    PX X PK pp ρ (.Call (.Name x p) (e :: es) [] pos) (bnd wa fun x => grd (pre x) (ret (res x))) e3 :=
  (pe_callBfun hc hg hm ha hdb he hpl).weak fun σ H Q ⟨O, Φ, c, S, hw, kk⟩ => ⟨O, _, c, S, hw, fun y vs H1 c1 p1 ch1 S1 r1 => ⟨pp, _, y, S1.av, r1, p1.1, fun v H2 s r2 => kk _ v H2 c1 p1.2 (ch1.trans (.of s)) (S1.same s) r2⟩⟩
theorem F2.bls {K : PySem.W.Frag} {O : AS} {H : Hp} {vs : List V} {bs : List Bool} (f : F2 ((eB : En K Bool).r O H) vs bs) : vs = bs.map V.bl := by
  induction f with
  | nil => rfl
  | cons r _ ih => rw [show _ = V.bl _ from r, ih]; rfl
theorem F2.ints {K : PySem.W.Frag} {O : AS} {H : Hp} {vs : List V} {bs : List Int} (f : F2 ((eI : En K Int).r O H) vs bs) : vs = bs.map V.int := by
  induction f with
  | nil => rfl
  | cons r _ ih => rw [show _ = V.int _ from r, ih]; rfl
abbrev a1 (e1 : En X.K α) : EA X.K (α × Unit) := aC e1 aN
abbrev a2 (e1 : En X.K α) (e2 : En X.K β) : EA X.K (α × β × Unit) := aC e1 (aC e2 aN)
theorem c_lenR {en : En X.K α} : CallW X (.builtin "len") (a1 (eR en)) eI (fun _ => true) (fun x => (x.1.length : Int)) := by
  rintro pins s σ H xs us Q I r ⟨pp, A, x, _, ⟨v, _, rfl, ⟨a, vs, rfl, l, f⟩, rfl⟩, _, k⟩
  exact call_len_seq pins s σ H _ us Q I r ⟨a, vs, rfl, .inl l.sq, k _ _ (.refl _) (by rw [f.length]; rfl)⟩
theorem c_len {en : En X.K α} : CallW X (.builtin "len") (a1 (eL en)) eI (fun _ => true) (fun x => (x.1.length : Int)) := by
  rintro pins s σ H xs us Q I r ⟨pp, A, x, d, ⟨v, _, rfl, r1, rfl⟩, p, k⟩
  exact c_lenR (en := en) pins s σ H _ us Q I r ⟨pp, A, x, d, ⟨v, _, rfl, eL_R r1, rfl⟩, p, k⟩
theorem c_int : CallW X (.type "int") (a1 (eI : En X.K Int)) eI (fun _ => true) (fun x => x.1) := by
  rintro pins s σ H xs us Q I r ⟨pp, A, x, d, ⟨v, _, rfl, rfl, rfl⟩, p, k⟩
  exact call_int1 pins s σ H _ us Q I r (.inl ⟨_, rfl, k _ _ (.refl _) rfl⟩)
theorem c_intB : CallW X (.type "int") (a1 (eB : En X.K Bool)) eI (fun _ => true) (fun x => if x.1 then 1 else 0) := by
  rintro pins s σ H xs us Q I r ⟨pp, A, x, d, ⟨v, _, rfl, rfl, rfl⟩, p, k⟩
  exact call_int1 pins s σ H _ us Q I r (.inr ⟨_, rfl, k _ _ (.refl _) rfl⟩)
theorem c_abs : CallW X (.builtin "abs") (a1 (eI : En X.K Int)) eI (fun _ => true) (fun x => if x.1 < 0 then -x.1 else x.1) := by
  rintro pins s σ H xs us Q I r ⟨pp, A, x, d, ⟨v, _, rfl, rfl, rfl⟩, p, k⟩
  exact call_abs pins s σ H _ us Q I r ⟨_, rfl, k _ _ (.refl _) rfl⟩
theorem c_gcd : CallW X (.builtin "math.gcd") (a2 (eI : En X.K Int) eI) eI (fun _ => true) (fun x => ((Nat.gcd x.1.natAbs x.2.1.natAbs : Nat) : Int)) := by
  rintro pins s σ H xs us Q I r ⟨pp, A, x, d, ⟨v, _, rfl, rfl, u, _, rfl, rfl, rfl⟩, p, k⟩
  exact cr_gcd pins s σ H _ us Q I r ⟨_, _, rfl, k _ _ (.refl _) rfl⟩
theorem c_list {en : En X.K α} : CallW X (.type "list") (a1 (eR en)) (eL en) (fun _ => true) (fun x => x.1) := by
  rintro pins s σ H xs us Q I r ⟨pp, A, x, d, ⟨v, _, rfl, ⟨a, vs, rfl, l, f⟩, rfl⟩, _, k⟩
  refine call_list_of pins s σ H _ us Q I r ⟨a, vs, rfl, .inl l.sq, fun p np => ?_⟩
  have s := same_new (o := .lst vs) np
  exact k _ _ s ⟨p, vs, rfl, ⟨new_at d np, upd_same⟩, f.imp fun _ _ => en.mono (Mv.same s)⟩
theorem c_allB : ∀ (hc : X.calm = true), CallW X (.builtin "all") (a1 (eL (eB : En X.K Bool))) eB (fun _ => true) (fun x => x.1.all id) := by
  rintro hc pins s σ H xs us Q I r ⟨pp, A, x, d, ⟨v, _, rfl, ⟨a, vs, rfl, l, f⟩, rfl⟩, _, k⟩
  have e := F2.bls f
  exact cr_all hc pins s σ H _ us Q I r ⟨a, x.1, rfl, by rw [← e]; exact l.sq, k _ _ (.refl _) rfl⟩
theorem c_anyB : ∀ (hc : X.calm = true), CallW X (.builtin "any") (a1 (eL (eB : En X.K Bool))) eB (fun _ => true) (fun x => x.1.any id) := by
  rintro hc pins s σ H xs us Q I r ⟨pp, A, x, d, ⟨v, _, rfl, ⟨a, vs, rfl, l, f⟩, rfl⟩, _, k⟩
  have e := F2.bls f
  exact cr_any hc pins s σ H _ us Q I r ⟨a, x.1, rfl, by rw [← e]; exact l.sq, k _ _ (.refl _) rfl⟩
theorem xR {w : W (List α)} {en : En X.K α} (h : PX X PK pp ρ e w (eL en)) : PX X PK pp ρ e w (eR en) := h.weak fun σ H Q ⟨O, Φ, c, S, hw, k⟩ => ⟨O, Φ, c, S, hw, fun x v H' c' p ch S' r => k x v H' c' p ch S' (eL_R r)⟩
theorem w_cat {en : En X.K α} : OpW X (binaryOp .Add) (eL en) (eL en) (eL en) (fun x y => decide (x.length + y.length ≤ 16777216)) (fun x y => x ++ y) := by
  intro pins s σ H x y v u Q I rx ry ⟨A, xs, ys, d, ⟨a, vs, e1, l, f⟩, ⟨b, us, e2, l2, f2⟩, p, k⟩
  refine op_cat pins s σ H x y v u Q I rx ry ⟨a, b, vs, us, e1, e2, l.2, l2.2, ?_, fun p np => ?_⟩
  · rw [f.length, f2.length, sizeLine_eq]; exact of_decide_eq_true p
  · have s := same_new (o := .lst (vs ++ us)) np
    exact k _ _ s ⟨p, _, rfl, ⟨new_at d np, upd_same⟩, (f.append f2).imp fun _ _ => en.mono (Mv.same s)⟩
def repOk (n : Nat) (k : Int) : Bool := decide (-(2 ^ 63) ≤ k) && decide (k < 2 ^ 63) && decide (n * k.toNat ≤ 16777216)
theorem F2.flat {α β : Type} {R : α → β → Prop} {l : List α} {m : List β} (h : F2 R l m) : ∀ n : Nat, F2 R (List.replicate n l).flatten (List.replicate n m).flatten
  | 0 => .nil
  | n + 1 => by simpa [List.replicate_succ] using h.append (F2.flat h n)
theorem w_rep {en : En X.K α} : OpW X (binaryOp .Mult) (eL en) (eI : En X.K Int) (eL en) (fun x k => repOk x.length k) (fun x k => (List.replicate k.toNat x).flatten) := by
  intro pins s σ H x y v u Q I rx ry ⟨A, xs, i, d, ⟨a, vs, e1, l, f⟩, r2, p, k⟩
  simp only [repOk, Bool.and_eq_true, decide_eq_true_eq] at p
  refine op_rep pins s σ H x y v u Q I rx ry ⟨a, i, vs, e1, r2, l.2, p.1.1, p.1.2, by rw [f.length, sizeLine_eq]; exact p.2, fun p np => ?_⟩
  have s := same_new (o := .lst (List.replicate i.toNat vs).flatten) np
  exact k _ _ s ⟨p, _, rfl, ⟨new_at d np, upd_same⟩, (f.flat _).imp fun _ _ => en.mono (Mv.same s)⟩
end
end Dc
/-! DcE: walks, loops, comprehensions, lists of one's own. -/
namespace Dc
open PySem PySem.Spec L2
section
variable {K : PySem.W.Frag} {PK : PoolK} {pp : PP} {ρ ρ1 ρ2 : List (Sl K)} {O : AS} {c c' : Nat} {σ : St} {H H' H0 H1 H2 : Hp} {α β γ δ : Type} {p : Addr} {o : HO}

/-! ### a new thing, avoided -/
def Ox (O : AS) (p : Addr) : AS := fun a => O a ∨ a = p
theorem Mv.new (h : H p = none) : Mv O (Ox O p) H (upd H p o) := fun a u n e => by
  have ne := ne_of_none e h
  exact ⟨by rw [upd_ne ne]; exact e, fun z => z.elim n ne⟩
theorem av_ox : ∀ {a}, Av (Ox O p) pp ρ a → Ox (Av O pp ρ) p a := fun {a} h => by
  rcases h with (h | h) | h | h
  · exact .inl (.inl h)
  · exact .inr h
  · exact .inl (.inr (.inl h))
  · exact .inl (.inr (.inr h))
theorem Mv.newA (h : H p = none) : Mv (Av O pp ρ) (Av (Ox O p) pp ρ) H (upd H p o) := (Mv.new h).trans (Mv.less fun _ z => av_ox z)
theorem Sat.newO (S : Sat PK O pp ρ c σ H) (h : H p = none) : Sat PK (Ox O p) pp ρ c σ (upd H p o) := by
  have np : ∀ a, H a ≠ none → a ≠ p := fun a n z => n (by rw [z]; exact h)
  have s := same_new (o := o) h
  have S' := S.same s
  refine ⟨S.len, S.nd, fun a ha => ⟨fun z => ?_, (S.new a ha).2⟩, fun a z => ?_, S'.pool, fun i => ?_⟩
  · rcases z with z | z
    · exact (S.new a ha).1 z
    · exact np a (S.av a (.inr (.inr ha))) z
  · rcases z with z | z
    · exact S'.dom a z
    · rw [z, upd_same]; simp
  · refine (S.slots i).mv (Mv.newA h) fun a ha => same_at s ?_
    cases e : get ρ i with
    | ow b on x =>
      rw [e] at ha
      have ha : a = b := by simpa [own1] using ha
      subst ha
      have q := S.slots i
      rw [e] at q
      exact on.dom q.2
    | _ => rw [e] at ha; cases ha
theorem Sat.lessO (S : Sat PK (Ox O p) pp ρ c σ H) : Sat PK O pp ρ c σ H := by
  have less : ∀ a, Av O pp ρ a → Av (Ox O p) pp ρ a := fun a h => by
    rcases h with h | h | h
    · exact .inl (.inl h)
    · exact .inr (.inl h)
    · exact .inr (.inr h)
  exact ⟨S.len, S.nd, fun a ha => ⟨fun z => (S.new a ha).1 (.inl z), (S.new a ha).2⟩, fun a z => S.dom a (.inl z), S.pool, fun i => (S.slots i).mv (Mv.less less) fun _ _ => rfl⟩
/-- what is avoided may change -/
theorem Sat.updO (S : Sat PK O pp ρ c σ H) (hp : O p) (hf : ¬ foot pp p) : Sat PK O pp ρ c σ (upd H p o) := by
  have mv : Mv (Av O pp ρ) (Av O pp ρ) H (upd H p o) := fun a u n e => ⟨by rw [upd_ne (fun z => n (by rw [z]; exact .inl hp))]; exact e, n⟩
  refine ⟨S.len, S.nd, S.new, fun a z => ?_, ?_, fun i => (S.slots i).mv mv fun a ha => ?_⟩
  · by_cases e : a = p
    · rw [e, upd_same]; simp
    · rw [upd_ne e]; exact S.dom a z
  · cases pp with
    | none => exact True.intro
    | some q =>
      obtain ⟨a, b⟩ := q
      have q : PK.r H a b c := S.pool
      exact PK.keep (upd_ne (o := o) fun z => hf (.inl z.symm)) (upd_ne (o := o) fun z => hf (.inr z.symm)) q
  · cases e : get ρ i with
    | ow b on x =>
      rw [e] at ha
      have ha : a = b := by simpa [own1] using ha
      subst ha
      exact upd_ne fun z => (S.new a (owns_mem e)).1 (by rw [z]; exact hp)
    | _ => rw [e] at ha; cases ha
/-- a slot gets a thing of its own -/
theorem Sat.own (S : Sat PK (Ox O p) pp ρ c σ H) (hf : ¬ foot pp p) (ho : ¬ O p) {i : Nat} {on : On K α} {x : α} (r : on.r (Av (Ox O p) pp ρ) H p x) : Sat PK O pp (Dc.put ρ i (.ow p on x)) c (σ.set i (some (.ref p))) H := by
  have less : ∀ a, Av O pp (Dc.put ρ i (.ow p on x)) a → Av (Ox O p) pp ρ a := fun a h => by
    rcases h with h | h | h
    · exact .inl (.inl h)
    · exact .inr (.inl h)
    · rcases owns_put h with h | h
      · exact .inl (.inr (by simpa [own1] using h))
      · exact .inr (.inr h)
  refine ⟨by rw [List.length_set, put_len]; exact S.len, owns_put_nodup S.nd (own1_nodup _) (fun b hb z => ?_), fun a ha => ?_, fun a z => S.dom a (.inl z), S.pool, fun j => ?_⟩
  · have hb : b = p := by simpa [own1] using hb
    exact (S.new b z).1 (.inr hb)
  · rcases owns_put ha with h | h
    · have h : a = p := by simpa [own1] using h
      rw [h]; exact ⟨ho, hf⟩
    · exact ⟨fun z => (S.new a h).1 (.inl z), (S.new a h).2⟩
  · by_cases hj : j = i
    · subst hj
      rcases get_put_self (ρ := ρ) (i := j) (s := Sl.ow p on x) with e | e
      · rw [e]
        have hl := get_len (ρ := Dc.put ρ j (.ow p on x)) (i := j) (by rw [e]; intro z; cases z)
        rw [put_len, ← S.len] at hl
        exact ⟨List.getElem?_set_self hl, on.mono (Mv.less less) rfl r⟩
      · rw [e]; exact True.intro
    · rw [get_put_ne hj]
      have q := (S.slots j).mv (Mv.less less) (fun _ _ => rfl)
      cases e : get ρ j with
      | nil => exact True.intro
      | sh en2 y =>
        rw [e] at q
        obtain ⟨v2, e2, r2⟩ := q
        exact ⟨v2, by rw [List.getElem?_set_ne (Ne.symm hj)]; exact e2, r2⟩
      | ow a on y =>
        rw [e] at q
        exact ⟨by rw [List.getElem?_set_ne (Ne.symm hj)]; exact q.1, q.2⟩
      | pl =>
        rw [e] at q
        obtain ⟨a, b, e2, e3⟩ := q
        exact ⟨a, b, e2, by rw [List.getElem?_set_ne (Ne.symm hj)]; exact e3⟩
/-- an own list changed in place -/
theorem Sat.chgOwn (S : Sat PK O pp ρ c σ H) {i : Nat} {on : On K α} {x : α} {β : Type} {on' : On K β} {y : β} (hg : get ρ i = .ow p on x) (r : on'.r (Av O pp ρ) (upd H p o) p y) : Sat PK O pp (Dc.put ρ i (.ow p on' y)) c σ (upd H p o) ∧ Stp pp ρ (Dc.put ρ i (.ow p on' y)) H (upd H p o) := by
  have eo := owns_same (on' := on') (y := y) hg
  have hm := owns_mem hg
  have mv : Mv (Av O pp ρ) (Av O pp ρ) H (upd H p o) := fun a u n e => ⟨by rw [upd_ne (fun z => n (by rw [z]; exact .inr (.inr hm)))]; exact e, n⟩
  have av : Av O pp (Dc.put ρ i (.ow p on' y)) = Av O pp ρ := by unfold Av; rw [eo]
  have hs : σ[i]? = some (some (.ref p)) := by
    have q := S.slots i
    rw [hg] at q
    exact q.1
  refine ⟨⟨by rw [put_len]; exact S.len, by rw [eo]; exact S.nd, fun a ha => S.new a (by rw [← eo]; exact ha), fun a z => ?_, ?_, fun j => ?_⟩, fun a u e n no => ?_, fun a z => .inl (by rw [← eo]; exact z)⟩
  · by_cases e : a = p
    · rw [e, upd_same]; simp
    · rw [upd_ne e]; exact S.dom a z
  · cases pp with
    | none => exact True.intro
    | some q =>
      obtain ⟨a, b⟩ := q
      have q : PK.r H a b c := S.pool
      have hf := (S.new p hm).2
      exact PK.keep (upd_ne (o := o) fun z => hf (.inl z.symm)) (upd_ne (o := o) fun z => hf (.inr z.symm)) q
  · rw [av]
    by_cases hj : j = i
    · subst hj
      rcases get_put_self (ρ := ρ) (i := j) (s := Sl.ow p on' y) with e | e
      · rw [e]; exact ⟨hs, r⟩
      · rw [e]; exact True.intro
    · rw [get_put_ne hj]
      refine (S.slots j).mv mv fun a ha => upd_ne fun z => ?_
      subst z
      cases e : get ρ j with
      | ow b on2 x2 =>
        rw [e] at ha
        have ha : a = b := by simpa [own1] using ha
        subst ha
        exact hj (owns_inj S.nd e hg)
      | _ => rw [e] at ha; cases ha
  · rw [upd_ne (fun z => no (by rw [z]; exact hm))]; exact e
end
end Dc
/-! DcF: walks, loops, comprehensions. -/
namespace Dc
open PySem PySem.Spec L2
section
variable {K : PySem.W.Frag} {PK : PoolK} {pp : PP} {ρ ρ1 ρ2 : List (Sl K)} {O : AS} {c c' : Nat} {σ : St} {H H' H0 H1 H2 : Hp} {α β γ δ : Type} {p : Addr} {o : HO}
def setAll (σ : St) (us : List (Nat × V)) : St := us.foldl (fun σ u => σ.set u.1 (some u.2)) σ
/-- J walks over xs in every heap to which H0 has moved; an item goes to the slots js, as ext says -/
structure Src (PK : PoolK) (xs : List α) (ext : List (Sl K) → α → List (Sl K)) (js : List Nat) (g : TG) (J : It) (A : AS) (H0 : Hp) : Prop where
  go : ∀ i H A', i < xs.length → Mv A A' H0 H → J.go i H
  stop : ∀ H A', Mv A A' H0 H → J.stop xs.length H
  eown : ∀ (ρ : List (Sl K)) (x : α), ∀ a ∈ owns (ext ρ x), a ∈ owns ρ
  yld : ∀ i x H v H' pp ρ O c σ, xs[i]? = some x → Mv A (Av O pp ρ) H0 H → Sat PK O pp ρ c σ H → J.yld i H v H' → ∃ us H2, us.map (·.1) = js ∧ Same H H2 ∧ Sat PK O pp (ext ρ x) c (setAll σ us) H2 ∧ ∀ Q : St → Hp → Prop, Q (setAll σ us) H2 → g v σ H' Q
def rdI (PK : PoolK) (pp : PP) (ρ : List (Sl K)) (w : W (List α)) (ext : List (Sl K) → α → List (Sl K)) (js : List Nat) (g : TG) : TI := fun σ H R => ∃ O Φ c, Sat PK O pp ρ c σ H ∧ w Φ noX c ∧
  ∀ xs J H' c', Φ xs c' → Chg pp H H' → Sat PK O pp ρ c' σ H' → Src PK xs ext js g J (Av O pp ρ) H' → xs.length ≤ sizeLine → R J H'
/-- a loop's turns -/
def forW (f : γ → α → W (Fl γ γ β)) : γ → List α → W (Fl γ δ β)
  | s, [] => ret (.nx s)
  | s, x :: r => bnd (f s x) fun fl => match fl with
    | .nx s' => forW f s' r
    | .ct s' => forW f s' r
    | .bk s' => ret (.nx s')
    | .rt y => ret (.rt y)
def mapW (f : α → W β) : List α → W (List β)
  | [] => ret []
  | x :: r => bnd (f x) fun y => bnd (mapW f r) fun ys => ret (y :: ys)
def filW (t : α → W Bool) (f : α → W β) : List α → W (List β)
  | [] => ret []
  | x :: r => bnd (t x) fun b => ite b (bnd (f x) fun y => bnd (filW t f r) fun ys => ret (y :: ys)) (filW t f r)
/-- a new list -/
def rdF (PK : PoolK) (pp : PP) (ρ : List (Sl K)) (w : W (List α)) (en : En K α) : TE := fun σ H Q => ∃ O Φ c, Sat PK O pp ρ c σ H ∧ w Φ noX c ∧
  ∀ xs p vs H' c', Φ xs c' → H p = none → Chg pp H H' → Sat PK (Ox O p) pp ρ c' σ H' → H' p = some (.lst vs) → F2 (en.r (Av (Ox O p) pp ρ) H') vs xs → Q (.ref p) H'
theorem nfoot (S : Sat PK O pp ρ c σ H) (h : H p = none) : ¬ foot pp p := fun z => S.av p (.inr (.inl z)) h
theorem chg_none (S : Sat PK O pp ρ c' σ H1) (ch : Chg pp H H1) (h : H1 p = none) : H p = none := by
  cases e : H p with
  | none => rfl
  | some o =>
    by_cases hf : foot pp p
    · exact absurd hf (nfoot S h)
    · have := ch p o e hf
      rw [h] at this; cases this
theorem wipe_get {σ : St} : ∀ {vs : List Nat} {j : Nat}, (wipe σ vs)[j]? = if j ∈ vs then (σ[j]?.map fun _ => none) else σ[j]?
  | [], j => by simp [wipe]
  | v :: vs, j => by
    unfold wipe
    by_cases e : v = j
    · subst e
      by_cases hl : v < σ.length
      · rw [List.getElem?_set_self (by rw [wipe_length]; exact hl)]
        simp [List.getElem?_eq_getElem hl]
      · rw [List.getElem?_eq_none (by rw [List.length_set, wipe_length]; omega), List.getElem?_eq_none (by omega)]
        simp
    · rw [List.getElem?_set_ne e, wipe_get (vs := vs)]
      have : (j ∈ v :: vs) ↔ j ∈ vs := by simp [Ne.symm e]
      by_cases hj : j ∈ vs
      · rw [if_pos hj, if_pos (this.mpr hj)]
      · rw [if_neg hj, if_neg (fun z => hj (this.mp z))]
theorem setAll_get {vs : List Nat} : ∀ {us : List (Nat × V)} {σ : St}, (∀ u ∈ us, u.1 ∈ vs) → (setAll σ us).length = σ.length ∧ ∀ j, j ∉ vs → (setAll σ us)[j]? = σ[j]?
  | [], σ, _ => ⟨rfl, fun _ _ => rfl⟩
  | u :: us, σ, h => by
    obtain ⟨h1, h2⟩ := setAll_get (us := us) (σ := σ.set u.1 (some u.2)) fun x hx => h x (List.mem_cons_of_mem _ hx)
    refine ⟨h1.trans (by simp), fun j hj => (h2 j hj).trans ?_⟩
    rw [List.getElem?_set_ne (fun e => hj (by rw [← e]; exact h u List.mem_cons_self))]
theorem wipe_setAll {vs : List Nat} {us : List (Nat × V)} {σ : St} (h : ∀ u ∈ us, u.1 ∈ vs) : wipe (setAll (wipe σ vs) us) vs = wipe σ vs := by
  apply List.ext_getElem?
  intro j
  obtain ⟨h1, h2⟩ := setAll_get (σ := wipe σ vs) h
  rw [wipe_get, wipe_get]
  by_cases hj : j ∈ vs
  · rw [if_pos hj, if_pos hj]
    by_cases hl : j < σ.length
    · have l1 : j < (setAll (wipe σ vs) us).length := by rw [h1, wipe_length]; exact hl
      rw [List.getElem?_eq_getElem hl, List.getElem?_eq_getElem l1]
      rfl
    · rw [List.getElem?_eq_none (by rw [h1, wipe_length]; omega), List.getElem?_eq_none (by omega)]
  · rw [if_neg hj, if_neg hj, h2 j hj, wipe_get, if_neg hj]
/-- slots that hold nothing may be wiped -/
theorem Sat.wipe (S : Sat PK O pp ρ c σ H) {vs : List Nat} (h : ∀ i ∈ vs, get ρ i = .nil) : Sat PK O pp ρ c (L2.wipe σ vs) H := by
  refine ⟨by rw [wipe_length]; exact S.len, S.nd, S.new, S.dom, S.pool, fun i => ?_⟩
  by_cases hi : i ∈ vs
  · rw [h i hi]; exact True.intro
  · have q := S.slots i
    have e : (L2.wipe σ vs)[i]? = σ[i]? := by rw [wipe_get, if_neg hi]
    cases h2 : get ρ i with
    | nil => exact True.intro
    | sh en x => rw [h2] at q; obtain ⟨v, e1, r⟩ := q; exact ⟨v, e.trans e1, r⟩
    | ow a on x => rw [h2] at q; exact ⟨e.trans q.1, q.2⟩
    | pl => rw [h2] at q; obtain ⟨a, b, e1, e2⟩ := q; exact ⟨a, b, e1, e.trans e2⟩
end
section
variable {X : Cx} {PK : PoolK} {pp : PP} {ρ : List (Sl X.K)} {α β γ δ : Type}
theorem _root_.L2.PI.weak {X : Cx} {tg e : Expr} {t t' : TI} (h : PI X tg e t) (f : ∀ σ H Q, t' σ H Q → t σ H Q) : PI X tg e t' := ⟨fun pins s σ H R I q => h.run pins s σ H R I (f σ H R q)⟩
/-- for -/
theorem nfor {iter tg : Expr} {body : List Stmt} {pos : Pos} {wi : W (List α)} {ext : List (Sl X.K) → α → List (Sl X.K)} {js : List Nat} {g : TG} {f : γ → α → W (Fl γ γ β)} {ρL : γ → List (Sl X.K)} {ρl : δ → List (Sl X.K)} {er : En X.K β} {s0 : γ}
    (hp : PassesOwn (model X.prog X.w) X.A X.env X.xe) (hc : X.calm = true) (hi : PI X tg iter (rdI PK pp ρ wi ext js g)) (hg : PG X tg g) (hf : Fit ρ (ρL s0)) (hb : ∀ s x, PSX X PK pp (ext (ρL s) x) body (f s x) ρL ρL er)
    (hs : ∀ x, foldedSetIterable iter X.env x = pure x := by intro _; rfl) : PS X (.For tg iter body [] pos) (rdS PK pp ρ (bnd wi fun xs => forW f s0 xs) ρL ρl er) :=
  (ps_for hp hc hi hg (PSs.ex fun z : γ × α => hb z.1 z.2) hs).weak fun D σ H ⟨O, Φ, c, S, hw, k⟩ => ⟨O, _, c, S, hw, fun xs J H1 c1 p1 ch S1 src hz => by
    have st0 : Stp pp ρ (ρL s0) H H1 := (Stp.of_chg ch fun _ z => z).trans hf.stp
    refine ⟨fun i m σ' H' => m = xs.length - i ∧ i ≤ xs.length ∧ ∃ s c', Stp pp ρ (ρL s) H1 H' ∧ Sat PK O pp (ρL s) c' σ' H' ∧ forW f s (xs.drop i) Φ noX c', ⟨xs.length, by simp, Nat.zero_le _, s0, c1, hf.stp, S1.fit hf, p1⟩, ?_⟩
    rintro i m σ' H' ⟨rfl, hi, s, c', st, S', hw'⟩
    have ch1 : Stp pp ρ ρ H H1 := Stp.of_chg ch fun _ z => z
    by_cases hlt : i < xs.length
    · refine .inr ⟨src.go i H' _ hlt (st.mv (O := O)), fun σ3 H3 => ∃ s c', Stp pp ρ (ρL s) H1 H3 ∧ Sat PK O pp (ρL s) c' σ3 H3 ∧ forW f s (xs.drop (i + 1)) Φ noX c', fun σ3 H3 q => ⟨xs.length - (i + 1), by omega, rfl, hlt, q⟩, fun v H2 y => ?_⟩
      obtain ⟨us, H3, _, sm, S3, hQ⟩ := src.yld i xs[i] H' v H2 pp (ρL s) O c' σ' (List.getElem?_eq_getElem hlt) st.mv S' y
      refine hQ _ ?_
      rw [List.drop_eq_getElem_cons hlt] at hw'
      have st3 : Stp pp (ρL s) (ext (ρL s) xs[i]) H' H3 := .of_chg (.of sm) (src.eown _ _)
      refine ⟨(s, xs[i]), O, _, c', S3, hw', fun fl H4 c4 q => ?_⟩
      cases fl with
      | nx s' => exact fun σ4 t S4 => ⟨s', c4, (st.trans st3).trans t, S4, q⟩
      | ct s' => exact fun σ4 t S4 => ⟨s', c4, (st.trans st3).trans t, S4, q⟩
      | bk s' => exact fun σ4 t S4 => k (.nx s') H4 c4 q σ4 (((ch1.trans st).trans st3).trans t) S4
      | rt r => exact ((k (.rt r) H4 c4 q).mono ((ch1.trans st).trans st3))
    · have e : i = xs.length := by omega
      subst e
      rw [List.drop_length] at hw'
      exact .inl ⟨src.stop H' _ (st.mv (O := O)), k (.nx s) H' c' hw' σ' (ch1.trans st) S'⟩⟩
theorem xfr {w : W (List α)} {en : En X.K α} {e : Expr} (h : PE X e (rdF PK pp ρ w en)) : PX X PK pp ρ e w (eL en) := h.weak fun σ H Q ⟨O, Φ, c, S, hw, k⟩ => ⟨O, Φ, c, S, hw, fun xs p vs H' c' q hn ch S' e f => by
  have less : ∀ a, Av O pp ρ a → Av (Ox O p) pp ρ a := fun a h => by
    rcases h with h | h | h
    · exact .inl (.inl h)
    · exact .inr (.inl h)
    · exact .inr (.inr h)
  exact k xs _ H' c' q ch S'.lessO ⟨p, vs, rfl, ⟨fun z => S.av p z hn, e⟩, f.imp fun _ _ => en.mono (Mv.less less)⟩⟩
/-- [elt for tg in iter] -/
theorem lc_read {own : List (Str × Nat)} {wi : W (List α)} {ext : List (Sl X.K) → α → List (Sl X.K)} {js : List Nat} {g : TG} {f : α → W β} {en : En X.K β} (hj : ∀ j ∈ js, j ∈ own.map (·.2)) (hn : ∀ i ∈ own.map (·.2), get ρ i = .nil) (ho : ∀ x, owns (ext ρ x) = owns ρ) :
    ∀ σ H Q, rdF PK pp ρ (bnd wi fun xs => mapW f xs) en σ H Q → tLc (rdI PK pp ρ wi ext js g) g tYes (fun σ H Q => ∃ x, rdE PK pp (ext ρ x) (f x) en σ H Q) (own.map (·.2)) σ H Q := by
  intro σ H Q ⟨O, Φ, c, S, hw, k⟩
  refine ⟨O, _, c, S, hw, fun xs J H1 c1 p1 ch S1 src hz D hD => ?_⟩
  have nf := nfoot S1 hD
  have hDH := chg_none S1 ch hD
  have mv0 : Mv (Av O pp ρ) (Av (Ox O D) pp ρ) H1 (upd H1 D (.lst [])) := Mv.newA hD
  refine ⟨fun i m H' => m = xs.length - i ∧ i ≤ xs.length ∧ ∃ acc vs c', H' D = some (.lst vs) ∧ F2 (en.r (Av (Ox O D) pp ρ) H') vs acc ∧ vs.length ≤ i ∧ Chg pp (upd H1 D (.lst [])) (upd H' D (.lst [])) ∧ Sat PK (Ox O D) pp ρ c' σ H' ∧ mapW f (xs.drop i) (fun ys c => Φ (acc ++ ys) c) noX c',
    ⟨xs.length, by simp, Nat.zero_le _, [], [], c1, upd_same, .nil, Nat.zero_le _, by rw [upd_upd]; exact .refl, S1.newO hD, by simpa using p1⟩, ?_⟩
  rintro i m H' ⟨rfl, hi', acc, vs, c', eD, fD, lD, chD, S', hw'⟩
  have mv : Mv (Av O pp ρ) (Av (Ox O D) pp ρ) H1 H' := fun a o n e => by
    obtain ⟨e1, n1⟩ := mv0 a o n e
    have ne : a ≠ D := ne_of_none e hD
    have := chD a o e1 fun z => n (.inr (.inl z))
    rw [upd_ne ne] at this
    exact ⟨this, n1⟩
  by_cases hlt : i < xs.length
  · refine .inr ⟨src.go i H' _ hlt mv, fun H3 => ∃ acc vs c', H3 D = some (.lst vs) ∧ F2 (en.r (Av (Ox O D) pp ρ) H3) vs acc ∧ vs.length ≤ i + 1 ∧ Chg pp (upd H1 D (.lst [])) (upd H3 D (.lst [])) ∧ Sat PK (Ox O D) pp ρ c' σ H3 ∧ mapW f (xs.drop (i + 1)) (fun ys c => Φ (acc ++ ys) c) noX c', fun H3 q => ⟨xs.length - (i + 1), by omega, rfl, hlt, q⟩, fun v H2 y => ?_⟩
    obtain ⟨us, H3, eus, sm, S3, hQ⟩ := src.yld i xs[i] H' v H2 pp ρ (Ox O D) c' (wipe σ (own.map (·.2))) (List.getElem?_eq_getElem hlt) mv (S'.wipe hn) y
    refine hQ _ ⟨wipe_setAll fun u hu => hj _ (by rw [← eus]; exact List.mem_map.mpr ⟨u, hu, rfl⟩), ?_⟩
    unfold tYes
    simp only [if_true]
    rw [List.drop_eq_getElem_cons hlt] at hw'
    refine ⟨xs[i], Ox O D, _, c', S3, hw', fun y v4 H4 c4 q ch4 S4 r4 => ?_⟩
    have e4 : H4 D = some (.lst vs) := ch4 D _ (sm D _ eD) nf
    refine ⟨vs, e4, Nat.lt_of_le_of_lt lD (Nat.lt_of_lt_of_le hlt hz), acc ++ [y], vs ++ [v4], c4, upd_same, ?_, by rw [List.length_append]; exact Nat.succ_le_succ lD, ?_, ?_, ?_⟩
    · have mv4 : Mv (Av (Ox O D) pp ρ) (Av (Ox O D) pp ρ) H' (upd H4 D (.lst (vs ++ [v4]))) := fun a o n e => by
        have ne : a ≠ D := fun z => n (by rw [z]; exact .inl (.inr rfl))
        rw [upd_ne ne]
        exact ⟨ch4 a o (sm a o e) fun z => n (.inr (.inl z)), n⟩
      have mv5 : Mv (Av (Ox O D) pp (ext ρ xs[i])) (Av (Ox O D) pp ρ) H4 (upd H4 D (.lst (vs ++ [v4]))) := fun a o n e => by
        have ne : a ≠ D := fun z => n (by rw [z]; exact .inl (.inr rfl))
        rw [upd_ne ne]
        refine ⟨e, fun z => n ?_⟩
        rcases z with z | z | z
        · exact .inl z
        · exact .inr (.inl z)
        · exact .inr (.inr (by rw [ho]; exact z))
      exact (fD.imp fun _ _ => en.mono mv4).append (.cons (en.mono mv5 r4) .nil)
    · intro a o e hf
      have z := chD a o e hf
      rw [upd_upd]
      by_cases ne : a = D
      · subst ne; rw [upd_same] at z ⊢; exact z
      · rw [upd_ne ne] at z ⊢
        exact ch4 a o (sm a o z) hf
    · exact (S'.chg (fun a o e hf => ch4 a o (sm a o e) hf) S4.pool).updO (.inr rfl) nf
    · have q2 : mapW f (xs.drop (i + 1)) (fun ys c => Φ (acc ++ (y :: ys)) c) noX c4 := q
      simpa [List.append_assoc] using q2
  · have e : i = xs.length := by omega
    subst e
    rw [List.drop_length] at hw'
    have hw2 : Φ (acc ++ []) c' := hw'
    rw [List.append_nil] at hw2
    refine .inl ⟨src.stop H' _ mv, k acc D vs H' c' hw2 hDH (fun a o e hf => ?_) S' eD fD⟩
    have ne : a ≠ D := ne_of_none e hDH
    have z := chD a o (by rw [upd_ne ne]; exact ch a o e hf) hf
    rw [upd_ne ne] at z
    exact z
/-- [elt for tg in iter] -/
theorem xlc {elt tg iter : Expr} {scope : Scope} {own : List (Str × Nat)} {pos : Pos} {wi : W (List α)} {ext : List (Sl X.K) → α → List (Sl X.K)} {js : List Nat} {g : TG} {f : α → W β} {en : En X.K β} (hc : X.calm = true) (hN : X.N.Nodup) (hi : PI X tg iter (rdI PK pp ρ wi ext js g)) (ok : BlkOk X.N X.env.scope scope own)
    (hj : ∀ j ∈ js, j ∈ own.map (·.2)) (hn : ∀ i ∈ own.map (·.2), get ρ i = .nil) (ho : ∀ x, owns (ext ρ x) = owns ρ)
    (hg : ∀ (s : Shared) (H : Hp) (C : Addr) (cl : List (Str × Addr)) (fp : List Addr), PG (X.blk s H scope (compEnvC scope cl C X.env) fp) tg g)
    (he : ∀ (s : Shared) (H : Hp) (C : Addr) (cl : List (Str × Addr)) (fp : List Addr) (x : α), PX (X.blk s H scope (compEnvC scope cl C X.env) fp) PK pp (ext ρ x) elt (f x) en)
    (hs : ∀ x, foldedSetIterable iter X.env x = pure x := by intro _; rfl) :
    PE X (.ListComp elt [⟨tg, iter, [], 0⟩] scope pos) (rdF PK pp ρ (bnd wi fun xs => mapW f xs) en) :=
  (pe_lc hc hN hi ok hg (fun _ _ _ _ _ => pts_nil) (fun s H C cl fp => ⟨fun pins s' σ H Q I ⟨x, q⟩ => (he s _ C cl fp x).run pins s' σ H Q I q⟩) hs).weak (lc_read hj hn ho)
/-- y = [elt for tg in iter], on one line -/
theorem xlcS (i : Nat) {y : Str} {py spos : Pos} {elt tg iter : Expr} {scope : Scope} {own : List (Str × Nat)} {pos : Pos} {wi : W (List α)} {ext : List (Sl X.K) → α → List (Sl X.K)} {js : List Nat} {g : TG} {f : α → W β} {en : En X.K β} (hc : X.calm = true) (hN : X.N.Nodup) (hi : PI X tg iter (rdI PK pp ρ wi ext js g)) (ok : BlkOk X.N X.env.scope scope own)
    (hj : ∀ j ∈ js, j ∈ own.map (·.2)) (hn : ∀ i ∈ own.map (·.2), get ρ i = .nil) (ho : ∀ x, owns (ext ρ x) = owns ρ)
    (hg : ∀ (s : Shared) (H : Hp) (C : Addr) (cl : List (Str × Addr)) (fp : List Addr), PG (X.blk s H scope (compEnvC scope cl C X.env) fp) tg g)
    (he : ∀ (s : Shared) (H : Hp) (C : Addr) (cl : List (Str × Addr)) (fp : List Addr) (x : α), PX (X.blk s H scope (compEnvC scope cl C X.env) fp) PK pp (ext ρ x) elt (f x) en)
    (hsw : swapsWith (.ListComp elt [⟨tg, iter, [], 0⟩] scope pos) (some (.Name y py)) spos.line X.env = pure true) (hy : X.N[i]? = some y := by rfl) (hyl : X.env.scope.names.lookup y = some .local := by rfl)
    (hs : ∀ x, foldedSetIterable iter X.env x = pure x := by intro _; rfl) :
    PS X (.Assign [.Name y py] (.ListComp elt [⟨tg, iter, [], 0⟩] scope pos) spos) (tAsg (rdF PK pp ρ (bnd wi fun xs => mapW f xs) en) (gName i)) :=
  (ps_setLc hc hN hy hyl hsw hi ok hg (fun _ _ _ _ _ => pts_nil) (fun s H C cl fp => ⟨fun pins s' σ H Q I ⟨x, q⟩ => (he s _ C cl fp x).run pins s' σ H Q I q⟩) hs).weak fun D σ H q => lc_read hj hn ho σ H _ q
/-- x = e, e a new list that nobody writes at; or one's own -/
theorem nsetF {st : Stmt} {i : Nat} {w : W (List α)} {en : En X.K α} (h : PS X st (tAsg (rdF PK pp ρ w en) (gName i))) : PS X st (rdN PK pp ρ w fun (_ : Unit) x => put ρ i (.sh (eL en) x)) :=
  nset_ (h.weak fun D σ H ⟨O, Φ, c, S, hw, k⟩ => ⟨O, Φ, c, S, hw, fun xs p vs H' c' q hn ch S' e f => by
    have less : ∀ a, Av O pp ρ a → Av (Ox O p) pp ρ a := fun a h => by
      rcases h with h | h | h
      · exact .inl (.inl h)
      · exact .inr (.inl h)
      · exact .inr (.inr h)
    exact k xs _ H' c' q ch S'.lessO ⟨p, vs, rfl, ⟨fun z => S.av p z hn, e⟩, f.imp fun _ _ => en.mono (Mv.less less)⟩⟩)
theorem nown {st : Stmt} {i : Nat} {w : W (List α)} {en : En X.K α} (h : PS X st (tAsg (rdF PK pp ρ w en) (gName i))) : PS X st (rdN PK pp ρ w fun (p : Addr) x => put ρ i (.ow p (oL en) x)) :=
  h.weak fun D σ H ⟨O, Φ, c, S, hw, k⟩ => ⟨O, Φ, c, S, hw, fun xs p vs H' c' q hn ch S' e f => k p xs H' c' q _ ⟨fun a o e n _ => ch a o e n, fun a z => by
    rcases owns_put z with z | z
    · have z : a = p := by simpa [own1] using z
      rw [z]; exact .inr ⟨hn, nfoot S hn⟩
    · exact .inl z⟩ (S'.own (nfoot S hn) (fun z => S.av p (.inl z) hn) ⟨vs, e, f⟩)⟩
theorem nsetFe (i : Nat) {x : Str} {e : Expr} {pos pos' : Pos} {w : W (List α)} {en : En X.K α} (hN : X.N.Nodup) (he : PE X e (rdF PK pp ρ w en)) (hi : X.N[i]? = some x := by rfl) (hx : Loc X.env.scope x := by first | exact Or.inl rfl | exact Or.inr rfl) (hs : swapsWith e (some (.Name x pos')) pos.line X.env = pure false := by rfl)
    (hf : X.fn x = true ∨ X.env.scope.names.lookup x = some .local := by first | exact .inl rfl | exact .inr rfl) : PS X (.Assign [.Name x pos'] e pos) (tAsg (rdF PK pp ρ w en) (gName i)) := ps_set hN hi hx he hs hf
/-- [a, b, ..] new -/
theorem xlstF {es : List Expr} {pos : Pos} {w : W (List α)} {en : En X.K α} {n : Nat} (h : PAX X PK pp ρ es w (aL en n)) (hn : n ≤ 1000000 := by decide) : PE X (.List es pos) (rdF PK pp ρ w en) := (pe_lst h).weak fun σ H Q ⟨O, Φ, c, S, hw, k⟩ =>
  ⟨O, Φ, c, S, hw, fun x vs H1 c1 p1 ch1 S1 r1 => ⟨by have := r1.2; rw [sizeLine_eq]; omega, fun p np => k _ p vs _ c1 p1 (chg_none S1 ch1 np) (ch1.trans (.of (same_new np))) (S1.newO np) upd_same (r1.1.imp fun _ _ => en.mono (Mv.newA np))⟩⟩
/-- [e] * n new -/
theorem xrepF {a b : Expr} {pos : Pos} {wa : W (List α)} {wb : W Int} {en : En X.K α} (ha : PX X PK pp ρ a wa (eL en)) (hb : PX X PK pp ρ b wb eI) :
    PE X (.BinOp a .Mult b pos) (rdF PK pp ρ (bnd wa fun x => bnd wb fun y => grd (repOk x.length y) (ret (List.replicate y.toNat x).flatten)) en) := (pe_op op_rep ha hb).weak fun σ H Q ⟨O, Φ, c, S, hw, k⟩ =>
  two S hw fun x y v u H' c' q ch S' r1 r2 => by
    obtain ⟨a, vs, rfl, l, f⟩ := r1
    have p := q.1
    simp only [repOk, Bool.and_eq_true, decide_eq_true_eq] at p
    exact ⟨a, y, vs, rfl, r2, l.2, p.1.1, p.1.2, by rw [f.length, sizeLine_eq]; exact p.2, fun p np => k _ p _ _ c' q.2 (chg_none S' ch np) (ch.trans (.of (same_new np))) (S'.newO np) upd_same ((f.flat _).imp fun _ _ => en.mono (Mv.newA np))⟩
/-- xs.append(e), xs one's own -/
theorem nappend (i : Nat) {x : Str} {a : Expr} {pos p' apos cpos : Pos} {w : W α} {en : En X.K α} {p : Addr} {xs : List α} (hg : get ρ i = .ow p (oL en) xs) (h : PX X PK pp ρ a w en) (hN : X.N[i]? = some x := by rfl)
    (hv : Vis X.env.scope x := by first | exact Or.inl rfl | exact Or.inr (Or.inl rfl) | exact Or.inr (Or.inr rfl)) (hd : (x == ("__debug__" : Str)) = false := by decide) (hcd : (x == ("__classdict__" : Str)) = false := by decide)
    (hbase : attributeBase (.Name x p') "append" X.env (eval (.Name x p') X.env) = eval (.Name x p') X.env := by rfl)
    (hfew : ((backTo cpos (starEach [a] X.env)).all (fun x => !x.1) && (backToKw cpos (keywordEach [] X.env)).all (fun x => x.1.isSome) && decide ([a].length + ([] : List Keyword).length + (if ([] : List Keyword).isEmpty then 0 else 1) < 30)) = true := by rfl)
    (hline : (apos.endLine == cpos.line) = true := by rfl) (hs : starEach [a] X.env = (false, eval a X.env) :: starEach [] X.env := by rfl) (hplain : (backTo cpos (starEach [] X.env)).any (·.1) = false := by rfl)
    (hsw : swapsWith (.Call (.Attribute (.Name x p') "append" apos) [a] [] cpos) none pos.line X.env = pure false := by rfl) :
    PS X (.Expr (.Call (.Attribute (.Name x p') "append" apos) [a] [] cpos) pos) (rdN PK pp ρ (bnd w fun y => grd (decide (xs.length < 16777216)) (ret y)) fun (_ : Unit) y => put ρ i (.ow p (oL en) (xs ++ [y]))) :=
  (ps_expr (pe_bm PySem.F.plainAttrs_list PySem.F.slot_list_append PySem.F.type_list_append mt_append (pe_var hN hv hd hcd) (pa_cons h pa_nil hs) hbase hfew hline hs hplain) hsw).weak fun D σ H ⟨O, Φ, c, S, hw, k⟩ => by
    have q := S.slots i
    rw [hg] at q
    obtain ⟨e1, vs, e2, f2⟩ := q
    refine ⟨_, e1, .inl ⟨rfl, _, SqL.of e2⟩, O, _, c, S, hw, fun y v H1 c1 p1 ch S1 r => ?_⟩
    have q := S1.slots i
    rw [hg] at q
    obtain ⟨_, vs, e2, f2⟩ := q
    refine ⟨p, vs, v, rfl, rfl, e2, by rw [f2.length, sizeLine_eq]; exact of_decide_eq_true p1.1, ?_⟩
    have mv : Mv (Av O pp ρ) (Av O pp ρ) H1 (upd H1 p (.lst (vs ++ [v]))) := fun b o n e => ⟨by rw [upd_ne (fun z => n (by rw [z]; exact .inr (.inr (owns_mem hg))))]; exact e, n⟩
    obtain ⟨S2, st⟩ := S1.chgOwn (o := .lst (vs ++ [v])) (on' := oL en) (y := xs ++ [y]) hg ⟨_, upd_same, (f2.append (.cons r .nil)).imp fun _ _ => en.mono mv⟩
    exact k () y _ c1 p1.2 σ ((Stp.of_chg ch fun _ z => z).trans st) S2
/-- xs[i] = e, xs one's own -/
theorem nsetix (i : Nat) {x : Str} {e ix : Expr} {pos p' pos' : Pos} {w : W α} {wx : W Int} {en : En X.K α} {p : Addr} {xs : List α} (hg : get ρ i = .ow p (oL en) xs) (h : PX X PK pp ρ e w en) (hx : PX X PK pp ρ ix wx eI) (hN : X.N[i]? = some x := by rfl)
    (hv : Vis X.env.scope x := by first | exact Or.inl rfl | exact Or.inr (Or.inl rfl) | exact Or.inr (Or.inr rfl)) (hd : (x == ("__debug__" : Str)) = false := by decide) (hcd : (x == ("__classdict__" : Str)) = false := by decide)
    (ha : ∀ v, assign (.Subscript (.Name x p') ix pos') X.env v = (do
      let ov ← holding [v] (eval (.Name x p') X.env)
      let iv ← holding [v, ov] (eval ix X.env)
      standAt pos'
      holding [v, ov, iv] (setItem ov iv v)
      release [v, ov, iv] []) := by intro _; rfl) (hsw : swapsWithSole [.Subscript (.Name x p') ix pos'] e pos.line X.env = pure false := by rfl) (hww : swappedStores [.Subscript (.Name x p') ix pos'] e X.env = pure none := by rfl)
    (h1 : (assignEach [.Subscript (.Name x p') ix pos'] X.env).map (·.2) = [assign (.Subscript (.Name x p') ix pos') X.env] := by rfl) :
    PS X (.Assign [.Subscript (.Name x p') ix pos'] e pos) (rdN PK pp ρ (bnd w fun y => bnd wx fun j => grd (ixOk xs j) (ret (j, y))) fun (_ : Unit) z => put ρ i (.ow p (oL en) (xs.set ((ixN xs.length z.1).getD 0) z.2))) :=
  (ps_asg h (pg_sub (pe_var hN hv hd hcd) hx set_list ha) hsw hww h1).weak fun D σ H ⟨O, Φ, c, S, hw, k⟩ => ⟨O, _, c, S, hw, fun y v H1 c1 p1 ch1 S1 r1 => by
    have q := S1.slots i
    rw [hg] at q
    obtain ⟨e1, vs, e2, f2⟩ := q
    refine ⟨_, e1, O, _, c1, S1, p1, fun j u H2 c2 p2 ch2 S2 r2 => ?_⟩
    have q := S2.slots i
    rw [hg] at q
    obtain ⟨_, vs, e2, f2⟩ := q
    obtain ⟨m, hm⟩ := Option.isSome_iff_exists.mp p2.1
    refine ⟨p, vs, j, m, rfl, r2, e2, by rw [f2.length]; exact hm, ?_⟩
    have mv : Mv (Av O pp ρ) (Av O pp ρ) H2 (upd H2 p (.lst (vs.set m v))) := fun b o n e => ⟨by rw [upd_ne (fun z => n (by rw [z]; exact .inr (.inr (owns_mem hg))))]; exact e, n⟩
    obtain ⟨S3, st⟩ := S2.chgOwn (o := .lst (vs.set m v)) (on' := oL en) (y := xs.set ((ixN xs.length j).getD 0) y) hg ⟨_, upd_same, by
      rw [hm]
      exact (f2.set m (en.mono ch2.mv r1)).imp fun _ _ => en.mono mv⟩
    exact k () (j, y) _ c2 p2.2 σ ((Stp.of_chg (ch1.trans ch2) fun _ z => z).trans st) S3⟩
theorem get_list : PGet X (rIxL X.K) := by
  intro pins s σ H x y v u Q I rx ry h
  obtain ⟨p, xs, i, z, rfl, rfl, hq, he, q⟩ := h
  cases rx
  obtain ⟨t, rfl⟩ := ry
  obtain ⟨its, r, pl, hz⟩ := I.list hq
  obtain ⟨j, h1, h2, h3, h4, h5⟩ := atI_get he
  obtain ⟨w, ew, rw'⟩ := r.get h2
  have hl := r.length
  have hn := line63
  have fin : EP X pins σ Q w s := ⟨z, H, I, rw', q⟩
  by_cases h0 : 0 ≤ i
  · have hj : i.toNat = j := by
      rw [seqIndex_of h0 h5] at h1
      exact Option.some.inj h1
    exact wpAny_getItem_list pl.isList h0 (by omega) (by rw [hj]; simpa using ew) fin
  · have hj : (i + (its.toArray.size : Int)).toNat = j := by
      rw [seqIndex_neg (by omega) h4] at h1
      rw [List.size_toArray, ← hl]
      exact Option.some.inj h1
    exact wpAny_getItem_list_neg pl.isList (by omega) (by rw [List.size_toArray] <;> omega) (by omega) (by rw [hj]; simpa using ew) fin
/-- xs[i] op= e, xs one's own -/
theorem naugix [Inhabited α] (i : Nat) {x : Str} {op : Operator} {e ix : Expr} {pos p' pos' : Pos} {w : W β} {wx : W Int} {en : En X.K α} {e2 : En X.K β} {pre : α → β → Bool} {res : α → β → α} {p : Addr} {xs : List α} (hg : get ρ i = .ow p (oL en) xs) (h : PX X PK pp ρ e w e2) (hx : PX X PK pp ρ ix wx eI)
    (ho : OpW X (inplaceOp op) en e2 en pre res) (hN : X.N[i]? = some x := by rfl)
    (hv : Vis X.env.scope x := by first | exact Or.inl rfl | exact Or.inr (Or.inl rfl) | exact Or.inr (Or.inr rfl)) (hd : (x == ("__debug__" : Str)) = false := by decide) (hcd : (x == ("__classdict__" : Str)) = false := by decide)
    (ha : ∀ ov iv new, augStore ix ov iv new = (do holding [new, ov, iv] (setItem ov iv new); release [new, ov, iv] []; pure .next) := by intros; rfl) :
    PS X (.AugAssign (.Subscript (.Name x p') ix pos') op e pos) (rdN PK pp ρ (bnd wx fun j => grd (ixOk xs j) (bnd w fun y => grd (pre (ixAt xs j) y) (ret (j, res (ixAt xs j) y)))) fun (_ : Unit) z => put ρ i (.ow p (oL en) (xs.set ((ixN xs.length z.1).getD 0) z.2))) :=
  (ps_augS (pe_var hN hv hd hcd) hx get_list h ho set_list ha).weak fun D σ H ⟨O, Φ, c, S, hw, k⟩ => by
    have q := S.slots i
    rw [hg] at q
    obtain ⟨e1, _, _, _⟩ := q
    refine ⟨_, e1, O, _, c, S, hw, fun j u H2 c2 p2 ch2 S2 r2 => ?_⟩
    have q := S2.slots i
    rw [hg] at q
    obtain ⟨_, vs, e2, f2⟩ := q
    obtain ⟨m, hm⟩ := Option.isSome_iff_exists.mp p2.1
    have hlt := ixN_lt hm
    obtain ⟨v1, g1, rv⟩ := f2.get (List.getElem?_eq_getElem hlt)
    have hat : atI vs j = some v1 := by
      unfold atI
      rw [f2.length, hm]
      exact g1
    have exs : xs[m] = ixAt xs j := by
      unfold ixAt
      rw [hm, Option.getD_some, List.getD_eq_getElem?_getD, List.getElem?_eq_getElem hlt]
      rfl
    rw [exs] at rv
    refine ⟨p, vs, j, v1, rfl, r2, SqL.of e2, hat, O, _, c2, S2, p2.2, fun y v H3 c3 p3 ch3 S3 r3 => ⟨_, ixAt xs j, y, S3.av, en.mono ch3.mv rv, r3, p3.1, fun z H4 s4 r4 => ?_⟩⟩
    have S4 := S3.same s4
    have q := S4.slots i
    rw [hg] at q
    obtain ⟨_, vs, e2, f2⟩ := q
    refine ⟨p, vs, j, m, rfl, r2, e2, by rw [f2.length]; exact hm, ?_⟩
    have mv : Mv (Av O pp ρ) (Av O pp ρ) H4 (upd H4 p (.lst (vs.set m z))) := fun b o n e => ⟨by rw [upd_ne (fun z => n (by rw [z]; exact .inr (.inr (owns_mem hg))))]; exact e, n⟩
    obtain ⟨S5, st⟩ := S4.chgOwn (o := .lst (vs.set m z)) (on' := oL en) (y := xs.set ((ixN xs.length j).getD 0) (res (ixAt xs j) y)) hg ⟨_, upd_same, by
      rw [hm]
      exact (f2.set m r4).imp fun _ _ => en.mono mv⟩
    exact k () (j, _) _ c3 p3.2 σ ((Stp.of_chg ((ch2.trans ch3).trans (.of s4)) fun _ z => z).trans st) S5
/-- an own list read, or handed on: as a value it is read alone from then on -/
theorem nfreeze (i : Nat) {p : Addr} {en : En X.K α} {xs : List α} {rest : List Stmt} {w : W (Fl γ δ β)} {ρ' : γ → List (Sl X.K)} {ρl : δ → List (Sl X.K)} {er : En X.K β} (hg : get ρ i = .ow p (oL en) xs) (h : PSX X PK pp (put ρ i (.sh (eL en) xs)) rest w ρ' ρl er) : PSX X PK pp ρ rest w ρ' ρl er :=
  h.weak fun D σ H ⟨O, Φ, c, S, hw, k⟩ => by
    have q := S.slots i
    rw [hg] at q
    obtain ⟨e1, vs, e2, f2⟩ := q
    have hm := owns_mem hg
    have hne : ∀ a, a ∈ owns (put ρ i (.sh (eL en) xs)) → a ∈ owns ρ := fun a z => by
      rcases owns_put z with z | z
      · cases z
      · exact z
    have less : ∀ a, Av O pp (put ρ i (.sh (eL en) xs)) a → Av O pp ρ a := fun a z => by
      rcases z with z | z | z
      · exact .inl z
      · exact .inr (.inl z)
      · exact .inr (.inr (hne a z))
    have np : p ∉ owns (put ρ i (.sh (eL en) xs)) := fun z => by
      obtain ⟨j, α', on, y, e⟩ := mem_owns z
      by_cases hj : j = i
      · subst hj
        rcases get_put_self (ρ := ρ) (i := j) (s := Sl.sh (eL en) xs) with q | q <;> rw [q] at e <;> cases e
      · rw [get_put_ne hj] at e
        exact hj (owns_inj S.nd e hg)
    have S' : Sat PK O pp (put ρ i (.sh (eL en) xs)) c σ H := by
      refine ⟨by rw [put_len]; exact S.len, owns_put_nodup S.nd (own1_nodup _) (fun b hb => by cases hb), fun a ha => S.new a (hne a ha), S.dom, S.pool, fun j => ?_⟩
      by_cases hj : j = i
      · subst hj
        rcases get_put_self (ρ := ρ) (i := j) (s := Sl.sh (eL en) xs) with q | q
        · rw [q]
          refine ⟨_, e1, p, vs, rfl, ⟨fun z => ?_, e2⟩, f2.imp fun _ _ => en.mono (Mv.less less)⟩
          rcases z with z | z | z
          · exact (S.new p hm).1 z
          · exact (S.new p hm).2 z
          · exact np z
        · rw [q]; exact True.intro
      · rw [get_put_ne hj]
        exact (S.slots j).mv (Mv.less less) fun _ _ => rfl
    have st : Stp pp ρ (put ρ i (.sh (eL en) xs)) H H := ⟨fun a o e _ _ => e, fun a z => .inl (hne a z)⟩
    exact ⟨O, Φ, c, S', hw, fun fl H' c' q => by
      have z := k fl H' c' q
      cases fl with
      | nx s => exact fun σ' t S2 => z σ' (st.trans t) S2
      | bk s => exact fun σ' t S2 => z σ' (st.trans t) S2
      | ct s => exact fun σ' t S2 => z σ' (st.trans t) S2
      | rt r => exact fun v ch pl r => z v (fun a o e n no => ch a o e n fun y => no (hne a y)) pl r⟩
end
end Dc
/-! DcG: what is walked: lists, pairs of lists, places with items, ranges. -/
namespace Dc
open PySem PySem.Spec L2
section
variable {X : Cx} {PK : PoolK} {pp : PP} {ρ : List (Sl X.K)} {α β γ δ : Type}
/-- a list is never longer than the line -/
theorem pe_len {e : Expr} {t : TE} (h : PE X e t) : PE X e (fun σ H Q => t σ H fun v H' => (∀ a xs, v = .ref a → SqL X.K H' a xs → xs.length ≤ sizeLine) → Q v H') := ⟨fun pins s σ H Q I q =>
  thn (h.run pins s σ H _ I q) fun u s' ⟨v, H', I', r, q'⟩ => ⟨v, H', I', r, q' fun a xs _ hs => by
    obtain ⟨_, _, _, z⟩ := I'.list hs
    exact z⟩⟩
theorem pa_len {es : List Expr} {t : TA} (h : PA X es t) : PA X es (fun σ H Q => t σ H fun vs H' => (∀ a xs, .ref a ∈ vs → SqL X.K H' a xs → xs.length ≤ sizeLine) → Q vs H') := ⟨fun pos pins s σ H Q I q =>
  thn (h.run pos pins s σ H _ I q) fun us s' ⟨vs, H', I', r, q'⟩ => ⟨vs, H', I', r, q' fun a xs _ hs => by
    obtain ⟨_, _, _, z⟩ := I'.list hs
    exact z⟩⟩
theorem own_put_sh {K : PySem.W.Frag} {α : Type} {ρ : List (Sl K)} {i : Nat} {en : En K α} {x : α} {a : Addr} (h : a ∈ owns (put ρ i (.sh en x))) : a ∈ owns ρ := by
  rcases owns_put h with h | h
  · cases h
  · exact h
/-- for x in xs -/
theorem wlist (i : Nat) {e : Expr} {nm : Str} {p : Pos} {w : W (List α)} {en : En X.K α} (h : PX X PK pp ρ e w (eR en)) : PI X (.Name nm p) e (rdI PK pp ρ w (fun ρ x => put ρ i (.sh en x)) [i] (gName i)) :=
  (pi_list (pe_len h)).weak fun σ H R ⟨O, Φ, c, S, hw, k⟩ => ⟨O, _, c, S, hw, fun xs v H1 c1 p1 ch S1 r1 hz => by
    obtain ⟨a, vs, rfl, l, f⟩ := r1
    refine ⟨a, rfl, ⟨vs, l.sq⟩, k xs _ H1 c1 p1 ch S1 ⟨fun j H' A' hj m => ?_, fun H' A' m => ?_, fun _ _ _ z => own_put_sh z, fun j x H' v H'' pp' ρ' O' c' σ' hx m S' y => ?_⟩ ?_⟩
    · have hv : j < vs.length := by rw [f.length]; exact hj
      exact ⟨vs, vs[j], (l.mv m).sq, List.getElem?_eq_getElem hv⟩
    · exact ⟨vs, (l.mv m).sq, by rw [f.length]; exact Nat.le_refl _⟩
    · obtain ⟨rfl, hy⟩ := y
      obtain ⟨u, hu, ru⟩ := f.get hx
      have e := hy vs (l.mv m).sq
      rw [hu] at e
      cases e
      exact ⟨[(i, v)], H'', rfl, .refl _, S'.put (en.mono m ru), fun Q q => q⟩
    · rw [← f.length]; exact hz a vs rfl l.sq⟩
theorem wlistL (i : Nat) {e : Expr} {nm : Str} {p : Pos} {w : W (List α)} {en : En X.K α} (h : PX X PK pp ρ e w (eL en)) : PI X (.Name nm p) e (rdI PK pp ρ w (fun ρ x => put ρ i (.sh en x)) [i] (gName i)) := wlist i (xR h)
/-- the pair just made, taken apart -/
theorem gpair {K : PySem.W.Frag} {PK : PoolK} {pp : PP} {ρ : List (Sl K)} {O : AS} {c : Nat} {σ : St} {H : Hp} {T : Addr} {u v : V} {i j : Nat} {e1 : En K α} {e2 : En K β} {x : α} {y : β} (S : Sat PK O pp ρ c σ H) (hT : H T = none) (r1 : e1.r (Av O pp ρ) H u x) (r2 : e2.r (Av O pp ρ) H v y) :
    ∃ us H2, us.map (·.1) = [i, j] ∧ Same H H2 ∧ Sat PK O pp (put (put ρ i (.sh e1 x)) j (.sh e2 y)) c (setAll σ us) H2 ∧ ∀ Q : St → Hp → Prop, Q (setAll σ us) H2 → gTup K 2 (gCons (gName i) (gCons (gName j) gNil)) (.ref T) σ (upd H T (.tup [u, v])) Q := by
  have s := same_new (o := .tup [u, v]) hT
  have S1 := S.same s
  have less : ∀ a, Av O pp (put ρ i (.sh e1 x)) a → Av O pp ρ a := fun a z => by
    rcases z with z | z | z
    · exact .inl z
    · exact .inr (.inl z)
    · exact .inr (.inr (own_put_sh z))
  exact ⟨[(i, u), (j, v)], _, rfl, s, (S1.put (e1.mono (Mv.same s) r1)).put (e2.mono ((Mv.same s).trans (Mv.less less)) r2), fun Q q => ⟨T, [u, v], rfl, .inl (.inl upd_same), rfl, u, [v], rfl, v, [], rfl, rfl, q⟩⟩
/-- for a, b in zip(xs, ys) -/
theorem wzip (i j : Nat) {a b : Expr} {elts : List Expr} {kk : Nat} {p pos tpos : Pos} {wa : W (List α × List β × Unit)} {e1 : En X.K α} {e2 : En X.K β} (hm : X.mg "zip" = none) (h : PAX X PK pp ρ [a, b] wa (a2 (eL e1) (eL e2))) (hg : Gl X "zip" := by rfl)
    (hs : starEach [a, b] X.env = (false, eval a X.env) :: starEach [b] X.env := by rfl) (hpl : (backTo pos (starEach [b] X.env)).any (·.1) = false := by rfl) :
    PI X (.Tuple elts kk tpos) (.Call (.Name "zip" p) [a, b] [] pos) (rdI PK pp ρ (bnd wa fun x => ret (x.1.zip x.2.1)) (fun ρ x => put (put ρ i (.sh e1 x.1)) j (.sh e2 x.2)) [i, j] (gTup X.K 2 (gCons (gName i) (gCons (gName j) gNil)))) :=
  (pi_zip hg hm (pa_len h) hs hpl).weak fun σ H R ⟨O, Φ, c, S, hw, k⟩ => ⟨O, _, c, S, hw, fun x vs0 H1 c1 p1 ch S1 r1 hz => by
    obtain ⟨_, _, rfl, ⟨a, vs, rfl, l, f⟩, _, _, rfl, ⟨b, us, rfl, l2, f2⟩, rfl⟩ := r1
    have hl := f.length
    have hl2 := f2.length
    refine ⟨a, b, vs, us, rfl, l.sq, l2.sq, k _ _ H1 c1 p1 ch S1 ⟨fun j H' A' hj m => ?_, fun H' A' m => ?_, fun _ _ _ z => own_put_sh (own_put_sh z), fun j y H' v H'' pp' ρ' O' c' σ' hx m S' yy => ?_⟩ ?_⟩
    · rw [List.length_zip] at hj
      have h1 : j < vs.length := by omega
      have h2 : j < us.length := by omega
      exact ⟨vs, us, vs[j], us[j], (l.mv m).sq, (l2.mv m).sq, List.getElem?_eq_getElem h1, List.getElem?_eq_getElem h2⟩
    · refine ⟨vs, us, (l.mv m).sq, (l2.mv m).sq, ?_⟩
      rw [List.length_zip]
      omega
    · obtain ⟨T, u, w, rfl, nT, rfl, hu, hw'⟩ := yy
      rw [List.getElem?_zip_eq_some] at hx
      obtain ⟨u1, g1, q1⟩ := f.get hx.1
      obtain ⟨u2, g2, q2⟩ := f2.get hx.2
      have z1 := hu vs (l.mv m).sq
      have z2 := hw' us (l2.mv m).sq
      rw [g1] at z1
      rw [g2] at z2
      cases z1
      cases z2
      exact gpair S' nT (e1.mono m q1) (e2.mono m q2)
    · have := hz a vs (by simp) l.sq
      rw [List.length_zip]
      omega⟩
/-- places with items -/
def enumF {α : Type} : Int → List α → List (Int × α)
  | _, [] => []
  | n, x :: r => (n, x) :: enumF (n + 1) r
theorem enumF_len {α : Type} : ∀ (n : Int) (l : List α), (enumF n l).length = l.length
  | _, [] => rfl
  | n, x :: r => by simp [enumF, enumF_len (n + 1) r]
theorem enumF_get {α : Type} : ∀ (n : Int) (l : List α) (i : Nat) (y : Int × α), (enumF n l)[i]? = some y → y.1 = n + i ∧ l[i]? = some y.2
  | _, [], i, y, h => by simp [enumF] at h
  | n, x :: r, 0, y, h => by
    simp [enumF] at h
    subst h
    simp
  | n, x :: r, i + 1, y, h => by
    have h : (enumF (n + 1) r)[i]? = some y := by simpa [enumF] using h
    obtain ⟨h1, h2⟩ := enumF_get (n + 1) r i y h
    refine ⟨by rw [h1]; omega, by simpa using h2⟩
theorem wenumR (i j : Nat) {a : Expr} {elts : List Expr} {kk : Nat} {p pos tpos : Pos} {wa : W (List α × Unit)} {en : En X.K α} (hm : X.mg "enumerate" = none) (h : PAX X PK pp ρ [a] wa (a1 (eR en))) (hg : Gl X "enumerate" := by rfl) (hs : starEach [a] X.env = [(false, eval a X.env)] := by rfl) :
    PI X (.Tuple elts kk tpos) (.Call (.Name "enumerate" p) [a] [] pos) (rdI PK pp ρ (bnd wa fun x => ret (enumF 0 x.1)) (fun ρ x => put (put ρ i (.sh eI x.1)) j (.sh en x.2)) [i, j] (gTup X.K 2 (gCons (gName i) (gCons (gName j) gNil)))) :=
  (pi_enum hg hm (pa_len h) hs).weak fun σ H R ⟨O, Φ, c, S, hw, k⟩ => ⟨O, _, c, S, hw, fun x vs0 H1 c1 p1 ch S1 r1 hz => by
    obtain ⟨_, _, rfl, ⟨a, vs, rfl, l, f⟩, rfl⟩ := r1
    have hl := f.length
    refine ⟨a, vs, rfl, l.sq, k _ _ H1 c1 p1 ch S1 ⟨fun j H' A' hj m => ?_, fun H' A' m => ?_, fun _ _ _ z => own_put_sh (own_put_sh z), fun j y H' v H'' pp' ρ' O' c' σ' hx m S' yy => ?_⟩ ?_⟩
    · rw [enumF_len] at hj
      have h1 : j < vs.length := by omega
      exact ⟨vs, vs[j], (l.mv m).sq, List.getElem?_eq_getElem h1⟩
    · refine ⟨vs, (l.mv m).sq, ?_⟩
      rw [enumF_len]
      omega
    · obtain ⟨T, u, rfl, nT, rfl, hu⟩ := yy
      obtain ⟨h1, h2⟩ := enumF_get 0 _ _ _ hx
      obtain ⟨u1, g1, q1⟩ := f.get h2
      have z1 := hu vs (l.mv m).sq
      rw [g1] at z1
      cases z1
      refine gpair S' nT ?_ (en.mono m q1)
      rw [h1, Int.zero_add]
      rfl
    · have := hz a vs (by simp) l.sq
      rw [enumF_len]
      omega⟩
theorem wenum (i j : Nat) {a : Expr} {elts : List Expr} {kk : Nat} {p pos tpos : Pos} {wa : W (List α × Unit)} {en : En X.K α} (hm : X.mg "enumerate" = none) (h : PAX X PK pp ρ [a] wa (a1 (eL en))) (hg : Gl X "enumerate" := by rfl) (hs : starEach [a] X.env = [(false, eval a X.env)] := by rfl) :
    PI X (.Tuple elts kk tpos) (.Call (.Name "enumerate" p) [a] [] pos) (rdI PK pp ρ (bnd wa fun x => ret (enumF 0 x.1)) (fun ρ x => put (put ρ i (.sh eI x.1)) j (.sh en x.2)) [i, j] (gTup X.K 2 (gCons (gName i) (gCons (gName j) gNil)))) :=
  wenumR i j hm (h.weak fun σ H Q ⟨O, Φ, c, S, hw, k⟩ => ⟨O, Φ, c, S, hw, fun x v H' c' p ch S' r => k x v H' c' p ch S' (by
    obtain ⟨v1, r1, e1, q1, q2⟩ := r
    exact ⟨v1, r1, e1, eL_R q1, q2⟩)⟩) hg hs
/-- whole numbers from lo on -/
def rangeF : Int → Nat → List Int
  | _, 0 => []
  | lo, n + 1 => lo :: rangeF (lo + 1) n
theorem rangeF_len : ∀ (lo : Int) (n : Nat), (rangeF lo n).length = n
  | _, 0 => rfl
  | lo, n + 1 => by simp [rangeF, rangeF_len (lo + 1) n]
theorem rangeF_get : ∀ (lo : Int) (n i : Nat) (y : Int), (rangeF lo n)[i]? = some y → y = lo + i ∧ i < n
  | _, 0, i, y, h => by simp [rangeF] at h
  | lo, n + 1, 0, y, h => by
    simp [rangeF] at h
    subst h
    simp
  | lo, n + 1, i + 1, y, h => by
    have h : (rangeF (lo + 1) n)[i]? = some y := by simpa [rangeF] using h
    obtain ⟨h1, h2⟩ := rangeF_get (lo + 1) n i y h
    exact ⟨by rw [h1]; omega, by omega⟩
def rngOk (i j : Int) : Bool := decide (-(2 ^ 62) ≤ i) && decide (i < 2 ^ 62) && decide (-(2 ^ 62) ≤ j) && decide (j < 2 ^ 62) && decide (j - i ≤ 16777216)
theorem src_range {K : PySem.W.Frag} {PK : PoolK} (i : Nat) (lo : Int) (n : Nat) {A : AS} {H0 : Hp} : Src (K := K) PK (rangeF lo n) (fun ρ x => put ρ i (.sh eI x)) [i] (gName i) (Itr lo n) A H0 := by
  refine ⟨fun j H' A' hj m => ?_, fun H' A' m => ?_, fun _ _ _ z => own_put_sh z, fun j y H' v H'' pp' ρ' O' c' σ' hx m S' yy => ?_⟩
  · rw [rangeF_len] at hj; exact hj
  · rw [rangeF_len]; exact Nat.le_refl _
  · obtain ⟨rfl, rfl⟩ := yy
    obtain ⟨h1, _⟩ := rangeF_get _ _ _ _ hx
    exact ⟨[(i, .int (lo + j))], H'', rfl, .refl _, S'.put (by rw [h1]; rfl), fun Q q => q⟩
theorem wrange1 (i : Nat) {a : Expr} {nm : Str} {p pos tp : Pos} {wa : W (Int × Unit)} (hm : X.mg "range" = none) (h : PAX X PK pp ρ [a] wa (a1 eI)) (hg : Gl X "range" := by rfl) (hs : starEach [a] X.env = [(false, eval a X.env)] := by rfl) :
    PI X (.Name nm tp) (.Call (.Name "range" p) [a] [] pos) (rdI PK pp ρ (bnd wa fun x => grd (rngOk 0 x.1) (ret (rangeF 0 x.1.toNat))) (fun ρ x => put ρ i (.sh eI x)) [i] (gName i)) :=
  (pi_range1 hg hm h hs).weak fun σ H R ⟨O, Φ, c, S, hw, k⟩ => ⟨O, _, c, S, hw, fun x vs0 H1 c1 p1 ch S1 r1 => by
    obtain ⟨_, _, rfl, q, rfl⟩ := r1
    obtain ⟨q0, q2⟩ := p1
    simp only [rngOk, Bool.and_eq_true, decide_eq_true_eq] at q0
    exact ⟨x.1, by rw [show _ = V.int x.1 from q], q0.1.1.2, q0.1.2, k _ _ H1 c1 q2 ch S1 (src_range i 0 _) (by rw [rangeF_len, sizeLine_eq]; have := q0.2; omega)⟩⟩
theorem wrange2 (i : Nat) {a b : Expr} {nm : Str} {p pos tp : Pos} {wa : W (Int × Int × Unit)} (hm : X.mg "range" = none) (h : PAX X PK pp ρ [a, b] wa (a2 eI eI)) (hg : Gl X "range" := by rfl) (hs : starEach [a, b] X.env = [(false, eval a X.env), (false, eval b X.env)] := by rfl) (hs2 : starEach [b] X.env = [(false, eval b X.env)] := by rfl) :
    PI X (.Name nm tp) (.Call (.Name "range" p) [a, b] [] pos) (rdI PK pp ρ (bnd wa fun x => grd (rngOk x.1 x.2.1) (ret (rangeF x.1 (x.2.1 - x.1).toNat))) (fun ρ x => put ρ i (.sh eI x)) [i] (gName i)) :=
  (pi_range2 hg hm h hs hs2).weak fun σ H R ⟨O, Φ, c, S, hw, k⟩ => ⟨O, _, c, S, hw, fun x vs0 H1 c1 p1 ch S1 r1 => by
    obtain ⟨_, _, rfl, q, _, _, rfl, q', rfl⟩ := r1
    obtain ⟨q0, q2⟩ := p1
    simp only [rngOk, Bool.and_eq_true, decide_eq_true_eq] at q0
    exact ⟨x.1, x.2.1, by rw [show _ = V.int x.1 from q, show _ = V.int x.2.1 from q'], ⟨q0.1.1.1.1, q0.1.1.1.2, q0.1.1.2, q0.1.2⟩, k _ _ H1 c1 q2 ch S1 (src_range i _ _) (by rw [rangeF_len, sizeLine_eq]; have := q0.2; omega)⟩⟩
end
end Dc
/-! DcH: more statements and expressions. -/
namespace Dc
open PySem PySem.Spec L2
section
variable {X : Cx} {PK : PoolK} {pp : PP} {ρ : List (Sl X.K)} {α β γ δ : Type}

/-! ### own lists read -/
theorem xixO [Inhabited α] (i : Nat) {x : Str} {ix : Expr} {p' pos : Pos} {wx : W Int} {en : En X.K α} {p : Addr} {xs : List α} (hg : get ρ i = .ow p (oL en) xs) (hx : PX X PK pp ρ ix wx eI) (hN : X.N[i]? = some x := by rfl)
    (hv : Vis X.env.scope x := by first | exact Or.inl rfl | exact Or.inr (Or.inl rfl) | exact Or.inr (Or.inr rfl)) (hd : (x == ("__debug__" : Str)) = false := by decide) (hcd : (x == ("__classdict__" : Str)) = false := by decide) (hs : PlainIx ix := by exact fun _ _ => rfl) :
    PX X PK pp ρ (.Subscript (.Name x p') ix pos) (bnd wx fun j => grd (ixOk xs j) (ret (ixAt xs j))) en :=
  (pe_ix ix_list (pe_var hN hv hd hcd) hx hs).weak fun σ H Q ⟨O, Φ, c, S, hw, k⟩ => by
    have q := S.slots i
    rw [hg] at q
    obtain ⟨e1, _, _, _⟩ := q
    refine ⟨_, e1, O, _, c, S, hw, fun j u H2 c2 p2 ch2 S2 r2 => ?_⟩
    have q := S2.slots i
    rw [hg] at q
    obtain ⟨_, vs, e2, f2⟩ := q
    obtain ⟨m, hm⟩ := Option.isSome_iff_exists.mp p2.1
    have hlt := ixN_lt hm
    obtain ⟨v1, g1, rv⟩ := f2.get (List.getElem?_eq_getElem hlt)
    refine ⟨p, vs, j, v1, rfl, r2, SqL.of e2, ?_, k _ _ H2 c2 p2.2 ch2 S2 ?_⟩
    · unfold atI
      rw [f2.length, hm]
      exact g1
    · unfold ixAt
      rw [hm, Option.getD_some, List.getD_eq_getElem?_getD, List.getElem?_eq_getElem hlt]
      exact rv
theorem xlenO (i : Nat) {x : Str} {p p' pos : Pos} {en : En X.K α} {a : Addr} {xs : List α} (hg : get ρ i = .ow a (oL en) xs) (hm : X.mg "len" = none) (hgl : Gl X "len" := by rfl) (hN : X.N[i]? = some x := by rfl)
    (hv : Vis X.env.scope x := by first | exact Or.inl rfl | exact Or.inr (Or.inl rfl) | exact Or.inr (Or.inr rfl)) (hd : (x == ("__debug__" : Str)) = false := by decide) (hcd : (x == ("__classdict__" : Str)) = false := by decide)
    (he : starEach [Expr.Name x p'] X.env = (false, eval (.Name x p') X.env) :: starEach [] X.env := by rfl) (hpl : (backTo pos (starEach [] X.env)).any (·.1) = false := by rfl) :
    PX X PK pp ρ (.Call (.Name "len" p) [.Name x p'] [] pos) (ret (xs.length : Int)) eI :=
  (pe_callB call_len_seq hgl hm PySem.boot_len (pa_cons (pe_var hN hv hd hcd) pa_nil he) (by decide) (by decide) he hpl).weak fun σ H Q ⟨O, Φ, c, S, hw, k⟩ => by
    have q := S.slots i
    rw [hg] at q
    obtain ⟨e1, vs, e2, f2⟩ := q
    exact ⟨_, e1, a, vs, rfl, .inl (SqL.of e2), k _ _ H c hw .refl S (by rw [f2.length]; rfl)⟩

/-! ### a, b = e -/
theorem npair (i j : Nat) {x y : Str} {e : Expr} {px py pt pos : Pos} {kt} {w : W (α × β)} {e1 : En X.K α} {e2 : En X.K β} (hc : X.calm = true) (hN : X.N.Nodup) (h : PX X PK pp ρ e w (eP e1 e2)) (hi : X.N[i]? = some x := by rfl) (hj : X.N[j]? = some y := by rfl)
    (hx : Loc X.env.scope x := by first | exact Or.inl rfl | exact Or.inr rfl) (hy : Loc X.env.scope y := by first | exact Or.inl rfl | exact Or.inr rfl)
    (hf : X.fn x = true ∨ X.env.scope.names.lookup x = some .local := by first | exact .inl rfl | exact .inr rfl) (hf2 : X.fn y = true ∨ X.env.scope.names.lookup y = some .local := by first | exact .inl rfl | exact .inr rfl)
    (hs1 : (assignEach [Expr.Name x px, Expr.Name y py] X.env).map (·.2) = assign (.Name x px) X.env :: (assignEach [Expr.Name y py] X.env).map (·.2) := by rfl) (hs2 : (assignEach [Expr.Name y py] X.env).map (·.2) = assign (.Name y py) X.env :: (assignEach [] X.env).map (·.2) := by rfl)
    (hn : (assignEach [Expr.Name x px, Expr.Name y py] X.env).length = 2 := by rfl) (hst : (assignEach [Expr.Name x px, Expr.Name y py] X.env).findIdx? (·.1) = none := by rfl)
    (hsw : swapsWithSole [.Tuple [.Name x px, .Name y py] kt pt] e pos.line X.env = pure false := by rfl) (hww : swappedStores [.Tuple [.Name x px, .Name y py] kt pt] e X.env = pure none := by rfl) (h1 : (assignEach [.Tuple [.Name x px, .Name y py] kt pt] X.env).map (·.2) = [assign (.Tuple [.Name x px, .Name y py] kt pt) X.env] := by rfl) :
    PS X (.Assign [.Tuple [.Name x px, .Name y py] kt pt] e pos) (rdN PK pp ρ w fun (_ : Unit) z => put (put ρ i (.sh e1 z.1)) j (.sh e2 z.2)) :=
  (ps_asg h (pg_tup hc (pgs_cons (pg_name hN hi hx hf) (pgs_cons (pg_name hN hj hy hf2) pgs_nil hs2) hs1) hn hst) hsw hww h1).weak fun D σ H ⟨O, Φ, c, S, hw, k⟩ => ⟨O, _, c, S, hw, fun z v H1 c1 p1 ch S1 r => by
    obtain ⟨a, u, w, rfl, t, q1, q2⟩ := r
    refine ⟨a, [u, w], rfl, t.sq, rfl, u, [w], rfl, w, [], rfl, rfl, ?_⟩
    have less : ∀ a, Av O pp (put ρ i (.sh e1 z.1)) a → Av O pp ρ a := fun a z => by
      rcases z with z | z | z
      · exact .inl z
      · exact .inr (.inl z)
      · exact .inr (.inr (own_put_sh z))
    exact k () z H1 c1 p1 _ (.of_chg ch fun a z => own_put_sh (own_put_sh z)) ((S1.put q1).put (e2.mono (Mv.less less) q2))⟩
/-- a, b = e1, e2 -/
theorem npar (i j : Nat) {x y : Str} {a b : Expr} {px py pt pos : Pos} {kt k2 pt2} {w : W (α × β × Unit)} {e1 : En X.K α} {e2 : En X.K β} (hc : X.calm = true) (hN : X.N.Nodup) (h : PAX X PK pp ρ [a, b] w (a2 e1 e2)) (hij : i ≠ j := by decide) (hi : X.N[i]? = some x := by rfl) (hj : X.N[j]? = some y := by rfl)
    (hx : X.env.scope.names.lookup x = some .local := by rfl) (hy : X.env.scope.names.lookup y = some .local := by rfl) (hw : swappedStores [.Tuple [.Name x px, .Name y py] kt pt] (.Tuple [a, b] k2 pt2) X.env = pure (some [x, y]) := by rfl)
    (hs : swapsWithSole [.Tuple [.Name x px, .Name y py] kt pt] (.Tuple [a, b] k2 pt2) pos.line X.env = pure false := by rfl) :
    PS X (.Assign [.Tuple [.Name x px, .Name y py] kt pt] (.Tuple [a, b] k2 pt2) pos) (rdN PK pp ρ w fun (_ : Unit) z => put (put ρ i (.sh e1 z.1)) j (.sh e2 z.2.1)) :=
  (ps_par hc hN hi hj hij hx hy h hw hs).weak fun D σ H ⟨O, Φ, c, S, hw, k⟩ => ⟨O, _, c, S, hw, fun z v H1 c1 p1 ch S1 r => by
    obtain ⟨u, _, rfl, q1, w, _, rfl, q2, rfl⟩ := r
    have less : ∀ a, Av O pp (put ρ i (.sh e1 z.1)) a → Av O pp ρ a := fun a z => by
      rcases z with z | z | z
      · exact .inl z
      · exact .inr (.inl z)
      · exact .inr (.inr (own_put_sh z))
    exact ⟨u, w, rfl, k () z H1 c1 p1 _ (.of_chg ch fun a z => own_put_sh (own_put_sh z)) ((S1.put q1).put (e2.mono (Mv.less less) q2))⟩⟩
/-! ### while -/
def whW (t : γ → W Bool) (f : γ → W (Fl γ γ β)) : Nat → γ → W (Fl γ δ β)
  | 0, _ => stuck
  | n + 1, s => bnd (t s) fun b => ite b (bnd (f s) fun fl => match fl with
    | .nx s' => whW t f n s'
    | .ct s' => whW t f n s'
    | .bk s' => ret (.nx s')
    | .rt y => ret (.rt y)) (ret (.nx s))
theorem nwhile {c : Expr} {body : List Stmt} {pos : Pos} {t : γ → W Bool} {f : γ → W (Fl γ γ β)} {ρL : γ → List (Sl X.K)} {ρl : δ → List (Sl X.K)} {er : En X.K β} {s0 : γ} (fuel : Nat)
    (hp : PassesOwn (model X.prog X.w) X.A X.env X.xe) (hf : Fit ρ (ρL s0)) (ht : ∀ s, PTX X PK pp (ρL s) c (t s)) (hb : ∀ s, PSX X PK pp (ρL s) body (f s) ρL ρL er) :
    PS X (.While c body [] pos) (rdS PK pp ρ (whW t f fuel s0) ρL ρl er) :=
  (ps_while (tc := fun σ H Q => ∃ s, rdT PK pp (ρL s) (t s) σ H Q) hp ⟨fun pins s σ H Q I ⟨g, q⟩ => (ht g).run pins s σ H Q I q⟩ (PSs.ex hb)).weak fun D σ H ⟨O, Φ, c, S, hw, k⟩ => by
    refine ⟨fun m σ' H' => ∃ s c', Stp pp ρ (ρL s) H H' ∧ Sat PK O pp (ρL s) c' σ' H' ∧ whW t f m s Φ noX c', ⟨fuel, s0, c, hf.stp, S.fit hf, hw⟩, ?_⟩
    rintro m σ' H' ⟨s, c', st, S', hw'⟩
    cases m with
    | zero => exact hw'.elim
    | succ m =>
      refine ⟨s, O, _, c', S', hw', fun b H2 c2 q ch S2 => ?_⟩
      have st2 := st.trans (.of_chg ch fun _ z => z)
      cases b with
      | true =>
        simp only [if_true]
        refine ⟨fun σ3 H3 => ∃ s c', Stp pp ρ (ρL s) H H3 ∧ Sat PK O pp (ρL s) c' σ3 H3 ∧ whW t f m s Φ noX c', fun σ3 H3 z => ⟨m, Nat.lt_succ_self m, z⟩, s, O, _, c2, S2, q, fun fl H4 c4 q4 => ?_⟩
        cases fl with
        | nx s' => exact fun σ4 t S4 => ⟨s', c4, st2.trans t, S4, q4⟩
        | ct s' => exact fun σ4 t S4 => ⟨s', c4, st2.trans t, S4, q4⟩
        | bk s' => exact fun σ4 t S4 => k (.nx s') H4 c4 q4 σ4 (st2.trans t) S4
        | rt r => exact (k (.rt r) H4 c4 q4).mono st2
      | false =>
        simp only [Bool.false_eq_true, if_false]
        exact k (.nx s) H2 c2 (by simpa [ite, ret] using q) σ' st2 S2
/-! ### comparisons of data -/
structure Dat {K : PySem.W.Frag} {α : Type} (en : En K α) (to : α → PyData) : Prop where
  dp : ∀ {O : AS} {H : Hp} {v : V} {x : α}, en.r O H v x → Dp K H v (to x)
theorem dI {K : PySem.W.Frag} : Dat (eI : En K Int) .int := ⟨fun h => by rw [show _ = _ from h]; exact .int _⟩
theorem dB {K : PySem.W.Frag} : Dat (eB : En K Bool) .bool := ⟨fun h => by rw [show _ = _ from h]; exact .bl _⟩
theorem dS {K : PySem.W.Frag} : Dat (eS : En K Str) .str := ⟨fun h => by rw [show _ = _ from h]; exact .str _⟩
theorem dAll {K : PySem.W.Frag} {en : En K α} {to : α → PyData} (d : Dat en to) {O : AS} {H : Hp} {vs : List V} {xs : List α} (f : F2 (en.r O H) vs xs) : DpAll K H vs (xs.map to) := by
  induction f with
  | nil => exact .nil
  | cons r _ ih => exact .cons (d.dp r) ih
theorem dL {K : PySem.W.Frag} {en : En K α} {to : α → PyData} (d : Dat en to) : Dat (eL en) (fun xs => .list (xs.map to)) := ⟨fun ⟨a, vs, e, l, f⟩ => by rw [e]; exact .lst l.sq (dAll d f)⟩
theorem dP {K : PySem.W.Frag} {e1 : En K α} {e2 : En K β} {to : α → PyData} {to2 : β → PyData} (d : Dat e1 to) (d2 : Dat e2 to2) : Dat (eP e1 e2) (fun x => .tuple [to x.1, to2 x.2]) := ⟨fun ⟨a, u, w, e, t, q1, q2⟩ => by rw [e]; exact .tup t.sq (.cons (d.dp q1) (.cons (d2.dp q2) .nil))⟩
theorem w_eqD {en : En X.K α} {e2 : En X.K β} {to : α → PyData} {to2 : β → PyData} (d : Dat en to) (d2 : Dat e2 to2) (hs : ∀ x, SeqAt.shaped (to x) = true) (hs2 : ∀ x, SeqAt.shaped (to2 x) = true) (hu : X.A.units + 64 < cLine) : OpW X (compareOp .Eq) en e2 eB (fun _ _ => true) (fun x y => PyData.eqv (to x) (to2 y)) := by
  intro pins s σ H x y v u Q I rx ry ⟨A, a, b, _, r1, r2, _, k⟩
  exact op_eqD hu pins s σ H x y v u Q I rx ry ⟨_, _, d.dp r1, d2.dp r2, hs _, hs2 _, k _ _ (.refl _) rfl⟩
theorem w_neD {en : En X.K α} {e2 : En X.K β} {to : α → PyData} {to2 : β → PyData} (d : Dat en to) (d2 : Dat e2 to2) (hs : ∀ x, SeqAt.shaped (to x) = true) (hs2 : ∀ x, SeqAt.shaped (to2 x) = true) (hu : X.A.units + 64 < cLine) : OpW X (compareOp .NotEq) en e2 eB (fun _ _ => true) (fun x y => !PyData.eqv (to x) (to2 y)) := by
  intro pins s σ H x y v u Q I rx ry ⟨A, a, b, _, r1, r2, _, k⟩
  exact op_neD hu pins s σ H x y v u Q I rx ry ⟨_, _, d.dp r1, d2.dp r2, hs _, hs2 _, k _ _ (.refl _) rfl⟩

/-! ### [elt for a in xs if t], [elt for a in xs for b in a] -/
theorem lc_readF {own : List (Str × Nat)} {wi : W (List α)} {ext : List (Sl X.K) → α → List (Sl X.K)} {js : List Nat} {g : TG} {t : α → W Bool} {f : α → W β} {en : En X.K β} (hj : ∀ j ∈ js, j ∈ own.map (·.2)) (hn : ∀ i ∈ own.map (·.2), get ρ i = .nil) (ho : ∀ x, owns (ext ρ x) = owns ρ) :
    ∀ σ H Q, rdF PK pp ρ (bnd wi fun xs => filW t f xs) en σ H Q → tLc (rdI PK pp ρ wi ext js g) g (fun σ H Q => ∃ x, rdT PK pp (ext ρ x) (t x) σ H Q) (fun σ H Q => ∃ x, rdE PK pp (ext ρ x) (f x) en σ H Q) (own.map (·.2)) σ H Q := by
  intro σ H Q ⟨O, Φ, c, S, hw, k⟩
  refine ⟨O, _, c, S, hw, fun xs J H1 c1 p1 ch S1 src hz D hD => ?_⟩
  have nf := nfoot S1 hD
  have hDH := chg_none S1 ch hD
  have mv0 : Mv (Av O pp ρ) (Av (Ox O D) pp ρ) H1 (upd H1 D (.lst [])) := Mv.newA hD
  refine ⟨fun i m H' => m = xs.length - i ∧ i ≤ xs.length ∧ ∃ acc vs c', H' D = some (.lst vs) ∧ F2 (en.r (Av (Ox O D) pp ρ) H') vs acc ∧ vs.length ≤ i ∧ Chg pp (upd H1 D (.lst [])) (upd H' D (.lst [])) ∧ Sat PK (Ox O D) pp ρ c' σ H' ∧ filW t f (xs.drop i) (fun ys c => Φ (acc ++ ys) c) noX c',
    ⟨xs.length, by simp, Nat.zero_le _, [], [], c1, upd_same, .nil, Nat.zero_le _, by rw [upd_upd]; exact .refl, S1.newO hD, by simpa using p1⟩, ?_⟩
  rintro i m H' ⟨rfl, hi', acc, vs, c', eD, fD, lD, chD, S', hw'⟩
  have mv : Mv (Av O pp ρ) (Av (Ox O D) pp ρ) H1 H' := fun a o n e => by
    obtain ⟨e1, n1⟩ := mv0 a o n e
    have ne : a ≠ D := ne_of_none e hD
    have := chD a o e1 fun z => n (.inr (.inl z))
    rw [upd_ne ne] at this
    exact ⟨this, n1⟩
  by_cases hlt : i < xs.length
  · refine .inr ⟨src.go i H' _ hlt mv, fun H3 => ∃ acc vs c', H3 D = some (.lst vs) ∧ F2 (en.r (Av (Ox O D) pp ρ) H3) vs acc ∧ vs.length ≤ i + 1 ∧ Chg pp (upd H1 D (.lst [])) (upd H3 D (.lst [])) ∧ Sat PK (Ox O D) pp ρ c' σ H3 ∧ filW t f (xs.drop (i + 1)) (fun ys c => Φ (acc ++ ys) c) noX c', fun H3 q => ⟨xs.length - (i + 1), by omega, rfl, hlt, q⟩, fun v H2 y => ?_⟩
    obtain ⟨us, H3, eus, sm, S3, hQ⟩ := src.yld i xs[i] H' v H2 pp ρ (Ox O D) c' (wipe σ (own.map (·.2))) (List.getElem?_eq_getElem hlt) mv (S'.wipe hn) y
    refine hQ _ ⟨wipe_setAll fun u hu => hj _ (by rw [← eus]; exact List.mem_map.mpr ⟨u, hu, rfl⟩), ?_⟩
    rw [List.drop_eq_getElem_cons hlt] at hw'
    refine ⟨xs[i], Ox O D, _, c', S3, hw', fun b H3' c3 q3 ch3 S3' => ?_⟩
    have e3 : H3' D = some (.lst vs) := ch3 D _ (sm D _ eD) nf
    have mv3 : Mv (Av (Ox O D) pp ρ) (Av (Ox O D) pp ρ) H' H3' := fun a o n e => ⟨ch3 a o (sm a o e) fun z => n (.inr (.inl z)), n⟩
    have chg3 : Chg pp (upd H1 D (.lst [])) (upd H3' D (.lst [])) := fun a o e hf => by
      have z := chD a o e hf
      by_cases ne : a = D
      · subst ne; rw [upd_same] at z ⊢; exact z
      · rw [upd_ne ne] at z ⊢
        exact ch3 a o (sm a o z) hf
    cases b with
    | false =>
      simp only [Bool.false_eq_true, if_false]
      exact ⟨acc, vs, c3, e3, fD.imp fun _ _ => en.mono mv3, Nat.le_succ_of_le lD, chg3, S'.chg (fun a o e hf => ch3 a o (sm a o e) hf) S3'.pool, by simpa [ite] using q3⟩
    | true =>
      simp only [if_true]
      refine ⟨xs[i], Ox O D, _, c3, S3', q3, fun y v4 H4 c4 q ch4 S4 r4 => ?_⟩
      have e4 : H4 D = some (.lst vs) := ch4 D _ e3 nf
      refine ⟨vs, e4, Nat.lt_of_le_of_lt lD (Nat.lt_of_lt_of_le hlt hz), acc ++ [y], vs ++ [v4], c4, upd_same, ?_, by rw [List.length_append]; exact Nat.succ_le_succ lD, ?_, ?_, ?_⟩
      · have mv4 : Mv (Av (Ox O D) pp ρ) (Av (Ox O D) pp ρ) H' (upd H4 D (.lst (vs ++ [v4]))) := fun a o n e => by
          have ne : a ≠ D := fun z => n (by rw [z]; exact .inl (.inr rfl))
          rw [upd_ne ne]
          exact ⟨ch4 a o (mv3 a o n e).1 fun z => n (.inr (.inl z)), n⟩
        have mv5 : Mv (Av (Ox O D) pp (ext ρ xs[i])) (Av (Ox O D) pp ρ) H4 (upd H4 D (.lst (vs ++ [v4]))) := fun a o n e => by
          have ne : a ≠ D := fun z => n (by rw [z]; exact .inl (.inr rfl))
          rw [upd_ne ne]
          refine ⟨e, fun z => n ?_⟩
          rcases z with z | z | z
          · exact .inl z
          · exact .inr (.inl z)
          · exact .inr (.inr (by rw [ho]; exact z))
        exact (fD.imp fun _ _ => en.mono mv4).append (.cons (en.mono mv5 r4) .nil)
      · intro a o e hf
        have z := chg3 a o e hf
        rw [upd_upd]
        by_cases ne : a = D
        · subst ne; rw [upd_same] at z ⊢; exact z
        · rw [upd_ne ne] at z ⊢
          exact ch4 a o z hf
      · exact (S'.chg (fun a o e hf => ch4 a o (ch3 a o (sm a o e) hf) hf) S4.pool).updO (.inr rfl) nf
      · have q2 : filW t f (xs.drop (i + 1)) (fun ys c => Φ (acc ++ (y :: ys)) c) noX c4 := q
        simpa [List.append_assoc] using q2
  · have e : i = xs.length := by omega
    subst e
    rw [List.drop_length] at hw'
    have hw2 : Φ (acc ++ []) c' := hw'
    rw [List.append_nil] at hw2
    refine .inl ⟨src.stop H' _ mv, k acc D vs H' c' hw2 hDH (fun a o e hf => ?_) S' eD fD⟩
    have ne : a ≠ D := ne_of_none e hDH
    have z := chD a o (by rw [upd_ne ne]; exact ch a o e hf) hf
    rw [upd_ne ne] at z
    exact z
theorem xlcI {elt tg iter tst : Expr} {scope : Scope} {own : List (Str × Nat)} {pos : Pos} {wi : W (List α)} {ext : List (Sl X.K) → α → List (Sl X.K)} {js : List Nat} {g : TG} {t : α → W Bool} {f : α → W β} {en : En X.K β} (hc : X.calm = true) (hN : X.N.Nodup) (hi : PI X tg iter (rdI PK pp ρ wi ext js g)) (ok : BlkOk X.N X.env.scope scope own)
    (hj : ∀ j ∈ js, j ∈ own.map (·.2)) (hn : ∀ i ∈ own.map (·.2), get ρ i = .nil) (ho : ∀ x, owns (ext ρ x) = owns ρ)
    (hg : ∀ (s : Shared) (H : Hp) (C : Addr) (cl : List (Str × Addr)) (fp : List Addr), PG (X.blk s H scope (compEnvC scope cl C X.env) fp) tg g)
    (ht : ∀ (s : Shared) (H : Hp) (C : Addr) (cl : List (Str × Addr)) (fp : List Addr) (x : α), PTX (X.blk s H scope (compEnvC scope cl C X.env) fp) PK pp (ext ρ x) tst (t x))
    (he : ∀ (s : Shared) (H : Hp) (C : Addr) (cl : List (Str × Addr)) (fp : List Addr) (x : α), PX (X.blk s H scope (compEnvC scope cl C X.env) fp) PK pp (ext ρ x) elt (f x) en)
    (hs : ∀ x, foldedSetIterable iter X.env x = pure x := by intro _; rfl) :
    PE X (.ListComp elt [⟨tg, iter, [tst], 0⟩] scope pos) (rdF PK pp ρ (bnd wi fun xs => filW t f xs) en) :=
  (pe_lc hc hN hi ok hg (fun s H C cl fp => pts_one ⟨fun pins s' σ H Q I ⟨x, q⟩ => (ht s _ C cl fp x).run pins s' σ H Q I q⟩) (fun s H C cl fp => ⟨fun pins s' σ H Q I ⟨x, q⟩ => (he s _ C cl fp x).run pins s' σ H Q I q⟩) hs).weak (lc_readF hj hn ho)
theorem xlcIS (i : Nat) {y : Str} {py spos : Pos} {elt tg iter tst : Expr} {scope : Scope} {own : List (Str × Nat)} {pos : Pos} {wi : W (List α)} {ext : List (Sl X.K) → α → List (Sl X.K)} {js : List Nat} {g : TG} {t : α → W Bool} {f : α → W β} {en : En X.K β} (hc : X.calm = true) (hN : X.N.Nodup) (hi : PI X tg iter (rdI PK pp ρ wi ext js g)) (ok : BlkOk X.N X.env.scope scope own)
    (hj : ∀ j ∈ js, j ∈ own.map (·.2)) (hn : ∀ i ∈ own.map (·.2), get ρ i = .nil) (ho : ∀ x, owns (ext ρ x) = owns ρ)
    (hg : ∀ (s : Shared) (H : Hp) (C : Addr) (cl : List (Str × Addr)) (fp : List Addr), PG (X.blk s H scope (compEnvC scope cl C X.env) fp) tg g)
    (ht : ∀ (s : Shared) (H : Hp) (C : Addr) (cl : List (Str × Addr)) (fp : List Addr) (x : α), PTX (X.blk s H scope (compEnvC scope cl C X.env) fp) PK pp (ext ρ x) tst (t x))
    (he : ∀ (s : Shared) (H : Hp) (C : Addr) (cl : List (Str × Addr)) (fp : List Addr) (x : α), PX (X.blk s H scope (compEnvC scope cl C X.env) fp) PK pp (ext ρ x) elt (f x) en)
    (hsw : swapsWith (.ListComp elt [⟨tg, iter, [tst], 0⟩] scope pos) (some (.Name y py)) spos.line X.env = pure true) (hy : X.N[i]? = some y := by rfl) (hyl : X.env.scope.names.lookup y = some .local := by rfl)
    (hs : ∀ x, foldedSetIterable iter X.env x = pure x := by intro _; rfl) :
    PS X (.Assign [.Name y py] (.ListComp elt [⟨tg, iter, [tst], 0⟩] scope pos) spos) (tAsg (rdF PK pp ρ (bnd wi fun xs => filW t f xs) en) (gName i)) :=
  (ps_setLc hc hN hy hyl hsw hi ok hg (fun s H C cl fp => pts_one ⟨fun pins s' σ H Q I ⟨x, q⟩ => (ht s _ C cl fp x).run pins s' σ H Q I q⟩) (fun s H C cl fp => ⟨fun pins s' σ H Q I ⟨x, q⟩ => (he s _ C cl fp x).run pins s' σ H Q I q⟩) hs).weak fun D σ H q => lc_readF hj hn ho σ H _ q
/-- [elt for a in xs for b in ..]; n: so many so far -/
def flatW (wi : α → W (List γ)) (f : α → γ → W β) : Nat → List α → W (List β)
  | _, [] => ret []
  | n, x :: r => bnd (wi x) fun ys => grd (decide (n + ys.length ≤ 16777216)) (bnd (mapW (f x) ys) fun zs => bnd (flatW wi f (n + ys.length) r) fun us => ret (zs ++ us))
theorem mapW_len {f : α → W β} : ∀ {xs : List α} {Φ : List β → WB} {c : Nat}, mapW f xs Φ noX c → mapW f xs (fun ys c => ys.length = xs.length ∧ Φ ys c) noX c → True := fun _ _ => True.intro
theorem lc_read2 {own : List (Str × Nat)} {vs1 : List Nat} {wi : W (List α)} {ext : List (Sl X.K) → α → List (Sl X.K)} {js : List Nat} {g : TG} {w1 : α → W (List γ)} {ext1 : List (Sl X.K) → γ → List (Sl X.K)} {js1 : List Nat} {g1 : TG} {f : α → γ → W β} {en : En X.K β}
    (hj : ∀ j ∈ js, j ∈ own.map (·.2)) (hn : ∀ i ∈ own.map (·.2), get ρ i = .nil) (ho : ∀ x, owns (ext ρ x) = owns ρ) (hj1 : ∀ j ∈ js1, j ∈ vs1) (hn1 : ∀ x, ∀ i ∈ vs1, get (ext ρ x) i = .nil) (ho1 : ∀ x y, owns (ext1 (ext ρ x) y) = owns ρ) :
    ∀ σ H Q, rdF PK pp ρ (bnd wi fun xs => flatW w1 f 0 xs) en σ H Q → tLc2 (rdI PK pp ρ wi ext js g) g tYes (fun σ H R => ∃ x, rdI PK pp (ext ρ x) (w1 x) ext1 js1 g1 σ H R) g1 tYes (fun σ H Q => ∃ z : α × γ, rdE PK pp (ext1 (ext ρ z.1) z.2) (f z.1 z.2) en σ H Q) (own.map (·.2)) vs1 σ H Q := by
  intro σ H Q ⟨O, Φ, c, S, hw, k⟩
  refine ⟨O, _, c, S, hw, fun xs J H1 c1 p1 ch S1 src hz D hD => ?_⟩
  have nf := nfoot S1 hD
  have hDH := chg_none S1 ch hD
  have mv0 : Mv (Av O pp ρ) (Av (Ox O D) pp ρ) H1 (upd H1 D (.lst [])) := Mv.newA hD
  have av1 : ∀ x a, Av (Ox O D) pp (ext ρ x) a ↔ Av (Ox O D) pp ρ a := fun x a => by unfold Av; rw [ho]
  have av2 : ∀ x y a, Av (Ox O D) pp (ext1 (ext ρ x) y) a ↔ Av (Ox O D) pp ρ a := fun x y a => by unfold Av; rw [ho1]
  refine ⟨fun i m H' => m = xs.length - i ∧ i ≤ xs.length ∧ ∃ acc vs c', H' D = some (.lst vs) ∧ F2 (en.r (Av (Ox O D) pp ρ) H') vs acc ∧ Chg pp (upd H1 D (.lst [])) (upd H' D (.lst [])) ∧ Sat PK (Ox O D) pp ρ c' σ H' ∧ flatW w1 f vs.length (xs.drop i) (fun ys c => Φ (acc ++ ys) c) noX c',
    ⟨xs.length, by simp, Nat.zero_le _, [], [], c1, upd_same, .nil, by rw [upd_upd]; exact .refl, S1.newO hD, by simpa using p1⟩, ?_⟩
  rintro i m H' ⟨rfl, hi', acc, vs, c', eD, fD, chD, S', hw'⟩
  have mv : Mv (Av O pp ρ) (Av (Ox O D) pp ρ) H1 H' := fun a o n e => by
    obtain ⟨e1, n1⟩ := mv0 a o n e
    have ne : a ≠ D := ne_of_none e hD
    have := chD a o e1 fun z => n (.inr (.inl z))
    rw [upd_ne ne] at this
    exact ⟨this, n1⟩
  by_cases hlt : i < xs.length
  · refine .inr ⟨src.go i H' _ hlt mv, fun H3 => ∃ acc vs c', H3 D = some (.lst vs) ∧ F2 (en.r (Av (Ox O D) pp ρ) H3) vs acc ∧ Chg pp (upd H1 D (.lst [])) (upd H3 D (.lst [])) ∧ Sat PK (Ox O D) pp ρ c' σ H3 ∧ flatW w1 f vs.length (xs.drop (i + 1)) (fun ys c => Φ (acc ++ ys) c) noX c', fun H3 q => ⟨xs.length - (i + 1), by omega, rfl, hlt, q⟩, fun v H2 y => ?_⟩
    obtain ⟨us, H3, eus, sm, S3, hQ⟩ := src.yld i xs[i] H' v H2 pp ρ (Ox O D) c' (wipe σ (own.map (·.2))) (List.getElem?_eq_getElem hlt) mv (S'.wipe hn) y
    refine hQ _ ⟨wipe_setAll fun u hu => hj _ (by rw [← eus]; exact List.mem_map.mpr ⟨u, hu, rfl⟩), ?_⟩
    unfold tYes
    simp only [if_true]
    rw [List.drop_eq_getElem_cons hlt] at hw'
    refine ⟨xs[i], Ox O D, _, c', S3, hw', fun ys J1 H4 c4 p4 ch4 S4 src1 hz1 => ?_⟩
    have e4 : H4 D = some (.lst vs) := ch4 D _ (sm D _ eD) nf
    have hlen : vs.length + ys.length ≤ 16777216 := of_decide_eq_true p4.1
    have chg4 : Chg pp H' H4 := fun a o e hf => ch4 a o (sm a o e) hf
    have p42 : mapW (f xs[i]) ys (fun zs c => flatW w1 f (vs.length + ys.length) (xs.drop (i + 1)) (fun us c => Φ (acc ++ (zs ++ us)) c) noX c) noX c4 := p4.2
    refine ⟨fun j k H5 => k = ys.length - j ∧ j ≤ ys.length ∧ ∃ acc1 ws c5, H5 D = some (.lst (vs ++ ws)) ∧ ws.length = j ∧ F2 (en.r (Av (Ox O D) pp ρ) H5) ws acc1 ∧ Chg pp (upd H4 D (.lst [])) (upd H5 D (.lst [])) ∧ Sat PK (Ox O D) pp ρ c5 σ H5 ∧ Sat PK (Ox O D) pp (ext ρ xs[i]) c5 (setAll (wipe σ (own.map (·.2))) us) H5 ∧
      mapW (f xs[i]) (ys.drop j) (fun zs c => flatW w1 f (vs.length + ys.length) (xs.drop (i + 1)) (fun us c => Φ (acc ++ (acc1 ++ zs ++ us)) c) noX c) noX c5,
      ⟨ys.length, by simp, Nat.zero_le _, [], [], c4, by rw [List.append_nil]; exact e4, rfl, .nil, .refl, S'.chg chg4 S4.pool, S4, by simpa using p42⟩, ?_⟩
    rintro j kk H5 ⟨rfl, hj', acc1, ws, c5, e5, l5, f5, ch5, S5, S5e, hw5⟩
    have mv5 : Mv (Av (Ox O D) pp (ext ρ xs[i])) (Av (Ox O D) pp (ext ρ xs[i])) H4 H5 := fun a o n e => by
      have ne : a ≠ D := fun z => n (by rw [z]; exact .inl (.inr rfl))
      have z := ch5 a o (by rw [upd_ne ne]; exact e) fun z => n (.inr (.inl z))
      rw [upd_ne ne] at z
      exact ⟨z, n⟩
    by_cases hlt1 : j < ys.length
    · refine .inr ⟨src1.go j H5 _ hlt1 mv5, fun H6 => ∃ acc1 ws c5, H6 D = some (.lst (vs ++ ws)) ∧ ws.length = j + 1 ∧ F2 (en.r (Av (Ox O D) pp ρ) H6) ws acc1 ∧ Chg pp (upd H4 D (.lst [])) (upd H6 D (.lst [])) ∧ Sat PK (Ox O D) pp ρ c5 σ H6 ∧ Sat PK (Ox O D) pp (ext ρ xs[i]) c5 (setAll (wipe σ (own.map (·.2))) us) H6 ∧
        mapW (f xs[i]) (ys.drop (j + 1)) (fun zs c => flatW w1 f (vs.length + ys.length) (xs.drop (i + 1)) (fun us c => Φ (acc ++ (acc1 ++ zs ++ us)) c) noX c) noX c5, fun H6 q => ⟨ys.length - (j + 1), by omega, rfl, hlt1, q⟩, fun v6 H6 y6 => ?_⟩
      obtain ⟨us1, H7, eus1, sm7, S7, hQ7⟩ := src1.yld j ys[j] H5 v6 H6 pp (ext ρ xs[i]) (Ox O D) c5 (wipe (setAll (wipe σ (own.map (·.2))) us) vs1) (List.getElem?_eq_getElem hlt1) mv5 (S5e.wipe (hn1 _)) y6
      refine hQ7 _ ⟨wipe_setAll fun u hu => hj1 _ (by rw [← eus1]; exact List.mem_map.mpr ⟨u, hu, rfl⟩), ?_⟩
      rw [List.drop_eq_getElem_cons hlt1] at hw5
      refine ⟨(xs[i], ys[j]), Ox O D, _, c5, S7, hw5, fun y8 v8 H8 c8 q8 ch8 S8 r8 => ?_⟩
      have e8 : H8 D = some (.lst (vs ++ ws)) := ch8 D _ (sm7 D _ e5) nf
      have chg8 : Chg pp H5 H8 := fun a o e hf => ch8 a o (sm7 a o e) hf
      refine ⟨vs ++ ws, e8, by rw [List.length_append, l5, sizeLine_eq]; omega, acc1 ++ [y8], ws ++ [v8], c8, by rw [upd_same, List.append_assoc], by rw [List.length_append, l5]; rfl, ?_, ?_, (S5.chg chg8 S8.pool).updO (.inr rfl) nf, (S5e.chg chg8 S8.pool).updO (.inr rfl) nf, ?_⟩
      · have mv8 : Mv (Av (Ox O D) pp ρ) (Av (Ox O D) pp ρ) H5 (upd H8 D (.lst (vs ++ ws ++ [v8]))) := fun a o n e => by
          have ne : a ≠ D := fun z => n (by rw [z]; exact .inl (.inr rfl))
          rw [upd_ne ne]
          exact ⟨chg8 a o e fun z => n (.inr (.inl z)), n⟩
        have mv9 : Mv (Av (Ox O D) pp (ext1 (ext ρ xs[i]) ys[j])) (Av (Ox O D) pp ρ) H8 (upd H8 D (.lst (vs ++ ws ++ [v8]))) := fun a o n e => by
          have n' : ¬ Av (Ox O D) pp ρ a := fun z => n ((av2 _ _ a).mpr z)
          have ne : a ≠ D := fun z => n' (by rw [z]; exact .inl (.inr rfl))
          rw [upd_ne ne]
          exact ⟨e, n'⟩
        exact (f5.imp fun _ _ => en.mono mv8).append (.cons (en.mono mv9 r8) .nil)
      · intro a o e hf
        have z := ch5 a o e hf
        rw [upd_upd]
        by_cases ne : a = D
        · subst ne; rw [upd_same] at z ⊢; exact z
        · rw [upd_ne ne] at z ⊢
          exact chg8 a o z hf
      · have q2 : mapW (f xs[i]) (ys.drop (j + 1)) (fun zs c => flatW w1 f (vs.length + ys.length) (xs.drop (i + 1)) (fun us c => Φ (acc ++ (acc1 ++ (y8 :: zs) ++ us)) c) noX c) noX c8 := q8
        simpa [List.append_assoc] using q2
    · have e : j = ys.length := by omega
      subst e
      rw [List.drop_length] at hw5
      have hw6 : flatW w1 f (vs.length + ys.length) (xs.drop (i + 1)) (fun us c => Φ (acc ++ (acc1 ++ [] ++ us)) c) noX c5 := hw5
      refine .inl ⟨src1.stop H5 _ mv5, acc ++ acc1, vs ++ ws, c5, e5, ?_, ?_, S5, ?_⟩
      · have mv6 : Mv (Av (Ox O D) pp ρ) (Av (Ox O D) pp ρ) H' H5 := fun a o n e => by
          have ne : a ≠ D := fun z => n (by rw [z]; exact .inl (.inr rfl))
          have z := ch5 a o (by rw [upd_ne ne]; exact chg4 a o e fun z => n (.inr (.inl z))) fun z => n (.inr (.inl z))
          rw [upd_ne ne] at z
          exact ⟨z, n⟩
        exact (fD.imp fun _ _ => en.mono mv6).append f5
      · intro a o e hf
        have z := chD a o e hf
        by_cases ne : a = D
        · subst ne; rw [upd_same] at z ⊢; exact z
        · rw [upd_ne ne] at z ⊢
          have z2 := ch5 a o (by rw [upd_ne ne]; exact chg4 a o z hf) hf
          rw [upd_ne ne] at z2
          exact z2
      · rw [List.length_append, l5]
        simpa [List.append_assoc] using hw6
  · have e : i = xs.length := by omega
    subst e
    rw [List.drop_length] at hw'
    have hw2 : Φ (acc ++ []) c' := hw'
    rw [List.append_nil] at hw2
    refine .inl ⟨src.stop H' _ mv, k acc D vs H' c' hw2 hDH (fun a o e hf => ?_) S' eD fD⟩
    have ne : a ≠ D := ne_of_none e hDH
    have z := chD a o (by rw [upd_ne ne]; exact ch a o e hf) hf
    rw [upd_ne ne] at z
    exact z
theorem xlc2 {elt tg iter tg1 iter1 : Expr} {scope : Scope} {own : List (Str × Nat)} {vs1 : List Nat} {pos : Pos} {wi : W (List α)} {ext : List (Sl X.K) → α → List (Sl X.K)} {js : List Nat} {g : TG} {w1 : α → W (List γ)} {ext1 : List (Sl X.K) → γ → List (Sl X.K)} {js1 : List Nat} {g1 : TG} {f : α → γ → W β} {en : En X.K β}
    (hc : X.calm = true) (hN : X.N.Nodup) (hi : PI X tg iter (rdI PK pp ρ wi ext js g))
    (hi1 : ∀ (s : Shared) (H : Hp) (C : Addr) (cl : List (Str × Addr)) (fp : List Addr) (x : α), PI (X.blk s H scope (compEnvC scope cl C X.env) fp) tg1 iter1 (rdI PK pp (ext ρ x) (w1 x) ext1 js1 g1))
    (hg : ∀ (s : Shared) (H : Hp) (C : Addr) (cl : List (Str × Addr)) (fp : List Addr), PG (X.blk s H scope (compEnvC scope cl C X.env) fp) tg g)
    (hg1 : ∀ (s : Shared) (H : Hp) (C : Addr) (cl : List (Str × Addr)) (fp : List Addr), PG (X.blk s H scope (compEnvC scope cl C X.env) fp) tg1 g1)
    (he : ∀ (s : Shared) (H : Hp) (C : Addr) (cl : List (Str × Addr)) (fp : List Addr) (x : α) (y : γ), PX (X.blk s H scope (compEnvC scope cl C X.env) fp) PK pp (ext1 (ext ρ x) y) elt (f x y) en)
    (ok : BlkOk X.N X.env.scope scope own) (hv1 : ∀ i ∈ vs1, i ∈ own.map (·.2))
    (hj : ∀ j ∈ js, j ∈ own.map (·.2)) (hn : ∀ i ∈ own.map (·.2), get ρ i = .nil) (ho : ∀ x, owns (ext ρ x) = owns ρ) (hj1 : ∀ j ∈ js1, j ∈ vs1) (hn1 : ∀ x, ∀ i ∈ vs1, get (ext ρ x) i = .nil) (ho1 : ∀ x y, owns (ext1 (ext ρ x) y) = owns ρ)
    (hs : ∀ x, foldedSetIterable iter X.env x = pure x := by intro _; rfl) (hs1 : ∀ env x, foldedSetIterable iter1 env x = pure x := by intro _ _; rfl) :
    PE X (.ListComp elt [⟨tg, iter, [], 0⟩, ⟨tg1, iter1, [], 0⟩] scope pos) (rdF PK pp ρ (bnd wi fun xs => flatW w1 f 0 xs) en) :=
  (pe_lc2 hc hN hi ok hv1 hg (fun _ _ _ _ _ => pts_nil) (fun s H C cl fp => ⟨fun pins s' σ H Q I ⟨x, q⟩ => (hi1 s _ C cl fp x).run pins s' σ H Q I q⟩) hg1 (fun _ _ _ _ _ => pts_nil)
    (fun s H C cl fp => ⟨fun pins s' σ H Q I ⟨z, q⟩ => (he s _ C cl fp z.1 z.2).run pins s' σ H Q I q⟩) hs hs1).weak (lc_read2 hj hn ho hj1 hn1 ho1)
end
end Dc
/-! DcI: data of any form, isinstance, keywords, lcm, constants of the module. -/
namespace Dc
open PySem PySem.Spec L2
section
variable {X : Cx} {PK : PoolK} {pp : PP} {ρ : List (Sl X.K)} {α β γ δ : Type} {e a b : Expr} {es : List Expr} {pos : Pos}
theorem xcmpG {op : CmpOp} {wa : W α} {wb : W β} {e1 : En X.K α} {e2 : En X.K β} {e3 : En X.K γ} {pre : α → β → Bool} {res : α → β → γ} (ho : OpW X (compareOp op) e1 e2 e3 pre res) (ha : PX X PK pp ρ a wa e1) (hb : PX X PK pp ρ b wb e2) (hm : behindInMarks op b = false := by first | exact nomark _ | rfl) :
    PX X PK pp ρ (.Compare a [op] [b] pos) (bnd wa fun x => bnd wb fun y => grd (pre x y) (ret (res x y))) e3 := (pe_cmpR ho ha hb hm).weak fun σ H Q ⟨O, Φ, c, S, hw, k⟩ =>
  two S hw fun x y v u H' c' p ch S' r1 r2 => ⟨_, x, y, S'.av, r1, r2, p.1, fun z H2 s r3 => k _ _ _ _ p.2 (ch.trans (.of s)) (S'.same s) r3⟩
theorem tcmpG {op : CmpOp} {wa : W α} {wb : W β} {e1 : En X.K α} {e2 : En X.K β} {pre : α → β → Bool} {res : α → β → Bool} (ho : OpW X (compareOp op) e1 e2 eB pre res) (ha : PX X PK pp ρ a wa e1) (hb : PX X PK pp ρ b wb e2) (hm : behindInMarks op b = false := by first | exact nomark _ | rfl) :
    PTX X PK pp ρ (.Compare a [op] [b] pos) (bnd wa fun x => bnd wb fun y => grd (pre x y) (ret (res x y))) := (pt_cmpR ho ha hb hm).weak fun σ H Q ⟨O, Φ, c, S, hw, k⟩ =>
  two S hw fun x y v u H' c' p ch S' r1 r2 => ⟨_, x, y, S'.av, r1, r2, p.1, fun z H2 s r3 => ⟨_, r3, k _ _ _ p.2 (ch.trans (.of s)) (S'.same s)⟩⟩
/-! ### lcm -/
def lcmOk (a b : Int) : Bool := decide ((max 1 a.natAbs).log2 < 13470) && decide ((max a.natAbs b.natAbs).log2 < 13470)
theorem c_lcm : CallW X (.builtin "math.lcm") (a2 (eI : En X.K Int) eI) eI (fun x => lcmOk x.1 x.2.1) (fun x => ((Nat.lcm x.1.natAbs x.2.1.natAbs : Nat) : Int)) := by
  rintro pins s σ H xs us Q I r ⟨pp, A, x, d, ⟨v, _, rfl, q1, u, _, rfl, q2, rfl⟩, p, k⟩
  cases (show v = V.int x.1 from q1)
  cases (show u = V.int x.2.1 from q2)
  obtain ⟨t, t', rfl⟩ := Vals.int2 r
  simp only [lcmOk, Bool.and_eq_true, decide_eq_true_eq] at p
  have hz : ((((Nat.lcm 1 x.1.natAbs).lcm x.2.1.natAbs : Nat) : Int)).natAbs.log2 < bitsLine := by
    rw [PySem.W.mc_lcm_one]
    have e : bitsLine = 134217728 := by decide
    rw [e, Int.natAbs_natCast]
    have h1 : x.1.natAbs < 2 ^ 13471 := Nat.lt_of_le_of_lt (Nat.le_trans (Nat.le_max_left _ _) (Nat.le_refl (max x.1.natAbs x.2.1.natAbs))) (by
      by_cases h0 : max x.1.natAbs x.2.1.natAbs = 0
      · rw [h0]; exact Nat.two_pow_pos _
      · exact Nat.lt_of_lt_of_le ((Nat.log2_lt h0).mp (Nat.lt_succ_self _)) (Nat.pow_le_pow_right (by decide) (by omega)))
    have h2 : x.2.1.natAbs < 2 ^ 13471 := Nat.lt_of_le_of_lt (Nat.le_trans (Nat.le_max_right _ _) (Nat.le_refl (max x.1.natAbs x.2.1.natAbs))) (by
      by_cases h0 : max x.1.natAbs x.2.1.natAbs = 0
      · rw [h0]; exact Nat.two_pow_pos _
      · exact Nat.lt_of_lt_of_le ((Nat.log2_lt h0).mp (Nat.lt_succ_self _)) (Nat.pow_le_pow_right (by decide) (by omega)))
    have h3 : Nat.lcm x.1.natAbs x.2.1.natAbs < 2 ^ 26942 := by
      refine Nat.lt_of_le_of_lt (PySem.W.mc_lcm_le _ _) ?_
      rw [show 26942 = 13471 + 13471 from rfl, Nat.pow_add]
      exact Nat.mul_lt_mul'' h1 h2
    by_cases h0 : Nat.lcm x.1.natAbs x.2.1.natAbs = 0
    · rw [h0, Nat.log2_zero]; decide
    · exact Nat.lt_of_lt_of_le ((Nat.log2_lt h0).mpr h3) (by decide)
  refine call_function_meets PySem.W.MGF.kind_lcm PySem.W.MGF.plain_lcm PySem.W.MGF.entry_lcm (PySem.W.MGF.args_lcm _ _) (PySem.W.mg_run_lcm x.1 t x.2.1 t' (by have := p.1; omega) (by have := p.2; omega) hz).meets ?_
  rw [PySem.W.mc_lcm_one]
  exact ⟨.int _, H, I.tok _, ⟨_, rfl⟩, k _ _ (.refl _) rfl⟩

/-! ### data of any form -/
mutual
def toP : D → PyData
  | .non => .none
  | .bl b => .bool b
  | .int i => .int i
  | .str s => .str s
  | .lst ds => .list (toPs ds)
  | .tup ds => .tuple (toPs ds)
def toPs : List D → List PyData
  | [] => []
  | d :: ds => toP d :: toPs ds
end
mutual
theorem rD_dp {K : PySem.W.Frag} {O : AS} {H : Hp} : ∀ {v : V} (d : D), rD K O H v d → Dp K H v (toP d)
  | _, .non, h => by rw [show _ = _ from h]; exact .non
  | _, .bl _, h => by rw [show _ = _ from h]; exact .bl _
  | _, .int _, h => by rw [show _ = _ from h]; exact .int _
  | _, .str _, h => by rw [show _ = _ from h]; exact .str _
  | _, .lst ds, h => by
    obtain ⟨a, vs, e, l, r⟩ := (by simpa only [rD] using h : ∃ a vs, _)
    rw [e]
    exact .lst l.sq (rDs_dp ds r)
  | _, .tup ds, h => by
    obtain ⟨a, vs, e, l, r⟩ := (by simpa only [rD] using h : ∃ a vs, _)
    rw [e]
    exact .tup l.sq (rDs_dp ds r)
theorem rDs_dp {K : PySem.W.Frag} {O : AS} {H : Hp} : ∀ {vs : List V} (ds : List D), rDs K O H vs ds → DpAll K H vs (toPs ds)
  | _, [], h => by rw [show _ = _ from h]; exact .nil
  | _, d :: ds, h => by
    obtain ⟨v, r, e, p, q⟩ := (by simpa only [rDs] using h : ∃ v r, _)
    rw [e]
    exact .cons (rD_dp d p) (rDs_dp ds q)
end
theorem w_eqDD (hu : X.A.units + 64 < cLine) : OpW X (compareOp .Eq) (eD : En X.K D) eD eB (fun x y => SeqAt.shaped (toP x) && SeqAt.shaped (toP y)) (fun x y => PyData.eqv (toP x) (toP y)) := by
  intro pins s σ H x y v u Q I rx ry ⟨A, a, b, _, r1, r2, p, k⟩
  rw [Bool.and_eq_true] at p
  exact op_eqD hu pins s σ H x y v u Q I rx ry ⟨_, _, rD_dp a r1, rD_dp b r2, p.1, p.2, k _ _ (.refl _) rfl⟩
/-- a value told as data -/
structure ToD {K : PySem.W.Frag} {α : Type} (en : En K α) (to : α → D) : Prop where
  d : ∀ {O : AS} {H : Hp} {v : V} {x : α}, en.r O H v x → rD K O H v (to x)
theorem tdI {K : PySem.W.Frag} : ToD (eI : En K Int) .int := ⟨fun h => h⟩
theorem tdB {K : PySem.W.Frag} : ToD (eB : En K Bool) .bl := ⟨fun h => h⟩
theorem tdS {K : PySem.W.Frag} : ToD (eS : En K Str) .str := ⟨fun h => h⟩
theorem tdU {K : PySem.W.Frag} : ToD (eU : En K Unit) (fun _ => .non) := ⟨fun h => h⟩
theorem tdAll {K : PySem.W.Frag} {en : En K α} {to : α → D} (d : ToD en to) {O : AS} {H : Hp} {vs : List V} {xs : List α} (f : F2 (en.r O H) vs xs) : rDs K O H vs (xs.map to) := by
  induction f with
  | nil => rfl
  | cons r _ ih => exact ⟨_, _, rfl, d.d r, ih⟩
theorem tdL {K : PySem.W.Frag} {en : En K α} {to : α → D} (d : ToD en to) : ToD (eL en) (fun xs => .lst (xs.map to)) := ⟨fun ⟨a, vs, e, l, f⟩ => ⟨a, vs, e, l, tdAll d f⟩⟩
theorem tdP {K : PySem.W.Frag} {e1 : En K α} {e2 : En K β} {to : α → D} {to2 : β → D} (d : ToD e1 to) (d2 : ToD e2 to2) : ToD (eP e1 e2) (fun x => .tup [to x.1, to2 x.2]) := ⟨fun ⟨a, u, w, e, t, q1, q2⟩ => ⟨a, [u, w], e, t, _, _, rfl, d.d q1, _, _, rfl, d2.d q2, rfl⟩⟩
theorem tdO {K : PySem.W.Frag} {en : En K α} {to : α → D} (d : ToD en to) : ToD (eO en) (fun x => match x with | none => .non | some y => to y) := ⟨fun {O H v x} h => by
  cases x with
  | none => exact h
  | some y => exact d.d h.1⟩
theorem xD {w : W α} {en : En X.K α} {to : α → D} (d : ToD en to) (h : PX X PK pp ρ e w en) : PX X PK pp ρ e (bnd w fun x => ret (to x)) eD :=
  h.weak fun σ H Q ⟨O, Φ, c, S, hw, k⟩ => ⟨O, _, c, S, hw, fun x v H' c' p ch S' r => k _ v H' c' p ch S' (d.d r)⟩
def nonD : D → Bool
  | .non => true
  | _ => false
theorem xisND {j pos'} {w : W D} (h : PX X PK pp ρ a w eD) : PX X PK pp ρ (.Compare a [.Is] [.Constant .none j pos'] pos) (bnd w fun x => ret (nonD x)) eB :=
  (pe_cmp (pc_isN h)).weak fun σ H Q ⟨O, Φ, c, S, hw, k⟩ => ⟨O, _, c, S, hw, fun x v H' c' p ch S' r => by
    have hr : rD X.K (Av O pp ρ) H' v x := r
    cases x with
    | non => rw [show v = .non from hr]; exact k _ _ H' c' p ch S' rfl
    | bl y => rw [show v = _ from hr]; exact k _ _ H' c' p ch S' rfl
    | int y => rw [show v = _ from hr]; exact k _ _ H' c' p ch S' rfl
    | str y => rw [show v = _ from hr]; exact k _ _ H' c' p ch S' rfl
    | lst ds =>
      obtain ⟨a, vs, e, _⟩ := (by simpa only [rD] using hr : ∃ a vs, _)
      rw [e]; exact k _ _ H' c' p ch S' rfl
    | tup ds =>
      obtain ⟨a, vs, e, _⟩ := (by simpa only [rD] using hr : ∃ a vs, _)
      rw [e]; exact k _ _ H' c' p ch S' rfl⟩
def tyD : D → String
  | .non => "NoneType"
  | .bl _ => "bool"
  | .int _ => "int"
  | .str _ => "str"
  | .lst _ => "list"
  | .tup _ => "tuple"
theorem rD_ty {K : PySem.W.Frag} {O : AS} {H : Hp} {v : V} (d : D) (h : rD K O H v d) : TyX K H v (.type (tyD d)) := by
  cases d with
  | non => rw [show _ = _ from h]; exact .base .non
  | bl _ => rw [show _ = _ from h]; exact .base (.bl _)
  | int _ => rw [show _ = _ from h]; exact .base (.int _)
  | str _ => rw [show _ = _ from h]; exact .base (.str _)
  | lst ds =>
    obtain ⟨a, vs, e, l, _⟩ := (by simpa only [rD] using h : ∃ a vs, _)
    rw [e]; exact .base (.lst l.2)
  | tup ds =>
    obtain ⟨a, vs, e, l, _⟩ := (by simpa only [rD] using h : ∃ a vs, _)
    rw [e]
    rcases l with ⟨_, l | ⟨o, l⟩⟩ | ⟨o, its, n, l, ct, _⟩
    · exact .base (.tup l)
    · exact .fTuple l
    · exact .kTuple l ct
def isD (c : String) (d : D) : Bool := match d, c with
  | .bl _, "bool" => true | .bl _, "int" => true | .int _, "int" => true | .str _, "str" => true | .lst _, "list" => true | .tup _, "tuple" => true | _, _ => false
def isT (t c : String) : Bool := t == c || (t == "bool" && c == "int")
def tys : List String := ["NoneType", "bool", "int", "str", "list", "tuple"]
theorem isT_ok : (tys.all fun t => ["bool", "int", "str", "list", "tuple", "dict"].all fun c => decide (kitB t c = some (isT t c))) = true := by decide +kernel
theorem isD_ok {c : String} (h : c ∈ ["bool", "int", "str", "list", "tuple", "dict"]) (d : D) : kitB (tyD d) c = some (isD c d) := by
  have e : isD c d = isT (tyD d) c := by
    simp only [List.mem_cons, List.not_mem_nil, or_false] at h
    rcases h with rfl | rfl | rfl | rfl | rfl | rfl <;> cases d <;> rfl
  rw [e]
  have h1 : tyD d ∈ tys := by cases d <;> simp [tyD, tys]
  exact of_decide_eq_true (List.all_eq_true.mp (List.all_eq_true.mp isT_ok _ h1) _ h)
/-- isinstance(e, list), .. -/
theorem xisi {cn : Str} {c : String} {p p2 : Pos} {w : W D} (hm : X.mg "isinstance" = none) (hmc : X.mg cn = none) (hvc : bootBuiltins cn = some (.type c)) (hc : c ∈ ["bool", "int", "str", "list", "tuple", "dict"]) (h : PX X PK pp ρ a w eD) (hg : Gl X "isinstance" := by rfl) (hgc : Gl X cn := by rfl)
    (hn : cn ≠ "__name__" := by decide) (hdb : (cn == ("__debug__" : Str)) = false := by decide)
    (he : starEach [a, .Name cn p2] X.env = (false, eval a X.env) :: starEach [.Name cn p2] X.env := by rfl) (he2 : starEach [.Name cn p2] X.env = (false, eval (.Name cn p2) X.env) :: starEach [] X.env := by rfl) (hpl : (backTo pos (starEach [.Name cn p2] X.env)).any (·.1) = false := by rfl) :
    PX X PK pp ρ (.Call (.Name "isinstance" p) [a, .Name cn p2] [] pos) (bnd w fun x => ret (isD c x)) eB :=
  (pe_callB call_isi hg hm (by decide +kernel) (pa_cons h (pa_cons (pe_bltn (v := .ty c) hgc hmc hvc rfl hn hdb) pa_nil he2) he) (by decide) (by decide) he hpl).weak fun σ H Q ⟨O, Φ, c0, S, hw, k⟩ => ⟨O, _, c0, S, hw, fun x v H' c' p ch S' r =>
    ⟨v, .ty c, _, _, _, rfl, .ty c, rD_ty x r, kit_ty (isD_ok hc x), k _ _ H' c' p ch S' rfl⟩⟩
theorem kitAny_D {K : PySem.W.Frag} {d : D} {c1 c2 : String} (h1 : c1 ∈ ["bool", "int", "str", "list", "tuple", "dict"]) (h2 : c2 ∈ ["bool", "int", "str", "list", "tuple", "dict"]) : PySem.W.kitAny K (.type (tyD d)) [.type c1, .type c2] = some (isD c1 d || isD c2 d) := by
  refine kitAny_cons (kit_ty (isD_ok h1 d)) (fun q => ?_) (fun q => by rw [q]; rfl)
  rw [q, Bool.false_or]
  exact kitAny_cons (kit_ty (isD_ok h2 d)) (fun q => by rw [q]; exact kitAny_nil) fun q => q
theorem xisi2 {cn cn2 : Str} {c c2 : String} {k1} {p p2 p3 p4 : Pos} {w : W D} (hm : X.mg "isinstance" = none) (hmc : X.mg cn = none) (hvc : bootBuiltins cn = some (.type c)) (hc : c ∈ ["bool", "int", "str", "list", "tuple", "dict"]) (hmc2 : X.mg cn2 = none) (hvc2 : bootBuiltins cn2 = some (.type c2)) (hc2 : c2 ∈ ["bool", "int", "str", "list", "tuple", "dict"]) (h : PX X PK pp ρ a w eD)
    (hg : Gl X "isinstance" := by rfl) (hgc : Gl X cn := by rfl) (hgc2 : Gl X cn2 := by rfl) (hn : cn ≠ "__name__" := by decide) (hdb : (cn == ("__debug__" : Str)) = false := by decide) (hn2 : cn2 ≠ "__name__" := by decide) (hdb2 : (cn2 == ("__debug__" : Str)) = false := by decide)
    (he : starEach [a, .Tuple [.Name cn p2, .Name cn2 p3] k1 p4] X.env = (false, eval a X.env) :: starEach [.Tuple [.Name cn p2, .Name cn2 p3] k1 p4] X.env := by rfl) (he2 : starEach [.Tuple [.Name cn p2, .Name cn2 p3] k1 p4] X.env = (false, eval (.Tuple [.Name cn p2, .Name cn2 p3] k1 p4) X.env) :: starEach [] X.env := by rfl)
    (hs1 : starEach [Expr.Name cn p2, Expr.Name cn2 p3] X.env = (false, eval (.Name cn p2) X.env) :: starEach [Expr.Name cn2 p3] X.env := by rfl) (hs2 : starEach [Expr.Name cn2 p3] X.env = (false, eval (.Name cn2 p3) X.env) :: starEach [] X.env := by rfl)
    (hpl : (backTo pos (starEach [.Tuple [.Name cn p2, .Name cn2 p3] k1 p4] X.env)).any (·.1) = false := by rfl) :
    PX X PK pp ρ (.Call (.Name "isinstance" p) [a, .Tuple [.Name cn p2, .Name cn2 p3] k1 p4] [] pos) (bnd w fun x => ret (isD c x || isD c2 x)) eB :=
  (pe_callB call_isiT hg hm (by decide +kernel) (pa_cons h (pa_cons (pe_tup (pa_cons (pe_bltn (v := .ty c) hgc hmc hvc rfl hn hdb) (pa_cons (pe_bltn (v := .ty c2) hgc2 hmc2 hvc2 rfl hn2 hdb2) pa_nil hs2) hs1)) pa_nil he2) he) (by decide) (by decide) he hpl).weak fun σ H Q ⟨O, Φ, c0, S, hw, k⟩ => ⟨O, _, c0, S, hw, fun x v H' c' p ch S' r => by
    refine ⟨by show 2 ≤ sizeLine; decide, fun q nq => ?_⟩
    have s := same_new (o := .tup [.ty c, .ty c2]) nq
    exact ⟨v, q, _, _, _, _, rfl, upd_same, .cons (.ty c) (.cons (.ty c2) .nil), rD_ty x (rD.mono (Mv.same s) x r), kitAny_D hc hc2, k _ _ _ c' p (ch.trans (.of s)) (S'.same s) rfl⟩⟩
/-- len(d), d[i] -/
def lenD : D → Nat
  | .lst ds => ds.length
  | .tup ds => ds.length
  | _ => 0
def seqD : D → Bool
  | .lst _ => true
  | .tup _ => true
  | _ => false
def itemsD : D → List D
  | .lst ds => ds
  | .tup ds => ds
  | _ => []
theorem rDs_F2 {K : PySem.W.Frag} {O : AS} {H : Hp} : ∀ {vs : List V} {ds : List D}, rDs K O H vs ds → F2 (rD K O H) vs ds
  | _, [], h => by rw [show _ = _ from h]; exact .nil
  | _, d :: ds, h => by
    obtain ⟨v, r, e, p, q⟩ := (by simpa only [rDs] using h : ∃ v r, _)
    rw [e]; exact .cons p (rDs_F2 q)
theorem rD_seq {K : PySem.W.Frag} {O : AS} {H : Hp} {v : V} (d : D) (hs : seqD d = true) (h : rD K O H v d) : ∃ a vs, v = .ref a ∧ (SqL K H a vs ∨ SqT K H a vs) ∧ F2 (rD K O H) vs (itemsD d) := by
  cases d with
  | lst ds =>
    obtain ⟨a, vs, e, l, r⟩ := (by simpa only [rD] using h : ∃ a vs, _)
    exact ⟨a, vs, e, .inl l.sq, rDs_F2 r⟩
  | tup ds =>
    obtain ⟨a, vs, e, l, r⟩ := (by simpa only [rD] using h : ∃ a vs, _)
    exact ⟨a, vs, e, .inr l.sq, rDs_F2 r⟩
  | _ => cases hs
theorem c_lenD : CallW X (.builtin "len") (a1 (eD : En X.K D)) eI (fun x => seqD x.1) (fun x => ((itemsD x.1).length : Int)) := by
  rintro pins s σ H xs us Q I r ⟨pp, A, x, _, ⟨v, _, rfl, q, rfl⟩, p, k⟩
  obtain ⟨a, vs, rfl, l, f⟩ := rD_seq x.1 p q
  exact call_len_seq pins s σ H _ us Q I r ⟨a, vs, rfl, l, k _ _ (.refl _) (by rw [f.length]; rfl)⟩
instance : Inhabited D := ⟨.non⟩
theorem w_ixD : IxW X (eD : En X.K D) eI eD (fun x i => seqD x && ixOk (itemsD x) i) (fun x i => ixAt (itemsD x) i) := by
  intro va sl pins s σ H x y v u Q I rx ry ⟨A, d, i, _, r1, r2, p, k⟩ hs
  rw [Bool.and_eq_true] at p
  obtain ⟨a, vs, e1, l, f⟩ := rD_seq d p.1 r1
  obtain ⟨j, hj⟩ := Option.isSome_iff_exists.mp p.2
  have hlt := ixN_lt hj
  obtain ⟨v1, g, rv⟩ := f.get (List.getElem?_eq_getElem hlt)
  have hat : atI vs i = some v1 := by
    unfold atI
    rw [f.length, hj]
    exact g
  have hq : Q v1 H := k _ (by
    show rD X.K A H v1 ((itemsD d).getD ((ixN (itemsD d).length i).getD 0) default)
    rw [hj, Option.getD_some, List.getD_eq_getElem?_getD, List.getElem?_eq_getElem hlt]
    exact rv)
  rcases l with l | l
  · exact ix_list va sl pins s σ H x y v u Q I rx ry ⟨a, vs, i, v1, e1, r2, l, hat, hq⟩ hs
  · exact ix_tup va sl pins s σ H x y v u Q I rx ry ⟨a, vs, i, v1, e1, r2, l, hat, hq⟩ hs

/-! ### keywords alone -/
abbrev PKX (X : Cx) (PK : PoolK) (pp : PP) (ρ : List (Sl X.K)) (kws : List Keyword) (w : W α) (en : EA X.K α) : Prop := L2.PK X kws (rdA PK pp ρ w en)
theorem _root_.L2.PK.weak {X : Cx} {e : List Keyword} {t t' : TA} (h : L2.PK X e t) (f : ∀ σ H Q, t' σ H Q → t σ H Q) : L2.PK X e t' := ⟨fun pos pins s σ H Q I q => h.run pos pins s σ H Q I (f σ H Q q)⟩
theorem kxn : PKX X PK pp ρ [] (ret ()) aN := (pk_nil).weak fun σ H Q ⟨O, Φ, c, S, hw, k⟩ => k () [] H c hw .refl S rfl
theorem kxc {kws : List Keyword} {nm : Option Str} {kpos : Pos} {w : W α} {u : W β} {en : En X.K α} {ea : EA X.K β} (h : PX X PK pp ρ e w en) (h2 : PKX X PK pp ρ kws u ea) :
    PKX X PK pp ρ (⟨nm, e, kpos⟩ :: kws) (bnd w fun x => bnd u fun y => ret (x, y)) (aC en ea) := (pk_cons h h2).weak fun σ H Q ⟨O, Φ, c, S, hw, k⟩ =>
  ⟨O, _, c, S, hw, fun x v H1 c1 p1 ch1 S1 r1 => ⟨O, _, c1, S1, p1, fun y u H2 c2 p2 ch2 S2 r2 => k _ _ H2 c2 p2 (ch1.trans ch2) S2 ⟨v, u, rfl, en.mono ch2.mv r1, r2⟩⟩⟩
theorem pe_callK0 {CX : CXT} {k : Nat} {f : Addr} {fd : FuncData} {ps ks : List Str} {sp : Sp} {E : XK} {x : Str} {p : Pos} {kws : List Keyword} {tk : TA} {g : List Value → List Value → List Value} {gV : List V → List V → List V} (F : FnOk X.prog X.w X.K X.mg X.base CX k f fd ps sp) (hr : Room k X.A) (hg : Gl X x) (hm : X.mg x = some (.ref f)) (hk : PySem.W.keepIn X.K (.ref f) = true) (hb : KBinds X.K fd ps ks g gV) (hx : Passes CX X E)
    (hkw : L2.PK X kws tk) (hall : (backToKw pos (keywordEach kws X.env)).all (·.1.isSome) = true := by rfl) (hks : (backToKw pos (keywordEach kws X.env)).filterMap (·.1) = ks := by rfl) (hdb : (x == ("__debug__" : Str)) = false := by decide)
    (hpl : ((backTo pos (starEach [] X.env)).any (·.1) || (backToKw pos (keywordEach kws X.env)).any (·.1.isNone)) = false := by rfl) : PE X (.Call (.Name x p) [] kws pos) (tCallK sp gV E tNil tk) := by
  refine ⟨fun pins s σ H Q I h => ?_⟩
  refine wpAny_Call_Name_kw (ld_glob I hg hm ?_ hdb)
  refine PySem.W.callWith_KW0 (h₀ := X.base) I.ok.mod.kin hk hall (thn (hkw.run pos pins s σ H _ I h) fun ws s2 ⟨zs, H2, I2, rz, q2⟩ => ⟨I2.kIn, ?_⟩) hpl
  rw [hks]
  exact run_fnk F hr hb hx I2 (.nil) rz q2
/-- f(k = v, ..): pm puts what the keywords hold in the parameters' order -/
theorem xcallK {k : Nat} {f : Addr} {fd : FuncData} {ps ks : List Str} {x : Str} {p : Pos} {kws : List Keyword} {ea : EA X.K α} {ek : EA X.K δ} {er : En X.K β} {fw : α → W β} {wa : W δ} {g : List Value → List Value → List Value} {gV : List V → List V → List V} (pm : δ → α) (F : FnOk X.prog X.w X.K X.mg X.base CX0 k f fd ps (spW PK ea fw er)) (hr : Room k X.A) (hm : X.mg x = some (.ref f)) (hk : PySem.W.keepIn X.K (.ref f) = true)
    (hb : KBinds X.K fd ps ks g gV) (ha : PKX X PK pp ρ kws wa ek) (hpm : ∀ {pp O H zs y}, ek.r pp O H zs y → ea.r pp O H (gV [] zs) (pm y)) (hg : Gl X x := by rfl) (hall : (backToKw pos (keywordEach kws X.env)).all (·.1.isSome) = true := by rfl) (hks : (backToKw pos (keywordEach kws X.env)).filterMap (·.1) = ks := by rfl)
    (hdb : (x == ("__debug__" : Str)) = false := by decide) (hpl : ((backTo pos (starEach [] X.env)).any (·.1) || (backToKw pos (keywordEach kws X.env)).any (·.1.isNone)) = false := by rfl) : PX X PK pp ρ (.Call (.Name x p) [] kws pos) (bnd wa fun y => fw (pm y)) er :=
  (pe_callK0 F hr hg hm hk hb pass0 ha hall hks hdb hpl).weak fun σ H Q ⟨O, Φ, c, S, hw, kk⟩ => ⟨O, _, c, S, hw, fun y vs H1 c1 p1 ch1 S1 r1 =>
    ⟨pp, Av O pp ρ, pm y, Φ, c1, S1.av, fun a h => .inr (.inl h), S1.pool, hpm r1, p1, fun z v H2 c2 p2 ch2 pl2 rz => kk z v H2 c2 p2 (ch1.trans ch2) (S1.chg ch2 pl2) rz⟩⟩
/-! ### numbers of the module -/
theorem kTup_en {K : PySem.W.Frag} {a : Addr} {i j : Int} (h : kTup K a [.int i, .int j]) (O : AS) (H : Hp) : (eN : En K (Int × Int)).r O H (.ref a) (i, j) := ⟨a, _, _, rfl, .inr h, rfl, rfl⟩
end
end Dc
/-! DcP: the pool of draws of the first laws: [great cells, figures left, mark, draws so far]. -/
namespace Dc
open PySem PySem.Spec L2
/-- the pool's state: all that bounds ask -/
def poolA : PoolK where
  r H a b c := ∃ (gs : List Int) (f m d : Int), H a = some (.lst [.ref b, .int f, .int m, .int d]) ∧ H b = some (.lst (gs.map V.int)) ∧ a ≠ b ∧ (∀ g ∈ gs, 0 ≤ g) ∧ 0 ≤ f ∧ 0 ≤ m ∧ m ≤ 10 ^ 30 ∧ 0 ≤ d ∧ d ≤ c
  keep := fun {H H' a b c} ha hb ⟨gs, f, m, d, e1, e2, z⟩ => ⟨gs, f, m, d, ha.trans e1, hb.trans e2, z⟩
  dom := fun {H a b c} ⟨gs, f, m, d, e1, e2, z⟩ => ⟨by rw [e1]; simp, by rw [e2]; simp⟩
/-- a draw: any number below many -/
def pickW (many : Int) : W Int := fun Φ _ c => (0 < many ∧ many.natAbs.log2 < 9000 ∧ c < 2 ^ 1000) ∧ ∀ k, 0 ≤ k → k < many → Φ k (c + 1)
theorem bits_lt {i : Int} {n : Nat} (h : i.natAbs < 2 ^ n) : Builtin.Int.intBits i ≤ n := by
  unfold Builtin.Int.intBits
  split
  · exact Nat.zero_le _
  · have : i.natAbs.log2 < n := (Nat.log2_lt (by simp_all)).mpr h
    omega
section
variable {P : Program} {w : World} {K : PySem.W.Frag} {mg : Str → Option Value} {base : Heap}
theorem big_lt {x m d : Int} {c : Nat} (hc : c < 2 ^ 1000) (d0 : 0 ≤ d) (d1 : d ≤ (c : Int)) (m0 : 0 ≤ m) (m1 : m ≤ 10 ^ 40) {q : Int} (q0 : 0 ≤ q) (q1 : q ≤ 2 ^ 20) (e : x = m + q * (d + 1)) : x.natAbs < 2 ^ 1030 := by
  have h1 : (c : Int) < 2 ^ 1000 := by exact_mod_cast hc
  have e1 : (2 : Int) ^ 1030 = 2 ^ 1000 * 1073741824 := by decide +kernel
  have e2 : (10 : Int) ^ 40 ≤ 2 ^ 1000 := by decide +kernel
  have e3 : (2 : Int) ^ 20 = 1048576 := by decide
  have h3 : q * (d + 1) ≤ 1048576 * (d + 1) := Int.mul_le_mul_of_nonneg_right (by omega) (by omega)
  have h4 : 0 ≤ q * (d + 1) := Int.mul_nonneg q0 (by omega)
  have h5 : x < 2 ^ 1030 := by
    rw [e1]
    generalize (2 : Int) ^ 1000 = z at *
    generalize q * (d + 1) = y at *
    omega
  have h6 : 0 ≤ x := by omega
  have : ((x.natAbs : Nat) : Int) < ((2 ^ 1030 : Nat) : Int) := by
    rw [Int.natAbs_of_nonneg h6]
    exact_mod_cast h5
  exact_mod_cast this
end
section
variable {K : PySem.W.Frag}
theorem dpInts {H : Hp} : ∀ gs : List Int, DpAll K H (gs.map V.int) (gs.map PyData.int)
  | [] => .nil
  | g :: r => .cons (.int g) (dpInts r)
theorem layInts : ∀ gs : List Int, PyData.canLayAll0 (gs.map PyData.int) = true
  | [] => rfl
  | g :: r => by
    show (PyData.canLay0 (.int g) && PyData.canLayAll0 (r.map PyData.int)) = true
    rw [layInts r]
    rfl
theorem depInts : ∀ gs : List Int, PyData.depthAll (gs.map PyData.int) = 0
  | [] => rfl
  | g :: r => by
    show max (PyData.depth (.int g)) (PyData.depthAll (r.map PyData.int)) = 0
    rw [depInts r]
    rfl
theorem shInts (gs : List Int) : SeqAt.shaped (.list (gs.map PyData.int)) = true := by
  have h1 : PyData.canLay0 (.list (gs.map PyData.int)) = true := layInts gs
  have h2 : PyData.depth (.list (gs.map PyData.int)) = 1 := by
    show PyData.depthAll (gs.map PyData.int) + 1 = 1
    rw [depInts]
  unfold SeqAt.shaped
  rw [h1, h2]
  rfl
/-- the pool as it stands -/
def PoolSt (a b : Addr) (m d : Int) (gs : List Int) (f : Int) (H : Hp) : Prop := H a = some (.lst [.ref b, .int f, .int m, .int d]) ∧ H b = some (.lst (gs.map V.int)) ∧ a ≠ b ∧ (∀ g ∈ gs, 0 ≤ g) ∧ 0 ≤ f
theorem pool_while {X : Cx} {st : Stmt} {u : X.A.units + 64 < cLine} {tc : TT} {tb : TS} (h : PS X st (tWhile tc tb)) {a b : Addr} {m d : Int} {x : Int}
    (hstep : ∀ gs f H1, PoolSt a b m d gs f H1 → ∀ (R : Bool → Hp → Prop), (∀ H2, Same H1 H2 → R (decide (f = 0) && !gs.isEmpty) H2) → tc [some (.ref a), some (.int x), none, none] H1 R)
    (hbody : ∀ g gs f H1 (D : Ends), PoolSt a b m d (g :: gs) f H1 → (∀ H2, PoolSt a b m d gs g H2 → Chg (some (a, b)) H1 H2 → D.nx [some (.ref a), some (.int x), none, none] H2) → tb D [some (.ref a), some (.int x), none, none] H1) :
    PS X st (fun D σ H => σ = [some (.ref a), some (.int x), none, none] ∧ ∃ gs f, PoolSt a b m d gs f H ∧ ∀ gs f H2, PoolSt a b m d gs f H2 → Chg (some (a, b)) H H2 → D.nx σ H2) := h.weak fun D σ H ⟨hs, gs, f, hp, k⟩ => by
  subst hs
  refine ⟨fun n σ H1 => σ = [some (.ref a), some (.int x), none, none] ∧ ∃ gs f, n = gs.length ∧ PoolSt a b m d gs f H1 ∧ Chg (some (a, b)) H H1, ⟨_, rfl, gs, f, rfl, hp, .refl⟩, ?_⟩
  rintro n σ H1 ⟨rfl, gs, f, rfl, hp1, ch⟩
  refine hstep gs f H1 hp1 _ fun H2 s2 => ?_
  have hp2 : PoolSt a b m d gs f H2 := ⟨s2 _ _ hp1.1, s2 _ _ hp1.2.1, hp1.2.2⟩
  have ch2 : Chg (some (a, b)) H H2 := ch.trans (.of s2)
  cases gs with
  | nil =>
    rw [List.isEmpty_nil, Bool.not_true, Bool.and_false, if_neg Bool.false_ne_true]
    exact k [] f H2 hp2 ch2
  | cons g gs =>
    by_cases e : f = 0
    · rw [if_pos (by simp [e])]
      refine ⟨fun σ H3 => σ = [some (.ref a), some (.int x), none, none] ∧ PoolSt a b m d gs g H3 ∧ Chg (some (a, b)) H H3, fun σ H3 ⟨q1, q2, q3⟩ => ⟨gs.length, by simp, q1, gs, g, rfl, q2, q3⟩, ?_⟩
      exact hbody g gs f H2 _ hp2 fun H3 p3 c3 => ⟨rfl, p3, ch2.trans c3⟩
    · rw [if_neg (by simp [e])]
      exact k _ f H2 hp2 ch2
/-- the pool made of the script -/
def spPool (K : PySem.W.Frag) : Sp := fun vs H Q _ => ∃ (a : Addr) (ns : List Int), vs = [.ref a] ∧ SqL K H a (ns.map V.int) ∧ ns.length ≤ 63 ∧ ∀ H' p b, Same H H' → H p = none → H b = none → poolA.r H' p b 0 → Q (.ref p) H'
end
end Dc
/-! DcQ: the forms that dc.py writes. -/
namespace Dc
open PySem PySem.Spec L2
section
variable {X : Cx} {PK : PoolK} {pp : PP} {ρ : List (Sl X.K)} {α β γ δ : Type} {e a b : Expr} {pos : Pos}
theorem nil1 {i : Nat} (h : get ρ i = .nil) : ∀ k ∈ [i], get ρ k = .nil := fun k hk => by
  have e : k = i := by simpa using hk
  rw [e]; exact h
theorem nil2 {i j : Nat} (h : get ρ i = .nil) (h2 : get ρ j = .nil) : ∀ k ∈ [i, j], get ρ k = .nil := fun k hk => by
  rcases List.mem_cons.mp hk with e | hk
  · rw [e]; exact h
  · have e : k = j := by simpa using hk
    rw [e]; exact h2
theorem nil3 {i j l : Nat} (h : get ρ i = .nil) (h2 : get ρ j = .nil) (h3 : get ρ l = .nil) : ∀ k ∈ [i, j, l], get ρ k = .nil := fun k hk => by
  rcases List.mem_cons.mp hk with e | hk
  · rw [e]; exact h
  · exact nil2 h2 h3 k hk
/-- the slots, written out -/
theorem re {ss : List Stmt} {w : W (Fl γ δ β)} {ρ' : γ → List (Sl X.K)} {ρl : δ → List (Sl X.K)} {er : En X.K β} (ρ1 : List (Sl X.K)) (h : ρ = ρ1) (k : PSX X PK pp ρ1 ss w ρ' ρl er) : PSX X PK pp ρ ss w ρ' ρl er := by
  rw [h]; exact k
/-- if, the branch leaves -/
theorem nif0 {c : Expr} {a : List Stmt} {w : W Bool} {u : W (Fl Unit δ β)} {ρl : δ → List (Sl X.K)} {er : En X.K β} (hc : PTX X PK pp ρ c w) (ha : PSX X PK pp ρ a u (fun _ : Unit => ρ) ρl er) :
    PS X (.If c a [] pos) (rdS PK pp ρ (bnd w fun x => ite x u (ret (Fl.nx ()))) (fun _ : Unit => ρ) ρl er) := nif hc ha (snil Fit.refl)
theorem nifJ (F : List (Sl X.K) → γ → List (Sl X.K)) {c : Expr} {a b : List Stmt} {w : W Bool} {u v : W (Fl γ δ β)} {ρl : δ → List (Sl X.K)} {er : En X.K β} (hc : PTX X PK pp ρ c w) (ha : PSX X PK pp ρ a u (F ρ) ρl er) (hb : PSX X PK pp ρ b v (F ρ) ρl er) :
    PS X (.If c a b pos) (rdS PK pp ρ (bnd w fun x => ite x u v) (F ρ) ρl er) := nif hc ha hb
theorem nforJ (F : List (Sl X.K) → γ → List (Sl X.K)) {iter tg : Expr} {body : List Stmt} {wi : W (List α)} {ext : List (Sl X.K) → α → List (Sl X.K)} {js : List Nat} {g : TG} {f : γ → α → W (Fl γ γ β)} {ρl : δ → List (Sl X.K)} {er : En X.K β} {s0 : γ}
    (hp : PassesOwn (model X.prog X.w) X.A X.env X.xe) (hc : X.calm = true) (hi : PI X tg iter (rdI PK pp ρ wi ext js g)) (hg : PG X tg g) (hf : Fit ρ (F ρ s0)) (hb : ∀ s x, PSX X PK pp (ext (F ρ s) x) body (f s x) (F ρ) (F ρ) er)
    (hs : ∀ x, foldedSetIterable iter X.env x = pure x := by intro _; rfl) : PS X (.For tg iter body [] pos) (rdS PK pp ρ (bnd wi fun xs => forW f s0 xs) (F ρ) ρl er) := nfor hp hc hi hg hf hb hs
theorem nwhileJ (F : List (Sl X.K) → γ → List (Sl X.K)) {c : Expr} {body : List Stmt} {t : γ → W Bool} {f : γ → W (Fl γ γ β)} {ρl : δ → List (Sl X.K)} {er : En X.K β} {s0 : γ} (fuel : Nat)
    (hp : PassesOwn (model X.prog X.w) X.A X.env X.xe) (hf : Fit ρ (F ρ s0)) (ht : ∀ s, PTX X PK pp (F ρ s) c (t s)) (hb : ∀ s, PSX X PK pp (F ρ s) body (f s) (F ρ) (F ρ) er) :
    PS X (.While c body [] pos) (rdS PK pp ρ (whW t f fuel s0) (F ρ) ρl er) := nwhile fuel hp hf ht hb
/-- x is None, as a test -/
theorem tisND {j pos'} {w : W D} (h : PX X PK pp ρ a w eD) : PTX X PK pp ρ (.Compare a [.Is] [.Constant .none j pos'] pos) (bnd w fun x => ret (nonD x)) :=
  (pt_cmp (pc_isN h)).weak fun σ H Q ⟨O, Φ, c, S, hw, k⟩ => ⟨O, _, c, S, hw, fun x v H' c' p ch S' r => by
    have hr : rD X.K (Av O pp ρ) H' v x := r
    cases x with
    | non => rw [show v = .non from hr]; exact ⟨_, rfl, k _ _ c' p ch S'⟩
    | bl y => rw [show v = _ from hr]; exact ⟨_, rfl, k _ _ c' p ch S'⟩
    | int y => rw [show v = _ from hr]; exact ⟨_, rfl, k _ _ c' p ch S'⟩
    | str y => rw [show v = _ from hr]; exact ⟨_, rfl, k _ _ c' p ch S'⟩
    | lst ds =>
      obtain ⟨a, vs, e, _⟩ := (by simpa only [rD] using hr : ∃ a vs, _)
      rw [e]; exact ⟨_, rfl, k _ _ c' p ch S'⟩
    | tup ds =>
      obtain ⟨a, vs, e, _⟩ := (by simpa only [rD] using hr : ∃ a vs, _)
      rw [e]; exact ⟨_, rfl, k _ _ c' p ch S'⟩⟩
theorem tisN {j pos'} {w : W (Option α)} {en : En X.K α} (h : PX X PK pp ρ a w (eO en)) : PTX X PK pp ρ (.Compare a [.Is] [.Constant .none j pos'] pos) (bnd w fun x => ret x.isNone) :=
  (pt_cmp (pc_isN h)).weak fun σ H Q ⟨O, Φ, c, S, hw, k⟩ => ⟨O, _, c, S, hw, fun x v H' c' p ch S' r => by
    cases x with
    | none =>
      have e : v = .non := r
      exact ⟨_, by rw [e]; rfl, k _ _ c' p ch S'⟩
    | some y => exact ⟨_, (by show V.bl _ = V.bl false; rw [decide_eq_false r.2]), k _ _ c' p ch S'⟩⟩
/-- data not too deep -/
structure Shp {α : Type} (to : α → PyData) (n : Nat) : Prop where
  cl : ∀ x, (to x).canLay0 = true
  dp : ∀ x, (to x).depth ≤ n
theorem shx {α : Type} {to : α → PyData} {n : Nat} (h : Shp to n) (hn : n ≤ 64 := by decide) (x : α) : SeqAt.shaped (to x) = true := by
  unfold SeqAt.shaped; rw [h.cl x, Bool.true_and]; exact decide_eq_true (Nat.le_trans (h.dp x) hn)
theorem shI : Shp PyData.int 0 := ⟨fun _ => rfl, fun _ => Nat.le_refl _⟩
theorem shB : Shp PyData.bool 0 := ⟨fun _ => rfl, fun _ => Nat.le_refl _⟩
theorem shStr (h : ∀ x : Str, (PyData.str x).canLay0 = true) : Shp PyData.str 0 := ⟨h, fun _ => Nat.le_refl _⟩
theorem shP {α β : Type} {to : α → PyData} {to2 : β → PyData} {n m : Nat} (h : Shp to n) (h2 : Shp to2 m) : Shp (fun z : α × β => PyData.tuple [to z.1, to2 z.2]) (max n m + 1) := by
  refine ⟨fun z => ?_, fun z => ?_⟩
  · simp [PyData.canLay0, PyData.canLayAll0, h.cl, h2.cl]
  · have := h.dp z.1
    have := h2.dp z.2
    simp only [PyData.depth, PyData.depthAll]
    omega
theorem shL {α : Type} {to : α → PyData} {n : Nat} (h : Shp to n) : Shp (fun z : List α => PyData.list (z.map fun y => to y)) (n + 1) := by
  have h1 : ∀ l : List α, PyData.canLayAll0 (l.map fun y => to y) = true := fun l => by
    induction l with
    | nil => rfl
    | cons a r ih => simp [PyData.canLayAll0, h.cl, ih]
  have h2 : ∀ l : List α, PyData.depthAll (l.map fun y => to y) ≤ n := fun l => by
    induction l with
    | nil => exact Nat.zero_le _
    | cons a r ih =>
      have := h.dp a
      simp only [List.map_cons, PyData.depthAll]
      omega
  refine ⟨fun z => ?_, fun z => ?_⟩
  · simp only [PyData.canLay0]; exact h1 z
  · have := h2 z
    simp only [PyData.depth]
    omega
/-- a, b, c = e1, e2, e3 -/
abbrev a3 {K : PySem.W.Frag} (e1 : En K α) (e2 : En K β) (e3 : En K γ) : EA K (α × β × γ × Unit) := aC e1 (aC e2 (aC e3 aN))
theorem npar3 (i j l : Nat) {x y z : Str} {a b c : Expr} {px py pz pt : Pos} {kt k2 pt2} {w : W (α × β × γ × Unit)} {e1 : En X.K α} {e2 : En X.K β} {e3 : En X.K γ} (hc : X.calm = true) (hN : X.N.Nodup) (h : PAX X PK pp ρ [a, b, c] w (a3 e1 e2 e3)) (hij : i ≠ j := by decide) (hil : i ≠ l := by decide) (hjl : j ≠ l := by decide)
    (hi : X.N[i]? = some x := by rfl) (hj : X.N[j]? = some y := by rfl) (hl : X.N[l]? = some z := by rfl)
    (hx : X.env.scope.names.lookup x = some .local := by rfl) (hy : X.env.scope.names.lookup y = some .local := by rfl) (hz : X.env.scope.names.lookup z = some .local := by rfl) (hw : swappedStores [.Tuple [.Name x px, .Name y py, .Name z pz] kt pt] (.Tuple [a, b, c] k2 pt2) X.env = pure (some [x, y, z]) := by rfl)
    (hs : swapsWithSole [.Tuple [.Name x px, .Name y py, .Name z pz] kt pt] (.Tuple [a, b, c] k2 pt2) pos.line X.env = pure false := by rfl) :
    PS X (.Assign [.Tuple [.Name x px, .Name y py, .Name z pz] kt pt] (.Tuple [a, b, c] k2 pt2) pos) (rdN PK pp ρ w fun (_ : Unit) z => put (put (put ρ i (.sh e1 z.1)) j (.sh e2 z.2.1)) l (.sh e3 z.2.2.1)) :=
  (ps_par3 hc hN hi hj hl hij hil hjl hx hy hz h hw hs).weak fun D σ H ⟨O, Φ, c, S, hw, k⟩ => ⟨O, _, c, S, hw, fun z v H1 c1 p1 ch S1 r => by
    obtain ⟨u, _, rfl, q1, w, _, rfl, q2, y, _, rfl, q3, rfl⟩ := r
    have less : ∀ {ρ : List (Sl X.K)} {α : Type} {i : Nat} {e1 : En X.K α} {x : α} (a), Av O pp (put ρ i (.sh e1 x)) a → Av O pp ρ a := fun a z => by
      rcases z with z | z | z
      · exact .inl z
      · exact .inr (.inl z)
      · exact .inr (.inr (own_put_sh z))
    exact ⟨u, w, y, rfl, k () z H1 c1 p1 _ (.of_chg ch fun a z => own_put_sh (own_put_sh (own_put_sh z))) (((S1.put q1).put (e2.mono (Mv.less less) q2)).put (e3.mono ((Mv.less less).trans (Mv.less less)) q3))⟩⟩
end
/-! ### the law -/
def spLaw (K : PySem.W.Frag) : Sp := fun vs H Q _ => ∃ (a : Addr) (ns : List Int), vs = [.ref a] ∧ SqL K H a (ns.map V.int) ∧ ns.length ≤ 63 ∧ ∀ H', Q (.bl true) H'
theorem F2.of_ints {K : PySem.W.Frag} {O : AS} {H : Hp} : ∀ ns : List Int, F2 ((eI : En K Int).r O H) (ns.map V.int) ns
  | [] => .nil
  | _ :: r => .cons rfl (F2.of_ints r)
section
variable {P : Program} {w : World} {K : PySem.W.Frag} {mg : Str → Option Value} {base : Heap} {PK : PoolK}
theorem fn_law {x qual : Str} {st : Stmt} {f : Addr} {fd : FuncData} {N : List Str} {k : Nat} {wb : List Int × Unit → W (Fl Empty Empty Bool)} {ρ' : Empty → List (Sl K)} {sn : Str} (F : Fun K x qual st f fd) (S : FnScope N [sn] (defScope st)) (hN : 1 ≤ N.length)
    (hbody : ∀ (cdv : Value) (A : Around) (outer : List Env) (s : Shared) (H : Hp) (E : XK) (x : List Int × Unit), x.1.length ≤ 63 → Room k (A.deeper (PyProof.Rows.envOfC qual (defScope st) s.heap.objs.size f cdv)) →
      PSX (cxOf CX0 P w K mg base N qual (defScope st) f cdv A outer s H E).nox PK none ((aC (eR eI) aN : EA K _).ents x ++ List.replicate (N.length - 1) .nil) (defBody st) (wb x) ρ' (fun z : Empty => nomatch z) eB)
    (hm : ∀ ns : List Int, ns.length ≤ 63 → fnR (wb (ns, ())) (fun r _ => r = true) noX 0) : FnOk P w K mg base CX0 (k + 1) f fd [sn] (spLaw K) := by
  refine F.ok S (fun vs H Q E h => ?_) (fun cdv A outer s H vs Q E hr h => ?_)
  · obtain ⟨a, ns, rfl, _⟩ := h
    rfl
  · obtain ⟨a, ns, rfl, hS, hl, q⟩ := h
    have r : (aC (eR eI) aN : EA K (List Int × Unit)).r none (fun _ => False) H [.ref a] (ns, ()) := ⟨_, [], rfl, ⟨a, _, rfl, Dc.SqL.r hS, F2.of_ints ns⟩, rfl⟩
    refine ⟨_, hbody cdv A outer s H E (ns, ()) hl hr, fun _ => False, _, 0, sat_start (PK := PK) (pp := none) (fun _ z => z.elim) (fun _ z => z.elim) True.intro r hN, hm ns hl, fun fl H' c' p => ?_⟩
    cases fl with
    | rt y =>
      intro v _ _ rv
      have e : y = true := p
      have e2 : v = V.bl y := rv
      rw [e2, e]
      exact q H'
    | nx z => exact nomatch z
    | bk z => exact nomatch z
    | ct z => exact nomatch z
end
section
variable {X : Cx} {ρ : List (Sl X.K)} {α β γ δ : Type}
/-- pool = _law_pool(script), at the head of the law -/
theorem spool (i j : Nat) {k : Nat} {f : Addr} {fd : FuncData} {ps : List Str} {x fnm sn : Str} {p p2 p3 pos pos' : Pos} {rest : List Stmt} {ns : List Int} {w : W (Fl Empty Empty β)} {ρ' : Empty → List (Sl X.K)} {ρl : Empty → List (Sl X.K)} {er : En X.K β} (hl : ns.length ≤ 63) (hN : X.N.Nodup) (hgj : get ρ j = .sh (eR eI) ns) (hgi : get ρ i = .nil) (ho : owns ρ = [])
    (F : FnOk X.prog X.w X.K X.mg X.base CX0 k f fd ps (spPool X.K)) (hr : Room k X.A) (hm : X.mg fnm = some (.ref f)) (hk : PySem.W.keepIn X.K (.ref f) = true) (hb : Binds X.K fd ps [])
    (h : ∀ a b, PSX X poolA (some (a, b)) (put ρ i .pl) rest w ρ' ρl er) (hg : Gl X fnm := by rfl) (hi : X.N[i]? = some x := by rfl) (hj : X.N[j]? = some sn := by rfl) (hx : Loc X.env.scope x := by first | exact Or.inl rfl | exact Or.inr rfl)
    (hv : Vis X.env.scope sn := by first | exact Or.inl rfl | exact Or.inr (Or.inl rfl) | exact Or.inr (Or.inr rfl)) (hd : (sn == ("__debug__" : Str)) = false := by decide) (hcd : (sn == ("__classdict__" : Str)) = false := by decide) (hdb : (fnm == ("__debug__" : Str)) = false := by decide)
    (he : starEach [Expr.Name sn p2] X.env = (false, eval (.Name sn p2) X.env) :: starEach [] X.env := by rfl) (hpl : (backTo p3 (starEach [] X.env)).any (·.1) = false := by rfl)
    (hs : swapsWith (.Call (.Name fnm p) [.Name sn p2] [] p3) (some (.Name x pos')) pos.line X.env = pure false := by rfl) (hf : X.fn x = true ∨ X.env.scope.names.lookup x = some .local := by first | exact .inl rfl | exact .inr rfl) :
    PSX X poolA none ρ (.Assign [.Name x pos'] (.Call (.Name fnm p) [.Name sn p2] [] p3) pos :: rest) w ρ' ρl er :=
  (pss_cons (ps_set hN hi hx (pe_call F hr hg hm hk hb .nil pass0 (pa_cons (pe_var hj hv hd hcd) pa_nil he) hdb he hpl) hs hf) (PSs.ex fun z : Addr × Addr => h z.1 z.2)).weak fun D σ H ⟨O, Φ, c, S, hw, kk⟩ => by
    have q := S.slots j
    rw [hgj] at q
    obtain ⟨v, e1, a, vs, rfl, l, f2⟩ := q
    have ev := F2.ints f2
    refine ⟨_, e1, a, ns, rfl, by rw [← ev]; exact l.sq, hl, fun H' q b sm nq nb hp => ⟨(q, b), O, Φ, c, ?_, hw, fun fl H2 c2 z => ?_⟩⟩
    · have np : ∀ y o, H y = some o → y ≠ q ∧ y ≠ b := fun y o e => ⟨ne_of_none e nq, ne_of_none e nb⟩
      have hne : ∀ y, y ∉ owns (put ρ i (.pl : Sl X.K)) := fun y z => by
        rcases owns_put z with z | z
        · cases z
        · rw [ho] at z; cases z
      have mv : Mv (Av O none ρ) (Av O (some (q, b)) (put ρ i .pl)) H H' := fun y o n e => ⟨sm y o e, fun z => by
        rcases z with z | z | z
        · exact n (.inl z)
        · rcases (show y = q ∨ y = b from z) with z | z
          · exact (np y o e).1 z
          · exact (np y o e).2 z
        · exact hne y z⟩
      refine ⟨by rw [put_len, List.length_set]; exact S.len, owns_put_nodup S.nd (own1_nodup _) (fun b hb => by cases hb), fun y z => absurd z (hne y), fun y z => ?_, ?_, fun m => ?_⟩
      · rw [same_at sm (S.dom y z)]; exact S.dom y z
      · obtain ⟨gs, f0, m, d, r1, r2, r3, r4, r5, r6, r7, r8, r9⟩ := hp
        exact ⟨gs, f0, m, d, r1, r2, r3, r4, r5, r6, r7, r8, by omega⟩
      · by_cases hmi : m = i
        · subst hmi
          rcases get_put_self (ρ := ρ) (i := m) (s := (.pl : Sl X.K)) with e | e
          · rw [e]
            have hlen := get_len (ρ := put ρ m (.pl : Sl X.K)) (i := m) (by rw [e]; intro z; cases z)
            rw [put_len, ← S.len] at hlen
            exact ⟨q, b, rfl, List.getElem?_set_self hlen⟩
          · rw [e]; exact True.intro
        · rw [get_put_ne hmi]
          have qq := S.slots m
          cases e : get ρ m with
          | nil => exact True.intro
          | sh en y =>
            rw [e] at qq
            obtain ⟨u, e2, r⟩ := qq
            exact ⟨u, by rw [List.getElem?_set_ne (Ne.symm hmi)]; exact e2, en.mono mv r⟩
          | ow y on z =>
            have z1 := owns_mem e
            rw [ho] at z1
            cases z1
          | pl =>
            rw [e] at qq
            obtain ⟨_, _, e3, _⟩ := qq
            cases e3
    · have np : ∀ y o, H y = some o → y ≠ q ∧ y ≠ b := fun y o e => ⟨ne_of_none e nq, ne_of_none e nb⟩
      cases fl with
      | rt r =>
        intro v keep _ rv
        refine kk (.rt r) H2 c2 z v (fun y o e _ _ => keep y o (sm y o e) (fun z => ?_) fun z => ?_) True.intro (er.mono (Mv.less fun y z => ?_) rv)
        · rcases (show y = q ∨ y = b from z) with z | z
          · exact (np y o e).1 z
          · exact (np y o e).2 z
        · rcases owns_put z with z | z
          · cases z
          · rw [ho] at z; cases z
        · rcases z with z | z
          · exact .inl z
          · exact z.elim
      | nx z => exact nomatch z
      | bk z => exact nomatch z
      | ct z => exact nomatch z
end
end Dc
/-! DcT: what a W does, said in triples; n bounds the pool's draws. -/
namespace Dc
open PySem PySem.Spec L2
section
variable {α β γ δ ε : Type}
def Tr (n : Nat) (w : W α) (S : α → Prop) : Prop := ∀ Φ Ψ c, c + n ≤ 2 ^ 1000 → (∀ r c', c' ≤ c + n → S r → Φ r c') → w Φ Ψ c
theorem Tr.ret {n : Nat} {x : α} {S : α → Prop} (h : S x) : Tr n (Dc.ret x) S := fun Φ Ψ c _ k => k x c (Nat.le_add_right _ _) h
theorem Tr.retE {x : α} : Tr 0 (Dc.ret x) (fun r => r = x) := Tr.ret rfl
theorem Tr.bnd {a b : Nat} {m : W α} {k : α → W β} {S : α → Prop} {T : β → Prop} (h : Tr a m S) (h2 : ∀ x, S x → Tr b (k x) T) : Tr (a + b) (bnd m k) T := fun Φ Ψ c hc kk =>
  h _ Ψ c (by omega) fun r c' h' s => h2 r s Φ Ψ c' (by omega) fun r' c2 h3 t => kk r' c2 (by omega) t
theorem Tr.mono {a b : Nat} {m : W α} {S T : α → Prop} (h : Tr a m S) (hab : a ≤ b) (hs : ∀ x, S x → T x) : Tr b m T := fun Φ Ψ c hc k => h Φ Ψ c (by omega) fun r c' h' s => k r c' (by omega) (hs r s)
theorem Tr.up {a b : Nat} {m : W α} {S : α → Prop} (h : Tr a m S) (hab : a ≤ b) : Tr b m S := h.mono hab fun _ s => s
theorem Tr.cons {a : Nat} {m : W α} {S T : α → Prop} (h : Tr a m S) (hs : ∀ x, S x → T x) : Tr a m T := h.mono (Nat.le_refl _) hs
theorem Tr.grd {n : Nat} {b : Bool} {m : W α} {S : α → Prop} (hb : b = true) (h : Tr n m S) : Tr n (grd b m) S := fun Φ Ψ c hc k => ⟨hb, h Φ Ψ c hc k⟩
theorem Tr.ite {n : Nat} {b : Bool} {m m2 : W α} {S : α → Prop} (h : b = true → Tr n m S) (h2 : b = false → Tr n m2 S) : Tr n (ite b m m2) S := fun Φ Ψ c hc k => by
  cases b
  · exact (h2 rfl) Φ Ψ c hc k
  · exact (h rfl) Φ Ψ c hc k
theorem Tr.pick {many : Int} (h : 0 < many := by decide) (hl : many.natAbs.log2 < 9000 := by decide) : Tr 1 (pickW many) (fun k => 0 ≤ k ∧ k < many) := fun Φ Ψ c hc k =>
  ⟨⟨h, hl, by omega⟩, fun x h1 h2 => k x (c + 1) (Nat.le_refl _) ⟨h1, h2⟩⟩
theorem Tr.map {n : Nat} {f : α → W β} {S : α → β → Prop} : ∀ {xs : List α}, (∀ x ∈ xs, Tr n (f x) (S x)) → Tr (xs.length * n) (mapW f xs) (fun ys => F2 (fun y x => S x y) ys xs)
  | [], _ => Tr.ret .nil
  | x :: r, h => by
    have e : (x :: r).length * n = n + (r.length * n + 0) := by simp [Nat.add_mul]; omega
    rw [e]
    refine Tr.bnd (h x (List.mem_cons_self ..)) fun y hy => Tr.bnd (Tr.map fun z hz => h z (List.mem_cons_of_mem _ hz)) fun ys hys => Tr.ret (.cons hy hys)
theorem mapW_eq {f : α → W β} {g : α → β} : ∀ {xs : List α}, (∀ x ∈ xs, f x = Dc.ret (g x)) → mapW f xs = Dc.ret (xs.map g)
  | [], _ => rfl
  | x :: r, h => by
    show bnd (f x) _ = _
    rw [h x (List.mem_cons_self ..), bnd_ret, mapW_eq fun z hz => h z (List.mem_cons_of_mem _ hz)]
    rfl
theorem forW_eq {f : γ → α → W (Fl γ γ β)} {g : γ → α → γ} : ∀ {xs : List α} {s : γ}, (∀ x ∈ xs, ∀ s, f s x = Dc.ret (.nx (g s x))) → forW (δ := δ) f s xs = Dc.ret (.nx (xs.foldl g s))
  | [], _, _ => rfl
  | x :: r, s, h => by
    show bnd (f s x) _ = _
    rw [h x (List.mem_cons_self ..) s, bnd_ret]
    exact forW_eq fun z hz => h z (List.mem_cons_of_mem _ hz)
/-- with an invariant kept by each step -/
theorem forW_inv {f : γ → α → W (Fl γ γ β)} {g : γ → α → γ} (I : γ → Prop) : ∀ {xs : List α} {s : γ}, I s → (∀ x ∈ xs, ∀ s, I s → f s x = Dc.ret (.nx (g s x)) ∧ I (g s x)) → forW (δ := δ) f s xs = Dc.ret (.nx (xs.foldl g s)) ∧ I (xs.foldl g s)
  | [], _, i, _ => ⟨rfl, i⟩
  | x :: r, s, i, h => by
    obtain ⟨e, i'⟩ := h x (List.mem_cons_self ..) s i
    show bnd (f s x) _ = _ ∧ _
    rw [e, bnd_ret]
    exact forW_inv I i' fun z hz => h z (List.mem_cons_of_mem _ hz)
theorem Tr.for {n : Nat} {f : γ → α → W (Fl γ γ β)} {R : γ → Prop} : ∀ {xs : List α} {s : γ}, R s → (∀ x ∈ xs, ∀ s, R s → Tr n (f s x) (fun fl => ∃ s', fl = .nx s' ∧ R s')) → Tr (xs.length * n) (forW (δ := δ) f s xs) (fun fl => ∃ s', fl = .nx s' ∧ R s')
  | [], s, i, _ => Tr.ret ⟨s, rfl, i⟩
  | x :: r, s, i, h => by
    have e : (x :: r).length * n = n + (r.length * n) := by simp [Nat.add_mul]; omega
    rw [e]
    refine Tr.bnd (h x (List.mem_cons_self ..) s i) fun fl hf => ?_
    obtain ⟨s', rfl, i'⟩ := hf
    exact Tr.for i' fun z hz => h z (List.mem_cons_of_mem _ hz)
theorem bnd_ifr {γ' : Type} (b : Bool) (r : β) (s : γ) (k : γ → W (Fl γ' δ β)) : Dc.bnd (Dc.ite b (Dc.ret (.rt r)) (Dc.ret (.nx s))) (sq k) = Dc.ite b (Dc.ret (.rt r)) (k s) := bnd_ite ..
theorem bnd_ifs {γ' : Type} (b : Bool) (s : γ) (k : γ → W (Fl γ' δ β)) : Dc.bnd (Dc.ite b stuck (Dc.ret (.nx s))) (sq k) = Dc.ite b stuck (k s) := bnd_ite ..
theorem sq_nx {γ' : Type} (k : γ → W (Fl γ' δ β)) (s : γ) : sq k (.nx s) = k s := (rfl)
theorem sq_rt {γ' : Type} (k : γ → W (Fl γ' δ β)) (r : β) : sq k (.rt r) = Dc.ret (.rt r) := (rfl)
theorem fnR_bnd (m : W α) (k : α → W (Fl Empty Empty β)) : fnR (bnd m k) = bnd m (fun x => fnR (k x)) := (rfl)
theorem fnR_ret (r : β) : fnR (Dc.ret (.rt r)) = Dc.ret r := (rfl)
theorem fnR_grd (b : Bool) (m : W (Fl Empty Empty β)) : fnR (grd b m) = grd b (fnR m) := (rfl)
theorem fnR_stuck : fnR (stuck : W (Fl Empty Empty β)) = stuck := (rfl)
theorem fnR_ite (b : Bool) (m n : W (Fl Empty Empty β)) : fnR (ite b m n) = ite b (fnR m) (fnR n) := bnd_ite ..
theorem fnU_bnd (m : W α) (k : α → W (Fl Unit Empty Unit)) : fnU (bnd m k) = bnd m (fun x => fnU (k x)) := (rfl)
theorem fnU_nx (u : Unit) : fnU (Dc.ret (.nx u)) = Dc.ret () := (rfl)
theorem fnU_rt (u : Unit) : fnU (Dc.ret (.rt u)) = Dc.ret u := (rfl)
theorem fnU_ite (b : Bool) (m n : W (Fl Unit Empty Unit)) : fnU (ite b m n) = ite b (fnU m) (fnU n) := bnd_ite ..
theorem fnU_grd (b : Bool) (m : W (Fl Unit Empty Unit)) : fnU (grd b m) = grd b (fnU m) := (rfl)
theorem grd_ok {b : Bool} (h : b = true) (m : W α) : grd b m = m := by rw [h, grd_true]
theorem ite_ok {b : Bool} (h : b = true) (m n : W α) : Dc.ite b m n = m := by rw [h, ite_true]
theorem ite_no {b : Bool} (h : b = false) (m n : W α) : Dc.ite b m n = n := by rw [h, ite_false]
/-- lists of the same length -/
theorem F2.len {R : α → β → Prop} {ys : List α} {xs : List β} (h : F2 R ys xs) : ys.length = xs.length := h.length
theorem F2.all {R : α → β → Prop} {ys : List α} {xs : List β} (h : F2 R ys xs) : ∀ y ∈ ys, ∃ x ∈ xs, R y x := by
  induction h with
  | nil => intro y hy; cases hy
  | cons r _ ih =>
    intro y hy
    rcases List.mem_cons.mp hy with e | hy
    · rw [e]; exact ⟨_, List.mem_cons_self .., r⟩
    · obtain ⟨x, hx, q⟩ := ih y hy
      exact ⟨x, List.mem_cons_of_mem _ hx, q⟩
end
/-! ### the sizes that the operations allow -/
theorem bits_le {i : Int} {n : Nat} (h : i.natAbs < 2 ^ n) : Builtin.Int.intBits i ≤ n := bits_lt h
theorem mulOk_of {i j : Int} {n m : Nat} (hi : i.natAbs < 2 ^ n) (hj : j.natAbs < 2 ^ m) (h : n + m ≤ 134217728 := by decide) : mulOk i j = true := by
  have := bits_lt hi
  have := bits_lt hj
  exact decide_eq_true (by omega)
theorem log2_lt {x n : Nat} (h : x < 2 ^ n) (hn : 0 < n) : x.log2 < n := by
  by_cases h0 : x = 0
  · rw [h0]; simpa using hn
  · exact (Nat.log2_lt h0).mpr h
theorem fdivOk_of {i j : Int} (h0 : j ≠ 0) (h : j.natAbs < 2 ^ 9000) : fdivOk i j = true := by
  simp only [fdivOk, Bool.and_eq_true, decide_eq_true_eq]
  exact ⟨h0, log2_lt h (by decide)⟩
theorem lcmOk_of {i j : Int} (hi : i.natAbs < 2 ^ 13000) (hj : j.natAbs < 2 ^ 13000) : lcmOk i j = true := by
  simp only [lcmOk, Bool.and_eq_true, decide_eq_true_eq]
  have h1 : (1 : Nat) < 2 ^ 13000 := Nat.one_lt_two_pow (by decide)
  refine ⟨Nat.lt_trans (log2_lt (n := 13000) ?_ (by decide)) (by decide), Nat.lt_trans (log2_lt (n := 13000) ?_ (by decide)) (by decide)⟩
  · exact Nat.max_lt.mpr ⟨h1, hi⟩
  · exact Nat.max_lt.mpr ⟨hi, hj⟩
end Dc
/-! DcK: instances of the program's own classes: read, made. -/
namespace Dc
open PySem PySem.Spec L2
section
variable {K : PySem.W.Frag} {α β γ δ : Type}
/-- fields by name -/
structure FE (K : PySem.W.Frag) (α : Type) where
  r : AS → Hp → List (Str × V) → α → Prop
  mono : ∀ {O O' : AS} {H H' : Hp} {fs : List (Str × V)} {x : α}, Mv O O' H H' → r O H fs x → r O' H' fs x
  keep : ∀ {O : AS} {H : Hp} {fs : List (Str × V)} {x : α} {f : Str} {v : V}, fs.lookup f = none → r O H fs x → r O H (putF f v fs) x
def fN : FE K Unit := ⟨fun _ _ _ _ => True, fun _ h => h, fun _ h => h⟩
def fC (f : Str) (e : En K α) (t : FE K β) : FE K (α × β) := ⟨fun O H fs x => (∃ v, fs.lookup f = some v ∧ e.r O H v x.1) ∧ t.r O H fs x.2, fun m ⟨⟨v, l, q⟩, h⟩ => ⟨⟨v, l, e.mono m q⟩, t.mono m h⟩, fun {O H fs x g u} n h => by
  obtain ⟨⟨v, l, q⟩, h⟩ := h
  have e : (putF g u fs).lookup f = some v := by
    rw [lookup_putF, if_neg]
    · exact l
    · intro z; rw [z, n] at l; cases l
  exact ⟨⟨v, e, q⟩, t.keep n h⟩⟩
/-- an instance whose fields are the names ns -/
def eIns (C : Addr) (ns : List Str) (t : FE K α) : En K α := ⟨fun O H v x => ∃ a dx fs, v = .ref a ∧ ¬ O a ∧ H a = some (.ins C dx fs) ∧ fs.map (·.1) = ns ∧ t.r O H fs x,
  fun m ⟨a, dx, fs, e, n, h, l, q⟩ => ⟨a, dx, fs, e, (m a _ n h).2, (m a _ n h).1, l, t.mono m q⟩⟩
def oIns (C : Addr) (ns : List Str) (t : FE K α) : On K α := ⟨fun O H a x => ∃ dx fs, H a = some (.ins C dx fs) ∧ fs.map (·.1) = ns ∧ t.r O H fs x,
  fun m h ⟨dx, fs, q, l, z⟩ => ⟨dx, fs, h.trans q, l, t.mono m z⟩, fun ⟨dx, fs, q, _⟩ z => by rw [q] at z; cases z⟩
/-- where a field stands -/
structure FAt (t : FE K α) (f : Str) (en : En K β) (π : α → β) : Prop where
  at_ : ∀ {O : AS} {H : Hp} {fs : List (Str × V)} {x : α}, t.r O H fs x → ∃ v, fs.lookup f = some v ∧ en.r O H v (π x)
theorem f0 {f : Str} {e : En K α} {t : FE K β} : FAt (fC f e t) f e (·.1) := ⟨fun h => h.1⟩
theorem fS {f g : Str} {e : En K α} {t : FE K β} {en : En K γ} {π : β → γ} (h : FAt t f en π) : FAt (fC g e t) f en (fun x => π x.2) := ⟨fun q => h.at_ q.2⟩
theorem look_none {m : Str} {fs : List (Str × V)} {ns : List Str} (h : fs.map (·.1) = ns) (hm : ns.contains m = false) : fs.lookup m = none := by
  subst h
  induction fs with
  | nil => rfl
  | cons p r ih =>
    obtain ⟨g, v⟩ := p
    simp only [List.map_cons, List.contains_cons, Bool.or_eq_false_iff] at hm
    rw [List.lookup_cons, hm.1]
    exact ih hm.2
end
section
variable {X : Cx} {PK : PoolK} {pp : PP} {ρ : List (Sl X.K)} {α β γ δ : Type} {e a b : Expr} {es : List Expr} {pos apos : Pos}
theorem xfld {C : Addr} {ns : List Str} {t : FE X.K α} {f : Str} {w : W α} {en : En X.K β} {π : α → β} (c : Cls X.K C) (n : NoAttr X.K C f) (F : FAt t f en π) (h : PX X PK pp ρ e w (eIns C ns t)) (hb : attributeBase e f X.env (eval e X.env) = eval e X.env := by rfl) :
    PX X PK pp ρ (.Attribute e f pos) (bnd w fun x => ret (π x)) en := (pe_fld h hb).weak fun σ H Q ⟨O, Φ, c0, S, hw, k⟩ => ⟨O, _, c0, S, hw, fun x v H' c' p ch S' r => by
  obtain ⟨a, dx, fs, e1, nO, hH, _, q⟩ := r
  obtain ⟨u, l, ru⟩ := F.at_ q
  exact ⟨a, C, dx, fs, u, e1, hH, c, n, l, k _ _ H' c' p ch S' ru⟩⟩
/-- e.f, a property -/
theorem xprop {C p g : Addr} {ns : List Str} {t : FE X.K α} {f : Str} {k : Nat} {fd : FuncData} {ps : List Str} {w : W α} {fw : α × Unit → W β} {er : En X.K β} (c : Cls X.K C) (hp : PropOf X.K C f p g) (F : FnOk X.prog X.w X.K X.mg X.base CX0 k g fd ps (spW PK (aC (eIns C ns t) aN) fw er)) (hr : Room (k + 1) X.A)
    (hb : Binds X.K fd ps []) (h : PX X PK pp ρ e w (eIns C ns t)) (hab : attributeBase e f X.env (eval e X.env) = eval e X.env := by rfl) : PX X PK pp ρ (.Attribute e f pos) (bnd w fun x => fw (x, ())) er :=
  (pe_prop h c hp F hr hb .nil pass0 hab).weak fun σ H Q ⟨O, Φ, c0, S, hw, kk⟩ => ⟨O, _, c0, S, hw, fun x v H1 c1 p1 ch1 S1 r => by
    have r0 := r
    obtain ⟨a, dx, fs, e1, nO, hH, _, q⟩ := r
    subst e1
    exact ⟨a, dx, fs, rfl, hH, pp, Av O pp ρ, (x, ()), Φ, c1, S1.av, fun a h => .inr (.inl h), S1.pool, ⟨_, [], rfl, r0, rfl⟩, p1, fun z v H2 c2 p2 ch2 pl2 rz => kk z v H2 c2 p2 (ch1.trans ch2) (S1.chg ch2 pl2) rz⟩⟩
/-- o.m(e, ..) -/
theorem xmeth {C g : Addr} {m : Str} {ns : List Str} {t : FE X.K α} {k : Nat} {fd : FuncData} {ps : List Str} {w : W α} {ea : EA X.K γ} {wa : W γ} {fw : α × γ → W β} {er : En X.K β} {pl : Sem Bool} (c : Cls X.K C) (hm : Meth X.K C m g) (hn : ns.contains m = false) (F : FnOk X.prog X.w X.K X.mg X.base CX0 k g fd ps (spW PK (aC (eIns C ns t) ea) fw er)) (hr : Room k X.A)
    (hb : Binds X.K fd ps []) (h : PX X PK pp ρ a w (eIns C ns t)) (ha : PAX X PK pp ρ (e :: es) wa ea)
    (hst : starEach (e :: es) X.env = (false, eval e X.env) :: starEach es X.env := by rfl) (hpl : (backTo pos (starEach es X.env)).any (·.1) = false := by rfl)
    (ht : eval (.Call (.Attribute a m apos) (e :: es) [] pos) X.env = (do
      let ov ← eval a X.env
      standAt apos.atName
      let (f, first) ← holding [ov] (getMethod ov m pl)
      callWith pos f first (backTo pos (starEach (e :: es) X.env)) (backToKw pos (keywordEach [] X.env))) := by rfl) : PX X PK pp ρ (.Call (.Attribute a m apos) (e :: es) [] pos) (bnd w fun x => bnd wa fun y => fw (x, y)) er :=
  (pe_meth h c hm F hr hb .nil pass0 ha hst hpl ht).weak fun σ H Q ⟨O, Φ, c0, S, hw, kk⟩ => ⟨O, _, c0, S, hw, fun x v H1 c1 p1 ch1 S1 r => by
    have r0 := r
    obtain ⟨a, dx, fs, e1, nO, hH, l, q⟩ := r
    refine ⟨a, dx, fs, e1, hH, look_none l hn, O, _, c1, S1, p1, fun y vs H2 c2 p2 ch2 S2 r2 => ?_⟩
    show spW PK (aC (eIns C ns t) ea) fw er (v :: (vs ++ [])) H2 Q E0
    rw [List.append_nil]
    exact ⟨pp, Av O pp ρ, (x, y), Φ, c2, S2.av, fun a h => .inr (.inl h), S2.pool, ⟨_, _, rfl, (eIns C ns t).mono ch2.mv r0, r2⟩, p2, fun z v H3 c3 p3 ch3 pl3 rz => kk z v H3 c3 p3 ((ch1.trans ch2).trans ch3) (S2.chg ch3 pl3) rz⟩⟩
/-- f(e, ..), f an instance whose class has __call__ -/
theorem xcallO {C g : Addr} {ns : List Str} {t : FE X.K α} {k : Nat} {fd : FuncData} {ps : List Str} {w : W α} {ea : EA X.K γ} {wa : W γ} {fw : α × γ → W β} {er : En X.K β} (cO : StX.CallO X.K C g) (F : FnOk X.prog X.w X.K X.mg X.base CX0 k g fd ps (spW PK (aC (eIns C ns t) ea) fw er)) (hr : Room k X.A)
    (hb : Binds X.K fd ps []) (h : PX X PK pp ρ a w (eIns C ns t)) (ha : PAX X PK pp ρ (e :: es) wa ea)
    (ht : eval (.Call a (e :: es) [] pos) X.env = (do callWith pos (← eval a X.env) [] (backTo pos (starEach (e :: es) X.env)) (backToKw pos (keywordEach [] X.env))) := by rfl)
    (hst : starEach (e :: es) X.env = (false, eval e X.env) :: starEach es X.env := by rfl) (hpl : (backTo pos (starEach es X.env)).any (·.1) = false := by rfl) : PX X PK pp ρ (.Call a (e :: es) [] pos) (bnd w fun x => bnd wa fun y => fw (x, y)) er :=
  (StX.pe_callO h cO (F.raw hb .nil) hr pass0 ha ht hst hpl).weak fun σ H Q ⟨O, Φ, c0, S, hw, kk⟩ => ⟨O, _, c0, S, hw, fun x v H1 c1 p1 ch1 S1 r => by
    have r0 := r
    obtain ⟨a, dx, fs, e1, nO, hH, l, q⟩ := r
    subst e1
    refine ⟨a, rfl, O, _, c1, S1, p1, fun y vs H2 c2 p2 ch2 S2 r2 => ?_⟩
    have r3 := (eIns C ns t).mono ch2.mv r0
    refine ⟨?_, ?_⟩
    · obtain ⟨a', dx', fs', e2, _, hH', _⟩ := r3
      cases e2
      exact .inr ⟨dx', fs', hH'⟩
    · show spW PK (aC (eIns C ns t) ea) fw er (V.ref a :: vs ++ []) H2 Q E0
      rw [List.append_nil]
      exact ⟨pp, Av O pp ρ, (x, y), Φ, c2, S2.av, fun a h => .inr (.inl h), S2.pool, ⟨_, _, rfl, r3, r2⟩, p2, fun z v H3 c3 p3 ch3 pl3 rz => kk z v H3 c3 p3 ((ch1.trans ch2).trans ch3) (S2.chg ch3 pl3) rz⟩⟩
end
/-! ### an instance made -/
def fnI {β : Type} (w : W (Fl β Empty Unit)) : W β := bnd w fun fl => match fl with | .nx y => ret y | .rt _ => stuck | .bk z => nomatch z | .ct z => nomatch z
section
variable {P : Program} {w : World} {K : PySem.W.Frag} {mg : Str → Option Value} {base : Heap} {PK : PoolK} {α β : Type}
def spI (PK : PoolK) (C : Addr) (ns : List Str) (t : FE K β) (ea : EA K α) (f : α → W β) : Sp := fun vs H Q _ => ∃ pp O a dx rest x Φ c, vs = .ref a :: rest ∧ H a = some (.ins C dx []) ∧ Dom O H ∧ ¬ O a ∧ (∀ b, foot pp b → O b) ∧ PoolOk PK pp H c ∧ ea.r pp (fun b => O b ∨ b = a) H rest x ∧ f x Φ noX c ∧
  ∀ y H' c', Φ y c' → (∀ b o, H b = some o → ¬ foot pp b → b ≠ a → H' b = some o) → PoolOk PK pp H' c' → (eIns C ns t).r O H' (.ref a) y → Q .non H'
theorem slot_up {A : AS} {pp : PP} {H : Hp} {σ : St} {u : Option V} {i : Nat} {sl : Sl K} (h : SlOk A pp H σ i sl) : SlOk A pp H (u :: σ) (i + 1) sl := by
  cases sl with
  | nil => exact True.intro
  | sh en x => obtain ⟨v, e, r⟩ := h; exact ⟨v, by rw [List.getElem?_cons_succ]; exact e, r⟩
  | ow a on x => exact ⟨by rw [List.getElem?_cons_succ]; exact h.1, h.2⟩
  | pl => obtain ⟨a, b, e, r⟩ := h; exact ⟨a, b, e, by rw [List.getElem?_cons_succ]; exact r⟩
theorem sat_self {pp : PP} {O : AS} {H : Hp} {a dx C : Addr} {rest : List V} {x : α} {ea : EA K α} {N : List Str} {c : Nat} (hH : H a = some (.ins C dx [])) (hd : Dom O H) (ha : ¬ O a) (hf : ∀ b, foot pp b → O b) (hp : PoolOk PK pp H c) (hr : ea.r pp (fun b => O b ∨ b = a) H rest x) (hN : ea.len + 1 ≤ N.length) :
    Sat PK O pp (.ow a (oIns C [] fN) () :: (ea.ents x ++ List.replicate (N.length - (ea.len + 1)) .nil)) c (L2.start N (.ref a :: rest)) H := by
  have e0 : owns (ea.ents x ++ List.replicate (N.length - (ea.len + 1)) (Sl.nil : Sl K)) = [] := owns_app.trans (ea.eown x)
  have e1 : owns (.ow a (oIns C [] fN) () :: (ea.ents x ++ List.replicate (N.length - (ea.len + 1)) (Sl.nil : Sl K))) = [a] := by
    show [a] ++ owns _ = [a]
    rw [e0]; rfl
  have hl := ea.hlen hr
  refine ⟨?_, by rw [e1]; simp, fun b hb => ?_, hd, hp, fun i => ?_⟩
  · unfold L2.start
    simp only [List.length_append, List.length_map, List.length_replicate, List.length_cons, ea.elen, hl]
    omega
  · rw [e1] at hb
    have : b = a := by simpa using hb
    subst this
    exact ⟨ha, fun z => ha (hf _ z)⟩
  · have e2 : L2.start N (.ref a :: rest) = some (.ref a) :: (rest.map some ++ List.replicate (N.length - (rest.length + 1)) none) := rfl
    rw [e2]
    cases i with
    | zero => exact ⟨rfl, dx, [], hH, rfl, True.intro⟩
    | succ i =>
      refine slot_up ?_
      show SlOk _ pp H _ i (get (ea.ents x ++ List.replicate (N.length - (ea.len + 1)) .nil) i)
      rcases get_app (l := ea.ents x) (n := N.length - (ea.len + 1)) (i := i) with e | e
      · rw [e]
        refine (ea.eok i hr).mv (Mv.less fun b z => ?_) fun _ _ => rfl
        rcases z with z | z | z
        · exact .inl z
        · exact .inl (hf _ z)
        · rw [e1] at z
          exact .inr (by simpa using z)
      · rw [e]; exact True.intro
theorem fn_I {x qual : Str} {st : Stmt} {f C : Addr} {fd : FuncData} {N ps ns : List Str} {k : Nat} {ea : EA K α} {t : FE K β} {wb : α → W (Fl β Empty Unit)} (F : Fun K x qual st f fd) (S : FnScope N ps (defScope st)) (hl : ea.len + 1 = ps.length) (hN : ea.len + 1 ≤ N.length) (n : Nat)
    (hbody : ∀ (cdv : Value) (A : Around) (outer : List Env) (s : Shared) (H : Hp) (E : XK) (pp : PP) (x : α) (a : Addr), Room k (A.deeper (PyProof.Rows.envOfC qual (defScope st) s.heap.objs.size f cdv)) →
      PSX (cxOf CX0 P w K mg base N qual (defScope st) f cdv A outer s H E).nox PK pp (.ow a (oIns C [] fN) () :: (ea.ents x ++ List.replicate (N.length - (ea.len + 1)) .nil)) (defBody st) (wb x) (fun y => .ow a (oIns C ns t) y :: List.replicate n .nil) (fun z : Empty => nomatch z) eU) :
    FnOk P w K mg base CX0 (k + 1) f fd ps (spI PK C ns t ea fun x => fnI (wb x)) := by
  refine F.ok S (fun vs H Q E h => ?_) (fun cdv A outer s H vs Q E hr h => ?_)
  · obtain ⟨pp, O, a, dx, rest, x, Φ, c, rfl, _, _, _, _, _, r, _⟩ := h
    rw [List.length_cons, ea.hlen r, hl]
  · obtain ⟨pp, O, a, dx, rest, x, Φ, c, rfl, hH, hd, ha, hf, hp, r, hw, q⟩ := h
    refine ⟨_, hbody cdv A outer s H E pp x a hr, O, _, c, sat_self hH hd ha hf hp r hN, hw, fun fl H' c' p => ?_⟩
    have own : ∀ b, b ∈ owns (.ow a (oIns C [] fN) () :: (ea.ents x ++ List.replicate (N.length - (ea.len + 1)) (Sl.nil : Sl K))) → b = a := fun b hb => by
      have e0 : owns (ea.ents x ++ List.replicate (N.length - (ea.len + 1)) (Sl.nil : Sl K)) = [] := owns_app.trans (ea.eown x)
      have : b ∈ [a] ++ owns (ea.ents x ++ List.replicate (N.length - (ea.len + 1)) (Sl.nil : Sl K)) := hb
      rw [e0] at this
      simpa using this
    cases fl with
    | rt r => exact p.elim
    | nx y =>
      intro σ' stp S'
      have s0 := S'.slots 0
      obtain ⟨_, dx', fs, h1, h2, h3⟩ := (show _ ∧ (oIns C ns t).r _ H' a y from s0)
      exact q y H' c' p (fun b o e n hb => stp.keep b o e n fun z => hb (own b z)) S'.pool ⟨a, dx', fs, rfl, ha, h1, h2, t.mono (Mv.less fun b z => .inl z) h3⟩
    | bk z => exact nomatch z
    | ct z => exact nomatch z
end
section
variable {X : Cx} {PK : PoolK} {pp : PP} {ρ : List (Sl X.K)} {α β γ δ : Type} {e a b : Expr} {es : List Expr} {pos apos : Pos}
/-- C(e, ..) -/
theorem xmake {C g : Addr} {ns : List Str} {t : FE X.K β} {k : Nat} {fd : FuncData} {ps : List Str} {x : Str} {p : Pos} {ea : EA X.K γ} {wa : W γ} {fw : γ → W β} (M : Mk X.K C g) (F : FnOk X.prog X.w X.K X.mg X.base CX0 k g fd ps (spI PK C ns t ea fw)) (hr : Room (k + 1) X.A) (hm : X.mg x = some (.ref C))
    (hb : Binds X.K fd ps []) (ha : PAX X PK pp ρ (e :: es) wa ea) (hg : Gl X x := by rfl) (hdb : (x == ("__debug__" : Str)) = false := by decide) (he : starEach (e :: es) X.env = (false, eval e X.env) :: starEach es X.env := by rfl) (hpl : (backTo pos (starEach es X.env)).any (·.1) = false := by rfl) :
    PX X PK pp ρ (.Call (.Name x p) (e :: es) [] pos) (bnd wa fw) (eIns C ns t) :=
  (pe_make M F hr hg hm hb .nil pass0 ha hdb he hpl).weak fun σ H Q ⟨O, Φ, c0, S, hw, kk⟩ => ⟨O, _, c0, S, hw, fun y vs H1 c1 p1 ch1 S1 r1 q dx hq hdx hne => by
    have sm : ∀ b o, H1 b = some o → upd (upd H1 dx (.own q)) q (.ins C dx []) b = some o := fun b o eb => by
      rw [upd_ne (ne_of_none eb hq), upd_ne (ne_of_none eb hdx)]; exact eb
    have nq : ¬ Av O pp ρ q := fun z => S1.av q z hq
    show spI PK C ns t ea fw (V.ref q :: (vs ++ [])) _ _ E0
    rw [List.append_nil]
    refine ⟨pp, Av O pp ρ, q, dx, vs, y, Φ, c1, rfl, upd_same, fun b hb => ?_, nq, fun b h => .inr (.inl h), ?_, ?_, p1, fun z H' c' p2 keep pl rz => ⟨rfl, ?_⟩⟩
    · intro z
      have := S1.av b hb
      cases e1 : H1 b with
      | none => exact this e1
      | some o => rw [sm b o e1] at z; cases z
    · exact (S1.same sm).pool
    · exact ea.mono (fun b o n eb => ⟨sm b o eb, fun z => by
        rcases z with z | z
        · exact n z
        · rw [z, hq] at eb; cases eb⟩) r1
    · have ch2 : Chg pp H1 H' := fun b o eb nf => keep b o (sm b o eb) nf (ne_of_none eb hq)
      exact kk z _ H' c' p2 (ch1.trans ch2) (S1.chg ch2 pl) rz⟩
theorem putF_names {f : Str} {v : V} : ∀ {fs : List (Str × V)}, fs.lookup f = none → (putF f v fs).map (·.1) = fs.map (·.1) ++ [f]
  | [], _ => rfl
  | (g, u) :: r, h => by
    rw [List.lookup_cons] at h
    cases e : (f == g) with
    | true => rw [e] at h; cases h
    | false =>
      rw [e] at h
      have ne : ¬ g = f := fun z => by rw [z] at e; simp at e
      show (if g = f then (g, v) :: r else (g, u) :: putF f v r).map (·.1) = _
      rw [if_neg ne, List.map_cons, List.map_cons, List.cons_append, putF_names h]
/-- self.f = e, in __init__ -/
theorem nattr (i : Nat) {x f : Str} {p' pos' : Pos} {w : W α} {en : En X.K α} {p C : Addr} {ns : List Str} {t : FE X.K β} {xs : β} (hc : Cls X.K C) (hnA : NoAttr X.K C f) (hg : get ρ i = .ow p (oIns C ns t) xs) (hf : ns.contains f = false) (h : PX X PK pp ρ e w en) (hl : ns.length < 1000 := by decide) (hN : X.N[i]? = some x := by rfl)
    (hv : Vis X.env.scope x := by first | exact Or.inl rfl | exact Or.inr (Or.inl rfl) | exact Or.inr (Or.inr rfl)) (hd : (x == ("__debug__" : Str)) = false := by decide) (hcd : (x == ("__classdict__" : Str)) = false := by decide)
    (hs : swapsWith e (some (.Attribute (.Name x p') f pos')) pos.line X.env = pure false := by rfl) :
    PS X (.Assign [.Attribute (.Name x p') f pos'] e pos) (rdN PK pp ρ w fun (_ : Unit) z => put ρ i (.ow p (oIns C (ns ++ [f]) (fC f en t)) (z, xs))) :=
  (ps_fld (pe_var hN hv hd hcd) h hs).weak fun D σ H ⟨O, Φ, c, S, hw, k⟩ => ⟨O, _, c, S, hw, fun y v H1 c1 p1 ch1 S1 r1 => by
    have q := S1.slots i
    rw [hg] at q
    obtain ⟨e1, dx, fs, e2, e3, e4⟩ := q
    have hn := look_none e3 hf
    refine ⟨_, e1, p, C, dx, fs, rfl, e2, hc, hnA, by rw [← e3, List.length_map] at hl; exact hl, ?_⟩
    have mv : Mv (Av O pp ρ) (Av O pp ρ) H1 (upd H1 p (.ins C dx (putF f v fs))) := fun b o n e => ⟨by rw [upd_ne (fun z => n (by rw [z]; exact .inr (.inr (owns_mem hg))))]; exact e, n⟩
    obtain ⟨S3, st⟩ := S1.chgOwn (o := .ins C dx (putF f v fs)) (on' := oIns C (ns ++ [f]) (fC f en t)) (y := (y, xs)) hg ⟨dx, _, upd_same, by rw [putF_names hn, e3], ⟨v, by rw [lookup_putF, if_pos rfl], en.mono mv r1⟩, t.mono mv (t.keep hn e4)⟩
    exact k () y _ c1 p1 σ ((Stp.of_chg ch1 fun _ z => z).trans st) S3⟩
/-- o.f as a target -/
def gAttr (K : PySem.W.Frag) (ta : TE) (f : Str) : TG := fun v σ H Q => ta σ H fun x H2 => ∃ a C dx fs, x = .ref a ∧ H2 a = some (.ins C dx fs) ∧ Cls K C ∧ NoAttr K C f ∧ fs.length < 1000 ∧ Q σ (upd H2 a (.ins C dx (putF f v fs)))
theorem pg_attr {o : Expr} {f : Str} {ta : TE} (ho : PE X o ta) : PG X (.Attribute o f pos) (gAttr X.K ta f) := by
  refine ⟨fun pins s σ H v u Q I r q => ?_⟩
  rw [assign_Attribute]
  refine wpAny_bind (wpAny_holding (thn (ho.run pins s σ H _ I q) fun ov s1 ⟨x, H1, I1, rx, a, C, dx, fs, ex, ea, c, n, l, q1⟩ => ?_))
  subst ex
  obtain rfl : ov = Value.ref a := rx
  refine wpAny_bind (wpAny_standAt (wpAny_bind (wpAny_holding (setattr_ok I1 ea c n l r fun s3 I3 => ?_))))
  exact wpAny_release ⟨σ, _, I3, q1⟩
theorem npairA (i j : Nat) {x y f : Str} {px py pa pt : Pos} {kt} {w : W (α × β)} {e1 : En X.K α} {e2 : En X.K β} {p C : Addr} {ns : List Str} {t : FE X.K γ} {xs : γ} (hc : X.calm = true) (hN : X.N.Nodup) (hC : Cls X.K C) (hnA : NoAttr X.K C f) (hg : get ρ j = .ow p (oIns C ns t) xs) (hf0 : ns.contains f = false) (h : PX X PK pp ρ e w (eP e1 e2)) (hij : j ≠ i := by decide) (hl : ns.length < 1000 := by decide) (hi : X.N[i]? = some x := by rfl) (hj : X.N[j]? = some y := by rfl)
    (hx : Loc X.env.scope x := by first | exact Or.inl rfl | exact Or.inr rfl) (hv : Vis X.env.scope y := by first | exact Or.inl rfl | exact Or.inr (Or.inl rfl) | exact Or.inr (Or.inr rfl)) (hd : (y == ("__debug__" : Str)) = false := by decide) (hcd : (y == ("__classdict__" : Str)) = false := by decide)
    (hf : X.fn x = true ∨ X.env.scope.names.lookup x = some .local := by first | exact .inl rfl | exact .inr rfl)
    (hs1 : (assignEach [Expr.Name x px, Expr.Attribute (.Name y py) f pa] X.env).map (·.2) = assign (.Name x px) X.env :: (assignEach [Expr.Attribute (.Name y py) f pa] X.env).map (·.2) := by rfl) (hs2 : (assignEach [Expr.Attribute (.Name y py) f pa] X.env).map (·.2) = assign (.Attribute (.Name y py) f pa) X.env :: (assignEach [] X.env).map (·.2) := by rfl)
    (hn : (assignEach [Expr.Name x px, Expr.Attribute (.Name y py) f pa] X.env).length = 2 := by rfl) (hst : (assignEach [Expr.Name x px, Expr.Attribute (.Name y py) f pa] X.env).findIdx? (·.1) = none := by rfl)
    (hsw : swapsWithSole [.Tuple [.Name x px, .Attribute (.Name y py) f pa] kt pt] e pos.line X.env = pure false := by rfl) (hww : swappedStores [.Tuple [.Name x px, .Attribute (.Name y py) f pa] kt pt] e X.env = pure none := by rfl) (h1 : (assignEach [.Tuple [.Name x px, .Attribute (.Name y py) f pa] kt pt] X.env).map (·.2) = [assign (.Tuple [.Name x px, .Attribute (.Name y py) f pa] kt pt) X.env] := by rfl) :
    PS X (.Assign [.Tuple [.Name x px, .Attribute (.Name y py) f pa] kt pt] e pos) (rdN PK pp ρ w fun (_ : Unit) z => put (put ρ i (.sh e1 z.1)) j (.ow p (oIns C (ns ++ [f]) (fC f e2 t)) (z.2, xs))) :=
  (ps_asg h (pg_tup hc (pgs_cons (pg_name hN hi hx hf) (pgs_cons (pg_attr (pe_var hj hv hd hcd)) pgs_nil hs2) hs1) hn hst) hsw hww h1).weak fun D σ H ⟨O, Φ, c, S, hw, k⟩ => ⟨O, _, c, S, hw, fun z v H1 c1 p1 ch S1 r => by
    obtain ⟨a, u, w, rfl, tt, q1, q2⟩ := r
    have S2 := S1.put (i := i) (en := e1) (x := z.1) q1
    have less : ∀ a, Av O pp (put ρ i (.sh e1 z.1)) a → Av O pp ρ a := fun a z => by
      rcases z with z | z | z
      · exact .inl z
      · exact .inr (.inl z)
      · exact .inr (.inr (own_put_sh z))
    have hg2 : get (put ρ i (.sh e1 z.1)) j = .ow p (oIns C ns t) xs := by rw [get_put_ne hij]; exact hg
    have q := S2.slots j
    rw [hg2] at q
    obtain ⟨e3, dx, fs, e4, e5, e6⟩ := q
    have hnn := look_none e5 hf0
    refine ⟨a, [u, w], rfl, tt.sq, rfl, u, [w], rfl, w, [], rfl, ⟨_, e3, p, C, dx, fs, rfl, e4, hC, hnA, by rw [← e5, List.length_map] at hl; exact hl, ?_⟩⟩
    have mv : Mv (Av O pp (put ρ i (.sh e1 z.1))) (Av O pp (put ρ i (.sh e1 z.1))) H1 (upd H1 p (.ins C dx (putF f w fs))) := fun b o n e => ⟨by rw [upd_ne (fun z => n (by rw [z]; exact .inr (.inr (owns_mem hg2))))]; exact e, n⟩
    obtain ⟨S3, st⟩ := S2.chgOwn (o := .ins C dx (putF f w fs)) (on' := oIns C (ns ++ [f]) (fC f e2 t)) (y := (z.2, xs)) hg2 ⟨dx, _, upd_same, by rw [putF_names hnn, e5], ⟨w, by rw [lookup_putF, if_pos rfl], e2.mono mv (e2.mono (Mv.less less) q2)⟩, t.mono mv (t.keep hnn e6)⟩
    exact ⟨rfl, k () z _ c1 p1 _ ((Stp.of_chg ch fun _ z => own_put_sh z).trans st) S3⟩⟩
end
/-! ### an instance called by keywords -/
theorem inst_kw {M : Model} {A : Around} {E : Value → Shared → Prop} {s : Shared} {q : Addr} {pos : Pos} {Q : Value → Shared → Prop} {xs : List (Bool × Sem Value)} {ks : List (Option Str × Sem Value)} (hp : (xs.any (·.1) || ks.any (·.1.isNone)) = false)
    (h : wpAny M A (evalArgs (.ref q) true xs ks) (fun z t => (∃ C ox od, PySem.W.InstAt t.heap q ox C od ∧ ox.data = .plain) ∧ wpAny M A (call (.ref q) ([] ++ z.pos) z.kw) Q E t) E s) : wpAny M A (callWith pos (.ref q) [] xs ks) Q E s := by
  have go : ∀ {m : Sem Value} {t : Shared}, wpAny M A m Q E t → wpAny M A (do let r ← m; holding [r] point; pure r) Q E t := fun g =>
    wpAny_bind (wpAny_mono g (fun _ _ hr => wpAny_bind (wpAny_holding (wpAny_point (wpAny_pure hr)))) fun _ _ z => z)
  unfold callWith
  refine wpAny_bind (wpAny_holding (wpAny_mono h (fun z t ht => wpAny_bind (wpAny_standAt ?_)) fun _ _ z => z))
  obtain ⟨⟨C, ox, od, J, hd⟩, g⟩ := ht
  simp only [hp]
  exact wpAny_bind ((PySem.W.kco_keeper (M := M) J hd).here (go (wpAny_operateT g)))
section
variable {X : Cx} {PK : PoolK} {pp : PP} {ρ : List (Sl X.K)} {α β γ δ : Type} {e a b : Expr} {es : List Expr} {pos apos : Pos}
theorem run_ikw {pins : List (Addr × Obj)} {σ : St} {H : Hp} {s : Shared} {Q : VK} {k : Nat} {q C f : Addr} {fd : FuncData} {ps ks : List Str} {sp : Sp} {us ws : List Value} {vs zs : List V} {g : List Value → List Value → List Value} {gV : List V → List V → List V} (cO : StX.CallO X.K C f) (F : FnOk X.prog X.w X.K X.mg X.base CX0 k f fd ps sp) (hr : Room k X.A)
    (hb : KBinds X.K fd ps ks g gV) (I : Inv X pins σ H s) (hi : StX.InsC X H q C) (r : Vals vs us) (rz : Vals zs ws) (h : sp (gV (.ref q :: vs) zs) H Q E0) : wpAny (model X.prog X.w) X.A (call (.ref q) us (ks.zip ws)) (EP X pins σ Q) X.xe s := by
  obtain ⟨ox, od, J, hd⟩ := StX.insC_at I hi
  have r1 : Vals (V.ref q :: vs) (Value.ref q :: us) := .cons rfl r
  have r2 := hb.rel r1 rz
  have hl : (g (.ref q :: us) ws).length = ps.length := r2.length.symm.trans (F.len _ _ _ _ h)
  refine wpAny_call (PySem.W.kco_code I.kIn J hd cO.at_ cO.fn cO.fi (codeAny_mono (F.run X.A X.stack s H ⟨.ref q :: us, ks.zip ws⟩ (g (.ref q :: us) ws) _ Q E0 hr I.env0 (hb.to s (.ref q :: us) ws I.kIn hl) r2 h) fun r t ht => ?_))
  cases r with
  | error z => exact pass0 pins σ H s z t I ht
  | ok fl => cases fl with
    | ret u => exact I.after ht
    | next => cases ht
    | brk => cases ht
    | cont => cases ht
def tIK (X : Cx) (C : Addr) (sp : Sp) (gV : List V → List V → List V) (ta : TE) (tk : TA) : TE := fun σ H Q => ta σ H fun y H1 => ∃ q, y = V.ref q ∧ tk σ H1 fun zs H2 => StX.InsC X H2 q C ∧ sp (gV [.ref q] zs) H2 Q E0
theorem pe_ikw {k : Nat} {C f : Addr} {fd : FuncData} {ps ks : List Str} {sp : Sp} {kws : List Keyword} {ta : TE} {tk : TA} {g : List Value → List Value → List Value} {gV : List V → List V → List V} (cO : StX.CallO X.K C f) (F : FnOk X.prog X.w X.K X.mg X.base CX0 k f fd ps sp) (hr : Room k X.A) (hb : KBinds X.K fd ps ks g gV)
    (ha : PE X a ta) (hk : L2.PK X kws tk) (ht : eval (.Call a [] kws pos) X.env = (do callWith pos (← eval a X.env) [] (backTo pos (starEach [] X.env)) (backToKw pos (keywordEach kws X.env))) := by rfl) (hall : (backToKw pos (keywordEach kws X.env)).all (·.1.isSome) = true := by rfl) (hks : (backToKw pos (keywordEach kws X.env)).filterMap (·.1) = ks := by rfl)
    (hpl : ((backTo pos (starEach [] X.env)).any (·.1) || (backToKw pos (keywordEach kws X.env)).any (·.1.isNone)) = false := by rfl) : PE X (.Call a [] kws pos) (tIK X C sp gV ta tk) := by
  refine ⟨fun pins s σ H Q I h => ?_⟩
  rw [ht]
  refine wpAny_bind (thn (ha.run pins s σ H _ I h) fun u s1 ⟨y, H1, I1, ry, q, ey, h1⟩ => ?_)
  subst ey
  obtain rfl : u = Value.ref q := ry
  refine inst_kw hpl (PyProof.Rows.evalArgs_kw2_nil hall (thn (hk.run pos pins s1 σ H1 _ I1 h1) fun ws s2 ⟨zs, H2, I2, rz, hi, h2⟩ => ?_))
  obtain ⟨ox, od, J, hd⟩ := StX.insC_at I2 hi
  refine ⟨⟨C, ox, od, J, hd⟩, ?_⟩
  rw [hks]
  exact run_ikw (us := []) (vs := []) cO F hr hb I2 hi .nil rz h2
theorem xcallOK {C g0 : Addr} {ns : List Str} {t : FE X.K α} {k : Nat} {fd : FuncData} {ps ks : List Str} {w : W α} {ea : EA X.K γ} {ek : EA X.K δ} {wa : W δ} {fw : α × γ → W β} {er : En X.K β} {kws : List Keyword} {g : List Value → List Value → List Value} {gV : List V → List V → List V} (pm : δ → γ) (cO : StX.CallO X.K C g0) (F : FnOk X.prog X.w X.K X.mg X.base CX0 k g0 fd ps (spW PK (aC (eIns C ns t) ea) fw er)) (hr : Room k X.A)
    (hb : KBinds X.K fd ps ks g gV) (h : PX X PK pp ρ a w (eIns C ns t)) (ha : PKX X PK pp ρ kws wa ek) (hpm : ∀ {pp O H q zs y}, ek.r pp O H zs y → ∃ r, gV [q] zs = q :: r ∧ ea.r pp O H r (pm y))
    (ht : eval (.Call a [] kws pos) X.env = (do callWith pos (← eval a X.env) [] (backTo pos (starEach [] X.env)) (backToKw pos (keywordEach kws X.env))) := by rfl) (hall : (backToKw pos (keywordEach kws X.env)).all (·.1.isSome) = true := by rfl) (hks : (backToKw pos (keywordEach kws X.env)).filterMap (·.1) = ks := by rfl)
    (hpl : ((backTo pos (starEach [] X.env)).any (·.1) || (backToKw pos (keywordEach kws X.env)).any (·.1.isNone)) = false := by rfl) : PX X PK pp ρ (.Call a [] kws pos) (bnd w fun x => bnd wa fun y => fw (x, pm y)) er :=
  (pe_ikw cO F hr hb h ha ht hall hks hpl).weak fun σ H Q ⟨O, Φ, c0, S, hw, kk⟩ => ⟨O, _, c0, S, hw, fun x v H1 c1 p1 ch1 S1 r => by
    have r0 := r
    obtain ⟨a, dx, fs, e1, nO, hH, l, q⟩ := r
    subst e1
    refine ⟨a, rfl, O, _, c1, S1, p1, fun y zs H2 c2 p2 ch2 S2 r2 => ?_⟩
    have r3 := (eIns C ns t).mono ch2.mv r0
    refine ⟨?_, ?_⟩
    · obtain ⟨a', dx', fs', e2, _, hH', _⟩ := r3
      cases e2
      exact .inr ⟨dx', fs', hH'⟩
    · obtain ⟨r, e4, r4⟩ := hpm (q := V.ref a) r2
      show spW PK (aC (eIns C ns t) ea) fw er (gV [V.ref a] zs) H2 Q E0
      rw [e4]
      exact ⟨pp, Av O pp ρ, (x, pm y), Φ, c2, S2.av, fun a h => .inr (.inl h), S2.pool, ⟨_, _, rfl, r3, r4⟩, p2, fun z v H3 c3 p3 ch3 pl3 rz => kk z v H3 c3 p3 ((ch1.trans ch2).trans ch3) (S2.chg ch3 pl3) rz⟩⟩
end
end Dc
/-! DcL: list comprehensions of any number of clauses. -/
namespace Dc
open PySem PySem.Spec L2 PyProof.Rows
section
variable {prog : Program} {w : World} {A : Around} {R : Result → Shared → Prop} {s : Shared} {elt : Expr} {scope : Scope} {pos : Pos} {it acc : Value} {env : Env} {gs : List Comprehension} {d : Nat} {t i : Expr}
/-- one turn of clause d -/
theorem turn_at {ifs : List Expr} (hg : gs[d]? = some ⟨t, i, ifs, 0⟩) : compTurn (.ListComp elt gs scope pos) d it acc env = (do
      standAt i.pos
      match ← pyNext it with
      | none => pure (.done .next)
      | some u =>
        letOwnedTupleGo t it u
        assign t env u
        let mut b := true
        for z in ifs do
          if b then b ← isTrue z env (eval z env)
        if b then
          match gs[d + 1]? with
          | some g =>
            let x ← eval g.iter env
            standAt g.iter.pos
            let x ← if g.is_async != 0 then foldedIterable g.iter x else foldedSetIterable g.iter env x
            let _ ← runOwn (.compStart (.ListComp elt gs scope pos) (d + 1) (← holding [x] (if g.is_async != 0 then asyncIter x else pyIter x)) acc env) env
          | none => (do let _ ← call (.builtin "list.append") [acc, ← eval elt env])
        again (.compLoop (.ListComp elt gs scope pos) d it acc env)) := by
  unfold compTurn
  simp only [hg]
  rfl
abbrev ErrT : Type := Value → Shared → Prop
/-- what clause d does behind its store: the next clause's loop, or the element -/
def restP (prog : Program) (w : World) (A : Around) (elt : Expr) (gs : List Comprehension) (scope : Scope) (pos : Pos) (d : Nat) (acc : Value) (env : Env) (Po : Shared → Prop) (E : ErrT) (s : Shared) : Prop :=
  match gs[d + 1]? with
  | some g => wpAny (model prog w) A (eval g.iter env) (fun x t4 => wpAny (model prog w) A (pyIter x) (fun j t5 => codeAny (model prog w) A (.compStart (.ListComp elt gs scope pos) (d + 1) j acc env) (fun r t6 => match r with | .ok _ => Po t6 | .error _ => False) t5) E t4) E s
  | none => wpAny (model prog w) A (eval elt env) (fun x t4 => wpAny (model prog w) A (call (.builtin "list.append") [acc, x]) (fun _ t5 => Po t5) E t4) E s
theorem loop_at {ifs : List Expr} (hg : gs[d]? = some ⟨t, i, ifs, 0⟩) (hn : ∀ g, gs[d + 1]? = some g → g.is_async = 0 ∧ ∀ x, foldedSetIterable g.iter env x = pure x) (I : Nat → Shared → Prop)
    (turn : ∀ n s, I n s → wpAny (model prog w) A (pyNext it) (fun r t1 => match r with
      | none => R (.ok .next) t1
      | some u => wpAny (model prog w) A (letOwnedTupleGo t it u) (fun _ t2 => wpAny (model prog w) A (assign t env u) (fun _ t3 => wpAny (model prog w) A (forIn ifs true fun z b => if b = true then do let ok ← isTrue z env (eval z env); pure (ForInStep.yield ok) else pure (ForInStep.yield b)) (fun b t4 =>
          if b = true then restP prog w A elt gs scope pos d acc env (fun t5 => ∃ m, m < n ∧ I m t5) (notedBy (model prog w) A env fun e s' => R (.error e) s') t4 else ∃ m, m < n ∧ I m t4)
          (notedBy (model prog w) A env fun e s' => R (.error e) s') t3) (notedBy (model prog w) A env fun e s' => R (.error e) s') t2) (notedBy (model prog w) A env fun e s' => R (.error e) s') t1) (notedBy (model prog w) A env fun e s' => R (.error e) s') s)
    (n : Nat) (h : I n s) : codeAny (model prog w) A (.compLoop (.ListComp elt gs scope pos) d it acc env) R s := by
  refine codeAny_loop rfl I (fun n s hI => ?_) n h
  show wpAny _ A ((compTurn (.ListComp elt gs scope pos) d it acc env).onRaise (fun x => do noteFrame x env; theTreesLotGoes x)) _ _ s
  refine wpAny_noted ?_
  rw [turn_at hg]
  refine wpAny_bind (wpAny_standAt (wpAny_bind (wpAny_mono (turn n s hI) (fun r t1 q => ?_) fun _ _ z => z)))
  cases r with
  | none => exact wpAny_pure q
  | some u =>
    refine wpAny_bind (wpAny_mono q (fun _ t2 q2 => ?_) fun _ _ z => z)
    refine wpAny_bind (wpAny_mono q2 (fun _ t3 q3 => wpAny_bind (wpAny_mono q3 (fun b t4 q4 => ?_) fun _ _ z => z)) fun _ _ z => z)
    cases b with
    | false => exact wpAny_pure ⟨rfl, q4⟩
    | true =>
      have q5 : restP prog w A elt gs scope pos d acc env (fun t5 => ∃ m, m < n ∧ I m t5) (notedBy (model prog w) A env fun e s' => R (.error e) s') t4 := q4
      unfold restP at q5
      cases hd : gs[d + 1]? with
      | none =>
        rw [hd] at q5
        exact wpAny_bind (wpAny_bind (wpAny_mono q5 (fun x t5 q6 => wpAny_bind (wpAny_mono q6 (fun _ t6 q7 => wpAny_pure (wpAny_pure ⟨rfl, q7⟩)) fun _ _ z => z)) fun _ _ z => z))
      | some g =>
        obtain ⟨h0, hs⟩ := hn g hd
        obtain ⟨t1', i1, ifs1, a1⟩ := g
        cases h0
        rw [hd] at q5
        refine wpAny_bind (wpAny_mono q5 (fun x t5 q6 => ?_) fun _ _ z => z)
        refine wpAny_bind (wpAny_standAt (wpAny_bind (wpAny_of_eq (hs x) (wpAny_bind (wpAny_holding (wpAny_mono q6 (fun j t6 q7 => ?_) fun _ _ z => z))))))
        refine wpAny_bind (wpAny_runOwn ?_)
        rw [Around.mark_none]
        refine codeAny_mono q7 fun r t7 hr => ?_
        cases r with
        | ok f =>
          first
            | exact wpAny_pure ⟨rfl, hr⟩
            | exact wpAny_bind (wpAny_pure (wpAny_pure ⟨rfl, hr⟩))
        | error e => exact hr.elim
/-- a later clause's start -/
theorem start_at {ifs : List Expr} (hg : gs[d]? = some ⟨t, i, ifs, 0⟩) (h0 : codeAny (model prog w) A (.compLoop (.ListComp elt gs scope pos) d it acc env) R s)
    (h : wpAny (model prog w) A (pyIter it) (fun j t1 => codeAny (model prog w) A (.compLoop (.ListComp elt gs scope pos) d j acc env) R t1) (notedBy (model prog w) A env fun x t1 => R (.error x) t1) s) :
    codeAny (model prog w) A (.compStart (.ListComp elt gs scope pos) d it acc env) R s := by
  refine codeAny_of_tree ?_
  show wpAny _ _ ((compStart (.ListComp elt gs scope pos) d it acc env).onRaise (fun x => do noteFrame x env; standAt theWindowsPlace)) _ _ s
  refine wpAny_notedAt ?_
  unfold compStart
  simp only [show clausesOf (.ListComp elt gs scope pos) = gs from rfl, hg]
  show wpAny _ _ (ask >>= _) _ _ s
  refine wpAny_bind (wpAny_askSetting (wpAny_ite ?_))
  split
  · first
      | exact wpAny_bind (wpAny_pure (wpAny_pure (And.intro rfl h0)))
      | exact wpAny_pure (And.intro rfl h0)
  · first
      | exact wpAny_bind (wpAny_rule (wpAny_bind (wpAny_standAt (wpAny_bind (wpAny_mono h (fun j t1 q => wpAny_pure (And.intro rfl q)) fun _ _ x => x)))))
      | (refine wpAny_bind (wpAny_rule ?_); show wpAny _ _ (standAt i.pos >>= _) _ _ s; exact wpAny_bind (wpAny_standAt (wpAny_bind (wpAny_mono h (fun j t1 q => wpAny_pure (And.intro rfl q)) fun _ _ x => x))))
end
/-- readings of what clause d does behind its store, the list at D -/
def TR : Type := L2.St → Hp → (Hp → Prop) → Prop
/-- from any state that is read so the rest of clause d comes through; slots in vs may be lost -/
structure PR (Y : Cx) (elt : Expr) (gs : List Comprehension) (scope : Scope) (pos : Pos) (d : Nat) (D : Addr) (vs : List Nat) (tr : TR) : Prop where
  run : ∀ (pins : List (Addr × Obj)) (s : Shared) (σ : L2.St) (H : Hp) (N : Hp → Prop), Inv Y pins σ H s → tr σ H N → ∀ E : ErrT, restP Y.prog Y.w Y.A elt gs scope pos d (.ref D) Y.env (fun t5 => ∃ H', Inv Y pins (wipe σ vs) H' t5 ∧ N H') E s
section
variable {Y : Cx} {elt : Expr} {gs : List Comprehension} {scope : Scope} {pos : Pos} {d : Nat} {D : Addr}
theorem PR.ex {ι : Type} {vs : List Nat} {tr : ι → TR} (h : ∀ x, PR Y elt gs scope pos d D vs (tr x)) : PR Y elt gs scope pos d D vs (fun σ H N => ∃ x, tr x σ H N) := ⟨fun pins s σ H N I ⟨x, q⟩ E => (h x).run pins s σ H N I q E⟩
theorem PR.weak {vs : List Nat} {tr tr' : TR} (h : PR Y elt gs scope pos d D vs tr) (f : ∀ σ H N, tr' σ H N → tr σ H N) : PR Y elt gs scope pos d D vs tr' := ⟨fun pins s σ H N I q E => h.run pins s σ H N I (f σ H N q) E⟩
theorem pr_end {te : TE} (hx : Y.xe = fun _ _ => False) (hg : gs[d + 1]? = none) (he : PE Y elt te) : PR Y elt gs scope pos d D [] (fun σ H N => te σ H fun y H1 => ∃ acc, H1 D = some (.lst acc) ∧ acc.length < sizeLine ∧ N (upd H1 D (.lst (acc ++ [y])))) := by
  refine ⟨fun pins s σ H N I q E => ?_⟩
  unfold restP
  rw [hg]
  have h1 := he.run pins s σ H _ I q
  rw [hx] at h1
  refine thnF h1 fun z t1 h2 => ?_
  obtain ⟨y, H1, I1, r1, acc, hD, hz, nx⟩ := h2
  exact app_ok I1 hD hz r1 fun t2 I2 => ⟨_, I2, nx⟩
theorem pr_mid {t i : Expr} {wi : TI} {g : TG} {vs ws : List Nat} {tr : TR} (hx : Y.xe = fun _ _ => False) (hc : Y.calm = true) (hg : gs[d + 1]? = some ⟨t, i, [], 0⟩) (hn : ∀ g, gs[d + 2]? = some g → g.is_async = 0 ∧ ∀ x, foldedSetIterable g.iter Y.env x = pure x) (hi : PI Y t i wi) (hp : PG Y t g) (hr : PR Y elt gs scope pos (d + 1) D ws tr) (hv : ∀ k ∈ ws, k ∈ vs) :
    PR Y elt gs scope pos d D vs (fun σ H N => wi σ H fun J H1 => ∃ V : Nat → Nat → Hp → Prop, (∃ m, V 0 m H1) ∧ ∀ j k H, V j k H → (J.stop j H ∧ N H) ∨ (J.go j H ∧ ∃ Nx : Hp → Prop, (∀ H', Nx H' → ∃ k', k' < k ∧ V (j + 1) k' H') ∧ ∀ x H', J.yld j H x H' → g x (wipe σ vs) H' fun σ2 H2 => wipe σ2 vs = wipe σ vs ∧ tr σ2 H2 Nx)) := by
  refine ⟨fun pins s σ H N I q E => ?_⟩
  unfold restP
  rw [hg]
  have h1 := hi.run pins s σ H _ I q
  rw [hx] at h1
  refine thnF h1 fun xv t1 h2 => thnF h2 fun itv t2 h2 => ?_
  obtain ⟨j0, fp, tn, J, H2, e, I2, T, st2, f2, V, ⟨m0, v0⟩, turn⟩ := h2
  subst e
  have stat : ∀ {H' : Hp}, (∀ b ∈ fp, H' b = none) → ∀ b ∈ fp, FpOk Y pins H' b := fun hn b hb => ⟨hn b hb, (f2 b hb).2⟩
  have loop : codeAny (model Y.prog Y.w) Y.A (.compLoop (.ListComp elt gs scope pos) (d + 1) (.ref j0) (.ref D) Y.env) (fun r t6 => match r with | .ok _ => ∃ H', Inv Y pins (wipe σ vs) H' t6 ∧ N H' | .error _ => False) t2 := by
    refine loop_at hg hn (fun k t3 => ∃ j H', Inv Y pins (wipe σ vs) H' t3 ∧ tn j t3.heap ∧ (∀ b ∈ fp, H' b = none) ∧ V j k H') ?_ m0 ⟨0, H2, I2.weak (wipe_length _ _) (fun j v e => (wipe_some e).1), st2, fun b hb => (f2 b hb).1, v0⟩
    rintro k t3 ⟨j, H3, I3, st3, n3, v3⟩
    rcases turn j k H3 v3 with ⟨stop, nx⟩ | ⟨go, Nx, hNx, step⟩
    · refine thnF (T.done Y rfl rfl rfl hc j _ t3 (wipe σ vs) H3 (fun _ _ => False) I3 (stat n3) st3 stop) fun r t4 ⟨hr, I4⟩ => ?_
      subst hr
      exact ⟨H3, I4, nx⟩
    · refine thnF (T.item Y rfl rfl rfl hc j _ t3 (wipe σ vs) H3 (fun _ _ => False) I3 (stat n3) st3 go) fun r t4 ⟨u, hr', h4⟩ => ?_
      subst hr'
      refine thnF h4 fun _ t5 ⟨x, H5, I5, r5, y5, st5, n5⟩ => ?_
      have I5' := I5.pinned (stat n5) (T.obj _ _ st5)
      have h5 := hp.run _ t5 (wipe σ vs) H5 x u _ I5' r5 (step x H5 y5)
      rw [hx] at h5
      refine thnF h5 fun _ t6 h6 => ?_
      obtain ⟨σ6, H6, I6, hw6, q6⟩ := h6
      have h7 := (pts_nil (X := Y)).run _ t6 σ6 H6 _ I6 (show tYes σ6 H6 (fun b H' => b = true ∧ tr σ6 H' Nx) from ⟨rfl, q6⟩)
      rw [hx] at h7
      refine thnF h7 fun b t7 h8 => ?_
      obtain ⟨H7, I7, hb, q7⟩ := h8
      subst hb
      simp only [if_true]
      have z := hr.run _ t7 σ6 H7 Nx I7 q7
      have fin : ∀ t8, (∃ H', Inv Y (pins ++ pinsAt fp t5.heap) (wipe σ6 ws) H' t8 ∧ Nx H') → ∃ m, m < k ∧ ∃ j H', Inv Y pins (wipe σ vs) H' t8 ∧ tn j t8.heap ∧ (∀ b ∈ fp, H' b = none) ∧ V j m H' := fun t8 ⟨H', I', nx⟩ => by
        obtain ⟨m', hm, w'⟩ := hNx H' nx
        have pin' : ∀ b ∈ fp, ∀ o, t5.heap.get? b = some o → t8.heap.get? b = some o ∧ H' b = none := fun b hb o e =>
          let z := I'.pin (b, o) (List.mem_append_right _ (List.mem_append_right _ (mem_pinsAt hb e)))
          ⟨z.1, z.2.1⟩
        refine ⟨m', hm, j + 1, H', I'.unpinned.weak (by rw [← hw6, wipe_length, wipe_length]) (fun l v e => ?_), T.keep _ _ _ st5 fun b hb o e => (pin' b hb o e).1, fun b hb => ?_, w'⟩
        · rw [← hw6] at e
          obtain ⟨e1, e2⟩ := wipe_some e
          rw [wipe_out fun z => e2 (hv l z)]
          exact e1
        · obtain ⟨o, e, _⟩ := T.obj _ _ st5 b hb
          exact (pin' b hb o e).2
      have z2 := z (notedBy (model Y.prog Y.w) Y.A Y.env fun e s' => (match (Except.error e : Result) with | .ok _ => ∃ H', Inv Y pins (wipe σ vs) H' s' ∧ N H' | .error _ => False))
      unfold restP at z2 ⊢
      revert z2
      cases gs[d + 1 + 1]? with
      | none => exact fun z2 => wpAny_mono z2 (fun _ _ q => wpAny_mono q (fun _ t8 q => fin t8 q) fun _ _ z => z) fun _ _ z => z
      | some g2 => exact fun z2 => wpAny_mono z2 (fun _ _ q => wpAny_mono q (fun _ _ q => codeAny_mono q fun r t8 q => (match r, q with | .ok _, q => fin t8 q | .error _, q => q)) fun _ _ z => z) fun _ _ z => z
  exact start_at hg loop (T.self Y.A 0 _ _ _ st2 loop)
end
section
variable {X : Cx}
/-- a comprehension's whole, from the rest of its first clause -/
theorem pe_lcN {elt tg iter : Expr} {gs : List Comprehension} {scope : Scope} {own : List (Str × Nat)} {vs : List Nat} {pos : Pos} {wi : TI} {g : TG} {tr : Addr → TR} (hc : X.calm = true) (hN : X.N.Nodup) (hi : PI X tg iter wi) (ok : BlkOk X.N X.env.scope scope own) (hv : ∀ k ∈ vs, k ∈ own.map (·.2))
    (hg : ∀ (s : Shared) (H : Hp) (C : Addr) (cl : List (Str × Addr)) (fp : List Addr), PG (X.blk s H scope (compEnvC scope cl C X.env) fp) tg g)
    (hr : ∀ (s : Shared) (H : Hp) (C : Addr) (cl : List (Str × Addr)) (fp : List Addr) (D : Addr), PR (X.blk s H scope (compEnvC scope cl C X.env) fp) elt (⟨tg, iter, [], 0⟩ :: gs) scope pos 0 D vs (tr D))
    (hn : ∀ env g, gs[0]? = some g → g.is_async = 0 ∧ ∀ x, foldedSetIterable g.iter env x = pure x) (hs : ∀ x, foldedSetIterable iter X.env x = pure x := by intro _; rfl) :
    PE X (.ListComp elt (⟨tg, iter, [], 0⟩ :: gs) scope pos) (fun σ H Q => wi σ H fun J H1 => ∀ D, H1 D = none → ∃ V : Nat → Nat → Hp → Prop, (∃ m, V 0 m (upd H1 D (.lst []))) ∧ ∀ i m H, V i m H →
      (J.stop i H ∧ Q (.ref D) H) ∨ (J.go i H ∧ ∃ Nx : Hp → Prop, (∀ H', Nx H' → ∃ m', m' < m ∧ V (i + 1) m' H') ∧ ∀ x H', J.yld i H x H' → g x (wipe σ (own.map (·.2))) H' fun σ2 H2 => wipe σ2 (own.map (·.2)) = wipe σ (own.map (·.2)) ∧ tr D σ2 H2 Nx)) := by
  refine ⟨fun pins s σ H Q I h => ?_⟩
  rw [eval_ListComp]
  have hfree : ∀ y ∈ scope.names, y.2 = .free → ∃ c, X.env.cells.lookup y.1 = some c := fun y hy e => (ok.free y hy e).elim (fun k => I.ok.has _ (.inl k)) (fun k => I.ok.has _ (.inr k))
  refine wpAny_comprehension_free (use := none) rfl hs (closure_ok hfree) ok.kind (fun y hy e => by rw [ok.uniq y hy, e]) (thn (hi.run pins s σ H _ I h) fun xv t1 hx => thn hx fun itv t2 h2 => ?_)
  obtain ⟨j0, fp, tn, J, H2, e, I2, T, st2, f2, q⟩ := h2
  subst e
  refine wpAny_newObj_type (newEnv_comp ?_) (by show 0 ≤ sizeLine; decide)
  generalize hD : t2.heap.objs.size = D
  have hDn : H2 D = none := I2.hok.fresh (Nat.le_of_eq hD)
  obtain ⟨V, ⟨m0, v0⟩, turn⟩ := q D hDn
  generalize ht3 : ({ t2 with heap := t2.heap.push { cls := .type "list", data := .seq ([] : List Value).toArray } } : Shared) = t3
  have h3 : t3.heap = t2.heap.push { cls := .type "list", data := .seq ([] : List Value).toArray } := by rw [← ht3]
  have I3 : Inv X pins σ (upd H2 D (.lst [])) t3 := by
    rw [← ht3]
    exact I2.laid (t' := t2.toks) (fun b o e => Heap.get?_push_of_some _ e) (Nat.le_of_eq hD) ⟨Nat.zero_le _, [], 0, .nil, by rw [← hD]; exact Heap.get?_push_size _ rfl⟩
  have f3 : ∀ b ∈ fp, FpOk X pins (upd H2 D (.lst [])) b ∧ b < t3.heap.objs.size := fun b hb => by
    obtain ⟨o, e, _⟩ := T.obj _ _ st2 b hb
    have hlt := Heap.lt_size e
    exact ⟨⟨by rw [upd_ne (by rw [← hD]; exact Nat.ne_of_lt hlt)]; exact (f2 b hb).1, (f2 b hb).2⟩, by rw [h3, Heap.size_push]; exact Nat.lt_succ_of_lt hlt⟩
  have st3 : tn 0 t3.heap := T.keep _ _ _ st2 fun b _ o e => by rw [h3]; exact Heap.get?_push_of_some _ e
  have I4 := block_start I3 ok hN f3
  have pg := hg t3 (upd H2 D (.lst [])) t3.heap.objs.size (cellsFrom (t3.heap.objs.size + 1) scope.names (cloFrom X.env.cells scope.names [])) fp
  have pr := hr t3 (upd H2 D (.lst [])) t3.heap.objs.size (cellsFrom (t3.heap.objs.size + 1) scope.names (cloFrom X.env.cells scope.names [])) fp D
  show codeAny _ _ (.compStart (.ListComp elt (⟨tg, iter, [], 0⟩ :: gs) scope pos) 0 (.ref j0) (.ref D) (compEnvC scope (cellsFrom (t3.heap.objs.size + 1) scope.names (cloFrom X.env.cells scope.names [])) t3.heap.objs.size X.env)) (compPost (model X.prog X.w) X.A X.xe none _ (.ref D) t3.heap.objs.size) { t3 with heap := pushCells (t3.heap.push { cls := .type "dict", data := .dict #[] }) scope.names }
  have nfp : ∀ b ∈ fp, (upd H2 D (.lst [])) b = none := fun b hb => (f3 b hb).1.1
  generalize hce : compEnvC scope (cellsFrom (t3.heap.objs.size + 1) scope.names (cloFrom X.env.cells scope.names [])) t3.heap.objs.size X.env = ce at I4 pg pr ⊢
  have cL : ce.locals = t3.heap.objs.size := by subst hce; rfl
  generalize hH3 : upd H2 D (.lst []) = H3 at I3 I4 pg pr v0 nfp f3
  generalize hs4 : ({ t3 with heap := pushCells (t3.heap.push { cls := .type "dict", data := .dict #[] }) scope.names } : Shared) = t4 at I4 ⊢
  have st4 : tn 0 t4.heap := T.keep _ _ _ st3 fun b _ o e => by rw [← hs4]; exact pushCells_keeps _ _ _ _ (Heap.get?_push_of_some _ e)
  have stat : ∀ {σ' : L2.St} {H' : Hp} {s' : Shared}, Inv (X.blk t3 H3 scope ce fp) [] σ' H' s' → (∀ b ∈ fp, H' b = none) → ∀ b ∈ fp, FpOk (X.blk t3 H3 scope ce fp) [] H' b := fun {σ' H' s'} I' hn b hb =>
    ⟨hn b hb, (I'.ok.exf b hb).1, I'.ok.exfs b hb, .inl hb, fun x c e => (I'.ok.exf b hb).2 x c e, fun p hp => absurd (show p ∈ ([] : List (Addr × Obj)) ++ [] from hp) (by simp)⟩
  have loop : codeAny (model X.prog X.w) X.A (.compLoop (.ListComp elt (⟨tg, iter, [], 0⟩ :: gs) scope pos) 0 (.ref j0) (.ref D) ce) (compPost (model X.prog X.w) X.A X.xe none (EP X pins σ Q) (.ref D) t3.heap.objs.size) t4 := by
    refine loop_at (ifs := []) rfl (fun g hg' => hn ce g hg') (fun n t5 => ∃ i H', Inv (X.blk t3 H3 scope ce fp) [] (wipe σ (own.map (·.2))) H' t5 ∧ tn i t5.heap ∧ (∀ b ∈ fp, H' b = none) ∧ V i n H') ?_ m0 ⟨0, H3, I4, st4, nfp, v0⟩
    rintro n t5 ⟨i, H5, I5, st5, n5, v5⟩
    rcases turn i n H5 v5 with ⟨stop, qq⟩ | ⟨go, Nx, hNx, step⟩
    · refine thnF (T.done (X.blk t3 H3 scope ce fp) rfl rfl rfl hc i [] t5 _ H5 (fun _ _ => False) I5 (stat I5 n5) st5 stop) fun r t6 ⟨hr', I6⟩ => ?_
      subst hr'
      have I7 : Inv X pins σ H5 t6 := I3.call' (ch := fp) I6.os I6.base I6.hok I6.bare fun b hb => ⟨(f3 b hb).1.2.2.2.1, (f3 b hb).1.2.1, (f3 b hb).1.2.2.2.2.1, (f3 b hb).1.2.2.2.2.2⟩
      have nC : H5 t3.heap.objs.size = none := by
        have z : H5 ce.locals = none := I6.free
        rw [cL] at z
        exact z
      obtain ⟨m, hm, _⟩ := I6.loc
      have hm : t6.heap.Ns ce.locals m := hm
      rw [cL] at hm
      obtain ⟨f0, f1, f2', f3', f4, f5⟩ := I3.fpOk (Nat.le_refl _) nC
      exact ⟨m, hm, fun h'' sb => ⟨.ref D, H5, I7.turned (t' := t6.toks) (fun b o hb e => (sb.2 b hb).trans e) f0 f1 f3' f4 f5, rfl, qq⟩⟩
    · refine thnF (T.item (X.blk t3 H3 scope ce fp) rfl rfl rfl hc i [] t5 _ H5 (fun _ _ => False) I5 (stat I5 n5) st5 go) fun r t6 ⟨u, hr', h6⟩ => ?_
      subst hr'
      refine thnF h6 fun _ t7 ⟨x, H7, I7, r7, y7, st7, n7⟩ => ?_
      have I7' := I7.pinned (stat I7 n7) (T.obj _ _ st7)
      refine thnF (pg.run _ t7 _ H7 x u _ I7' r7 (step x H7 y7)) fun _ t8 ⟨σ8, H8, I8, hw8, q8⟩ => ?_
      refine thnF ((pts_nil (X := X.blk t3 H3 scope ce fp)).run _ t8 σ8 H8 _ I8 (show tYes σ8 H8 (fun b H' => b = true ∧ tr D σ8 H' Nx) from ⟨rfl, q8⟩)) fun b t9 ⟨H9, I9, hb, q9⟩ => ?_
      subst hb
      simp only [if_true]
      have fin : ∀ t10, (∃ H', Inv (X.blk t3 H3 scope ce fp) ([] ++ pinsAt fp t7.heap) (wipe σ8 vs) H' t10 ∧ Nx H') → ∃ m, m < n ∧ ∃ i H', Inv (X.blk t3 H3 scope ce fp) [] (wipe σ (own.map (·.2))) H' t10 ∧ tn i t10.heap ∧ (∀ b ∈ fp, H' b = none) ∧ V i m H' := fun t10 ⟨H', I', nx⟩ => by
        obtain ⟨m', hm, w'⟩ := hNx H' nx
        have pin' : ∀ b ∈ fp, ∀ o, t7.heap.get? b = some o → t10.heap.get? b = some o ∧ H' b = none := fun b hb o e =>
          let z := I'.pin (b, o) (List.mem_append_right _ (List.mem_append_right _ (mem_pinsAt hb e)))
          ⟨z.1, z.2.1⟩
        refine ⟨m', hm, i + 1, H', (I'.unpinned (pins := [])).weak (by rw [← hw8, wipe_length, wipe_length]) (fun l v e => ?_), T.keep _ _ _ st7 fun b hb o e => (pin' b hb o e).1, fun b hb => ?_, w'⟩
        · rw [← hw8] at e
          obtain ⟨e1, e2⟩ := wipe_some e
          rw [wipe_out fun z => e2 (hv l z)]
          exact e1
        · obtain ⟨o, e, _⟩ := T.obj _ _ st7 b hb
          exact (pin' b hb o e).2
      have z := pr.run _ t9 σ8 H9 Nx I9 q9 (notedBy (model X.prog X.w) X.A ce fun e s' => compPost (model X.prog X.w) X.A X.xe none (EP X pins σ Q) (.ref D) t3.heap.objs.size (.error e) s')
      unfold restP at z ⊢
      revert z
      cases (⟨tg, iter, [], 0⟩ :: gs)[0 + 1]? with
      | none => exact fun z => wpAny_mono z (fun _ _ q => wpAny_mono q (fun _ t10 q => fin t10 q) fun _ _ z => z) fun _ _ z => z
      | some g2 => exact fun z => wpAny_mono z (fun _ _ q => wpAny_mono q (fun _ _ q => codeAny_mono q fun r t10 q => (match r, q with | .ok _, q => fin t10 q | .error _, q => q)) fun _ _ z => z) fun _ _ z => z
  exact codeAny_compStart_list loop (T.self X.A 0 _ _ _ st4 loop)
end
/-! ### what the clauses compute -/
section
variable {X : Cx} {PK : PoolK} {pp : PP} {ρ : List (Sl X.K)} {α β γ δ : Type}
def fldW (f : γ → α → W γ) : γ → List α → W γ
  | s, [] => ret s
  | s, x :: r => bnd (f s x) fun s' => fldW f s' r
def addW (w : W β) (acc : List β) : W (List β) := bnd w fun y => grd (decide (acc.length < 16777216)) (ret (acc ++ [y]))
/-- the rest of a clause, by what the list at D holds -/
def rdR {K : PySem.W.Frag} (PK : PoolK) (pp : PP) (ρ : List (Sl K)) (w : List β → W (List β)) (en : En K β) (D : Addr) : TR := fun σ H N => ∃ O Φ c acc vs, Sat PK (Ox O D) pp ρ c σ H ∧ ¬ foot pp D ∧ H D = some (.lst vs) ∧ F2 (en.r (Av (Ox O D) pp ρ) H) vs acc ∧ w acc Φ noX c ∧
  ∀ acc' vs' H' c', Φ acc' c' → H' D = some (.lst vs') → F2 (en.r (Av (Ox O D) pp ρ) H') vs' acc' → Chg pp (upd H D (.lst [])) (upd H' D (.lst [])) → Sat PK (Ox O D) pp ρ c' σ H' → N H'
theorem Sat.beside {K : PySem.W.Frag} {ρ : List (Sl K)} {O : AS} {D : Addr} {c c' : Nat} {σ : L2.St} {H H' : Hp} {vs vs' : List V} (S : Sat PK (Ox O D) pp ρ c σ H) (nf : ¬ foot pp D) (e : H D = some (.lst vs)) (e' : H' D = some (.lst vs')) (ch : Chg pp (upd H D (.lst [])) (upd H' D (.lst []))) (p : PoolOk PK pp H' c') : Sat PK (Ox O D) pp ρ c' σ H' := by
  have p2 : PoolOk PK pp (upd H' D (.lst vs)) c' := by
    cases pp with
    | none => exact True.intro
    | some q =>
      obtain ⟨a, b⟩ := q
      have q : PK.r H' a b c' := p
      exact PK.keep (upd_ne fun z => nf (.inl z.symm)) (upd_ne fun z => nf (.inr z.symm)) q
  have ch2 : Chg pp H (upd H' D (.lst vs)) := fun a o ea hf => by
    by_cases ne : a = D
    · subst ne; rw [upd_same]; rw [e] at ea; exact ea
    · have z := ch a o (by rw [upd_ne ne]; exact ea) hf
      rw [upd_ne ne] at z ⊢
      exact z
  have S2 := (S.chg ch2 p2).updO (o := .lst vs') (.inr rfl) nf
  have eq : upd (upd H' D (.lst vs)) D (.lst vs') = H' := by
    funext a
    by_cases ne : a = D
    · subst ne; rw [upd_same, e']
    · rw [upd_ne ne, upd_ne ne]
  rw [eq] at S2
  exact S2
theorem fold_V {K : PySem.W.Frag} {ρ : List (Sl K)} {xs : List α} {ext : List (Sl K) → α → List (Sl K)} {js vs : List Nat} {g : TG} {J : It} {A0 : AS} {H1 Hs : Hp} {O : AS} {D : Addr} {σ : L2.St} {wr : α → List β → W (List β)} {en : En K β} {Φ : List β → WB} {acc0 : List β} {vs0 : List V} {c0 : Nat} {Fin : Hp → Prop}
    (src : Src PK xs ext js g J A0 H1) (nf : ¬ foot pp D) (mvs : ∀ H', Chg pp (upd H1 D (.lst [])) (upd H' D (.lst [])) → Mv A0 (Av (Ox O D) pp ρ) H1 H') (hj : ∀ j ∈ js, j ∈ vs) (hn : ∀ i ∈ vs, get ρ i = .nil) (ho : ∀ x, owns (ext ρ x) = owns ρ)
    (e0 : Hs D = some (.lst vs0)) (f0 : F2 (en.r (Av (Ox O D) pp ρ) Hs) vs0 acc0) (ch0 : Chg pp (upd H1 D (.lst [])) (upd Hs D (.lst []))) (S0 : Sat PK (Ox O D) pp ρ c0 σ Hs) (w0 : fldW (fun acc x => wr x acc) acc0 xs Φ noX c0)
    (done : ∀ acc' vs' H' c', Φ acc' c' → H' D = some (.lst vs') → F2 (en.r (Av (Ox O D) pp ρ) H') vs' acc' → Chg pp (upd H1 D (.lst [])) (upd H' D (.lst [])) → Sat PK (Ox O D) pp ρ c' σ H' → Fin H') :
    ∃ V : Nat → Nat → Hp → Prop, (∃ m, V 0 m Hs) ∧ ∀ i m H, V i m H → (J.stop i H ∧ Fin H) ∨ (J.go i H ∧ ∃ Nx : Hp → Prop, (∀ H', Nx H' → ∃ m', m' < m ∧ V (i + 1) m' H') ∧ ∀ x H', J.yld i H x H' → g x (wipe σ vs) H' fun σ2 H2 => wipe σ2 vs = wipe σ vs ∧ ∃ y, rdR PK pp (ext ρ y) (wr y) en D σ2 H2 Nx) := by
  refine ⟨fun i m H' => m = xs.length - i ∧ i ≤ xs.length ∧ ∃ acc us c', H' D = some (.lst us) ∧ F2 (en.r (Av (Ox O D) pp ρ) H') us acc ∧ Chg pp (upd H1 D (.lst [])) (upd H' D (.lst [])) ∧ Sat PK (Ox O D) pp ρ c' σ H' ∧ fldW (fun acc x => wr x acc) acc (xs.drop i) Φ noX c',
    ⟨xs.length, by simp, Nat.zero_le _, acc0, vs0, c0, e0, f0, ch0, S0, by simpa using w0⟩, ?_⟩
  rintro i m H' ⟨rfl, hi', acc, us0, c', eD, fD, chD, S', hw'⟩
  have mv := mvs H' chD
  by_cases hlt : i < xs.length
  · refine .inr ⟨src.go i H' _ hlt mv, fun H3 => ∃ acc us c', H3 D = some (.lst us) ∧ F2 (en.r (Av (Ox O D) pp ρ) H3) us acc ∧ Chg pp (upd H1 D (.lst [])) (upd H3 D (.lst [])) ∧ Sat PK (Ox O D) pp ρ c' σ H3 ∧ fldW (fun acc x => wr x acc) acc (xs.drop (i + 1)) Φ noX c', fun H3 q => ⟨xs.length - (i + 1), by omega, rfl, hlt, q⟩, fun v H2 y => ?_⟩
    obtain ⟨us, H3, eus, sm, S3, hQ⟩ := src.yld i xs[i] H' v H2 pp ρ (Ox O D) c' (wipe σ vs) (List.getElem?_eq_getElem hlt) mv (S'.wipe hn) y
    refine hQ _ ⟨wipe_setAll fun u hu => hj _ (by rw [← eus]; exact List.mem_map.mpr ⟨u, hu, rfl⟩), xs[i], ?_⟩
    rw [List.drop_eq_getElem_cons hlt] at hw'
    have mva : Mv (Av (Ox O D) pp ρ) (Av (Ox O D) pp (ext ρ xs[i])) H' H3 := fun a o n e => ⟨sm a o e, fun z => n (by unfold Av at z ⊢; rw [ho] at z; exact z)⟩
    refine ⟨O, _, c', acc, us0, S3, nf, sm D _ eD, fD.imp fun _ _ => en.mono mva, hw', fun acc2 vs2 H4 c4 p4 e4 f4 ch4 S4 => ?_⟩
    have ch5 : Chg pp (upd H' D (.lst [])) (upd H4 D (.lst [])) := fun a o e hf => ch4 a o (by
      by_cases ne : a = D
      · subst ne; rw [upd_same] at e ⊢; exact e
      · rw [upd_ne ne] at e ⊢; exact sm a o e) hf
    exact ⟨acc2, vs2, c4, e4, f4.imp fun _ _ => en.mono (Mv.less fun a z => by unfold Av at z ⊢; rw [ho]; exact z), chD.trans ch5, S'.beside nf eD e4 ch5 S4.pool, p4⟩
  · have e : i = xs.length := by omega
    subst e
    rw [List.drop_length] at hw'
    exact .inl ⟨src.stop H' _ mv, done acc us0 H' c' hw' eD fD chD S'⟩
variable {elt : Expr} {gs : List Comprehension} {scope : Scope} {pos : Pos} {d : Nat} {D : Addr}
theorem px_end {w : W β} {en : En X.K β} (hx : X.xe = fun _ _ => False) (hg : gs[d + 1]? = none) (he : PX X PK pp ρ elt w en) : PR X elt gs scope pos d D [] (rdR PK pp ρ (addW w) en D) :=
  (pr_end hx hg he).weak fun σ H N ⟨O, Φ, c, acc, vs, S, nf, eD, fD, hw, k⟩ => ⟨Ox O D, _, c, S, hw, fun y v H1 c1 p1 ch S1 r => by
    have e1 := ch D _ eD nf
    refine ⟨vs, e1, by rw [fD.length, sizeLine_eq]; exact of_decide_eq_true p1.1, k (acc ++ [y]) (vs ++ [v]) _ c1 p1.2 upd_same ?_ ?_ (S1.updO (.inr rfl) nf)⟩
    · have mv1 : Mv (Av (Ox O D) pp ρ) (Av (Ox O D) pp ρ) H1 (upd H1 D (.lst (vs ++ [v]))) := fun a o n e => ⟨by rw [upd_ne (fun z => n (by rw [z]; exact .inl (.inr rfl)))]; exact e, n⟩
      exact (fD.imp fun _ _ => en.mono (ch.mv.trans mv1)).append (.cons (en.mono mv1 r) .nil)
    · intro a o e hf
      rw [upd_upd]
      by_cases ne : a = D
      · subst ne; rw [upd_same] at e ⊢; exact e
      · rw [upd_ne ne] at e ⊢; exact ch a o e hf⟩
theorem mv_beside {O : AS} {H1 : Hp} : ∀ H', Chg pp (upd H1 D (.lst [])) (upd H' D (.lst [])) → Mv (Av (Ox O D) pp ρ) (Av (Ox O D) pp ρ) H1 H' := fun H' ch a o n e => by
  have ne : a ≠ D := fun z => n (by rw [z]; exact .inl (.inr rfl))
  have z := ch a o (by rw [upd_ne ne]; exact e) fun z => n (.inr (.inl z))
  rw [upd_ne ne] at z
  exact ⟨z, n⟩
theorem px_mid {t i : Expr} {wi : W (List α)} {ext : List (Sl X.K) → α → List (Sl X.K)} {js vs ws : List Nat} {g : TG} {wr : α → List β → W (List β)} {en : En X.K β} (hx : X.xe = fun _ _ => False) (hc : X.calm = true) (hg : gs[d + 1]? = some ⟨t, i, [], 0⟩) (hn : ∀ g, gs[d + 2]? = some g → g.is_async = 0 ∧ ∀ x, foldedSetIterable g.iter X.env x = pure x)
    (hi : PI X t i (rdI PK pp ρ wi ext js g)) (hp : PG X t g) (hr : ∀ x, PR X elt gs scope pos (d + 1) D ws (rdR PK pp (ext ρ x) (wr x) en D)) (hv : ∀ k ∈ ws, k ∈ vs) (hj : ∀ j ∈ js, j ∈ vs) (hnn : ∀ i ∈ vs, get ρ i = .nil) (ho : ∀ x, owns (ext ρ x) = owns ρ) :
    PR X elt gs scope pos d D vs (rdR PK pp ρ (fun acc => bnd wi fun xs => fldW (fun acc x => wr x acc) acc xs) en D) :=
  (pr_mid hx hc hg hn hi hp (PR.ex hr) hv).weak fun σ H N ⟨O, Φ, c, acc, us, S, nf, eD, fD, hw, k⟩ => ⟨Ox O D, _, c, S, hw, fun xs J H1 c1 p1 ch S1 src hz => by
    have ch' : Chg pp (upd H D (.lst [])) (upd H1 D (.lst [])) := fun a o e hf => by
      by_cases ne : a = D
      · subst ne; rw [upd_same] at e ⊢; exact e
      · rw [upd_ne ne] at e ⊢; exact ch a o e hf
    exact fold_V src nf mv_beside hj hnn ho (ch D _ eD nf) (fD.imp fun _ _ => en.mono ch.mv) .refl S1 p1 fun acc' vs' H' c' p e f ch2 S' => k acc' vs' H' c' p e f (ch'.trans ch2) S'⟩
theorem px_top {tg iter : Expr} {own : List (Str × Nat)} {wi : W (List α)} {ext : List (Sl X.K) → α → List (Sl X.K)} {js vs : List Nat} {g : TG} {wr : α → List β → W (List β)} {en : En X.K β} (hc : X.calm = true) (hN : X.N.Nodup) (hi : PI X tg iter (rdI PK pp ρ wi ext js g)) (ok : BlkOk X.N X.env.scope scope own) (hv : ∀ k ∈ vs, k ∈ own.map (·.2))
    (hg : ∀ (s : Shared) (H : Hp) (C : Addr) (cl : List (Str × Addr)) (fp : List Addr), PG (X.blk s H scope (compEnvC scope cl C X.env) fp) tg g)
    (hr : ∀ (s : Shared) (H : Hp) (C : Addr) (cl : List (Str × Addr)) (fp : List Addr) (D : Addr) (x : α), PR (X.blk s H scope (compEnvC scope cl C X.env) fp) elt (⟨tg, iter, [], 0⟩ :: gs) scope pos 0 D vs (rdR PK pp (ext ρ x) (wr x) en D))
    (hn : ∀ env g, gs[0]? = some g → g.is_async = 0 ∧ ∀ x, foldedSetIterable g.iter env x = pure x) (hj : ∀ j ∈ js, j ∈ own.map (·.2)) (hnn : ∀ i ∈ own.map (·.2), get ρ i = .nil) (ho : ∀ x, owns (ext ρ x) = owns ρ) (hs : ∀ x, foldedSetIterable iter X.env x = pure x := by intro _; rfl) :
    PE X (.ListComp elt (⟨tg, iter, [], 0⟩ :: gs) scope pos) (rdF PK pp ρ (bnd wi fun xs => fldW (fun acc x => wr x acc) [] xs) en) :=
  (pe_lcN (tr := fun D σ H N => ∃ x, rdR PK pp (ext ρ x) (wr x) en D σ H N) hc hN hi ok hv hg (fun s H C cl fp D => PR.ex (hr s H C cl fp D)) hn hs).weak fun σ H Q ⟨O, Φ, c, S, hw, k⟩ => ⟨O, _, c, S, hw, fun xs J H1 c1 p1 ch S1 src hz D hD => by
    have nf := nfoot S1 hD
    have mv0 : Mv (Av O pp ρ) (Av (Ox O D) pp ρ) H1 (upd H1 D (.lst [])) := Mv.newA hD
    refine fold_V src nf (fun H' ch2 a o n e => ?_) hj hnn ho upd_same .nil (by rw [upd_upd]; exact .refl) (S1.newO hD) p1 fun acc' vs' H' c' p e f ch2 S' => ?_
    · obtain ⟨e1, n1⟩ := mv0 a o n e
      have ne : a ≠ D := ne_of_none e hD
      have z := ch2 a o e1 fun z => n (.inr (.inl z))
      rw [upd_ne ne] at z
      exact ⟨z, n1⟩
    · refine k acc' D vs' H' c' p (chg_none S1 ch hD) (fun a o ea hf => ?_) S' e f
      have ne : a ≠ D := ne_of_none ea (chg_none S1 ch hD)
      have z := ch2 a o (by rw [upd_ne ne]; exact ch a o ea hf) hf
      rw [upd_ne ne] at z
      exact z⟩
end
end Dc
/-! DcR: ranges kept in a name; data of any kind walked; from data back to typed values. -/
namespace Dc
open PySem PySem.Spec L2 PyProof.Rows
section
variable {K : PySem.W.Frag} {α β γ δ : Type}
def rngH (p : Addr) (i j c : Int) : HO := .ext fun h => ∃ t u v, h.get? p = some { cls := .type "range", data := .fields #[.int i t, .int j u, .int c v] }
def stepF (i c : Int) : Nat → List Int
  | 0 => []
  | n + 1 => i :: stepF (i + c) c n
theorem stepF_len : ∀ (i c : Int) (n : Nat), (stepF i c n).length = n
  | _, _, 0 => rfl
  | i, c, n + 1 => by simp [stepF, stepF_len (i + c) c n]
theorem stepF_get : ∀ (i c : Int) (n k : Nat) (y : Int), (stepF i c n)[k]? = some y → y = i + (k : Nat) * c
  | _, _, 0, k, y, h => by simp [stepF] at h
  | i, c, n + 1, 0, y, h => by
    simp [stepF] at h
    subst h
    simp
  | i, c, n + 1, k + 1, y, h => by
    have h : (stepF (i + c) c n)[k]? = some y := by simpa [stepF] using h
    rw [stepF_get (i + c) c n k y h]
    rw [Int.natCast_succ, Int.add_mul, Int.one_mul]
    omega
def rgN (i j c : Int) : Nat := (Builtin.Range.rangeSize i j c).toNat
def rgOk (i j c : Int) : Bool := decide (c ≠ 0) && decide (c.natAbs < 1073741824) && Builtin.Range.small i j c && decide (Builtin.Range.rangeSize i j c = (rgN i j c : Int)) && decide (rgN i j c ≤ 16777216)
theorem rgOk_C {i j c : Int} (h : rgOk i j c = true) : RgC i j c (rgN i j c) ∧ rgN i j c ≤ 16777216 := by
  simp only [rgOk, Bool.and_eq_true, decide_eq_true_eq] at h
  exact ⟨⟨h.1.1.1.1, h.1.1.1.2, h.1.1.2, h.1.2⟩, h.2⟩
/-- a range object -/
def eG : En K (List Int) := ⟨fun O H v xs => ∃ p i j c n, v = .ref p ∧ ¬ O p ∧ H p = some (rngH p i j c) ∧ RgC i j c n ∧ n ≤ 16777216 ∧ xs = stepF i c n, fun m ⟨p, i, j, c, n, e, nO, h, r, z, q⟩ => ⟨p, i, j, c, n, e, (m p _ nO h).2, (m p _ nO h).1, r, z, q⟩⟩
/-- data told back as a typed value -/
structure FrD (en : En K α) (to : α → D) : Prop where
  d : ∀ {O : AS} {H : Hp} {v : V} {x : α}, rD K O H v (to x) → en.r O H v x
  inj : ∀ x y, to x = to y → x = y
theorem frI : FrD (eI : En K Int) .int := ⟨fun h => h, fun _ _ e => D.int.inj e⟩
theorem frB : FrD (eB : En K Bool) .bl := ⟨fun h => h, fun _ _ e => D.bl.inj e⟩
theorem frS : FrD (eS : En K Str) .str := ⟨fun h => h, fun _ _ e => D.str.inj e⟩
theorem frAll {en : En K α} {to : α → D} (d : FrD en to) {O : AS} {H : Hp} : ∀ {vs : List V} {xs : List α}, rDs K O H vs (xs.map to) → F2 (en.r O H) vs xs
  | _, [], h => by rw [show _ = _ from h]; exact .nil
  | _, x :: r, h => by
    obtain ⟨v, us, e, p, q⟩ := (by simpa only [List.map_cons, rDs] using h : ∃ v r, _)
    rw [e]; exact .cons (d.d p) (frAll d q)
theorem frL {en : En K α} {to : α → D} (d : FrD en to) : FrD (eL en) (fun xs => .lst (xs.map to)) := ⟨fun {O H v x} h => by
  obtain ⟨a, vs, e, l, r⟩ := (by simpa only [rD] using h : ∃ a vs, _)
  exact ⟨a, vs, e, l, frAll d r⟩, fun x y e => by
  have e := D.lst.inj e
  induction x generalizing y with
  | nil => cases y with
    | nil => rfl
    | cons b m => cases e
  | cons a l ih => cases y with
    | nil => cases e
    | cons b m =>
      simp only [List.map_cons, List.cons.injEq] at e
      rw [d.inj _ _ e.1, ih m (congrArg D.lst e.2) e.2]⟩
theorem frP {e1 : En K α} {e2 : En K β} {to : α → D} {to2 : β → D} (d : FrD e1 to) (d2 : FrD e2 to2) : FrD (eP e1 e2) (fun x => .tup [to x.1, to2 x.2]) := ⟨fun {O H v x} h => by
  obtain ⟨a, vs, e, l, r⟩ := (by simpa only [rD] using h : ∃ a vs, _)
  obtain ⟨u, r1, rfl, p1, r⟩ := (by simpa only [rDs] using r : ∃ v r, _)
  obtain ⟨w, r2, rfl, p2, rfl⟩ := (by simpa only [rDs] using r : ∃ v r, _)
  exact ⟨a, u, w, e, l, d.d p1, d2.d p2⟩, fun x y e => by
  have e := D.tup.inj e
  simp only [List.cons.injEq, and_true] at e
  exact Prod.ext (d.inj _ _ e.1) (d2.inj _ _ e.2)⟩
theorem tdD : ToD (eD : En K D) (fun x => x) := ⟨fun h => h⟩
end
section
variable {X : Cx} {PK : PoolK} {pp : PP} {ρ : List (Sl X.K)} {α β γ δ : Type} {e a b : Expr} {es : List Expr} {pos : Pos}
theorem Vals.consR {v : V} {vs : List V} {us : List Value} (r : Vals (v :: vs) us) : ∃ u us', us = u :: us' ∧ RelV v u ∧ Vals vs us' := by
  cases r with
  | cons r1 r2 => exact ⟨_, _, rfl, r1, r2⟩
theorem laid_rng {pins : List (Addr × Obj)} {σ : L2.St} {H : Hp} {s : Shared} {i j c : Int} {t u v : Tok} {k : Nat} (I : Inv X pins σ H s) : Inv X pins σ (upd H s.heap.objs.size (rngH s.heap.objs.size i j c)) { s with heap := s.heap.push { cls := .type "range", data := .fields #[.int i t, .int j u, .int c v] }, toks := k } :=
  I.laid (t' := k) (fun b o e => Heap.get?_push_of_some _ e) (Nat.le_refl _) ⟨⟨t, u, v, Heap.get?_push_size _ rfl⟩, ⟨_, Heap.get?_push_size _ rfl⟩, fun h1 h2 ⟨t, u, v, q⟩ k => ⟨t, u, v, k _ q⟩⟩
theorem c_range1 : CallW X (.type "range") (a1 (eI : En X.K Int)) eG (fun x => rgOk 0 x.1 1) (fun x => stepF 0 1 (rgN 0 x.1 1)) := by
  rintro pins s σ H xs us Q I r ⟨pp, A, x, d, ⟨v, _, rfl, rfl, rfl⟩, p, k⟩
  obtain ⟨u1, rfl, r1⟩ := vals1 r
  obtain ⟨t, rfl⟩ := r1
  refine call_range_1 ⟨.ref s.heap.objs.size, _, laid_rng I, rfl, k _ _ (same_new (I.hok.fresh (Nat.le_refl _))) ?_⟩
  obtain ⟨h1, h2⟩ := rgOk_C p
  exact ⟨_, _, _, _, _, rfl, new_at d (I.hok.fresh (Nat.le_refl _)), upd_same, h1, h2, rfl⟩
theorem c_range3 : CallW X (.type "range") (aC (eI : En X.K Int) (aC eI (aC eI aN))) eG (fun x => rgOk x.1 x.2.1 x.2.2.1) (fun x => stepF x.1 x.2.2.1 (rgN x.1 x.2.1 x.2.2.1)) := by
  rintro pins s σ H xs us Q I r ⟨pp, A, x, d, ⟨v, _, rfl, rfl, v2, _, rfl, rfl, v3, _, rfl, rfl, rfl⟩, p, k⟩
  obtain ⟨u1, rs, rfl, r1, r⟩ := Vals.consR r
  obtain ⟨u2, u3, rfl, r2, r3⟩ := vals2 r
  obtain ⟨t, rfl⟩ := r1
  obtain ⟨t2, rfl⟩ := r2
  obtain ⟨t3, rfl⟩ := r3
  obtain ⟨h1, h2⟩ := rgOk_C p
  refine call_range_3 h1.1 ⟨.ref s.heap.objs.size, _, laid_rng I, rfl, k _ _ (same_new (I.hok.fresh (Nat.le_refl _))) ?_⟩ (.inl (PyProof.noPylong_small h1.2.1))
  exact ⟨_, _, _, _, _, rfl, new_at d (I.hok.fresh (Nat.le_refl _)), upd_same, h1, h2, rfl⟩
theorem pi_rng {tg : Expr} {te : TE} (h : PE X e te) : PI X tg e (fun σ H R => te σ H fun v H1 => ∃ p i j c n, v = .ref p ∧ H1 p = some (rngH p i j c) ∧ RgC i j c n ∧ R (Itc i c n) H1) := by
  refine ⟨fun pins s σ H R I h0 => thn (h.run pins s σ H _ I h0) fun v s1 ⟨x, H1, I1, r1, p, i, j, c, n, ex, hp, rg, q⟩ => ?_⟩
  subst ex
  cases r1
  obtain ⟨⟨t, u, v', ho⟩, _, _⟩ := I1.hok p _ hp
  refine wpAny_pyIter_range ho rg.2.2.1 (pi_one (tk := s1.toks) I1 _ (turn_rangeC _ i c n) ?_ q)
  have e1 : i + ((0 : Nat) : Int) * c = i := by simp
  have e2 : (n : Int) - ((0 : Nat) : Int) = Builtin.Range.rangeSize i j c := by rw [rg.2.2.2]; simp
  show IsRangeIter _ _ (i + ((0 : Nat) : Int) * c) ((n : Int) - ((0 : Nat) : Int)) c
  rw [e1, e2]
  exact Heap.get?_push_size _ rfl
/-- for x in r, r a range object -/
theorem wG (i : Nat) {nm : Str} {p : Pos} {w : W (List Int)} (h : PX X PK pp ρ e w eG) : PI X (.Name nm p) e (rdI PK pp ρ w (fun ρ x => put ρ i (.sh eI x)) [i] (gName i)) :=
  (pi_rng h).weak fun σ H R ⟨O, Φ, c, S, hw, k⟩ => ⟨O, _, c, S, hw, fun xs v H1 c1 p1 ch S1 r1 => by
    obtain ⟨p, lo, j, st, n, rfl, nO, hp, rg, z, rfl⟩ := r1
    refine ⟨p, lo, j, st, n, rfl, hp, rg, k _ _ H1 c1 p1 ch S1 ⟨fun j H' A' hj m => ?_, fun H' A' m => ?_, fun _ _ _ z => own_put_sh z, fun j y H' v H'' pp' ρ' O' c' σ' hx m S' yy => ?_⟩ ?_⟩
    · rw [stepF_len] at hj; exact hj
    · rw [stepF_len]; exact Nat.le_refl _
    · obtain ⟨rfl, rfl⟩ := yy
      have h1 := stepF_get _ _ _ _ _ hx
      exact ⟨[(i, .int (lo + (j : Nat) * st))], H'', rfl, .refl _, S'.put (by rw [h1]; rfl), fun Q q => q⟩
    · rw [stepF_len, sizeLine_eq]; exact z⟩
/-! data walked -/
def isLst : D → Bool
  | .lst _ => true
  | _ => false
def isTup : D → Bool
  | .tup _ => true
  | _ => false
theorem xDl {w : W D} (h : PX X PK pp ρ e w eD) : PX X PK pp ρ e (bnd w fun x => grd (isLst x) (ret (itemsD x))) (eL eD) :=
  h.weak fun σ H Q ⟨O, Φ, c, S, hw, k⟩ => ⟨O, _, c, S, hw, fun x v H' c' p ch S' r => k _ v H' c' p.2 ch S' (by
    have p1 := p.1
    cases x with
    | lst ds =>
      obtain ⟨a, vs, e, l, q⟩ := (by simpa only [rD] using (show rD X.K _ H' v (.lst ds) from r) : ∃ a vs, _)
      exact ⟨a, vs, e, l, rDs_F2 q⟩
    | _ => cases p1)⟩
theorem wtupD (i : Nat) {nm : Str} {p : Pos} {w : W D} (h : PX X PK pp ρ e w eD) : PI X (.Name nm p) e (rdI PK pp ρ (bnd w fun x => grd (isTup x && decide ((itemsD x).length ≤ 16777216)) (ret (itemsD x))) (fun ρ x => put ρ i (.sh eD x)) [i] (gName i)) :=
  (pi_tup h).weak fun σ H R ⟨O, Φ, c, S, hw, k⟩ => ⟨O, _, c, S, hw, fun x v H1 c1 p1 ch S1 r1 => by
    obtain ⟨p10, p11⟩ := p1
    rw [Bool.and_eq_true, decide_eq_true_eq] at p10
    cases x with
    | tup ds =>
      obtain ⟨a, vs, rfl, l, q⟩ := (by simpa only [rD] using (show rD X.K _ H1 v (.tup ds) from r1) : ∃ a vs, _)
      have f := rDs_F2 q
      refine ⟨a, rfl, ⟨vs, l.sq⟩, k ds _ H1 c1 p11 ch S1 ⟨fun j H' A' hj m => ?_, fun H' A' m => ?_, fun _ _ _ z => own_put_sh z, fun j x H' v H'' pp' ρ' O' c' σ' hx m S' y => ?_⟩ ?_⟩
      · have hv : j < vs.length := by rw [f.length]; exact hj
        exact ⟨vs, vs[j], (l.mv m).sq, List.getElem?_eq_getElem hv⟩
      · exact ⟨vs, (l.mv m).sq, by rw [f.length]; exact Nat.le_refl _⟩
      · obtain ⟨rfl, hy⟩ := y
        obtain ⟨u, hu, ru⟩ := f.get hx
        have e := hy vs (l.mv m).sq
        rw [hu] at e
        cases e
        exact ⟨[(i, v)], H'', rfl, .refl _, S'.put (eD.mono m ru), fun Q q => q⟩
      · rw [sizeLine_eq]; exact p10.2
    | _ => cases p10.1⟩
/-- tuple(xs) -/
theorem c_tupD : CallW X (.type "tuple") (a1 (eL (eD : En X.K D))) eD (fun _ => true) (fun x => .tup x.1) := by
  rintro pins s σ H xs us Q I r ⟨pp, A, x, d, ⟨v, _, rfl, ⟨a, vs, rfl, l, f⟩, rfl⟩, _, k⟩
  refine call_tuple_of pins s σ H _ us Q I r ⟨a, vs, rfl, .inl ⟨l.sq, fun p np => ?_⟩⟩
  have s := same_new (o := .tup vs) np
  refine k _ _ s ?_
  have g : ∀ {vs : List V} {ds : List D}, F2 (rD X.K A H) vs ds → rDs X.K A (upd H p (.tup vs)) vs ds ∨ True := fun _ => .inr trivial
  show rD X.K A _ (.ref p) (.tup x.1)
  simp only [rD]
  refine ⟨p, vs, rfl, .inl ⟨new_at d np, .inl upd_same⟩, ?_⟩
  have g2 : ∀ {us : List V} {ds : List D}, F2 (rD X.K A H) us ds → rDs X.K A (upd H p (.tup vs)) us ds := fun f => by
    induction f with
    | nil => rfl
    | cons r _ ih =>
      simp only [rDs]
      exact ⟨_, _, rfl, rD.mono (Mv.same s) _ r, ih⟩
  exact g2 f
/-- what a function of data makes of typed values is typed -/
theorem xcastF {wa : W α} {g : D × Unit → W D} {to1 : α → D} {to2 : β → D} {f : α → β} {e2 : En X.K β} (fr : FrD e2 to2) (hg : ∀ x, g (to1 x, ()) = ret (to2 (f x))) (h : PX X PK pp ρ e (bnd (bnd (bnd wa fun x => ret (to1 x)) fun t => bnd (ret ()) fun u => ret (t, u)) g) eD) : PX X PK pp ρ e (bnd wa fun x => ret (f x)) e2 :=
  h.weak fun σ H Q ⟨O, Φ, c, S, hw, k⟩ => ⟨O, fun d c' => ∃ y, d = to2 y ∧ Φ y c', c, S, by
    have e : (bnd (bnd (bnd wa fun x => ret (to1 x)) fun t => bnd (ret ()) fun u => ret (t, u)) g) = bnd wa fun x => ret (to2 (f x)) := by
      show (bnd wa fun x => g (to1 x, ())) = _
      exact congrArg _ (funext hg)
    rw [e]
    have e2 : (fun (x : α) (c' : Nat) => ∃ y, to2 (f x) = to2 y ∧ Φ y c') = fun x c' => Φ (f x) c' := by
      funext x c'
      exact propext ⟨fun ⟨y, e, q⟩ => by rw [fr.inj _ _ e]; exact q, fun q => ⟨_, rfl, q⟩⟩
    show wa (fun (x : α) (c' : Nat) => ∃ y, to2 (f x) = to2 y ∧ Φ y c') noX c
    rw [e2]
    exact hw, fun d v H' c' ⟨y, e, p⟩ ch S' r => k y v H' c' p ch S' (fr.d (e ▸ r))⟩
/-- a comprehension within a comprehension: the outer block's names as they are told there -/
def relS (scope sc : Scope) : Scope := { scope with names := scope.names.map fun q => match q with
  | (n, k) => if (k == .free && sc.kind == .function && sc.names.lookup n == some .cell) then (n, .cell) else (n, k) }
theorem blk_in {X0 : Cx} {N : List Str} {s : Shared} {H : Hp} {scope0 scope sc : Scope} {C : Addr} {cl : List (Str × Addr)} {fp : List Addr} {own : List (Str × Nat)} (hN : X0.N = N) (hs : X0.env.scope = sc) (h : blkC N (relS scope0 sc) scope own = true) : BlkOk (X0.blk s H scope0 (compEnvC scope0 cl C X0.env) fp).N (X0.blk s H scope0 (compEnvC scope0 cl C X0.env) fp).env.scope scope own := by
  subst hN hs
  exact blkOk_by h
/-- isinstance(e, C), C an own class, e an instance of it -/
theorem xisC {C : Addr} {cn : Str} {ns : List Str} {t : FE X.K α} {p p2 : Pos} {w : W α} (hm : X.mg "isinstance" = none) (hC : X.mg cn = some (.ref C)) (c : C8.InsC X.K C) (h : PX X PK pp ρ a w (eIns C ns t)) (hg : Gl X "isinstance" := by rfl) (hgc : Gl X cn := by rfl) (hdb : (cn == ("__debug__" : Str)) = false := by decide)
    (he : starEach [a, .Name cn p2] X.env = (false, eval a X.env) :: starEach [.Name cn p2] X.env := by rfl) (he2 : starEach [.Name cn p2] X.env = (false, eval (.Name cn p2) X.env) :: starEach [] X.env := by rfl) (hpl : (backTo pos (starEach [.Name cn p2] X.env)).any (·.1) = false := by rfl) :
    PX X PK pp ρ (.Call (.Name "isinstance" p) [a, .Name cn p2] [] pos) (bnd w fun _ => ret true) eB :=
  (pe_callB (C8.call_isC c) hg hm (by decide +kernel) (pa_cons h (pa_cons (pe_glob (v := .ref C) hgc hC rfl hdb) pa_nil he2) he) (by decide) (by decide) he hpl).weak fun σ H Q ⟨O, Φ, c0, S, hw, k⟩ => ⟨O, _, c0, S, hw, fun x v H' c' p ch S' r => by
    obtain ⟨a, dx, fs, e1, nO, hH, l, q⟩ := r
    subst e1
    exact ⟨a, dx, fs, rfl, hH, k _ _ H' c' p ch S' rfl⟩⟩
/-- x, ys = e, [], ys one's own -/
theorem nparO (i j : Nat) {x y : Str} {px py pt : Pos} {kt k2 pt2} {lp : Pos} {w : W α} {e1 : En X.K α} (en : En X.K β) (hc : X.calm = true) (hN : X.N.Nodup) (h : PX X PK pp ρ a w e1) (hij : i ≠ j := by decide) (hi : X.N[i]? = some x := by rfl) (hj : X.N[j]? = some y := by rfl)
    (hx : X.env.scope.names.lookup x = some .local := by rfl) (hy : X.env.scope.names.lookup y = some .local := by rfl) (hw : swappedStores [.Tuple [.Name x px, .Name y py] kt pt] (.Tuple [a, .List [] lp] k2 pt2) X.env = pure (some [x, y]) := by rfl)
    (hs : swapsWithSole [.Tuple [.Name x px, .Name y py] kt pt] (.Tuple [a, .List [] lp] k2 pt2) pos.line X.env = pure false := by rfl)
    (hs1 : starEach [a, .List [] lp] X.env = (false, eval a X.env) :: starEach [.List [] lp] X.env := by rfl) (hs2 : starEach [Expr.List [] lp] X.env = (false, eval (.List [] lp) X.env) :: starEach [] X.env := by rfl) :
    PS X (.Assign [.Tuple [.Name x px, .Name y py] kt pt] (.Tuple [a, .List [] lp] k2 pt2) pos) (rdN PK pp ρ w fun (p : Addr) z => put (put ρ i (.sh e1 z)) j (.ow p (oL en) [])) :=
  (ps_par hc hN hi hj hij hx hy (pa_cons h (pa_cons (pe_lst pa_nil) pa_nil hs2) hs1) hw hs).weak fun D σ H ⟨O, Φ, c, S, hw, k⟩ => ⟨O, _, c, S, hw, fun z v H1 c1 p1 ch S1 r => ⟨Nat.zero_le _, fun p np => by
    have r1 := e1.mono (Mv.newA (O := O) (pp := pp) (ρ := ρ) (o := .lst []) np) r
    have S2 := ((S1.newO (o := .lst []) np).put (i := i) r1)
    have np2 : ¬ foot pp p := nfoot S1 np
    have nO : ¬ O p := fun z => S1.av p (.inl z) np
    have S3 := S2.own (i := j) (on := oL en) (x := []) np2 nO ⟨[], upd_same, .nil⟩
    have hn : H p = none := chg_none S1 ch np
    refine ⟨v, .ref p, rfl, k p z _ c1 p1 _ ⟨fun b o e n _ => ?_, fun b z => ?_⟩ S3⟩
    · rw [upd_ne (ne_of_none e hn)]; exact ch b o e n
    · rcases owns_put z with z | z
      · have z : b = p := by simpa [own1] using z
        rw [z]; exact .inr ⟨hn, np2⟩
      · exact .inl (own_put_sh z)⟩⟩
end
/-- data that a walk of depth n goes through -/
def Tame : Nat → D → Prop
  | 0, _ => False
  | n + 1, .lst ds => ∀ d ∈ ds, Tame n d
  | n + 1, .tup ds => ds.length ≤ 16777216 ∧ ∀ d ∈ ds, Tame n d
  | _ + 1, _ => True
def TmD {α : Type} (n : Nat) (to : α → D) : Prop := ∀ x, Tame n (to x)
theorem tmI {n : Nat} : TmD (n + 1) D.int := fun _ => trivial
theorem tmB {n : Nat} : TmD (n + 1) D.bl := fun _ => trivial
theorem tmL {α : Type} {n : Nat} {to : α → D} (h : TmD n to) : TmD (n + 1) (fun xs : List α => D.lst (xs.map to)) := fun xs d hd => by
  obtain ⟨x, _, rfl⟩ := List.mem_map.mp hd
  exact h x
theorem tmP {α β : Type} {n : Nat} {to : α → D} {to2 : β → D} (h : TmD n to) (h2 : TmD n to2) : TmD (n + 1) (fun x : α × β => D.tup [to x.1, to2 x.2]) := fun x => by
  refine ⟨by show 2 ≤ 16777216; decide, fun d hd => ?_⟩
  simp only [List.mem_cons, List.not_mem_nil, or_false] at hd
  rcases hd with rfl | rfl
  · exact h _
  · exact h2 _
end Dc
/-! DcS: == of instances by an own __eq__; lists taken apart. -/
namespace Dc
open PySem PySem.Spec L2 PyProof.Rows
section
variable {X : Cx} {PK : PoolK} {pp : PP} {ρ : List (Sl X.K)} {α β γ δ : Type} {e a b : Expr} {es : List Expr} {pos : Pos}
theorem kit_self {K : PySem.W.Frag} (C : Addr) : PySem.W.kitOne K (.ref C) (.ref C) = some true := by
  unfold PySem.W.kitOne
  rw [if_pos]
  first
  | exact beq_self_eq_true _
  | simp
/-- the own __eq__ of a class -/
structure EqO (K : PySem.W.Frag) (C f : Addr) : Prop where
  at_ : PySem.W.findIn K (.ref C) "__eq__" = some (some (.ref f))
  fn : PySem.W.isFn K (.ref f) = true
def rEqO (C : Addr) (sp : Sp) : R2 := fun x y H Q => ∃ a b dx dy fs gs, x = .ref a ∧ y = .ref b ∧ H a = some (.ins C dx fs) ∧ H b = some (.ins C dy gs) ∧ sp [.ref a, .ref b] H (fun v H' => (∃ t, v = .bl t) ∧ Q v H') E0
theorem op_eqO {k : Nat} {C f : Addr} {fd : FuncData} {ps : List Str} {sp : Sp} (q : EqO X.K C f) (F : FnOk X.prog X.w X.K X.mg X.base CX0 k f fd ps sp) (hr : Room k X.A) (hb : Binds X.K fd ps []) : OpR X (compareOp .Eq) (rEqO C sp) := by
  intro pins s σ H x y v u Q I rx ry h
  obtain ⟨a, b, dx, dy, fs, gs, rfl, rfl, ha, hb', hsp⟩ := h
  cases rx
  cases ry
  show wpAny (model X.prog X.w) X.A (richCompare .Eq (.ref a) (.ref b)) (EP X pins σ Q) X.xe s
  obtain ⟨mA, J, _⟩ := ins_get I.hok ha
  obtain ⟨mB, J', _⟩ := ins_get I.hok hb'
  obtain ⟨od, J, _⟩ := J.look
  obtain ⟨od', J', _⟩ := J'.look
  obtain ⟨m, hF⟩ := I.fr
  refine PySem.W.cmp_K (op := .Eq) (tb := .ref C) hr.units0 hF I.ok.mod.kin J J'.type (by simp [PySem.W.notFirst]) q.at_ q.fn ?_
  have hl := F.len _ _ _ _ hsp
  have r2 : Vals [V.ref a, V.ref b] [Value.ref a, Value.ref b] := .cons rfl (.cons rfl .nil)
  refine wpAny_call (codeAny_mono (F.run X.A X.stack s H ⟨[.ref a, .ref b], []⟩ [.ref a, .ref b] [.ref a, .ref b] _ E0 hr I.env0 (by
    have := hb s [.ref a, .ref b] I.kIn (by simpa using hl)
    simpa using this) r2 hsp) fun r s' hq => ?_)
  cases r with
  | error e => exact pass0 pins σ H s e s' I hq
  | ok fl =>
    cases fl with
    | ret w =>
      obtain ⟨z, H', I', rz, ⟨t, ez⟩, ex⟩ := I.after hq
      subst ez
      cases rz
      exact ⟨.bl t, H', I', rfl, ex⟩
    | next => exact False.elim hq
    | brk => exact False.elim hq
    | cont => exact False.elim hq
theorem rd_eqO {C : Addr} {ns : List Str} {t : FE X.K α} {wa wb : W α} {fw : α × α × Unit → W Bool} {σ : L2.St} {H : Hp} {Q : V → Hp → Prop} {O : AS} {c : Nat} {Φ : Bool → WB} (S : Sat PK O pp ρ c σ H) (hw : (bnd wa fun x => bnd wb fun y => fw (x, y, ())) Φ noX c) (k : ∀ x v H' c', Φ x c' → Chg pp H H' → Sat PK O pp ρ c' σ H' → v = .bl x → Q v H') :
    rdE PK pp ρ wa (eIns C ns t) σ H fun v H1 => rdE PK pp ρ wb (eIns C ns t) σ H1 fun u H2 => rEqO C (spW PK (aC (eIns C ns t) (aC (eIns C ns t) aN)) fw eB) v u H2 Q :=
  two S hw fun x y v u H2 c2 p2 ch2 S2 r1 r2 => by
    have q1 := r1
    have q2 := r2
    obtain ⟨a, dx, fs, e1, nO, hH, _⟩ := r1
    obtain ⟨b, dy, gs, e2, nO2, hH2, _⟩ := r2
    subst e1 e2
    refine ⟨a, b, dx, dy, fs, gs, rfl, rfl, hH, hH2, pp, Av O pp ρ, (x, y, ()), Φ, c2, S2.av, fun a h => .inr (.inl h), S2.pool, ⟨_, _, rfl, q1, _, _, rfl, q2, rfl⟩, p2, fun z v H3 c3 p3 ch3 pl3 rz => ⟨⟨z, rz⟩, k z v H3 c3 p3 (ch2.trans ch3) (S2.chg ch3 pl3) rz⟩⟩
theorem xcmpO {k : Nat} {C f : Addr} {fd : FuncData} {ps : List Str} {ns : List Str} {t : FE X.K α} {wa wb : W α} {fw : α × α × Unit → W Bool} (q : EqO X.K C f) (F : FnOk X.prog X.w X.K X.mg X.base CX0 k f fd ps (spW PK (aC (eIns C ns t) (aC (eIns C ns t) aN)) fw eB)) (hr : Room k X.A) (hb : Binds X.K fd ps [])
    (ha : PX X PK pp ρ a wa (eIns C ns t)) (hb2 : PX X PK pp ρ b wb (eIns C ns t)) (hm : behindInMarks .Eq b = false := by first | exact nomark _ | rfl) : PX X PK pp ρ (.Compare a [.Eq] [b] pos) (bnd wa fun x => bnd wb fun y => fw (x, y, ())) eB :=
  (pe_cmpR (op_eqO q F hr hb) ha hb2 hm).weak fun σ H Q ⟨O, Φ, c, S, hw, kk⟩ => rd_eqO S hw fun x v H' c' p ch S' e => kk x v H' c' p ch S' e
theorem tcmpO {k : Nat} {C f : Addr} {fd : FuncData} {ps : List Str} {ns : List Str} {t : FE X.K α} {wa wb : W α} {fw : α × α × Unit → W Bool} (q : EqO X.K C f) (F : FnOk X.prog X.w X.K X.mg X.base CX0 k f fd ps (spW PK (aC (eIns C ns t) (aC (eIns C ns t) aN)) fw eB)) (hr : Room k X.A) (hb : Binds X.K fd ps [])
    (ha : PX X PK pp ρ a wa (eIns C ns t)) (hb2 : PX X PK pp ρ b wb (eIns C ns t)) (hm : behindInMarks .Eq b = false := by first | exact nomark _ | rfl) : PTX X PK pp ρ (.Compare a [.Eq] [b] pos) (bnd wa fun x => bnd wb fun y => fw (x, y, ())) :=
  (pt_cmpR (op_eqO q F hr hb) ha hb2 hm).weak fun σ H Q ⟨O, Φ, c, S, hw, kk⟩ => rd_eqO S hw fun x v H' c' p ch S' e => ⟨x, e, kk x H' c' p ch S'⟩
theorem w_neB : OpW X (compareOp .NotEq) (eB : En X.K Bool) eB eB (fun _ _ => true) (fun i j => !(i == j)) := by
  intro pins s σ H x y v u Q I rx ry ⟨A, i, j, _, r1, r2, _, k⟩
  cases r1; cases r2
  exact op_ne pins s σ H _ _ v u Q I rx ry ⟨rfl, k _ _ (.refl _) (congrArg V.bl (by cases i <;> cases j <;> decide))⟩
/-- x, y = xs, xs a list of two -/
def pairL {α : Type} (xs : List α) : W (α × α) := match xs with
  | [x, y] => ret (x, y)
  | _ => stuck
theorem npairL (i j : Nat) {x y : Str} {px py pt : Pos} {kt} {w : W (List α)} {en : En X.K α} (hc : X.calm = true) (hN : X.N.Nodup) (h : PX X PK pp ρ e w (eL en)) (hi : X.N[i]? = some x := by rfl) (hj : X.N[j]? = some y := by rfl)
    (hx : Loc X.env.scope x := by first | exact Or.inl rfl | exact Or.inr rfl) (hy : Loc X.env.scope y := by first | exact Or.inl rfl | exact Or.inr rfl)
    (hf : X.fn x = true ∨ X.env.scope.names.lookup x = some .local := by first | exact .inl rfl | exact .inr rfl) (hf2 : X.fn y = true ∨ X.env.scope.names.lookup y = some .local := by first | exact .inl rfl | exact .inr rfl)
    (hs1 : (assignEach [Expr.Name x px, Expr.Name y py] X.env).map (·.2) = assign (.Name x px) X.env :: (assignEach [Expr.Name y py] X.env).map (·.2) := by rfl) (hs2 : (assignEach [Expr.Name y py] X.env).map (·.2) = assign (.Name y py) X.env :: (assignEach [] X.env).map (·.2) := by rfl)
    (hn : (assignEach [Expr.Name x px, Expr.Name y py] X.env).length = 2 := by rfl) (hst : (assignEach [Expr.Name x px, Expr.Name y py] X.env).findIdx? (·.1) = none := by rfl)
    (hsw : swapsWithSole [.Tuple [.Name x px, .Name y py] kt pt] e pos.line X.env = pure false := by rfl) (hww : swappedStores [.Tuple [.Name x px, .Name y py] kt pt] e X.env = pure none := by rfl) (h1 : (assignEach [.Tuple [.Name x px, .Name y py] kt pt] X.env).map (·.2) = [assign (.Tuple [.Name x px, .Name y py] kt pt) X.env] := by rfl) :
    PS X (.Assign [.Tuple [.Name x px, .Name y py] kt pt] e pos) (rdN PK pp ρ (bnd w pairL) fun (_ : Unit) z => put (put ρ i (.sh en z.1)) j (.sh en z.2)) :=
  (ps_asg h (pg_lst hc (pgs_cons (pg_name hN hi hx hf) (pgs_cons (pg_name hN hj hy hf2) pgs_nil hs2) hs1) hn hst) hsw hww h1).weak fun D σ H ⟨O, Φ, c, S, hw, k⟩ => ⟨O, _, c, S, hw, fun z v H1 c1 p1 ch S1 r => by
    obtain ⟨a, vs, rfl, l, f⟩ := r
    match z, p1, vs, f, l with
    | [z1, z2], p1, [v1, v2], .cons q1 (.cons q2 .nil), l =>
      have less : ∀ a, Av O pp (put ρ i (.sh en z1)) a → Av O pp ρ a := fun a z => by
        rcases z with z | z | z
        · exact .inl z
        · exact .inr (.inl z)
        · exact .inr (.inr (own_put_sh z))
      exact ⟨a, [v1, v2], rfl, l.sq, rfl, v1, [v2], rfl, v2, [], rfl, rfl, k () (z1, z2) H1 c1 p1 _ (.of_chg ch fun a z => own_put_sh (own_put_sh z)) ((S1.put q1).put (en.mono (Mv.less less) q2))⟩⟩
end
end Dc
/-! DcU: a list of four unlike things. -/
namespace Dc
open PySem PySem.Spec L2 PyProof.Rows
section
variable {K : PySem.W.Frag} {α β γ δ : Type}
def eQ (e1 : En K α) (e2 : En K β) (e3 : En K γ) (e4 : En K δ) : En K (α × β × γ × δ) := ⟨fun O H v x => ∃ a u1 u2 u3 u4, v = .ref a ∧ LstAt O H a [u1, u2, u3, u4] ∧ e1.r O H u1 x.1 ∧ e2.r O H u2 x.2.1 ∧ e3.r O H u3 x.2.2.1 ∧ e4.r O H u4 x.2.2.2,
  fun m ⟨a, u1, u2, u3, u4, e, l, p1, p2, p3, p4⟩ => ⟨a, u1, u2, u3, u4, e, l.mv m, e1.mono m p1, e2.mono m p2, e3.mono m p3, e4.mono m p4⟩⟩
end
section
variable {X : Cx} {PK : PoolK} {pp : PP} {ρ : List (Sl X.K)} {α β γ δ : Type} {e a b : Expr} {es : List Expr} {pos : Pos} {e1 : En X.K α} {e2 : En X.K β} {e3 : En X.K γ} {e4 : En X.K δ}
theorem xlst4 {w : W (α × β × γ × δ × Unit)} (h : PAX X PK pp ρ es w (aC e1 (aC e2 (aC e3 (aC e4 aN))))) : PX X PK pp ρ (.List es pos) (bnd w fun x => ret (x.1, x.2.1, x.2.2.1, x.2.2.2.1)) (eQ e1 e2 e3 e4) := (pe_lst h).weak fun σ H Q ⟨O, Φ, c, S, hw, k⟩ =>
  ⟨O, _, c, S, hw, fun x vs H1 c1 p1 ch1 S1 r1 => by
    obtain ⟨u1, _, rfl, q1, u2, _, rfl, q2, u3, _, rfl, q3, u4, _, rfl, q4, rfl⟩ := r1
    refine ⟨by show 4 ≤ sizeLine; decide, fun p np => ?_⟩
    have s := same_new (o := .lst [u1, u2, u3, u4]) np
    exact k _ _ _ c1 p1 (ch1.trans (.of s)) (S1.same s) ⟨p, u1, u2, u3, u4, rfl, ⟨new_at S1.av np, upd_same⟩, e1.mono (Mv.same s) q1, e2.mono (Mv.same s) q2, e3.mono (Mv.same s) q3, e4.mono (Mv.same s) q4⟩⟩
theorem xq0 {w : W (α × β × γ × δ)} {j p'} (h : PX X PK pp ρ a w (eQ e1 e2 e3 e4)) : PX X PK pp ρ (.Subscript a (.Constant (.int 0) j p') pos) (bnd w fun x => ret x.1) e1 :=
  (pe_ix ix_list h pe_int (fun _ _ => rfl)).weak fun σ H Q ⟨O, Φ, c, S, hw, k⟩ => ⟨O, _, c, S, hw, fun x v H' c' p ch S' r => by
    obtain ⟨a, u1, u2, u3, u4, rfl, l, q1, q2, q3, q4⟩ := r
    exact ⟨a, [u1, u2, u3, u4], 0, u1, rfl, rfl, l.sq, rfl, k _ _ H' c' p ch S' q1⟩⟩
theorem xq1 {w : W (α × β × γ × δ)} {j p'} (h : PX X PK pp ρ a w (eQ e1 e2 e3 e4)) : PX X PK pp ρ (.Subscript a (.Constant (.int 1) j p') pos) (bnd w fun x => ret x.2.1) e2 :=
  (pe_ix ix_list h pe_int (fun _ _ => rfl)).weak fun σ H Q ⟨O, Φ, c, S, hw, k⟩ => ⟨O, _, c, S, hw, fun x v H' c' p ch S' r => by
    obtain ⟨a, u1, u2, u3, u4, rfl, l, q1, q2, q3, q4⟩ := r
    exact ⟨a, [u1, u2, u3, u4], 1, u2, rfl, rfl, l.sq, rfl, k _ _ H' c' p ch S' q2⟩⟩
theorem xq2 {w : W (α × β × γ × δ)} {j p'} (h : PX X PK pp ρ a w (eQ e1 e2 e3 e4)) : PX X PK pp ρ (.Subscript a (.Constant (.int 2) j p') pos) (bnd w fun x => ret x.2.2.1) e3 :=
  (pe_ix ix_list h pe_int (fun _ _ => rfl)).weak fun σ H Q ⟨O, Φ, c, S, hw, k⟩ => ⟨O, _, c, S, hw, fun x v H' c' p ch S' r => by
    obtain ⟨a, u1, u2, u3, u4, rfl, l, q1, q2, q3, q4⟩ := r
    exact ⟨a, [u1, u2, u3, u4], 2, u3, rfl, rfl, l.sq, rfl, k _ _ H' c' p ch S' q3⟩⟩
theorem xq3 {w : W (α × β × γ × δ)} {j p'} (h : PX X PK pp ρ a w (eQ e1 e2 e3 e4)) : PX X PK pp ρ (.Subscript a (.Constant (.int 3) j p') pos) (bnd w fun x => ret x.2.2.2) e4 :=
  (pe_ix ix_list h pe_int (fun _ _ => rfl)).weak fun σ H Q ⟨O, Φ, c, S, hw, k⟩ => ⟨O, _, c, S, hw, fun x v H' c' p ch S' r => by
    obtain ⟨a, u1, u2, u3, u4, rfl, l, q1, q2, q3, q4⟩ := r
    exact ⟨a, [u1, u2, u3, u4], 3, u4, rfl, rfl, l.sq, rfl, k _ _ H' c' p ch S' q4⟩⟩
/-- the first two, alike -/
theorem xqS {f3 : En X.K γ} {f4 : En X.K δ} {w : W (α × α × γ × δ)} {j p' p2} (h : PX X PK pp ρ a w (eQ e1 e1 f3 f4)) : PX X PK pp ρ (.Subscript a (.Slice none (some (.Constant (.int 2) j p')) none p2) pos) (bnd w fun x => ret [x.1, x.2.1]) (eL e1) :=
  (pe_slice sl_list h po_none (po_some pe_int)).weak fun σ H Q ⟨O, Φ, c, S, hw, k⟩ => ⟨O, _, c, S, hw, fun x v H1 c1 p1 ch1 S1 r1 => by
    obtain ⟨a, u1, u2, u3, u4, rfl, l, q1, q2, q3, q4⟩ := r1
    refine ⟨2, rfl, a, [u1, u2, u3, u4], rfl, l.sq, fun p np => ?_⟩
    have s := same_new (o := .lst (cutV [u1, u2, u3, u4] none (some 2))) np
    exact k _ _ _ c1 p1 (ch1.trans (.of s)) (S1.same s) ⟨p, [u1, u2], rfl, ⟨new_at S1.av np, upd_same⟩, .cons (e1.mono (Mv.same s) q1) (.cons (e1.mono (Mv.same s) q2) .nil)⟩⟩
end
end Dc
/-! DcV: != of instances by an own __eq__; zip kept in a name. -/
namespace Dc
open PySem PySem.Spec L2 PyProof.Rows
/-! ### != -/
section
variable {X : Cx} {PK : PoolK} {pp : PP} {ρ : List (Sl X.K)} {α β γ δ : Type} {e a b : Expr} {es : List Expr} {pos : Pos}
/-- a class without an own __ne__ -/
structure NeO (K : PySem.W.Frag) (C : Addr) : Prop where
  at_ : PySem.W.findIn K (.ref C) "__ne__" = some (some (.builtin "object.__ne__"))
  ob : PySem.W.mroIn K C (.type "object") = some true
theorem eq_in {k : Nat} {C f : Addr} {fd : FuncData} {ps : List Str} {sp : Sp} {A : Around} {pins : List (Addr × Obj)} {s : Shared} {σ : L2.St} {H : Hp} {Q : VK} {a b dx : Addr} {fs : List (Str × V)} (q : EqO X.K C f) (F : FnOk X.prog X.w X.K X.mg X.base CX0 k f fd ps sp) (sb : Sub X k A) (hb : Binds X.K fd ps [])
    (I : Inv X pins σ H s) (ha : H a = some (.ins C dx fs)) (hsp : sp [.ref a, .ref b] H (fun v H' => (∃ t, v = .bl t) ∧ Q v H') E0) : wpAny (model X.prog X.w) A (callSpecialIfBound? (.ref a) "__eq__" [.ref b]) (fun r s' => ∃ t H', r = some (.bool t) ∧ Inv X pins σ H' s' ∧ Q (.bl t) H') X.xe s := by
  obtain ⟨mA, J, _⟩ := ins_get I.hok ha
  obtain ⟨od, J, _⟩ := J.look
  have hl := F.len _ _ _ _ hsp
  have r2 : Vals [V.ref a, V.ref b] [Value.ref a, Value.ref b] := .cons rfl (.cons rfl .nil)
  have e0 : Env0 X.prog X.w X.K X.mg X.base A X.stack s H := by
    have e := I.env0
    exact ⟨by rw [sb.fr]; exact e.frames, e.mod, e.bs, e.bsz, e.funs, e.frf, e.hok, e.bare⟩
  refine PySem.W.ifBound_K I.kIn J q.at_ q.fn (wpAny_call (codeAny_mono (F.run A X.stack s H ⟨[.ref a, .ref b], []⟩ [.ref a, .ref b] [.ref a, .ref b] _ E0 sb.room e0 (by
    have := hb s [.ref a, .ref b] I.kIn (by simpa using hl)
    simpa using this) r2 hsp) fun r s' hq => ?_))
  cases r with
  | error e => exact pass0 pins σ H s e s' I hq
  | ok fl =>
    cases fl with
    | ret w =>
      obtain ⟨z, H', I', rz, ⟨t, ez⟩, ex⟩ := I.after hq
      subst ez
      cases rz
      exact ⟨t, H', rfl, I', ex⟩
    | next => exact False.elim hq
    | brk => exact False.elim hq
    | cont => exact False.elim hq
theorem ifBound_ne {M : Model} {A : Around} {E : Value → Shared → Prop} {s : Shared} {K : PySem.W.Frag} {x C : Addr} {ox : Obj} {od : Option Obj} {args : List Value} {Q : Option Value → Shared → Prop} (XK : K.In s.heap) (I : PySem.W.InstAt s.heap x ox C od) (hs : PySem.W.findIn K (.ref C) "__ne__" = some (some (.builtin "object.__ne__")))
    (h : wpAny M A (call (.builtin "object.__ne__") (.ref x :: args)) (fun v => Q (some v)) E s) : wpAny M A (callSpecialIfBound? (.ref x) "__ne__" args) Q E s := by
  simp only [callSpecialIfBound?, bindSpecialIfBound?]
  refine wpAny_holding (wpAny_bind (wpAny_bind (wpAny_bind (I.type.here ((PySem.W.looks_findIn XK hs).here ?_)))))
  refine wpAny_bind (wpAny_askSetting (wpAny_ite ?_))
  have go : wpAny M A (call (.builtin "object.__ne__") ([.ref x] ++ args) >>= fun v => pure (some v)) Q E s := wpAny_bind (wpAny_mono h (fun v t q => wpAny_pure q) fun _ _ z => z)
  split
  · exact wpAny_bind (wpAny_of_eq (F.cmp_object.ne.bind _) (wpAny_pure (by exact go)))
  · exact wpAny_tryCatch (wpAny_bind (wpAny_of_eq (F.cmp_object.ne.bind _) (wpAny_pure (by exact go))))
def rNeO (C : Addr) (sp : Sp) : R2 := fun x y H Q => ∃ a b dx dy fs gs, x = .ref a ∧ y = .ref b ∧ H a = some (.ins C dx fs) ∧ H b = some (.ins C dy gs) ∧ sp [.ref a, .ref b] H (fun v H' => (∃ t, v = .bl t) ∧ ∀ t, v = .bl t → Q (.bl (!t)) H') E0
theorem ne_one {k : Nat} {C f : Addr} {fd : FuncData} {ps : List Str} {sp : Sp} {pins : List (Addr × Obj)} {s : Shared} {σ : L2.St} {H : Hp} {Q : VK} {a b dx : Addr} {fs : List (Str × V)} (q : EqO X.K C f) (nq : NeO X.K C) (G : FnOk X.prog X.w X.K X.mg X.base CX0 k f fd ps sp) (hr : Room (k + 1) X.A) (hb : Binds X.K fd ps [])
    (I : Inv X pins σ H s) (ha : H a = some (.ins C dx fs)) (hsp : sp [.ref a, .ref b] H (fun v H' => (∃ t, v = .bl t) ∧ ∀ t, v = .bl t → Q (.bl (!t)) H') E0) : wpAny (model X.prog X.w) X.A (tryCompare (.ref a) "__ne__" (.ref b)) (fun r s' => ∃ t H', r = some (.bool t) ∧ Inv X pins σ H' s' ∧ Q (.bl t) H') X.xe s := by
  obtain ⟨mA, J, _⟩ := ins_get I.hok ha
  obtain ⟨od, J, _⟩ := J.look
  have sb : Sub X (k + 1) X.A := ⟨hr, rfl⟩
  unfold tryCompare
  refine wpAny_bind (ifBound_ne I.kIn J nq.at_ (wpAny_call (codeAny_call_builtin F.cmp_object.ne.plain F.cmpEntry_ne (PySem.W.check_slot F.cmpKind_ne F.cmpSplit_ne (J.type.andThen (PySem.W.looks_mroIn I.kIn nq.ob)) (F.cmpArgs_ne _ _) ?_))))
  unfold Builtin.«object.__ne__»
  refine wpAny_bind (m := slotArgs "__ne__" 1 _) (wpAny_of_eq (a := (Value.ref a, [Value.ref b])) (by first | rfl | (simp only [slotArgs]; rfl)) ?_)
  dsimp only
  refine wpAny_bind (wpAny_cRoomFor sb.in1.room.units0 ?_)
  refine wpAny_bind (wpAny_mono (eq_in q G sb.in1 hb I ha (Q := fun v H' => ∀ t, v = .bl t → Q (.bl (!t)) H') hsp) (fun r s' z => ?_) fun _ _ z => z)
  obtain ⟨t, H', rfl, I', ex⟩ := z
  dsimp only
  refine wpAny_bind (wpAny_truthy_bool ?_)
  exact wpAny_pure (wpAny_pure ⟨!t, H', rfl, I', ex t rfl⟩)
theorem op_neO {k : Nat} {C f : Addr} {fd : FuncData} {ps : List Str} {sp : Sp} (q : EqO X.K C f) (nq : NeO X.K C) (G : FnOk X.prog X.w X.K X.mg X.base CX0 k f fd ps sp) (hr : Room (k + 1) X.A) (hb : Binds X.K fd ps []) : OpR X (compareOp .NotEq) (rNeO C sp) := by
  intro pins s σ H x y v u Q I rx ry h
  obtain ⟨a, b, dx, dy, fs, gs, rfl, rfl, ha, hb', hsp⟩ := h
  cases rx
  cases ry
  show wpAny (model X.prog X.w) X.A (richCompare .NotEq (.ref a) (.ref b)) (EP X pins σ Q) X.xe s
  have one := ne_one q nq G hr hb I ha hsp
  obtain ⟨mA, J, _⟩ := ins_get I.hok ha
  obtain ⟨mB, J', _⟩ := ins_get I.hok hb'
  obtain ⟨od, J, _⟩ := J.look
  obtain ⟨od', J', _⟩ := J'.look
  unfold richCompare
  simp only [oneThing_ref]
  refine wpAny_holding (wpAny_bind (wpAny_cRoomFor hr.units0 ?_))
  refine wpAny_bind (J.type.here (wpAny_bind (J'.type.here ?_)))
  split
  · rename_i z
    simp at z
  · refine wpAny_bind (wpAny_pure ?_)
    simp only [Bool.false_eq_true, if_false]
    refine wpAny_bind (wpAny_mono one (fun r s' z => ?_) fun _ _ z => z)
    obtain ⟨t, H', rfl, I', ex⟩ := z
    exact wpAny_pure ⟨.bl t, H', I', rfl, ex⟩
theorem rd_neO {C : Addr} {ns : List Str} {t : FE X.K α} {wa wb : W α} {fw : α × α × Unit → W Bool} {σ : L2.St} {H : Hp} {Q : V → Hp → Prop} {O : AS} {c : Nat} {Φ : Bool → WB} (S : Sat PK O pp ρ c σ H) (hw : (bnd wa fun x => bnd wb fun y => bnd (fw (x, y, ())) fun z => ret (!z)) Φ noX c) (k : ∀ x v H' c', Φ x c' → Chg pp H H' → Sat PK O pp ρ c' σ H' → v = .bl x → Q v H') :
    rdE PK pp ρ wa (eIns C ns t) σ H fun v H1 => rdE PK pp ρ wb (eIns C ns t) σ H1 fun u H2 => rNeO C (spW PK (aC (eIns C ns t) (aC (eIns C ns t) aN)) fw eB) v u H2 Q :=
  two S hw fun x y v u H2 c2 p2 ch2 S2 r1 r2 => by
    have q1 := r1
    have q2 := r2
    obtain ⟨a, dx, fs, e1, nO, hH, _⟩ := r1
    obtain ⟨b, dy, gs, e2, nO2, hH2, _⟩ := r2
    subst e1 e2
    refine ⟨a, b, dx, dy, fs, gs, rfl, rfl, hH, hH2, pp, Av O pp ρ, (x, y, ()), _, c2, S2.av, fun a h => .inr (.inl h), S2.pool, ⟨_, _, rfl, q1, _, _, rfl, q2, rfl⟩, p2, fun z v H3 c3 p3 ch3 pl3 rz => ⟨⟨z, rz⟩, fun t et => ?_⟩⟩
    have e3 : z = t := V.bl.inj ((show v = V.bl z from rz).symm.trans et)
    subst e3
    exact k (!z) _ H3 c3 p3 (ch2.trans ch3) (S2.chg ch3 pl3) rfl
theorem xneO {k : Nat} {C f : Addr} {fd : FuncData} {ps : List Str} {ns : List Str} {t : FE X.K α} {wa wb : W α} {fw : α × α × Unit → W Bool} (q : EqO X.K C f) (nq : NeO X.K C) (G : FnOk X.prog X.w X.K X.mg X.base CX0 k f fd ps (spW PK (aC (eIns C ns t) (aC (eIns C ns t) aN)) fw eB)) (hr : Room (k + 1) X.A) (hb : Binds X.K fd ps [])
    (ha : PX X PK pp ρ a wa (eIns C ns t)) (hb2 : PX X PK pp ρ b wb (eIns C ns t)) (hm : behindInMarks .NotEq b = false := by first | exact nomark _ | rfl) : PX X PK pp ρ (.Compare a [.NotEq] [b] pos) (bnd wa fun x => bnd wb fun y => bnd (fw (x, y, ())) fun z => ret (!z)) eB :=
  (pe_cmpR (op_neO q nq G hr hb) ha hb2 hm).weak fun σ H Q ⟨O, Φ, c, S, hw, kk⟩ => rd_neO S hw fun x v H' c' p ch S' e => kk x v H' c' p ch S' e
/-! ### list(range(n)) -/
theorem rgV_F2 {K : PySem.W.Frag} {O : AS} {H : Hp} (n : Nat) : F2 ((eI : En K Int).r O H) (rgV 0 (n : Int)) (rangeF 0 n) := by
  have e : rgV 0 (n : Int) = (rangeF 0 n).map V.int := by
    unfold rgV
    have : ∀ m lo : Nat, ((List.range' lo m).map fun i => V.int (0 + (i : Nat))) = (rangeF (lo : Int) m).map V.int := fun m => by
      induction m with
      | zero => intro lo; rfl
      | succ m ih =>
        intro lo
        rw [List.range'_succ, List.map_cons, ih (lo + 1)]
        show _ = V.int (lo : Int) :: (rangeF ((lo : Int) + 1) m).map V.int
        rw [Int.zero_add]
        rfl
    rw [show ((n : Int) - 0).toNat = n by omega, List.range_eq_range']
    exact this n 0
  rw [e]
  generalize rangeF 0 n = l
  induction l with
  | nil => exact .nil
  | cons x r ih => exact .cons rfl ih
theorem xlistRg {p p2 pos2 : Pos} {w : W Int} (hc : X.calm = true) (hm : X.mg "list" = none) (hm2 : X.mg "range" = none) (h : PX X PK pp ρ a w eI) (hg : Gl X "list" := by rfl) (hg2 : Gl X "range" := by rfl) (na : starEach [a] X.env = (false, eval a X.env) :: starEach [] X.env := by rfl)
    (he : starEach [Expr.Call (.Name "range" p2) [a] [] pos2] X.env = (false, eval (.Call (.Name "range" p2) [a] [] pos2) X.env) :: starEach [] X.env := by rfl) :
    PX X PK pp ρ (.Call (.Name "list" p) [.Call (.Name "range" p2) [a] [] pos2] [] pos) (bnd w fun x => grd (rngOk 0 x) (ret (rangeF 0 x.toNat))) (eL eI) :=
  (pe_listRg hc hg hm (prg_1 hg2 hm2 h na)).weak fun σ H Q ⟨O, Φ, c, S, hw, k⟩ => ⟨O, _, c, S, hw, fun x v H1 c1 p1 ch S1 r1 => by
    obtain ⟨q0, q2⟩ := p1
    simp only [rngOk, Bool.and_eq_true, decide_eq_true_eq] at q0
    refine ⟨x, r1, ⟨by omega, by omega, by omega, by omega, by omega⟩, fun q nq => ?_⟩
    have s := same_new (o := .lst (rgV 0 x)) nq
    refine k _ _ _ c1 q2 (ch.trans (.of s)) (S1.same s) ⟨q, _, rfl, ⟨new_at S1.av nq, upd_same⟩, ?_⟩
    by_cases h0 : 0 ≤ x
    · obtain ⟨n, rfl⟩ : ∃ n : Nat, x = (n : Int) := ⟨x.toNat, by omega⟩
      exact rgV_F2 n
    · have e1 : rgV 0 x = [] := by
        unfold rgV
        rw [show (x - 0).toNat = 0 by omega]
        rfl
      have e2 : x.toNat = 0 := by omega
      rw [e1, e2]
      exact .nil⟩
end
end Dc
/-! DcW: zip of two lists kept in a name, walked once behind it. -/
namespace Dc
open PySem PySem.Spec L2 PyProof.Rows
/-! ### the five things of a zip object, tracked -/
def zO (n : Nat) : HO := .ext fun h => IsZip h (n + 4) (n + 2) (n + 3) .none
def pO (p : Nat) (x y : Value) : HO := .ext fun h => IsPair h p x y
def iO (i l : Nat) : HO := .ext fun h => h.IsListIter i l 0
def up1 (H : Hp) (n a : Nat) : Hp := upd H n (iO n a)
def up2 (H : Hp) (n a b : Nat) : Hp := upd (up1 H n a) (n + 1) (iO (n + 1) b)
def up3 (H : Hp) (n a b : Nat) : Hp := upd (up2 H n a b) (n + 2) (pO (n + 2) (.ref n) (.ref (n + 1)))
def up4 (H : Hp) (n a b : Nat) : Hp := upd (up3 H n a b) (n + 3) (pO (n + 3) .none .none)
def up5 (H : Hp) (n a b : Nat) : Hp := upd (up4 H n a b) (n + 4) (zO n)
structure No5 (H : Hp) (n : Nat) : Prop where
  n0 : H n = none
  n1 : H (n + 1) = none
  n2 : H (n + 2) = none
  n3 : H (n + 3) = none
  n4 : H (n + 4) = none
section
variable {H : Hp} {n a b c : Nat}
theorem up5_lt (h : c < n) : up5 H n a b c = H c := by
  unfold up5 up4 up3 up2 up1
  rw [upd_ne (show c ≠ n + 4 by omega), upd_ne (show c ≠ n + 3 by omega), upd_ne (show c ≠ n + 2 by omega), upd_ne (show c ≠ n + 1 by omega), upd_ne (show c ≠ n by omega)]
theorem up5_other (n5 : No5 H n) {o : HO} (h : H c = some o) : up5 H n a b c = some o := by
  have h0 : c ≠ n := ne_of_none h n5.n0
  have h1 : c ≠ n + 1 := ne_of_none h n5.n1
  have h2 : c ≠ n + 2 := ne_of_none h n5.n2
  have h3 : c ≠ n + 3 := ne_of_none h n5.n3
  have h4 : c ≠ n + 4 := ne_of_none h n5.n4
  unfold up5 up4 up3 up2 up1
  rw [upd_ne h4, upd_ne h3, upd_ne h2, upd_ne h1, upd_ne h0]
  exact h
theorem up5_cases {o : HO} (h : up5 H n a b c = some o) : (c = n + 4 ∧ o = zO n) ∨ (c = n + 3 ∧ o = pO (n + 3) .none .none) ∨ (c = n + 2 ∧ o = pO (n + 2) (.ref n) (.ref (n + 1))) ∨ (c = n + 1 ∧ o = iO (n + 1) b) ∨ (c = n ∧ o = iO n a) ∨ H c = some o := by
  by_cases h4 : c = n + 4
  · subst h4; unfold up5 at h; rw [upd_same] at h; exact .inl ⟨rfl, (Option.some.inj h).symm⟩
  by_cases h3 : c = n + 3
  · subst h3; unfold up5 up4 at h; rw [upd_ne h4, upd_same] at h; exact .inr (.inl ⟨rfl, (Option.some.inj h).symm⟩)
  by_cases h2 : c = n + 2
  · subst h2; unfold up5 up4 up3 at h; rw [upd_ne h4, upd_ne h3, upd_same] at h; exact .inr (.inr (.inl ⟨rfl, (Option.some.inj h).symm⟩))
  by_cases h1 : c = n + 1
  · subst h1; unfold up5 up4 up3 up2 at h; rw [upd_ne h4, upd_ne h3, upd_ne h2, upd_same] at h; exact .inr (.inr (.inr (.inl ⟨rfl, (Option.some.inj h).symm⟩)))
  by_cases h0 : c = n
  · subst h0; unfold up5 up4 up3 up2 up1 at h; rw [upd_ne h4, upd_ne h3, upd_ne h2, upd_ne h1, upd_same] at h; exact .inr (.inr (.inr (.inr (.inl ⟨rfl, (Option.some.inj h).symm⟩))))
  · unfold up5 up4 up3 up2 up1 at h; rw [upd_ne h4, upd_ne h3, upd_ne h2, upd_ne h1, upd_ne h0] at h; exact .inr (.inr (.inr (.inr (.inr h))))
end
section
variable {X : Cx} {pins : List (Addr × Obj)} {σ : L2.St} {H : Hp} {s : Shared} {n a b : Nat}
theorem inv_zip {h' : Heap} {t' : Nat} (I : Inv X pins σ H s) (en : s.heap.objs.size = n) (hz : IsZip h' (n + 4) (n + 2) (n + 3) .none) (hTI : IsPair h' (n + 2) (.ref n) (.ref (n + 1))) (hTO : IsPair h' (n + 3) .none .none)
    (h1 : h'.IsListIter n a 0) (h2 : h'.IsListIter (n + 1) b 0) (hk : ∀ c o, s.heap.get? c = some o → h'.get? c = some o) : No5 H n ∧ Inv X pins σ (up5 H n a b) { s with heap := h', toks := t' } := by
  have fr : ∀ k, H (n + k) = none := fun k => I.hok.fresh (by omega)
  have n5 : No5 H n := ⟨fr 0, fr 1, fr 2, fr 3, fr 4⟩
  refine ⟨n5, I.un ⟨fun c o e _ _ _ => hk c o e, fun c o e _ _ _ => ⟨o.slots, hk c o e⟩, fun c o e z _ => by rw [up5_lt (by rw [← en]; exact Heap.lt_size e)]; exact z, fun c o e _ => ⟨o, hk c o e⟩, fun c xs z => up5_other n5 z, fun c o x z => up5_other n5 z, fun c ps z => ⟨#[], by rw [up5_other n5 z]; simp⟩⟩ fun c u e => ?_⟩
  rcases up5_cases e with ⟨rfl, rfl⟩ | ⟨rfl, rfl⟩ | ⟨rfl, rfl⟩ | ⟨rfl, rfl⟩ | ⟨rfl, rfl⟩ | e
  · exact ⟨hz, ⟨_, hz⟩, fun h1 h2 q k => k _ q⟩
  · exact ⟨hTO, ⟨_, hTO⟩, fun h1 h2 q k => k _ q⟩
  · exact ⟨hTI, ⟨_, hTI⟩, fun h1 h2 q k => k _ q⟩
  · obtain ⟨o, eo, q⟩ := id h2
    exact ⟨h2, ⟨o, eo⟩, fun h1 h2 ⟨o, eo, q⟩ k => ⟨o, k _ eo, q⟩⟩
  · obtain ⟨o, eo, q⟩ := id h1
    exact ⟨h1, ⟨o, eo⟩, fun h1 h2 ⟨o, eo, q⟩ k => ⟨o, k _ eo, q⟩⟩
  · exact (I.hok c u e).stay (fun b o _ z => hk b o z) (fun d z => up5_other n5 z) fun d xs z => up5_other n5 z
theorem inv_off {G : Hp} {c : Addr} {φ : Heap → Prop} (I : Inv X pins σ (upd G c (.ext φ)) s) (hG : G c = none) : Inv X pins σ G s := by
  have J := ItX.inv_drop I upd_same
  rw [ItX.dropH_upd hG] at J
  exact J
theorem fp_off {G H0 : Hp} {c : Addr} {u : HO} (I : Inv X pins σ (upd G c u) s) (hn : X.s_0.heap.objs.size ≤ c) (h0 : H0 c = none) : FpOk X pins H0 c :=
  ⟨h0, (ItX.inv_fp I upd_same hn).2⟩
theorem up4_none (n5 : No5 H n) : up4 H n a b (n + 4) = none := by
  unfold up4 up3 up2 up1
  rw [upd_ne (show n + 4 ≠ n + 3 by omega), upd_ne (show n + 4 ≠ n + 2 by omega), upd_ne (show n + 4 ≠ n + 1 by omega), upd_ne (show n + 4 ≠ n by omega)]
  exact n5.n4
theorem up3_none (n5 : No5 H n) : up3 H n a b (n + 3) = none := by
  unfold up3 up2 up1
  rw [upd_ne (show n + 3 ≠ n + 2 by omega), upd_ne (show n + 3 ≠ n + 1 by omega), upd_ne (show n + 3 ≠ n by omega)]
  exact n5.n3
theorem up2_none (n5 : No5 H n) : up2 H n a b (n + 2) = none := by
  unfold up2 up1
  rw [upd_ne (show n + 2 ≠ n + 1 by omega), upd_ne (show n + 2 ≠ n by omega)]
  exact n5.n2
theorem up1_none (n5 : No5 H n) : up1 H n a (n + 1) = none := by
  unfold up1
  rw [upd_ne (show n + 1 ≠ n by omega)]
  exact n5.n1
theorem inv_unzip (n5 : No5 H n) (I : Inv X pins σ (up5 H n a b) s) (hn : X.s_0.heap.objs.size ≤ n) : Inv X pins σ H s ∧ (IsZip s.heap (n + 4) (n + 2) (n + 3) .none ∧ IsPair s.heap (n + 2) (.ref n) (.ref (n + 1)) ∧ (∃ x y, IsPair s.heap (n + 3) x y) ∧ s.heap.IsListIter n a 0 ∧ s.heap.IsListIter (n + 1) b 0) ∧
    ∀ c ∈ [n + 4, n + 2, n + 3, n, n + 1], FpOk X pins H c := by
  have e5 := (I.hok (n + 4) (zO n) upd_same).1
  have f5 := fp_off I (Nat.le_trans hn (Nat.le_add_right _ _)) n5.n4
  have I4 : Inv X pins σ (up4 H n a b) s := inv_off I (up4_none n5)
  have e4 := (I4.hok (n + 3) (pO (n + 3) .none .none) upd_same).1
  have f4 := fp_off I4 (Nat.le_trans hn (Nat.le_add_right _ _)) n5.n3
  have I3 : Inv X pins σ (up3 H n a b) s := inv_off I4 (up3_none n5)
  have e3 := (I3.hok (n + 2) (pO (n + 2) (.ref n) (.ref (n + 1))) upd_same).1
  have f3 := fp_off I3 (Nat.le_trans hn (Nat.le_add_right _ _)) n5.n2
  have I2 : Inv X pins σ (up2 H n a b) s := inv_off I3 (up2_none n5)
  have e2 := (I2.hok (n + 1) (iO (n + 1) b) upd_same).1
  have f2 := fp_off I2 (Nat.le_trans hn (Nat.le_add_right _ _)) n5.n1
  have I1 : Inv X pins σ (up1 H n a) s := inv_off I2 (up1_none n5)
  have e1 := (I1.hok n (iO n a) upd_same).1
  have f1 := fp_off I1 hn n5.n0
  refine ⟨inv_off I1 n5.n0, ⟨e5, e3, ⟨_, _, e4⟩, e1, e2⟩, fun c hc => ?_⟩
  have e' : c = n + 4 ∨ c = n + 2 ∨ c = n + 3 ∨ c = n ∨ c = n + 1 := by simpa using hc
  rcases e' with rfl | rfl | rfl | rfl | rfl
  · exact f5
  · exact f3
  · exact f4
  · exact f1
  · exact f2
end
/-! ### zip(a, b) as a value -/
section
variable {X : Cx} {e e2 : Expr} {ta : TA} {p pos tpos : Pos} {elts : List Expr} {kk : Nat}
theorem pe_zipv (hg : Gl X "zip") (hm : X.mg "zip" = none) (ha : PA X [e, e2] ta)
    (hs : starEach [e, e2] X.env = (false, eval e X.env) :: starEach [e2] X.env := by rfl) (hpl : (backTo pos (starEach [e2] X.env)).any (·.1) = false := by rfl) :
    PE X (.Call (.Name "zip" p) [e, e2] [] pos) (fun σ H Q => ta σ H fun vs H1 => ∃ a b xs ys, vs = [.ref a, .ref b] ∧ SqL X.K H1 a xs ∧ SqL X.K H1 b ys ∧ ∀ n, No5 H1 n → X.s_0.heap.objs.size ≤ n → a < n → b < n → Q (.ref (n + 4)) (up5 H1 n a b)) := by
  refine ⟨fun pins s σ H Q I h => ?_⟩
  refine Call_ (ld_blt I hg hm PyProof.Rows.boot_zip (PyProof.Rows.callWith_type1 (thn (ha.run pos pins s σ H _ I h) fun us s1 ⟨vs, H1, I1, r1, q1⟩ => ?_) hs hpl))
  obtain ⟨a, b, xs, ys, ex, hqx, hqy, q⟩ := q1
  subst ex
  cases r1 with
  | cons r rr =>
    cases rr with
    | cons r' rr =>
      cases rr
      cases r
      cases r'
      obtain ⟨its, rv, p1, _⟩ := I1.list hqx
      obtain ⟨its2, rv2, p2, _⟩ := I1.list hqy
      have la : a < s1.heap.objs.size := p1.lt
      have lb : b < s1.heap.objs.size := p2.lt
      refine call_zip_2 p1.isList p2.isList fun h' hz hTI hTO h1 h2 hsz hk => ?_
      obtain ⟨n5, I2⟩ := inv_zip (a := a) (b := b) (t' := s1.toks) I1 rfl hz hTI hTO h1 h2 hk
      exact ⟨.ref (s1.heap.objs.size + 4), _, I2, rfl, q _ n5 I1.sz la lb⟩
/-- walked by its name, once; behind the walk it is forgotten -/
def iZv (K : PySem.W.Frag) (m i : Nat) : TI := fun σ H R => ∃ n a b H0, H = up5 H0 n a b ∧ No5 H0 n ∧ m ≤ n ∧ a < n ∧ b < n ∧ σ[i]? = some (some (.ref (n + 4))) ∧ R (Itz K a b) H0
theorem pi_zv {i : Nat} {x : Str} (hN : X.N[i]? = some x) (hv : Vis X.env.scope x) (hd : (x == ("__debug__" : Str)) = false := by decide) (hcd : (x == ("__classdict__" : Str)) = false := by decide) : PI X (.Tuple elts kk tpos) (.Name x p) (iZv X.K X.s_0.heap.objs.size i) := by
  refine ⟨fun pins s σ H R I h => ?_⟩
  obtain ⟨n, a, b, H0, rfl, n5, hn, la, lb, hs, q⟩ := h
  refine thn ((pe_var (pos := p) (i := i) hN hv hd hcd).run pins s σ _ (fun v H1 => v = .ref (n + 4) ∧ H1 = up5 H0 n a b) I ⟨_, hs, rfl, rfl⟩) fun u s1 ⟨v, H1, I1, r1, ev, eH⟩ => ?_
  subst ev
  rw [eH] at I1
  cases r1
  obtain ⟨I2, st, fp⟩ := inv_unzip n5 I1 hn
  exact wpAny_pyIter_zip st.1 ⟨n + 4, [n + 4, n + 2, n + 3, n, n + 1], _, _, H0, rfl, I2, turn_zip (PySem.W.ktu_apart n a b la lb), st, fp, q⟩
end
/-! ### typed -/
section
variable {X : Cx} {PK : PoolK} {pp : PP} {ρ : List (Sl X.K)} {α β γ δ ι : Type} {e a b : Expr} {es : List Expr} {pos : Pos}
theorem Sat.junk {K : PySem.W.Frag} {PK : PoolK} {pp : PP} {ρ : List (Sl K)} {O : AS} {c : Nat} {σ : L2.St} {H : Hp} {i : Nat} {v : V} (S : Sat PK O pp ρ c σ H) (hn : get ρ i = .nil) : Sat PK O pp ρ c (σ.set i (some v)) H := by
  refine ⟨by rw [List.length_set]; exact S.len, S.nd, S.new, S.dom, S.pool, fun j => ?_⟩
  by_cases hj : j = i
  · subst hj; rw [hn]; exact True.intro
  · have q := S.slots j
    cases e : get ρ j with
    | nil => exact True.intro
    | sh en2 y =>
      rw [e] at q
      obtain ⟨v2, e2, r2⟩ := q
      exact ⟨v2, by rw [List.getElem?_set_ne (Ne.symm hj)]; exact e2, r2⟩
    | ow a on y =>
      rw [e] at q
      exact ⟨by rw [List.getElem?_set_ne (Ne.symm hj)]; exact q.1, q.2⟩
    | pl =>
      rw [e] at q
      obtain ⟨a, b, e2, e3⟩ := q
      exact ⟨a, b, e2, by rw [List.getElem?_set_ne (Ne.symm hj)]; exact e3⟩
/-- a comprehension's whole from a source that is there -/
theorem lc_body {own : List (Str × Nat)} {ext : List (Sl X.K) → α → List (Sl X.K)} {js : List Nat} {g : TG} {f : α → W β} {en : En X.K β} {xs : List α} {J : It} {O : AS} {σ : L2.St} {H1 : Hp} {c1 : Nat} {Φ : List β → WB} {Q : V → Hp → Prop} (hj : ∀ j ∈ js, j ∈ own.map (·.2)) (hn : ∀ i ∈ own.map (·.2), get ρ i = .nil) (ho : ∀ x, owns (ext ρ x) = owns ρ)
    (S1 : Sat PK O pp ρ c1 σ H1) (p1 : mapW f xs Φ noX c1) (src : Src PK xs ext js g J (Av O pp ρ) H1) (hz : xs.length ≤ sizeLine)
    (k : ∀ ys p vs H' c', Φ ys c' → H1 p = none → Chg pp H1 H' → Sat PK (Ox O p) pp ρ c' σ H' → H' p = some (.lst vs) → F2 (en.r (Av (Ox O p) pp ρ) H') vs ys → Q (.ref p) H') (D : Addr) (hD : H1 D = none) :
    ∃ W : Nat → Nat → Hp → Prop, (∃ m, W 0 m (upd H1 D (.lst []))) ∧ ∀ i m H, W i m H →
      (J.stop i H ∧ Q (.ref D) H) ∨ (J.go i H ∧ ∃ Nx : Hp → Prop, (∀ H', Nx H' → ∃ m', m' < m ∧ W (i + 1) m' H') ∧ ∀ x H', J.yld i H x H' → g x (wipe σ (own.map (·.2))) H' fun σ2 H2 => wipe σ2 (own.map (·.2)) = wipe σ (own.map (·.2)) ∧ tYes σ2 H2 fun b H3 =>
        if b = true then (∃ y, rdE PK pp (ext ρ y) (f y) en σ2 H3 fun y H4 => ∃ acc, H4 D = some (.lst acc) ∧ acc.length < sizeLine ∧ Nx (upd H4 D (.lst (acc ++ [y])))) else Nx H3) := by
  have nf := nfoot S1 hD
  have mv0 : Mv (Av O pp ρ) (Av (Ox O D) pp ρ) H1 (upd H1 D (.lst [])) := Mv.newA hD
  refine ⟨fun i m H' => m = xs.length - i ∧ i ≤ xs.length ∧ ∃ acc vs c', H' D = some (.lst vs) ∧ F2 (en.r (Av (Ox O D) pp ρ) H') vs acc ∧ vs.length ≤ i ∧ Chg pp (upd H1 D (.lst [])) (upd H' D (.lst [])) ∧ Sat PK (Ox O D) pp ρ c' σ H' ∧ mapW f (xs.drop i) (fun ys c => Φ (acc ++ ys) c) noX c',
    ⟨xs.length, by simp, Nat.zero_le _, [], [], c1, upd_same, .nil, Nat.zero_le _, by rw [upd_upd]; exact .refl, S1.newO hD, by simpa using p1⟩, ?_⟩
  rintro i m H' ⟨rfl, hi', acc, vs, c', eD, fD, lD, chD, S', hw'⟩
  have mv : Mv (Av O pp ρ) (Av (Ox O D) pp ρ) H1 H' := fun a o n e => by
    obtain ⟨e1, n1⟩ := mv0 a o n e
    have ne : a ≠ D := ne_of_none e hD
    have := chD a o e1 fun z => n (.inr (.inl z))
    rw [upd_ne ne] at this
    exact ⟨this, n1⟩
  by_cases hlt : i < xs.length
  · refine .inr ⟨src.go i H' _ hlt mv, fun H3 => ∃ acc vs c', H3 D = some (.lst vs) ∧ F2 (en.r (Av (Ox O D) pp ρ) H3) vs acc ∧ vs.length ≤ i + 1 ∧ Chg pp (upd H1 D (.lst [])) (upd H3 D (.lst [])) ∧ Sat PK (Ox O D) pp ρ c' σ H3 ∧ mapW f (xs.drop (i + 1)) (fun ys c => Φ (acc ++ ys) c) noX c', fun H3 q => ⟨xs.length - (i + 1), by omega, rfl, hlt, q⟩, fun v H2 y => ?_⟩
    obtain ⟨us, H3, eus, sm, S3, hQ⟩ := src.yld i xs[i] H' v H2 pp ρ (Ox O D) c' (wipe σ (own.map (·.2))) (List.getElem?_eq_getElem hlt) mv (S'.wipe hn) y
    refine hQ _ ⟨wipe_setAll fun u hu => hj _ (by rw [← eus]; exact List.mem_map.mpr ⟨u, hu, rfl⟩), ?_⟩
    unfold tYes
    simp only [if_true]
    rw [List.drop_eq_getElem_cons hlt] at hw'
    refine ⟨xs[i], Ox O D, _, c', S3, hw', fun y v4 H4 c4 q ch4 S4 r4 => ?_⟩
    have e4 : H4 D = some (.lst vs) := ch4 D _ (sm D _ eD) nf
    refine ⟨vs, e4, Nat.lt_of_le_of_lt lD (Nat.lt_of_lt_of_le hlt hz), acc ++ [y], vs ++ [v4], c4, upd_same, ?_, by rw [List.length_append]; exact Nat.succ_le_succ lD, ?_, ?_, ?_⟩
    · have mv4 : Mv (Av (Ox O D) pp ρ) (Av (Ox O D) pp ρ) H' (upd H4 D (.lst (vs ++ [v4]))) := fun a o n e => by
        have ne : a ≠ D := fun z => n (by rw [z]; exact .inl (.inr rfl))
        rw [upd_ne ne]
        exact ⟨ch4 a o (sm a o e) fun z => n (.inr (.inl z)), n⟩
      have mv5 : Mv (Av (Ox O D) pp (ext ρ xs[i])) (Av (Ox O D) pp ρ) H4 (upd H4 D (.lst (vs ++ [v4]))) := fun a o n e => by
        have ne : a ≠ D := fun z => n (by rw [z]; exact .inl (.inr rfl))
        rw [upd_ne ne]
        refine ⟨e, fun z => n ?_⟩
        rcases z with z | z | z
        · exact .inl z
        · exact .inr (.inl z)
        · exact .inr (.inr (by rw [ho]; exact z))
      exact (fD.imp fun _ _ => en.mono mv4).append (.cons (en.mono mv5 r4) .nil)
    · intro a o e hf
      have z := chD a o e hf
      rw [upd_upd]
      by_cases ne : a = D
      · subst ne; rw [upd_same] at z ⊢; exact z
      · rw [upd_ne ne] at z ⊢
        exact ch4 a o (sm a o z) hf
    · exact (S'.chg (fun a o e hf => ch4 a o (sm a o e) hf) S4.pool).updO (.inr rfl) nf
    · have q2 : mapW f (xs.drop (i + 1)) (fun ys c => Φ (acc ++ (y :: ys)) c) noX c4 := q
      simpa [List.append_assoc] using q2
  · have e : i = xs.length := by omega
    subst e
    rw [List.drop_length] at hw'
    have hw2 : Φ (acc ++ []) c' := hw'
    rw [List.append_nil] at hw2
    refine .inl ⟨src.stop H' _ mv, k acc D vs H' c' hw2 hD (fun a o e hf => ?_) S' eD fD⟩
    have ne : a ≠ D := ne_of_none e hD
    have z := chD a o (by rw [upd_ne ne]; exact e) hf
    rw [upd_ne ne] at z
    exact z
theorem src_zip {K : PySem.W.Frag} {PK : PoolK} {O : AS} {pp : PP} {ρ : List (Sl K)} {H1 : Hp} {a b : Addr} {vs us : List V} {xs : List α} {ys : List β} {e1 : En K α} {e2 : En K β} (i j : Nat) (l : LstAt (Av O pp ρ) H1 a vs) (f : F2 (e1.r (Av O pp ρ) H1) vs xs) (l2 : LstAt (Av O pp ρ) H1 b us) (f2 : F2 (e2.r (Av O pp ρ) H1) us ys) :
    Src (K := K) PK (xs.zip ys) (fun ρ x => put (put ρ i (.sh e1 x.1)) j (.sh e2 x.2)) [i, j] (gTup K 2 (gCons (gName i) (gCons (gName j) gNil))) (Itz K a b) (Av O pp ρ) H1 := by
  have hl := f.length
  have hl2 := f2.length
  refine ⟨fun j H' A' hj m => ?_, fun H' A' m => ?_, fun _ _ _ z => own_put_sh (own_put_sh z), fun j y H' v H'' pp' ρ' O' c' σ' hx m S' yy => ?_⟩
  · rw [List.length_zip] at hj
    have h1 : j < vs.length := by omega
    have h2 : j < us.length := by omega
    exact ⟨vs, us, vs[j], us[j], (l.mv m).sq, (l2.mv m).sq, List.getElem?_eq_getElem h1, List.getElem?_eq_getElem h2⟩
  · refine ⟨vs, us, (l.mv m).sq, (l2.mv m).sq, ?_⟩
    rw [List.length_zip]
    omega
  · obtain ⟨T, u, w, rfl, nT, rfl, hu, hw'⟩ := yy
    rw [List.getElem?_zip_eq_some] at hx
    obtain ⟨u1, g1, q1⟩ := f.get hx.1
    obtain ⟨u2, g2, q2⟩ := f2.get hx.2
    have z1 := hu vs (l.mv m).sq
    have z2 := hw' us (l2.mv m).sq
    rw [g1] at z1
    rw [g2] at z2
    cases z1
    cases z2
    exact gpair S' nT (e1.mono m q1) (e2.mono m q2)
/-- the state behind x = zip(..), ahead of the walk; W: what is wished from there -/
def atZ {K : PySem.W.Frag} (m i : Nat) (PK : PoolK) (pp : PP) (ρ : List (Sl K)) (e1 : En K α) (e2 : En K β) (w : List (α × β) → W γ) (N : AS → Hp → γ → Nat → Prop) (σ : L2.St) (H : Hp) : Prop :=
  ∃ n a b H0 O Φ c vs us xs ys, H = up5 H0 n a b ∧ No5 H0 n ∧ m ≤ n ∧ a < n ∧ b < n ∧ σ[i]? = some (some (.ref (n + 4))) ∧ Sat PK O pp ρ c σ H0 ∧ LstAt (Av O pp ρ) H0 a vs ∧ F2 (e1.r (Av O pp ρ) H0) vs xs ∧ LstAt (Av O pp ρ) H0 b us ∧ F2 (e2.r (Av O pp ρ) H0) us ys ∧
    (xs.zip ys).length ≤ sizeLine ∧ w (xs.zip ys) Φ noX c ∧ ∀ y H' c', Φ y c' → Chg pp H0 H' → Sat PK O pp ρ c' σ H' → N O H' y c'
/-- x = zip(a, b); return C([elt for p, q in x]) -/
theorem szip (i j1 j2 : Nat) {C g : Addr} {ns : List Str} {t : FE X.K δ} {k : Nat} {fd : FuncData} {ps : List Str} {x cn : Str} {p0 p1 p2 p3 pos1 pos2 pos3 pos4 pos5 tpos : Pos} {elts : List Expr} {kk : Nat} {elt : Expr} {scope : Scope} {own : List (Str × Nat)} {rest : List Stmt}
    {wa : W (List α × List β × Unit)} {e1 : En X.K α} {e2 : En X.K β} {f : α × β → W γ} {en : En X.K γ} {fw : List γ × Unit → W δ} {ι' κ : Type} {ρ' : ι' → List (Sl X.K)} {ρl : κ → List (Sl X.K)}
    (hc : X.calm = true) (hN : X.N.Nodup) (hnil : get ρ i = .nil) (hm : X.mg "zip" = none) (hz : PAX X PK pp ρ [a, b] wa (a2 (eL e1) (eL e2)))
    (M : Mk X.K C g) (F : FnOk X.prog X.w X.K X.mg X.base CX0 k g fd ps (spI PK C ns t (aC (eL en) aN) fw)) (hr : Room (k + 1) X.A) (hmC : X.mg cn = some (.ref C)) (hb : Binds X.K fd ps [])
    (ok : BlkOk X.N X.env.scope scope own) (hj : ∀ j ∈ [j1, j2], j ∈ own.map (·.2)) (hn : ∀ i ∈ own.map (·.2), get ρ i = .nil) (ho : ∀ x : α × β, owns (put (put ρ j1 (.sh e1 x.1)) j2 (.sh e2 x.2)) = owns ρ)
    (hgt : ∀ (s : Shared) (H : Hp) (C : Addr) (cl : List (Str × Addr)) (fp : List Addr), PG (X.blk s H scope (compEnvC scope cl C X.env) fp) (.Tuple elts kk tpos) (gTup X.K 2 (gCons (gName j1) (gCons (gName j2) gNil))))
    (he : ∀ (s : Shared) (H : Hp) (C : Addr) (cl : List (Str × Addr)) (fp : List Addr) (x : α × β), PX (X.blk s H scope (compEnvC scope cl C X.env) fp) PK pp (put (put ρ j1 (.sh e1 x.1)) j2 (.sh e2 x.2)) elt (f x) en)
    (hlr : Nat.blt i ρ.length = true := by rfl) (hi : X.N[i]? = some x := by rfl) (hx : Loc X.env.scope x := by first | exact Or.inl rfl | exact Or.inr rfl) (hv : Vis X.env.scope x := by first | exact Or.inl rfl | exact Or.inr rfl) (hs : swapsWith (.Call (.Name "zip" p1) [a, b] [] pos1) (some (.Name x p0)) pos2.line X.env = pure false := by rfl)
    (hf : X.fn x = true ∨ X.env.scope.names.lookup x = some .local := by first | exact .inl rfl | exact .inr rfl)
    (hg : Gl X "zip" := by rfl) (hgC : Gl X cn := by rfl) (hd : (x == ("__debug__" : Str)) = false := by decide) (hcd : (x == ("__classdict__" : Str)) = false := by decide) (hdb : (cn == ("__debug__" : Str)) = false := by decide)
    (hs1 : starEach [a, b] X.env = (false, eval a X.env) :: starEach [b] X.env := by rfl) (hpl : (backTo pos1 (starEach [b] X.env)).any (·.1) = false := by rfl)
    (hse : ∀ y, foldedSetIterable (.Name x p3) X.env y = pure y := by intro _; rfl) (hst : starEach [.ListComp elt [⟨.Tuple elts kk tpos, .Name x p3, [], 0⟩] scope pos3] X.env = (false, eval (.ListComp elt [⟨.Tuple elts kk tpos, .Name x p3, [], 0⟩] scope pos3) X.env) :: starEach [] X.env := by rfl) :
    PSX X PK pp ρ (.Assign [.Name x p0] (.Call (.Name "zip" p1) [a, b] [] pos1) pos2 :: .Return (some (.Call (.Name cn p2) [.ListComp elt [⟨.Tuple elts kk tpos, .Name x p3, [], 0⟩] scope pos3] [] pos4)) pos5 :: rest)
      (bnd wa fun z => bnd (mapW f (z.1.zip z.2.1)) fun l => bnd (fw (l, ())) fun y => ret (.rt y)) ρ' ρl (eIns C ns t) := by
  have lc := pe_lc (te := fun σ H Q => ∃ y : α × β, rdE PK pp (put (put ρ j1 (.sh e1 y.1)) j2 (.sh e2 y.2)) (f y) en σ H Q) hc hN (pi_zv (p := p3) (elts := elts) (kk := kk) (tpos := tpos) hi hv hd hcd) ok hgt (fun _ _ _ _ _ => pts_nil) (fun s H C cl fp => ⟨fun pins s' σ H Q I ⟨x, q⟩ => (he s _ C cl fp x).run pins s' σ H Q I q⟩) hse (pos := pos3)
  have mk := pe_make (pos := pos4) (p := p2) M F hr hgC hmC hb .nil pass0 (pa_cons lc pa_nil hst) hdb hst (by rfl)
  refine (pss_cons (ps_set (pos := pos2) (pos' := p0) hN hi hx (pe_zipv hg hm (pa_len hz) hs1 hpl) hs hf) (pss_cons (ps_ret (pos := pos5) mk) pss_never)).weak fun D σ H ⟨O, Φ, c, S, hw, kD⟩ => ?_
  refine ⟨O, _, c, S, hw, fun z vs0 H1 c1 q1 ch S1 r1 hlen => ?_⟩
  obtain ⟨_, _, rfl, ⟨a', vs, rfl, l, f1⟩, _, _, rfl, ⟨b', us, rfl, l2, f2⟩, rfl⟩ := r1
  refine ⟨a', b', vs, us, rfl, l.sq, l2.sq, fun n n5 hsz la lb => ?_⟩
  have hlz : (z.1.zip z.2.1).length ≤ sizeLine := by
    have := hlen a' vs (by simp) l.sq
    have hl := f1.length
    rw [List.length_zip]
    omega
  have hli : (σ.set i (some (.ref (n + 4))))[i]? = some (some (.ref (n + 4))) := by
    exact List.getElem?_set_self (by rw [S1.len]; exact Nat.blt_eq ▸ hlr)
  have body := lc_body (Q := fun v H2 => ∀ (q dx : Addr), H2 q = none → H2 dx = none → dx ≠ q → spI PK C ns t (aC (eL en) aN) fw (V.ref q :: [v]) (upd (upd H2 dx (.own q)) q (.ins C dx [])) (fun u H3 => u = V.non ∧ D.rt (V.ref q) H3) E0) (σ := σ.set i (some (.ref (n + 4)))) (en := en) hj hn ho (S1.junk hnil) q1 (src_zip j1 j2 l f1 l2 f2) hlz (fun ys p vs' H' c' q hp ch2 S2 ep fp => ?_)
  exact ⟨n, a', b', H1, rfl, n5, hsz, la, lb, hli, fun D1 hD1 => body D1 hD1⟩
  intro q3 dx hq hdx hne
  have less : ∀ a, Av O pp ρ a → Av (Ox O p) pp ρ a := fun a h => by
    rcases h with h | h | h
    · exact .inl (.inl h)
    · exact .inr (.inl h)
    · exact .inr (.inr h)
  have S3 : Sat PK O pp ρ c' _ H' := S2.lessO
  have r3 : (eL en).r (Av O pp ρ) H' (.ref p) ys := ⟨p, vs', rfl, ⟨fun z => S1.av p z hp, ep⟩, fp.imp fun _ _ => en.mono (Mv.less less)⟩
  have sm : ∀ b o, H' b = some o → upd (upd H' dx (.own q3)) q3 (.ins C dx []) b = some o := fun b o eb => by
    rw [upd_ne (ne_of_none eb hq), upd_ne (ne_of_none eb hdx)]; exact eb
  have nq : ¬ Av O pp ρ q3 := fun z => S3.av q3 z hq
  refine ⟨pp, Av O pp ρ, q3, dx, [V.ref p], (ys, ()), _, c', rfl, upd_same, fun b hb => ?_, nq, fun b h => .inr (.inl h), ?_, ?_, q, fun z H4 c4 p4 keep pl rz => ⟨rfl, ?_⟩⟩
  · intro z
    have := S3.av b hb
    cases e1 : H' b with
    | none => exact this e1
    | some o => rw [sm b o e1] at z; cases z
  · exact (S3.same sm).pool
  · exact (aC (eL en) aN).mono (fun b o n eb => ⟨sm b o eb, fun z => by
      rcases z with z | z
      · exact n z
      · rw [z, hq] at eb; cases eb⟩) (show (aC (eL en) aN).r pp (Av O pp ρ) H' [V.ref p] (ys, ()) from ⟨_, _, rfl, r3, rfl⟩)
  · have ch4 : Chg pp H' H4 := fun b o eb nf => keep b o (sm b o eb) nf (ne_of_none eb hq)
    have ch5 := (ch.trans ch2).trans ch4
    exact kD (.rt z) H4 c4 p4 (V.ref q3) (fun a o e n _ => ch5 a o e n) pl ((eIns C ns t).mono (Mv.less fun a h => by
      rcases h with h | h
      · exact .inl h
      · exact .inr (.inl h)) rz)
end
end Dc
/-! DcX: an object that keeps a list of its own, made, and put to by a method, row by row. -/
namespace Dc
open PySem PySem.Spec L2 PyProof.Rows
/-! ### bodies whose return does something more -/
def Tau := (V → Hp → Prop) → V → Hp → Prop
def tt (τ : Tau) (D : Ends) : Ends := { D with rt := τ D.rt }
section
variable {X : Cx} {PK : PoolK} {pp : PP} {ρ : List (Sl X.K)} {α β γ δ ι : Type} {τ : Tau}
abbrev PST (X : Cx) (τ : Tau) (PK : PoolK) (pp : PP) (ρ : List (Sl X.K)) (ss : List Stmt) (w : W (Fl γ δ β)) (ρ' : γ → List (Sl X.K)) (ρl : δ → List (Sl X.K)) (er : En X.K β) : Prop := PSs X ss (fun D => rdS PK pp ρ w ρ' ρl er (tt τ D))
variable {st : Stmt} {rest : List Stmt} {e : Expr} {pos : Pos} {ρ' : γ → List (Sl X.K)} {ρl : δ → List (Sl X.K)} {er : En X.K β}
theorem reT {ss : List Stmt} {w : W (Fl γ δ β)} (ρ1 : List (Sl X.K)) (h : ρ = ρ1) (k : PST X τ PK pp ρ1 ss w ρ' ρl er) : PST X τ PK pp ρ ss w ρ' ρl er := by
  rw [h]; exact k
theorem snilT {s : γ} (f : Fit ρ (ρ' s)) : PST X τ PK pp ρ [] (ret (.nx s)) ρ' ρl er := (pss_nil).weak fun D σ H ⟨O, Φ, c, S, hw, k⟩ => k _ H c hw σ f.stp (S.fit f)
theorem sxT {γ1 : Type} {w : W γ1} {ρ1 : ι → γ1 → List (Sl X.K)} {kk : γ1 → W (Fl γ δ β)} (h : PS X st (rdN PK pp ρ w ρ1)) (h2 : ∀ i s, PST X τ PK pp (ρ1 i s) rest (kk s) ρ' ρl er) : PST X τ PK pp ρ (st :: rest) (bnd w kk) ρ' ρl er :=
  (pss_cons h (PSs.ex fun p : ι × γ1 => h2 p.1 p.2)).weak fun D σ H ⟨O, Φ, c, S, hw, k⟩ => ⟨O, _, c, S, hw, fun i s H' c' p σ' t S' => ⟨(i, s), O, Φ, c', S', p, fun fl H2 c2 q => (k fl H2 c2 q).mono t⟩⟩
theorem sq_T {γ1 : Type} {w : W (Fl γ1 δ β)} {ρ1 : γ1 → List (Sl X.K)} {kk : γ1 → W (Fl γ δ β)} (h : PS X st (fun D => rdS PK pp ρ w ρ1 ρl er (tt τ D))) (h2 : ∀ s, PST X τ PK pp (ρ1 s) rest (kk s) ρ' ρl er) : PST X τ PK pp ρ (st :: rest) (bnd w (sq kk)) ρ' ρl er :=
  (pss_cons h (PSs.ex fun s : γ1 => h2 s)).weak fun D σ H ⟨O, Φ, c, S, hw, k⟩ => ⟨O, _, c, S, hw, fun fl H' c' p => by
    cases fl with
    | nx s => exact fun σ' t S' => ⟨s, O, Φ, c', S', p, fun fl H2 c2 q => (k fl H2 c2 q).mono t⟩
    | bk s => exact k (.bk s) H' c' p
    | ct s => exact k (.ct s) H' c' p
    | rt r => exact k (.rt r) H' c' p⟩
theorem nif0T {c : Expr} {a : List Stmt} {w : W Bool} {u : W (Fl Unit δ β)} (hc : PTX X PK pp ρ c w) (ha : PST X τ PK pp ρ a u (fun _ : Unit => ρ) ρl er) :
    PS X (.If c a [] pos) (fun D => rdS PK pp ρ (bnd w fun x => ite x u (ret (Fl.nx ()))) (fun _ : Unit => ρ) ρl er (tt τ D)) :=
  (ps_if hc ha (snilT (τ := τ) (er := er) (ρl := ρl) (ρ' := fun _ : Unit => ρ) (s := ()) Fit.refl)).weak fun D σ H ⟨O, Φ, c, S, hw, k⟩ => ⟨O, _, c, S, hw, fun x H' c' p ch S' => by
    have st : Stp pp ρ ρ H H' := .of_chg ch fun _ z => z
    cases x with
    | true => exact ⟨O, Φ, c', S', p, fun fl H2 c2 q => (k fl H2 c2 q).mono st⟩
    | false => exact ⟨O, Φ, c', S', by simpa [ite] using p, fun fl H2 c2 q => (k fl H2 c2 q).mono st⟩⟩
theorem nforT (F : List (Sl X.K) → γ → List (Sl X.K)) {iter tg : Expr} {body : List Stmt} {wi : W (List α)} {ext : List (Sl X.K) → α → List (Sl X.K)} {js : List Nat} {g : TG} {f : γ → α → W (Fl γ γ β)} {s0 : γ}
    (hp : PassesOwn (model X.prog X.w) X.A X.env X.xe) (hc : X.calm = true) (hi : PI X tg iter (rdI PK pp ρ wi ext js g)) (hg : PG X tg g) (hf : Fit ρ (F ρ s0)) (hb : ∀ s x, PST X τ PK pp (ext (F ρ s) x) body (f s x) (F ρ) (F ρ) er)
    (hs : ∀ x, foldedSetIterable iter X.env x = pure x := by intro _; rfl) : PS X (.For tg iter body [] pos) (fun D => rdS PK pp ρ (bnd wi fun xs => forW f s0 xs) (F ρ) ρl er (tt τ D)) :=
  (ps_for hp hc hi hg (PSs.ex fun z : γ × α => hb z.1 z.2) hs).weak fun D σ H ⟨O, Φ, c, S, hw, k⟩ => ⟨O, _, c, S, hw, fun xs J H1 c1 p1 ch S1 src hz => by
    have st0 : Stp pp ρ (F ρ s0) H H1 := (Stp.of_chg ch fun _ z => z).trans hf.stp
    refine ⟨fun i m σ' H' => m = xs.length - i ∧ i ≤ xs.length ∧ ∃ s c', Stp pp ρ (F ρ s) H1 H' ∧ Sat PK O pp (F ρ s) c' σ' H' ∧ forW f s (xs.drop i) Φ noX c', ⟨xs.length, by simp, Nat.zero_le _, s0, c1, hf.stp, S1.fit hf, p1⟩, ?_⟩
    rintro i m σ' H' ⟨rfl, hi, s, c', st, S', hw'⟩
    have ch1 : Stp pp ρ ρ H H1 := Stp.of_chg ch fun _ z => z
    by_cases hlt : i < xs.length
    · refine .inr ⟨src.go i H' _ hlt (st.mv (O := O)), fun σ3 H3 => ∃ s c', Stp pp ρ (F ρ s) H1 H3 ∧ Sat PK O pp (F ρ s) c' σ3 H3 ∧ forW f s (xs.drop (i + 1)) Φ noX c', fun σ3 H3 q => ⟨xs.length - (i + 1), by omega, rfl, hlt, q⟩, fun v H2 y => ?_⟩
      obtain ⟨us, H3, _, sm, S3, hQ⟩ := src.yld i xs[i] H' v H2 pp (F ρ s) O c' σ' (List.getElem?_eq_getElem hlt) st.mv S' y
      refine hQ _ ?_
      rw [List.drop_eq_getElem_cons hlt] at hw'
      have st3 : Stp pp (F ρ s) (ext (F ρ s) xs[i]) H' H3 := .of_chg (.of sm) (src.eown _ _)
      refine ⟨(s, xs[i]), O, _, c', S3, hw', fun fl H4 c4 q => ?_⟩
      cases fl with
      | nx s' => exact fun σ4 t S4 => ⟨s', c4, (st.trans st3).trans t, S4, q⟩
      | ct s' => exact fun σ4 t S4 => ⟨s', c4, (st.trans st3).trans t, S4, q⟩
      | bk s' => exact fun σ4 t S4 => k (.nx s') H4 c4 q σ4 (((ch1.trans st).trans st3).trans t) S4
      | rt r => exact ((k (.rt r) H4 c4 q).mono ((ch1.trans st).trans st3))
    · have e : i = xs.length := by omega
      subst e
      rw [List.drop_length] at hw'
      exact .inl ⟨src.stop H' _ (st.mv (O := O)), k (.nx s) H' c' hw' σ' (ch1.trans st) S'⟩⟩
/-! ### an object at a, with the list at l -/
def eBas {K : PySem.W.Frag} (C a l : Addr) (f : Str) (en : En K α) : En K (List α) := ⟨fun O H v xs => v = .ref a ∧ ∃ dx vs, ¬ O a ∧ H a = some (.ins C dx [(f, .ref l)]) ∧ ¬ O l ∧ H l = some (.lst vs) ∧ F2 (en.r O H) vs xs,
  fun m ⟨e, dx, vs, n, h, n2, h2, q⟩ => ⟨e, dx, vs, (m a _ n h).2, (m a _ n h).1, (m l _ n2 h2).2, (m l _ n2 h2).1, q.imp fun _ _ => en.mono m⟩⟩
theorem bas_ins {C a l : Addr} {f : Str} {en : En X.K α} {O : AS} {H : Hp} {v : V} {xs : List α} (h : (eBas C a l f en).r O H v xs) : (eIns C [f] (fC f (eL en) fN)).r O H v (xs, ()) := by
  obtain ⟨e, dx, vs, n, h, n2, h2, q⟩ := h
  exact ⟨a, dx, _, e, n, h, rfl, ⟨.ref l, by simp [List.lookup], l, vs, rfl, ⟨n2, h2⟩, q⟩, True.intro⟩
/-- read as any object of its class -/
theorem xbas {C a l : Addr} {f : Str} {en : En X.K α} {w : W (List α)} (h : PX X PK pp ρ e w (eBas C a l f en)) : PX X PK pp ρ e (bnd w fun xs => ret (xs, ())) (eIns C [f] (fC f (eL en) fN)) :=
  h.weak fun σ H Q ⟨O, Φ, c, S, hw, k⟩ => ⟨O, _, c, S, hw, fun x v H' c' p ch S' r => k _ v H' c' p ch S' (bas_ins r)⟩
/-- what put's return stands for: None: False; a line: it is kept, and True -/
def tauP (l : Addr) : Tau := fun rt v H' => (v = .non ∧ rt (.bl false) H') ∨ (v ≠ .non ∧ ∀ lv, H' l = some (.lst lv) → rt (.bl true) (upd H' l (.lst (lv ++ [v]))))
/-- return False -/
theorem sfalT {l : Addr} {pos' : Pos} {j} {en : En X.K α} {ρ' : γ → List (Sl X.K)} {ρl : δ → List (Sl X.K)} : PST X (tauP l) PK pp ρ (.Return (some (.Constant (.bool false) j pos')) pos :: rest) (ret (.rt (none : Option α))) ρ' ρl (eO en) :=
  (pss_cons (ps_ret pe_bl) pss_never).weak fun D σ H ⟨O, Φ, c, S, hw, k⟩ => by
    rcases k (.rt none) H c hw .non (fun a o e _ _ => e) S.pool rfl with q | q
    · exact q.2
    · exact absurd rfl q.1
/-- self.f.append(e); return True -/
theorem sappT (i : Nat) {C a l : Addr} {f x : Str} {p' fpos apos cpos pos pos2 pos3 : Pos} {j} {xe : Expr} {en : En X.K α} {ls : List α} {w : W α} {ρ' : γ → List (Sl X.K)} {ρl : δ → List (Sl X.K)} (hc : Cls X.K C) (hnA : NoAttr X.K C f) (hg : get ρ i = .sh (eBas C a l f en) ls) (hen : ∀ O H v y, en.r O H v y → v ≠ .non) (h : PX X PK pp ρ xe w en) (hN : X.N[i]? = some x := by rfl)
    (hv : Vis X.env.scope x := by first | exact Or.inl rfl | exact Or.inr (Or.inl rfl) | exact Or.inr (Or.inr rfl)) (hd : (x == ("__debug__" : Str)) = false := by decide) (hcd : (x == ("__classdict__" : Str)) = false := by decide)
    (hab : attributeBase (.Name x p') f X.env (eval (.Name x p') X.env) = eval (.Name x p') X.env := by rfl)
    (hbase : attributeBase (.Attribute (.Name x p') f fpos) "append" X.env (eval (.Attribute (.Name x p') f fpos) X.env) = eval (.Attribute (.Name x p') f fpos) X.env := by rfl)
    (hfew : ((backTo cpos (starEach [xe] X.env)).all (fun x => !x.1) && (backToKw cpos (keywordEach [] X.env)).all (fun x => x.1.isSome) && decide ([xe].length + ([] : List Keyword).length + (if ([] : List Keyword).isEmpty then 0 else 1) < 30)) = true := by rfl)
    (hline : (apos.endLine == cpos.line) = true := by rfl) (hs : starEach [xe] X.env = (false, eval xe X.env) :: starEach [] X.env := by rfl) (hplain : (backTo cpos (starEach [] X.env)).any (·.1) = false := by rfl)
    (hsw : swapsWith (.Call (.Attribute (.Attribute (.Name x p') f fpos) "append" apos) [xe] [] cpos) none pos.line X.env = pure false := by rfl) :
    PST X (tauP l) PK pp ρ (.Expr (.Call (.Attribute (.Attribute (.Name x p') f fpos) "append" apos) [xe] [] cpos) pos :: .Return (some (.Constant (.bool true) j pos3)) pos2 :: rest) (bnd w fun y => grd (decide (ls.length < 16777216)) (ret (.rt (some y)))) ρ' ρl (eO en) :=
  (pss_cons (ps_expr (pe_bm PySem.F.plainAttrs_list PySem.F.slot_list_append PySem.F.type_list_append mt_append (pe_fld (pe_var hN hv hd hcd) hab) (pa_cons h pa_nil hs) hbase hfew hline hs hplain) hsw) (pss_cons (ps_ret pe_bl) pss_never)).weak fun D σ H ⟨O, Φ, c, S, hw, k⟩ => by
    have q := S.slots i
    rw [hg] at q
    obtain ⟨v0, e1, e0, dx, vs, n1, h1, n2, h2, f2⟩ := q
    subst e0
    refine ⟨_, e1, a, C, dx, _, .ref l, rfl, h1, hc, hnA, by simp [List.lookup], .inl ⟨rfl, _, SqL.of h2⟩, O, _, c, S, hw, fun y v H1 c1 p1 ch S1 r => ?_⟩
    have q := S1.slots i
    rw [hg] at q
    obtain ⟨v1, e1, e0, dx1, vs1, n1, h1, n2, h2, f2⟩ := q
    refine ⟨l, vs1, v, rfl, rfl, h2, by rw [f2.length, sizeLine_eq]; exact of_decide_eq_true p1.1, ?_⟩
    have less : ∀ a, (O a ∨ foot pp a) → Av O pp ρ a := fun a h => by
      rcases h with h | h
      · exact .inl h
      · exact .inr (.inl h)
    have r2 := hen _ _ _ _ r
    rcases k (.rt (some y)) H1 c1 p1.2 v (fun a o e n _ => ch a o e n) S1.pool ⟨en.mono (Mv.less less) r, r2⟩ with q | q
    · exact absurd q.1 r2
    · exact q.2 vs1 h2
end
section
variable {P : Program} {w : World} {K : PySem.W.Frag} {mg : Str → Option Value} {base : Heap} {PK : PoolK} {α β γ : Type}
/-- what put does: self (at a, its list at l, holding ls) and the rest x -/
def spPut (PK : PoolK) (C : Addr) (f : Str) (en : En K β) (ea : EA K α) (fw : List β × α → W (Option β)) : Sp := fun vs H Q _ => ∃ pp O a l dx lv rest ls x Φ c, vs = .ref a :: rest ∧ Dom O H ∧ (∀ b, foot pp b → O b) ∧ PoolOk PK pp H c ∧ ¬ O a ∧ H a = some (.ins C dx [(f, .ref l)]) ∧ ¬ O l ∧ H l = some (.lst lv) ∧ F2 (en.r O H) lv ls ∧ ea.r pp O H rest x ∧ fw (ls, x) Φ noX c ∧
  ∀ r H' c', Φ r c' → Chg pp H H' → PoolOk PK pp H' c' → match r with
    | none => Q (.bl false) H'
    | some y => ∀ v lv', en.r O H' v y → H' l = some (.lst lv') → Q (.bl true) (upd H' l (.lst (lv' ++ [v])))
end
section
variable {P : Program} {w : World} {K : PySem.W.Frag} {mg : Str → Option Value} {base : Heap} {PK : PoolK} {α β γ : Type}
theorem fn_P {x qual : Str} {st : Stmt} {g C : Addr} {f : Str} {fd : FuncData} {N ps : List Str} {k : Nat} {ea : EA K α} {en : En K β} {wb : List β × α → W (Fl Empty Empty (Option β))} {ρ' : Empty → List (Sl K)} (F : Fun K x qual st g fd) (S : FnScope N ps (defScope st)) (hl : ea.len + 1 = ps.length) (hN : ea.len + 1 ≤ N.length)
    (hbody : ∀ (cdv : Value) (A : Around) (outer : List Env) (s : Shared) (H : Hp) (E : XK) (pp : PP) (a l : Addr) (x : List β × α), Room k (A.deeper (envOfC qual (defScope st) s.heap.objs.size g cdv)) →
      PST (cxOf CX0 P w K mg base N qual (defScope st) g cdv A outer s H E).nox (tauP l) PK pp ((aC (eBas C a l f en) ea).ents x ++ List.replicate (N.length - (ea.len + 1)) .nil) (defBody st) (wb x) ρ' (fun z : Empty => nomatch z) (eO en)) :
    FnOk P w K mg base CX0 (k + 1) g fd ps (spPut PK C f en ea (fun x => fnR (wb x))) := by
  refine F.ok S (fun vs H Q E h => ?_) (fun cdv A outer s H vs Q E hr h => ?_)
  · obtain ⟨pp, O, a, l, dx, lv, rest, ls, x, Φ, c, rfl, _, _, _, _, _, _, _, _, r, _⟩ := h
    rw [List.length_cons, ea.hlen r, hl]
  · obtain ⟨pp, O, a, l, dx, lv, rest, ls, x, Φ, c, rfl, hd, hf, hp, na, ha, nl, hl', f2, r, hw, q⟩ := h
    refine ⟨_, hbody cdv A outer s H E pp a l (ls, x) hr, O, _, c, sat_start (ea := aC (eBas C a l f en) ea) (x := (ls, x)) hd hf hp ⟨_, _, rfl, ⟨rfl, dx, lv, na, ha, nl, hl', f2⟩, r⟩ hN, hw, fun fl H' c' p => ?_⟩
    cases fl with
    | rt o =>
      intro v ch pl rv
      have ch' : Chg pp H H' := fun a o e n => ch a o e n (own0 (ea := aC (eBas C a l f en) ea))
      have z := q o H' c' p ch' pl
      cases o with
      | none =>
        have rv : v = .non := rv
        exact .inl ⟨rv, z⟩
      | some y =>
        have rv : en.r _ H' v y ∧ v ≠ .non := rv
        exact .inr ⟨rv.2, fun lv' e => z v lv' (en.mono (Mv.less fun a h => .inl h) rv.1) e⟩
    | nx z => exact nomatch z
    | bk z => exact nomatch z
    | ct z => exact nomatch z
end
end Dc
/-! DcY: b = B(); x = [b.put(r) for r in rows]. -/
namespace Dc
open PySem PySem.Spec L2 PyProof.Rows
section
variable {P : Program} {w : World} {K : PySem.W.Frag} {mg : Str → Option Value} {base : Heap} {PK : PoolK} {α β γ : Type}
/-- __init__: the object gets a new list -/
def spB0 (C : Addr) (f : Str) : Sp := fun vs H Q _ => ∃ a dx, vs = [.ref a] ∧ H a = some (.ins C dx []) ∧ ∀ l, H l = none → Q .non (upd (upd H l (.lst [])) a (.ins C dx [(f, .ref l)]))
theorem fn_B0 {x qual : Str} {st : Stmt} {g C : Addr} {f y : Str} {fd : FuncData} {N : List Str} {p1 p2 p3 p4 : Pos} (F : Fun K x qual st g fd) (S : FnScope N [y] (defScope st)) (hc : Cls K C) (hn : NoAttr K C f) (hN0 : N[0]? = some y)
    (hb : defBody st = [.Assign [.Attribute (.Name y p1) f p2] (.List [] p3) p4])
    (hv : ∀ cdv A outer s H E, Vis (cxOf CX0 P w K mg base N qual (defScope st) g cdv A outer s H E).nox.env.scope y)
    (hs : ∀ cdv A outer s H E, swapsWith (.List [] p3) (some (.Attribute (.Name y p1) f p2)) p4.line (cxOf CX0 P w K mg base N qual (defScope st) g cdv A outer s H E).nox.env = pure false) (hd : (y == ("__debug__" : Str)) = false := by decide) (hcd : (y == ("__classdict__" : Str)) = false := by decide) (k : Nat) :
    FnOk P w K mg base CX0 (k + 1) g fd [y] (spB0 C f) := by
  refine F.ok S (fun vs H Q E h => ?_) (fun cdv A outer s H vs Q E hr h => ?_)
  · obtain ⟨a, dx, rfl, _⟩ := h
    rfl
  · obtain ⟨a, dx, rfl, ha, q⟩ := h
    rw [hb]
    refine ⟨_, pss_cons (ps_fld (pe_var (i := 0) hN0 (hv cdv A outer s H E) hd hcd) (pe_lst pa_nil) (hs cdv A outer s H E)) pss_nil, ?_⟩
    refine ⟨by show 0 ≤ sizeLine; decide, fun l hl => ?_⟩
    have ne : a ≠ l := ne_of_none ha hl
    refine ⟨.ref a, ?_, a, C, dx, [], rfl, by rw [upd_ne ne]; exact ha, hc, hn, by show 0 < 1000; decide, q l hl⟩
    have hl0 : 0 < N.length := by
      rcases Nat.eq_zero_or_pos N.length with z | z
      · rw [List.length_eq_zero_iff.mp z] at hN0; cases hN0
      · exact z
    show (([V.ref a].map some) ++ List.replicate (N.length - 1) none)[0]? = _
    rfl
def putsW (gd : β → Bool) (fw : List β × α × Unit → W (Option β)) : List β → List α → W (List β × List Bool)
  | ls, [] => ret (ls, [])
  | ls, x :: r => bnd (fw (ls, x, ())) fun o => grd (o.all gd) (bnd (putsW gd fw (ls ++ o.toList) r) fun z => ret (z.1, o.isSome :: z.2))
end
section
variable {X : Cx} {PK : PoolK} {pp : PP} {ρ : List (Sl X.K)} {α β γ δ ι : Type}
variable {rest : List Stmt} {ρ' : γ → List (Sl X.K)} {ρl : δ → List (Sl X.K)} {er : En X.K ι}
theorem sbas (i j jr : Nat) {C g0 : Addr} {f m x y r cn : Str} {p0 p1 p2 p3 p4 p8 p9 tp : Pos} {elt iter : Expr} {scope : Scope} {k0 : Nat} {fd0 : FuncData} {ps0 : List Str} {wi : W (List α)} {en : En X.K β} {ea : En X.K α} {gd : β → Bool} {fw : List β × α × Unit → W (Option β)} {kk : List β × List Bool → W (Fl γ δ ι)}
    (hc : X.calm = true) (hN : X.N.Nodup) (hni : get ρ i = .nil) (hnj : get ρ j = .nil) (hnr : get ρ jr = .nil) (hij : j ≠ i) (hir : i ≠ jr)
    (M : Mk X.K C g0) (F0 : FnOk X.prog X.w X.K X.mg X.base CX0 k0 g0 fd0 ps0 (spB0 C f)) (hr0 : Room (k0 + 1) X.A) (hmC : X.mg cn = some (.ref C)) (hb0 : Binds X.K fd0 ps0 [])
    (hi : PI X (.Name r tp) iter (rdI PK pp ρ wi (fun ρ x => put ρ jr (.sh ea x)) [jr] (gName jr))) (ok : BlkOk X.N X.env.scope scope [(r, jr)])
    (hgt : ∀ (s : Shared) (H : Hp) (C : Addr) (cl : List (Str × Addr)) (fp : List Addr), PG (X.blk s H scope (compEnvC scope cl C X.env) fp) (.Name r tp) (gName jr))
    (he : ∀ (s : Shared) (H : Hp) (C' : Addr) (cl : List (Str × Addr)) (fp : List Addr), PE (X.blk s H scope (compEnvC scope cl C' X.env) fp) elt (tMeth C m (spPut PK C f en (aC ea aN) fw) [] E0 (tVar i) (tCons (tVar jr) tNil)))
    (hm : (f == m) = false) (hmf : (m == f) = false)
    (hgr : ∀ x, get (put ρ jr (.sh ea x)) jr = .sh ea x) (ho : ∀ x : α, owns (put ρ jr (.sh ea x)) = owns ρ)
    (hap : ∀ (O : AS) (H : Hp) (v : V) (y : β) (l : Addr) (lv : List V), en.r O H v y → gd y = true → H l = some (.lst lv) → (∀ u ∈ lv, ∃ t, u = V.ref t) → en.r (fun b => O b ∨ b = l) H v y) (hrf : ∀ (O : AS) (H : Hp) (v : V) (y : β), en.r O H v y → ∃ t, v = V.ref t)
    (hs2 : swapsWith (.ListComp elt [⟨.Name r tp, iter, [], 0⟩] scope p8) (some (.Name y p4)) p9.line X.env = pure true)
    (h2 : ∀ z : List β × List Bool, PSX X PK pp (put (put ρ i (.sh (eIns C [f] (fC f (eL en) fN)) (z.1, ()))) j (.sh (eL eB) z.2)) rest (kk z) ρ' ρl er)
    (hlr : Nat.blt i ρ.length = true := by rfl) (hxi : X.N[i]? = some x := by rfl) (hxj : X.N[j]? = some y := by rfl)
    (hx : Loc X.env.scope x := by first | exact Or.inl rfl | exact Or.inr rfl)
    (hf : X.fn x = true ∨ X.env.scope.names.lookup x = some .local := by first | exact .inl rfl | exact .inr rfl)
    (hgC : Gl X cn := by rfl) (hdb : (cn == ("__debug__" : Str)) = false := by decide)
    (hs : swapsWith (.Call (.Name cn p1) [] [] p2) (some (.Name x p0)) p3.line X.env = pure false := by rfl)
    (hyl : X.env.scope.names.lookup y = some .local := by rfl)
    (hse : ∀ y, foldedSetIterable iter X.env y = pure y := by intro _; rfl) :
    PSX X PK pp ρ (.Assign [.Name x p0] (.Call (.Name cn p1) [] [] p2) p3 :: .Assign [.Name y p4] (.ListComp elt [⟨.Name r tp, iter, [], 0⟩] scope p8) p9 :: rest) (bnd wi fun xs => bnd (putsW gd fw [] xs) kk) ρ' ρl er := by
  have mk := pe_make0 (pos := p2) (p := p1) M F0 hr0 hgC hmC hb0 .nil pass0 hdb
  have lc := ps_setLc (pos := p8) (py := p4) hc hN hxj hyl hs2 hi ok hgt (fun _ _ _ _ _ => pts_nil) he hse
  refine (pss_cons (ps_set (pos := p3) (pos' := p0) hN hxi hx mk hs hf) (pss_cons lc (PSs.ex h2))).weak fun D σ H ⟨O, Φ, c, S, hw, kD⟩ => ?_
  intro a dx ha hdx hne
  have nda : a ≠ dx := Ne.symm hne
  refine ⟨a, dx, rfl, upd_same, fun l hl => ⟨rfl, ?_⟩⟩
  have nla : l ≠ a := fun z => by rw [z, upd_same] at hl; cases hl
  have nld : l ≠ dx := fun z => by rw [z, upd_ne hne, upd_same] at hl; cases hl
  have hl0 : H l = none := by rw [upd_ne nla, upd_ne nld] at hl; exact hl
  have fa := nfoot S ha
  have fl := nfoot S hl0
  -- the state ahead of the walk
  have S0 := S.junk (v := .ref a) hni
  have Sd := S0.same (same_new (o := HO.own a) hdx)
  have ha1 : upd H dx (.own a) a = none := by rw [upd_ne nda]; exact ha
  have Sa := Sd.newO (o := .ins C dx []) ha1
  have Sl1 := Sa.newO (o := .lst []) hl
  have S2 := Sl1.updO (o := .ins C dx [(f, .ref l)]) (.inl (.inr rfl)) fa
  generalize hH2 : upd (upd (upd (upd H dx (.own a)) a (.ins C dx [])) l (.lst [])) a (.ins C dx [(f, .ref l)]) = H2 at S2
  have e2a : H2 a = some (.ins C dx [(f, .ref l)]) := by rw [← hH2, upd_same]
  have e2l : H2 l = some (.lst []) := by rw [← hH2, upd_ne nla, upd_same]
  have e2 : ∀ b o, H b = some o → H2 b = some o := fun b o e => by
    have n1 : b ≠ a := ne_of_none e ha
    have n2 : b ≠ l := ne_of_none e hl0
    have n3 : b ≠ dx := ne_of_none e hdx
    rw [← hH2, upd_ne n1, upd_ne n2, upd_ne n1, upd_ne n3]; exact e
  have hσ : (σ.set i (some (.ref a)))[i]? = some (some (.ref a)) := List.getElem?_set_self (by rw [S.len]; exact Nat.blt_eq ▸ hlr)
  generalize hs0 : σ.set i (some (V.ref a)) = σ2 at S2 hσ
  show gName i (.ref a) σ H2 _
  show rdI PK pp ρ wi _ _ _ (σ.set i (some (.ref a))) H2 _
  rw [hs0]
  refine ⟨Ox (Ox O a) l, _, c, S2, hw, fun xs J H1 c1 p1 ch1 S1 src hz Dd hD => ?_⟩
  have e1a := ch1 a _ e2a fa
  have e1l := ch1 l _ e2l fl
  have nDa : a ≠ Dd := ne_of_none e1a hD
  have nDl : l ≠ Dd := ne_of_none e1l hD
  have fD := nfoot S1 hD
  have nAD : ¬ Av O pp ρ Dd := fun h => S1.av Dd (by
    rcases h with h | h | h
    · exact .inl (.inl (.inl h))
    · exact .inr (.inl h)
    · exact .inr (.inr h)) hD
  have nAa : ¬ Av O pp ρ a := fun h => S.av a h ha
  have nAl : ¬ Av O pp ρ l := fun h => S.av l h hl0
  have refs : ∀ {A : AS} {H' : Hp} {lv : List V} {ls : List β}, F2 (en.r A H') lv ls → ∀ u ∈ lv, ∃ t, u = V.ref t := fun {A H' lv ls} q => by
    induction q with
    | nil => intro u hu; cases hu
    | cons q1 _ ih =>
      intro u hu
      rcases List.mem_cons.mp hu with z | z
      · rw [z]; exact hrf _ _ _ _ q1
      · exact ih u z
  refine ⟨fun n m H' => m = xs.length - n ∧ n ≤ xs.length ∧ ∃ acc ls lv c', H' Dd = some (.lst (acc.map V.bl)) ∧ acc.length ≤ n ∧ H' a = some (.ins C dx [(f, .ref l)]) ∧ H' l = some (.lst lv) ∧ F2 (en.r (fun b => Av (Ox O Dd) pp ρ b ∨ b = l) H') lv ls ∧ (∀ b o, H1 b = some o → ¬ foot pp b → b ≠ l → H' b = some o) ∧ Sat PK (Ox (Ox (Ox O a) l) Dd) pp ρ c' σ2 H' ∧ putsW gd fw ls (xs.drop n) (fun z c => kk (z.1, acc ++ z.2) Φ noX c) noX c',
    ⟨xs.length, by simp, Nat.zero_le _, [], [], [], c1, upd_same, Nat.zero_le _, by rw [upd_ne nDa]; exact e1a, by rw [upd_ne nDl]; exact e1l, .nil, fun b o e _ _ => by rw [upd_ne (ne_of_none e hD)]; exact e, S1.newO hD, p1⟩, ?_⟩
  rintro n m H' ⟨rfl, hn, acc, ls, lv, c', eD, lD, ea', el', fL, kp, S', hw'⟩
  have mv : Mv (Av (Ox (Ox O a) l) pp ρ) (Av (Ox (Ox (Ox O a) l) Dd) pp ρ) H1 H' := fun b o nb e => by
    refine ⟨kp b o e (fun z => nb (.inr (.inl z))) fun z => nb (.inl (.inr z)), fun z => ?_⟩
    rcases z with z | z | z
    · rcases z with z | z
      · exact nb (.inl z)
      · exact ne_of_none e hD z
    · exact nb (.inr (.inl z))
    · exact nb (.inr (.inr z))
  by_cases hlt : n < xs.length
  · obtain ⟨NX, hNX⟩ : ∃ NX : Hp → Prop, NX = fun H3 => ∃ acc ls lv c', H3 Dd = some (.lst (acc.map V.bl)) ∧ acc.length ≤ n + 1 ∧ H3 a = some (.ins C dx [(f, .ref l)]) ∧ H3 l = some (.lst lv) ∧ F2 (en.r (fun b => Av (Ox O Dd) pp ρ b ∨ b = l) H3) lv ls ∧ (∀ b o, H1 b = some o → ¬ foot pp b → b ≠ l → H3 b = some o) ∧ Sat PK (Ox (Ox (Ox O a) l) Dd) pp ρ c' σ2 H3 ∧ putsW gd fw ls (xs.drop (n + 1)) (fun z c => kk (z.1, acc ++ z.2) Φ noX c) noX c' := ⟨_, rfl⟩
    refine .inr ⟨src.go n H' _ hlt mv, NX, fun H3 q => ⟨xs.length - (n + 1), by omega, rfl, hlt, by rw [hNX] at q; exact q⟩, fun v H2' yy => ?_⟩
    have hnw : ∀ q ∈ [jr], get ρ q = .nil := nil1 hnr
    obtain ⟨us, H3, eus, sm, S3, hQ⟩ := src.yld n xs[n] H' v H2' pp ρ (Ox (Ox (Ox O a) l) Dd) c' (wipe σ2 [jr]) (List.getElem?_eq_getElem hlt) mv (S'.wipe hnw) yy
    have hin : ∀ u ∈ us, u.1 ∈ [jr] := fun u hu => by rw [← eus]; exact List.mem_map.mpr ⟨u, hu, rfl⟩
    refine hQ _ ⟨wipe_setAll hin, ?_⟩
    unfold tYes
    simp only [if_true]
    have e3a := sm _ _ ea'
    have e3l := sm _ _ el'
    have e3D := sm _ _ eD
    have hσ3 : (setAll (wipe σ2 [jr]) us)[i]? = some (some (.ref a)) := by
      rw [(setAll_get hin).2 i (by simpa using hir), wipe_get, if_neg (by simpa using hir)]
      exact hσ
    have q3 := S3.slots jr
    rw [hgr] at q3
    obtain ⟨v3, hv3, r3⟩ := q3
    rw [List.drop_eq_getElem_cons hlt] at hw'
    have less1 : ∀ b, Av (Ox O Dd) pp ρ b → Av (Ox (Ox (Ox O a) l) Dd) pp (put ρ jr (.sh ea xs[n])) b := fun b h => by
      rcases h with h | h | h
      · rcases h with h | h
        · exact .inl (.inl (.inl (.inl h)))
        · exact .inl (.inr h)
      · exact .inr (.inl h)
      · exact .inr (.inr (by rw [ho]; exact h))
    have nOa : ¬ Av (Ox O Dd) pp ρ a := fun h => by
      rcases h with h | h | h
      · rcases h with h | h
        · exact nAa (.inl h)
        · exact nDa h
      · exact fa h
      · exact nAa (.inr (.inr h))
    have nOl : ¬ Av (Ox O Dd) pp ρ l := fun h => by
      rcases h with h | h | h
      · rcases h with h | h
        · exact nAl (.inl h)
        · exact nDl h
      · exact fl h
      · exact nAl (.inr (.inr h))
    have f3 : F2 (en.r (Av (Ox O Dd) pp ρ) H3) lv ls := fL.imp fun _ _ => en.mono fun b o nb e => ⟨sm b o e, fun z => nb (.inl z)⟩
    refine ⟨.ref a, hσ3, a, dx, [(f, .ref l)], rfl, e3a, by simp only [List.lookup, hmf], v3, hv3, ?_⟩
    show spPut PK C f en (aC ea aN) fw [.ref a, v3] H3 (fun y H4 => ∃ acc0, H4 Dd = some (.lst acc0) ∧ acc0.length < sizeLine ∧ NX (upd H4 Dd (.lst (acc0 ++ [y])))) E0
    refine ⟨pp, Av (Ox O Dd) pp ρ, a, l, dx, lv, [v3], ls, (xs[n], ()), _, c', rfl, fun b hb => S3.av b (less1 b hb), fun b h => .inr (.inl h), S3.pool, nOa, e3a, nOl, e3l, f3, ⟨v3, [], rfl, ea.mono (Mv.less less1) r3, rfl⟩, hw', fun o H4 c4 p4 ch4 pl4 => ?_⟩
    have e4a := ch4 a _ e3a fa
    have e4l := ch4 l _ e3l fl
    have e4D := ch4 Dd _ e3D fD
    have S4 := (S'.same sm).chg ch4 pl4
    have len : acc.length < sizeLine := Nat.lt_of_le_of_lt lD (Nat.lt_of_lt_of_le hlt hz)
    have drops : ∀ {Hn : Hp}, (∀ b, b ≠ Dd → b ≠ l → Hn b = H4 b) → Mv (fun b => Av (Ox O Dd) pp ρ b ∨ b = l) (fun b => Av (Ox O Dd) pp ρ b ∨ b = l) H4 Hn := fun {Hn} hH b o nb e => ⟨by rw [hH b (fun z => nb (.inl (.inl (.inr z)))) fun z => nb (.inr z)]; exact e, nb⟩
    have mv4 : Mv (fun b => Av (Ox O Dd) pp ρ b ∨ b = l) (fun b => Av (Ox O Dd) pp ρ b ∨ b = l) H' H4 := fun b o nb e => ⟨ch4 b o (sm b o e) fun z => nb (.inl (.inr (.inl z))), nb⟩
    have kp4 : ∀ b o, H1 b = some o → ¬ foot pp b → b ≠ l → H4 b = some o := fun b o e n1 n2 => ch4 b o (sm b o (kp b o e n1 n2)) n1
    cases o with
    | none =>
      have p5 : putsW gd fw ls (xs.drop (n + 1)) (fun z c => kk (z.1, acc ++ (false :: z.2)) Φ noX c) noX c4 := by
        have z : bnd (putsW gd fw ls (xs.drop (n + 1))) (fun z => ret (z.1, false :: z.2)) (fun z c => kk (z.1, acc ++ z.2) Φ noX c) noX c4 := by simpa using p4.2
        exact z
      refine ⟨acc.map V.bl, e4D, by rw [List.length_map]; exact len, by rw [hNX]; exact ⟨acc ++ [false], ls, lv, c4, by rw [upd_same, List.map_append]; rfl, by rw [List.length_append]; exact Nat.succ_le_succ lD, by rw [upd_ne nDa]; exact e4a, by rw [upd_ne nDl]; exact e4l, fL.imp fun _ _ => en.mono (mv4.trans (drops fun b n1 _ => upd_ne n1)), fun b o e n1 n2 => by rw [upd_ne (ne_of_none e hD)]; exact kp4 b o e n1 n2, S4.updO (.inr rfl) fD, by simpa [List.append_assoc] using p5⟩⟩
    | some y2 =>
      intro v4 lv' r4 e4'
      rw [e4l] at e4'
      have e5 : lv = lv' := by
        have z := Option.some.inj e4'
        exact HO.lst.inj z
      subst e5
      obtain ⟨pg, p5⟩ := p4
      have pg : gd y2 = true := by simpa using pg
      have p5 : putsW gd fw (ls ++ [y2]) (xs.drop (n + 1)) (fun z c => kk (z.1, acc ++ (true :: z.2)) Φ noX c) noX c4 := by
        have z : bnd (putsW gd fw (ls ++ [y2]) (xs.drop (n + 1))) (fun z => ret (z.1, true :: z.2)) (fun z c => kk (z.1, acc ++ z.2) Φ noX c) noX c4 := by simpa using p5
        exact z
      have r5 := hap _ _ _ _ l lv r4 pg e4l (refs f3)
      have hH : ∀ b, b ≠ Dd → b ≠ l → upd (upd H4 l (.lst (lv ++ [v4]))) Dd (.lst (acc.map V.bl ++ [V.bl true])) b = H4 b := fun b n1 n2 => by rw [upd_ne n1, upd_ne n2]
      refine ⟨acc.map V.bl, by rw [upd_ne (Ne.symm nDl)]; exact e4D, by rw [List.length_map]; exact len, by rw [hNX]; exact ⟨acc ++ [true], ls ++ [y2], lv ++ [v4], c4, by rw [upd_same, List.map_append]; rfl, by rw [List.length_append]; exact Nat.succ_le_succ lD, by rw [hH a nDa (Ne.symm nla)]; exact e4a, by rw [upd_ne nDl, upd_same], ((fL.imp fun _ _ => en.mono (mv4.trans (drops hH))).append (.cons (en.mono (drops hH) r5) .nil)), fun b o e n1 n2 => by rw [hH b (ne_of_none e hD) n2]; exact kp4 b o e n1 n2, (S4.updO (.inl (.inr rfl)) fl).updO (.inr rfl) fD, by simpa [List.append_assoc] using p5⟩⟩
  · have e : n = xs.length := by omega
    subst e
    rw [List.drop_length] at hw'
    have hw2 : kk (ls, acc) Φ noX c' := by
      have z : kk (ls, acc ++ []) Φ noX c' := hw'
      rwa [List.append_nil] at z
    refine .inl ⟨src.stop H' _ mv, ?_⟩
    have S6 := S'.lessO.lessO.lessO
    have lessO : ∀ b, Av O pp ρ b → (Av (Ox O Dd) pp ρ b ∨ b = l) := fun b h => .inl (by
      rcases h with h | h | h
      · exact .inl (.inl h)
      · exact .inr (.inl h)
      · exact .inr (.inr h))
    have r1 : (eIns C [f] (fC f (eL en) fN)).r (Av O pp ρ) H' (.ref a) (ls, ()) := bas_ins (a := a) (l := l) ⟨rfl, dx, lv, nAa, ea', nAl, el', fL.imp fun _ _ => en.mono (Mv.less lessO)⟩
    have S7 := S6.put (i := i) r1
    have hset : σ2.set i (some (.ref a)) = σ2 := by rw [← hs0, List.set_set]
    rw [hset] at S7
    have fb : F2 ((eB : En X.K Bool).r (Av O pp (put ρ i (.sh (eIns C [f] (fC f (eL en) fN)) (ls, ()))) ) H') (acc.map V.bl) acc := by
      generalize acc = l0
      induction l0 with
      | nil => exact .nil
      | cons b r ih => exact .cons rfl ih
    have S8 := S7.put (i := j) (en := eL eB) (x := acc) (v := .ref Dd) ⟨Dd, _, rfl, ⟨fun z => nAD (by
      rcases z with z | z | z
      · exact .inl z
      · exact .inr (.inl z)
      · exact .inr (.inr (own_put_sh z))), eD⟩, fb⟩
    refine ⟨(ls, acc), O, Φ, c', S8, hw2, fun fl H4 c4 q => (kD fl H4 c4 q).mono ⟨fun b o e n1 _ => kp b o (ch1 b o (e2 b o e) n1) n1 (ne_of_none e hl0), fun b hb => .inl (own_put_sh (own_put_sh hb))⟩⟩
end
end Dc
/-! DcZ: three at once, None or a value, data told as whole numbers, tuples of data, pop. -/
namespace Dc
open PySem PySem.Spec L2 PyProof.Rows
section
variable {X : Cx} {PK : PoolK} {pp : PP} {ρ : List (Sl X.K)} {α β γ δ ι : Type} {e a b : Expr} {es : List Expr} {pos : Pos} {e1 : En X.K α} {e2 : En X.K β} {e3 : En X.K γ}
theorem xtup3 {w : W (α × β × γ × Unit)} {x1} (h : PAX X PK pp ρ es w (aC e1 (aC e2 (aC e3 aN)))) : PX X PK pp ρ (.Tuple es x1 pos) (bnd w fun x => ret (x.1, x.2.1, x.2.2.1)) (eP3 e1 e2 e3) := (pe_tup h).weak fun σ H Q ⟨O, Φ, c, S, hw, k⟩ =>
  ⟨O, _, c, S, hw, fun x vs H1 c1 p1 ch1 S1 r1 => by
    obtain ⟨u1, _, rfl, q1, u2, _, rfl, q2, u3, _, rfl, q3, rfl⟩ := r1
    refine ⟨by show 3 ≤ sizeLine; decide, fun p np => ?_⟩
    have s := same_new (o := .tup [u1, u2, u3]) np
    exact k _ _ _ c1 p1 (ch1.trans (.of s)) (S1.same s) ⟨p, u1, u2, u3, rfl, .inl ⟨fun z => S1.av p z np, .inl upd_same⟩, e1.mono (Mv.same s) q1, e2.mono (Mv.same s) q2, e3.mono (Mv.same s) q3⟩⟩
theorem npair3 (i j l : Nat) {x y z : Str} {px py pz pt : Pos} {kt} {w : W (α × β × γ)} (hc : X.calm = true) (hN : X.N.Nodup) (h : PX X PK pp ρ e w (eP3 e1 e2 e3)) (hi : X.N[i]? = some x := by rfl) (hj : X.N[j]? = some y := by rfl) (hl : X.N[l]? = some z := by rfl)
    (hx : Loc X.env.scope x := by first | exact Or.inl rfl | exact Or.inr rfl) (hy : Loc X.env.scope y := by first | exact Or.inl rfl | exact Or.inr rfl) (hz : Loc X.env.scope z := by first | exact Or.inl rfl | exact Or.inr rfl)
    (hf : X.fn x = true ∨ X.env.scope.names.lookup x = some .local := by first | exact .inl rfl | exact .inr rfl) (hf2 : X.fn y = true ∨ X.env.scope.names.lookup y = some .local := by first | exact .inl rfl | exact .inr rfl) (hf3 : X.fn z = true ∨ X.env.scope.names.lookup z = some .local := by first | exact .inl rfl | exact .inr rfl)
    (hs1 : (assignEach [Expr.Name x px, Expr.Name y py, Expr.Name z pz] X.env).map (·.2) = assign (.Name x px) X.env :: (assignEach [Expr.Name y py, Expr.Name z pz] X.env).map (·.2) := by rfl) (hs2 : (assignEach [Expr.Name y py, Expr.Name z pz] X.env).map (·.2) = assign (.Name y py) X.env :: (assignEach [Expr.Name z pz] X.env).map (·.2) := by rfl) (hs3 : (assignEach [Expr.Name z pz] X.env).map (·.2) = assign (.Name z pz) X.env :: (assignEach [] X.env).map (·.2) := by rfl)
    (hn : (assignEach [Expr.Name x px, Expr.Name y py, Expr.Name z pz] X.env).length = 3 := by rfl) (hst : (assignEach [Expr.Name x px, Expr.Name y py, Expr.Name z pz] X.env).findIdx? (·.1) = none := by rfl)
    (hsw : swapsWithSole [.Tuple [.Name x px, .Name y py, .Name z pz] kt pt] e pos.line X.env = pure false := by rfl) (hww : swappedStores [.Tuple [.Name x px, .Name y py, .Name z pz] kt pt] e X.env = pure none := by rfl) (h1 : (assignEach [.Tuple [.Name x px, .Name y py, .Name z pz] kt pt] X.env).map (·.2) = [assign (.Tuple [.Name x px, .Name y py, .Name z pz] kt pt) X.env] := by rfl) :
    PS X (.Assign [.Tuple [.Name x px, .Name y py, .Name z pz] kt pt] e pos) (rdN PK pp ρ w fun (_ : Unit) z => put (put (put ρ i (.sh e1 z.1)) j (.sh e2 z.2.1)) l (.sh e3 z.2.2)) :=
  (ps_asg h (pg_tup hc (pgs_cons (pg_name hN hi hx hf) (pgs_cons (pg_name hN hj hy hf2) (pgs_cons (pg_name hN hl hz hf3) pgs_nil hs3) hs2) hs1) hn hst) hsw hww h1).weak fun D σ H ⟨O, Φ, c, S, hw, k⟩ => ⟨O, _, c, S, hw, fun z v H1 c1 p1 ch S1 r => by
    obtain ⟨a, u, w, y, rfl, t, q1, q2, q3⟩ := r
    have less : ∀ {ρ : List (Sl X.K)} {α : Type} {i : Nat} {e1 : En X.K α} {x : α} (a), Av O pp (put ρ i (.sh e1 x)) a → Av O pp ρ a := fun a z => by
      rcases z with z | z | z
      · exact .inl z
      · exact .inr (.inl z)
      · exact .inr (.inr (own_put_sh z))
    exact ⟨a, [u, w, y], rfl, t.sq, rfl, u, [w, y], rfl, w, [y], rfl, y, [], rfl, rfl, k () z H1 c1 p1 _ (.of_chg ch fun a z => own_put_sh (own_put_sh (own_put_sh z))) (((S1.put q1).put (e2.mono (Mv.less less) q2)).put (e3.mono ((Mv.less less).trans (Mv.less less)) q3))⟩⟩
/-! ### None or a value -/
def someW {α : Type} : Option α → W α
  | some y => ret y
  | none => stuck
def someL {α : Type} (xs : List (Option α)) : W (List α) := grd (xs.all (·.isSome)) (ret (xs.filterMap id))
theorem xunO {w : W (Option α)} {en : En X.K α} (h : PX X PK pp ρ e w (eO en)) : PX X PK pp ρ e (bnd w someW) en :=
  h.weak fun σ H Q ⟨O, Φ, c, S, hw, k⟩ => ⟨O, _, c, S, hw, fun x v H' c' p ch S' r => by
    cases x with
    | none => exact p.elim
    | some y => exact k y v H' c' p ch S' r.1⟩
theorem someL_F2 {K : PySem.W.Frag} {en : En K α} {O : AS} {H : Hp} {vs : List V} {xs : List (Option α)} (f : F2 ((eO en).r O H) vs xs) (h : xs.all (·.isSome) = true) : F2 (en.r O H) vs (xs.filterMap id) := by
  induction f with
  | nil => exact .nil
  | @cons v x vs xs r _ ih =>
    rw [List.all_cons, Bool.and_eq_true] at h
    cases x with
    | none => cases h.1
    | some y => exact .cons (r : en.r O H v y ∧ _).1 (ih h.2)
theorem xunOL {w : W (List (Option α))} {en : En X.K α} (h : PX X PK pp ρ e w (eL (eO en))) : PX X PK pp ρ e (bnd w someL) (eL en) :=
  h.weak fun σ H Q ⟨O, Φ, c, S, hw, k⟩ => ⟨O, _, c, S, hw, fun x v H' c' p ch S' r => by
    obtain ⟨a, vs, e, l, f⟩ := r
    exact k _ v H' c' p.2 ch S' ⟨a, vs, e, l, someL_F2 f p.1⟩⟩
theorem xsomeL {w : W (List α)} {en : En X.K α} (h : PX X PK pp ρ e w (eL en)) : PX X PK pp ρ e (bnd w fun x => ret (some x)) (eO (eL en)) :=
  h.weak fun σ H Q ⟨O, Φ, c, S, hw, k⟩ => ⟨O, _, c, S, hw, fun x v H' c' p ch S' r => k (some x) v H' c' p ch S' ⟨r, by
    obtain ⟨a, vs, e, _⟩ := r
    rw [e]
    intro z
    cases z⟩⟩
theorem xnonO {en : En X.K α} {j} : PX X PK pp ρ (.Constant .none j pos) (ret (none : Option α)) (eO en) := pe_non.weak fun σ H Q ⟨O, Φ, c, S, hw, k⟩ => k none _ H c hw .refl S rfl
theorem tisNL {j pos'} {w : W (List α)} {en : En X.K α} (h : PX X PK pp ρ a w (eL en)) : PTX X PK pp ρ (.Compare a [.Is] [.Constant .none j pos'] pos) (bnd w fun _ => ret false) :=
  (tisN (xsomeL h)).weak fun σ H Q ⟨O, Φ, c, S, hw, k⟩ => ⟨O, Φ, c, S, hw, k⟩
theorem snarrow (i : Nat) {y : Option α} {en : En X.K α} {ss : List Stmt} {w0 : W (Fl γ δ ι)} {w1 : α → W (Fl γ δ ι)} {ρ' : γ → List (Sl X.K)} {ρl : δ → List (Sl X.K)} {er : En X.K ι} (hg : get ρ i = .sh (eO en) y) (h0 : get ρ i = .sh (eO en) none → PSX X PK pp ρ ss w0 ρ' ρl er) (h1 : ∀ z, PSX X PK pp (put ρ i (.sh en z)) ss (w1 z) ρ' ρl er) :
    PSX X PK pp ρ ss (match y with | none => w0 | some z => w1 z) ρ' ρl er := by
  cases y with
  | none => exact h0 hg
  | some z =>
    refine (h1 z).weak fun D σ H ⟨O, Φ, c, S, hw, k⟩ => ?_
    have q := S.slots i
    rw [hg] at q
    obtain ⟨v, e, r⟩ := q
    have S2 := S.put (i := i) (en := en) (x := z) (v := v) r.1
    have hs : σ.set i (some v) = σ := by
      apply List.ext_getElem?
      intro j
      by_cases hj : j = i
      · subst hj
        have hl : j < σ.length := by
          rcases Nat.lt_or_ge j σ.length with q | q
          · exact q
          · rw [List.getElem?_eq_none q] at e; cases e
        rw [List.getElem?_set_self hl, e]
      · rw [List.getElem?_set_ne (Ne.symm hj)]
    rw [hs] at S2
    exact ⟨O, Φ, c, S2, hw, fun fl H2 c2 q => (k fl H2 c2 q).mono ⟨fun _ _ e _ _ => e, fun a z => .inl (own_put_sh z)⟩⟩
/-! ### data -/
def isIntD : D → Bool
  | .int _ => true
  | _ => false
def intD : D → Int
  | .int i => i
  | _ => 0
theorem xDi {w : W D} (h : PX X PK pp ρ e w eD) : PX X PK pp ρ e (bnd w fun x => grd (isIntD x) (ret (intD x))) eI :=
  h.weak fun σ H Q ⟨O, Φ, c, S, hw, k⟩ => ⟨O, _, c, S, hw, fun x v H' c' p ch S' r => by
    cases x with
    | int i => exact k i v H' c' p.2 ch S' r
    | _ => cases p.1⟩
theorem xtupD {w : W (List D)} {n : Nat} {x1} (h : PAX X PK pp ρ es w (aL eD n)) (hn : n ≤ 1000000 := by decide) : PX X PK pp ρ (.Tuple es x1 pos) (bnd w fun x => ret (.tup x)) eD := (pe_tup h).weak fun σ H Q ⟨O, Φ, c, S, hw, k⟩ =>
  ⟨O, _, c, S, hw, fun x vs H1 c1 p1 ch1 S1 r1 => ⟨by have := r1.2; rw [sizeLine_eq]; omega, fun p np => by
    have s := same_new (o := .tup vs) np
    have f := tdAll (tdD (K := X.K)) (r1.1.imp fun _ _ => eD.mono (Mv.same s))
    rw [List.map_id'] at f
    exact k _ _ _ c1 p1 (ch1.trans (.of s)) (S1.same s) (by
      show rD X.K _ _ (.ref p) (.tup x)
      simp only [rD]
      exact ⟨p, vs, rfl, .inl ⟨fun z => S1.av p z np, .inl upd_same⟩, f⟩)⟩⟩
/-! ### xs.append(ys.pop(k)), both one's own -/
theorem F2.era {α β : Type} {R : α → β → Prop} {l : List α} {m : List β} (h : F2 R l m) : ∀ i : Nat, F2 R (l.eraseIdx i) (m.eraseIdx i) := by
  induction h with
  | nil => intro i; exact .nil
  | cons r h ih =>
    intro i
    cases i with
    | zero => exact h
    | succ i => exact .cons r (ih i)
def popOk {α : Type} (xs ys : List α) (k : Int) : Bool := ixOk ys k && decide (-(2 ^ 63) ≤ k) && decide (k < 2 ^ 63) && decide (xs.length < 16777216)
theorem nappop [Inhabited α] (i j : Nat) {x y : Str} {ix : Expr} {p' q' apos bpos cpos dpos : Pos} {wx : W Int} {en : En X.K α} {p q : Addr} {xs ys : List α} (hij : i ≠ j) (hg : get ρ i = .ow p (oL en) xs) (hg2 : get ρ j = .ow q (oL en) ys) (h : PX X PK pp ρ ix wx eI) (hN : X.N[i]? = some x := by rfl) (hN2 : X.N[j]? = some y := by rfl)
    (hv : Vis X.env.scope x := by first | exact Or.inl rfl | exact Or.inr (Or.inl rfl) | exact Or.inr (Or.inr rfl)) (hv2 : Vis X.env.scope y := by first | exact Or.inl rfl | exact Or.inr (Or.inl rfl) | exact Or.inr (Or.inr rfl)) (hd : (x == ("__debug__" : Str)) = false := by decide) (hcd : (x == ("__classdict__" : Str)) = false := by decide) (hd2 : (y == ("__debug__" : Str)) = false := by decide) (hcd2 : (y == ("__classdict__" : Str)) = false := by decide)
    (hbase : attributeBase (.Name x p') "append" X.env (eval (.Name x p') X.env) = eval (.Name x p') X.env := by rfl) (hbase2 : attributeBase (.Name y q') "pop" X.env (eval (.Name y q') X.env) = eval (.Name y q') X.env := by rfl)
    (hfew : ((backTo cpos (starEach [Expr.Call (.Attribute (.Name y q') "pop" bpos) [ix] [] dpos] X.env)).all (fun x => !x.1) && (backToKw cpos (keywordEach [] X.env)).all (fun x => x.1.isSome) && decide ([Expr.Call (.Attribute (.Name y q') "pop" bpos) [ix] [] dpos].length + ([] : List Keyword).length + (if ([] : List Keyword).isEmpty then 0 else 1) < 30)) = true := by rfl)
    (hfew2 : ((backTo dpos (starEach [ix] X.env)).all (fun x => !x.1) && (backToKw dpos (keywordEach [] X.env)).all (fun x => x.1.isSome) && decide ([ix].length + ([] : List Keyword).length + (if ([] : List Keyword).isEmpty then 0 else 1) < 30)) = true := by rfl)
    (hline : (apos.endLine == cpos.line) = true := by rfl) (hline2 : (bpos.endLine == dpos.line) = true := by rfl) (hs : starEach [Expr.Call (.Attribute (.Name y q') "pop" bpos) [ix] [] dpos] X.env = (false, eval (.Call (.Attribute (.Name y q') "pop" bpos) [ix] [] dpos) X.env) :: starEach [] X.env := by rfl) (hs2 : starEach [ix] X.env = (false, eval ix X.env) :: starEach [] X.env := by rfl) (hplain : (backTo cpos (starEach [] X.env)).any (·.1) = false := by rfl) (hplain2 : (backTo dpos (starEach [] X.env)).any (·.1) = false := by rfl)
    (hsw : swapsWith (.Call (.Attribute (.Name x p') "append" apos) [.Call (.Attribute (.Name y q') "pop" bpos) [ix] [] dpos] [] cpos) none pos.line X.env = pure false := by rfl) :
    PS X (.Expr (.Call (.Attribute (.Name x p') "append" apos) [.Call (.Attribute (.Name y q') "pop" bpos) [ix] [] dpos] [] cpos) pos) (rdN PK pp ρ (bnd wx fun k => grd (popOk xs ys k) (ret k)) fun (_ : Unit) k => put (put ρ j (.ow q (oL en) (ys.eraseIdx ((ixN ys.length k).getD 0)))) i (.ow p (oL en) (xs ++ [ixAt ys k]))) :=
  (ps_expr (pe_bm PySem.F.plainAttrs_list PySem.F.slot_list_append PySem.F.type_list_append mt_append (pe_var hN hv hd hcd) (pa_cons (pe_bm PySem.F.plainAttrs_list PySem.F.slot_list_pop PySem.F.type_list_pop mt_popAt (pe_var hN2 hv2 hd2 hcd2) (pa_cons h pa_nil hs2) hbase2 hfew2 hline2 hs2 hplain2) pa_nil hs) hbase hfew hline hs hplain) hsw).weak fun D σ H ⟨O, Φ, c, S, hw, kk⟩ => by
    have z := S.slots i
    rw [hg] at z
    obtain ⟨e1, vs, e2, f2⟩ := z
    have z := S.slots j
    rw [hg2] at z
    obtain ⟨e3, us, e4, f4⟩ := z
    refine ⟨_, e1, .inl ⟨rfl, _, SqL.of e2⟩, _, e3, .inl ⟨rfl, _, SqL.of e4⟩, O, _, c, S, hw, fun k v H1 c1 p1 ch S1 r => ?_⟩
    have r : v = .int k := r
    subst r
    have z := S1.slots i
    rw [hg] at z
    obtain ⟨_, vs, e2, f2⟩ := z
    have z := S1.slots j
    rw [hg2] at z
    obtain ⟨_, us, e4, f4⟩ := z
    obtain ⟨g1, p2⟩ := p1
    simp only [popOk, Bool.and_eq_true, decide_eq_true_eq] at g1
    obtain ⟨m, hm⟩ := Option.isSome_iff_exists.mp g1.1.1.1
    have hlt := ixN_lt hm
    obtain ⟨v1, gv, rv⟩ := f4.get (List.getElem?_eq_getElem hlt)
    have hm2 : ixN us.length k = some m := by rw [f4.length]; exact hm
    refine ⟨q, us, k, m, v1, rfl, rfl, e4, g1.1.1.2, g1.1.2, (ixN_seq hm2).1, gv, ?_⟩
    have mv : Mv (Av O pp ρ) (Av O pp ρ) H1 (upd H1 q (.lst (us.eraseIdx m))) := fun b o n e => ⟨by rw [upd_ne (fun z => n (by rw [z]; exact .inr (.inr (owns_mem hg2))))]; exact e, n⟩
    obtain ⟨S2, st⟩ := S1.chgOwn (o := .lst (us.eraseIdx m)) (on' := oL en) (y := ys.eraseIdx m) hg2 ⟨_, upd_same, (f4.era m).imp fun _ _ => en.mono mv⟩
    have hg3 : get (put ρ j (.ow q (oL en) (ys.eraseIdx m))) i = .ow p (oL en) xs := by rw [get_put_ne hij]; exact hg
    have z := S2.slots i
    rw [hg3] at z
    obtain ⟨_, vs, e2, f2⟩ := z
    have av : ∀ a, Av O pp (put ρ j (.ow q (oL en) (ys.eraseIdx m))) a → Av O pp ρ a := fun a z => by
      rcases z with z | z | z
      · exact .inl z
      · exact .inr (.inl z)
      · rw [owns_same hg2] at z; exact .inr (.inr z)
    have r1 : en.r (Av O pp (put ρ j (.ow q (oL en) (ys.eraseIdx m)))) (upd H1 q (.lst (us.eraseIdx m))) v1 (ixAt ys k) := by
      have e5 : ixAt ys k = ys[m] := by
        unfold ixAt
        rw [hm, Option.getD_some, List.getD_eq_getElem?_getD, List.getElem?_eq_getElem hlt]
        rfl
      rw [e5]
      exact en.mono (mv.trans (Mv.less av)) rv
    refine ⟨p, vs, v1, rfl, rfl, e2, by rw [f2.length, sizeLine_eq]; exact g1.2, ?_⟩
    have mv3 : Mv (Av O pp (put ρ j (.ow q (oL en) (ys.eraseIdx m)))) (Av O pp (put ρ j (.ow q (oL en) (ys.eraseIdx m)))) (upd H1 q (.lst (us.eraseIdx m))) (upd (upd H1 q (.lst (us.eraseIdx m))) p (.lst (vs ++ [v1]))) := fun b o n e => ⟨by rw [upd_ne (fun z => n (by rw [z]; exact .inr (.inr (owns_mem hg3))))]; exact e, n⟩
    obtain ⟨S3, st3⟩ := S2.chgOwn (o := .lst (vs ++ [v1])) (on' := oL en) (y := xs ++ [ixAt ys k]) hg3 ⟨_, upd_same, (f2.append (.cons r1 .nil)).imp fun _ _ => en.mono mv3⟩
    refine kk () k _ c1 p2 σ ?_ ?_
    · dsimp only
      rw [hm]
      exact ((Stp.of_chg ch fun _ z => z).trans st).trans st3
    · dsimp only
      rw [hm]
      exact S3
/-- list(xs), new -/
theorem xlistF {w : W (List α)} {en : En X.K α} {p : Pos} (hm : X.mg "list" = none) (h : PX X PK pp ρ a w (eR en)) (hg : Gl X "list" := by rfl) (he : starEach [a] X.env = (false, eval a X.env) :: starEach [] X.env := by rfl) (hpl : (backTo pos (starEach [] X.env)).any (·.1) = false := by rfl) :
    PE X (.Call (.Name "list" p) [a] [] pos) (rdF PK pp ρ w en) :=
  (pe_callTy call_list_of hg hm (by decide +kernel) (pa_cons h pa_nil he) (by decide) (by decide) he hpl).weak fun σ H Q ⟨O, Φ, c, S, hw, k⟩ => ⟨O, Φ, c, S, hw, fun xs v H1 c1 p1 ch S1 r => by
    obtain ⟨b, vs, rfl, l, f⟩ := r
    exact ⟨b, vs, rfl, .inl l.sq, fun q nq => k xs q vs _ c1 p1 (chg_none S1 ch nq) (ch.trans (.of (same_new nq))) (S1.newO nq) upd_same (f.imp fun _ _ => en.mono (Mv.newA nq))⟩⟩
/-- x, ys = xs, [], both one's own -/
theorem nparOO (i j : Nat) {x y : Str} {px py pt : Pos} {kt k2 pt2} {lp : Pos} {w : W (List α)} {en1 : En X.K α} (en : En X.K β) (hc : X.calm = true) (hN : X.N.Nodup) (h : PE X a (rdF PK pp ρ w en1)) (hij : i ≠ j := by decide) (hi : X.N[i]? = some x := by rfl) (hj : X.N[j]? = some y := by rfl)
    (hx : X.env.scope.names.lookup x = some .local := by rfl) (hy : X.env.scope.names.lookup y = some .local := by rfl) (hw : swappedStores [.Tuple [.Name x px, .Name y py] kt pt] (.Tuple [a, .List [] lp] k2 pt2) X.env = pure (some [x, y]) := by rfl)
    (hs : swapsWithSole [.Tuple [.Name x px, .Name y py] kt pt] (.Tuple [a, .List [] lp] k2 pt2) pos.line X.env = pure false := by rfl)
    (hs1 : starEach [a, .List [] lp] X.env = (false, eval a X.env) :: starEach [.List [] lp] X.env := by rfl) (hs2 : starEach [Expr.List [] lp] X.env = (false, eval (.List [] lp) X.env) :: starEach [] X.env := by rfl) :
    PS X (.Assign [.Tuple [.Name x px, .Name y py] kt pt] (.Tuple [a, .List [] lp] k2 pt2) pos) (rdN PK pp ρ w fun (pq : Addr × Addr) z => put (put ρ i (.ow pq.1 (oL en1) z)) j (.ow pq.2 (oL en) [])) :=
  (ps_par hc hN hi hj hij hx hy (pa_cons h (pa_cons (pe_lst pa_nil) pa_nil hs2) hs1) hw hs).weak fun D σ H ⟨O, Φ, c, S, hw, k⟩ => ⟨O, _, c, S, hw, fun z p vs H1 c1 p1 hp ch S1 e f => ⟨Nat.zero_le _, fun q nq => by
    have fp := nfoot S hp
    have S2 := S1.own (i := i) (on := oL en1) (x := z) fp (fun z => S.av p (.inl z) hp) ⟨vs, e, f⟩
    have fq := nfoot S2 nq
    have nOq : ¬ O q := fun z => S2.av q (.inl z) nq
    have S3 := (S2.newO (o := .lst []) nq).own (i := j) (on := oL en) (x := []) fq nOq ⟨[], upd_same, .nil⟩
    have hq : H q = none := by
      cases e1 : H q with
      | none => rfl
      | some o =>
        have := ch q o e1 fq
        rw [nq] at this; cases this
    refine ⟨.ref p, .ref q, rfl, k (p, q) z _ c1 p1 _ ⟨fun b o e n _ => ?_, fun b z => ?_⟩ S3⟩
    · rw [upd_ne (ne_of_none e hq)]; exact ch b o e n
    · rcases owns_put z with z | z
      · have z : b = q := by simpa [own1] using z
        rw [z]; exact .inr ⟨hq, fq⟩
      · rcases owns_put z with z | z
        · have z : b = p := by simpa [own1] using z
          rw [z]; exact .inr ⟨hp, fp⟩
        · exact .inl z⟩⟩
end
/-! ### lines: a place and whole numbers -/
section
variable {K : PySem.W.Frag} {α β : Type}
theorem rf_pair {e1 : En K α} {e2 : En K β} : ∀ (O : AS) (H : Hp) (v : V) (y : α × β), (eP e1 e2).r O H v y → ∃ t, v = V.ref t := fun O H v y ⟨a, _, _, e, _⟩ => ⟨a, e⟩
theorem ne_pair {e1 : En K α} {e2 : En K β} : ∀ (O : AS) (H : Hp) (v : V) (y : α × β), (eP e1 e2).r O H v y → v ≠ .non := fun O H v y ⟨a, _, _, e, _⟩ => by
  rw [e]
  intro z
  cases z
def gdL (y : Int × List Int) : Bool := !y.2.isEmpty
theorem ap_line : ∀ (O : AS) (H : Hp) (v : V) (y : Int × List Int) (l : Addr) (lv : List V), (eP eI (eL eI) : En K (Int × List Int)).r O H v y → gdL y = true → H l = some (.lst lv) → (∀ u ∈ lv, ∃ t, u = V.ref t) → (eP eI (eL eI) : En K (Int × List Int)).r (fun b => O b ∨ b = l) H v y := by
  intro O H v y l lv ⟨a, u, w, e, t, q1, ⟨p, vs, e2, ⟨np, hp⟩, f⟩⟩ hg hl hr
  refine ⟨a, u, w, e, ?_, q1, p, vs, e2, ⟨fun z => ?_, hp⟩, f⟩
  · rcases t with ⟨na, t⟩ | t
    · refine .inl ⟨fun z => ?_, t⟩
      rcases z with z | z
      · exact na z
      · subst z
        rcases t with t | ⟨o, t⟩ <;> (rw [hl] at t; cases t)
    · exact .inr t
  · rcases z with z | z
    · exact np z
    · subst z
      rw [hl] at hp
      have e3 : lv = vs := HO.lst.inj (Option.some.inj hp)
      subst e3
      have hg : (!y.2.isEmpty) = true := hg
      generalize y.2 = ys at f hg
      cases f with
      | nil => simp at hg
      | cons r _ =>
        obtain ⟨t, e4⟩ := hr _ List.mem_cons_self
        rw [e4] at r
        cases r
end
end Dc
/-! DcJ: lists of unlike things of any number, None or a pair, new trees of lists (copies) and a change within one. -/
namespace Dc
open PySem PySem.Spec L2 PyProof.Rows
/-! ### a list of unlike things -/
section
variable {K : PySem.W.Frag} {α β γ δ : Type}
/-- the arguments' encoding does not look at the pool -/
def NoPl (ea : EA K α) : Prop := ∀ {pp pp' : PP} {O : AS} {H : Hp} {vs : List V} {x : α}, ea.r pp O H vs x → ea.r pp' O H vs x
theorem npN : NoPl (aN : EA K Unit) := fun h => h
theorem npC {e : En K α} {ea : EA K β} (h : NoPl ea) : NoPl (aC e ea) := fun ⟨v, r, e1, p, q⟩ => ⟨v, r, e1, p, h q⟩
def eH (ea : EA K α) : En K α := ⟨fun O H v x => ∃ a vs, v = .ref a ∧ LstAt O H a vs ∧ ea.r none O H vs x, fun m ⟨a, vs, e, l, r⟩ => ⟨a, vs, e, l.mv m, ea.mono m r⟩⟩
def HasAt (ea : EA K α) (k : Nat) (e : En K β) (p : α → β) : Prop := ∀ {pp : PP} {O : AS} {H : Hp} {vs : List V} {x : α}, ea.r pp O H vs x → ∃ u, vs[k]? = some u ∧ e.r O H u (p x)
theorem hat0 {e : En K α} {ea : EA K β} : HasAt (aC e ea) 0 e (fun x => x.1) := fun ⟨v, r, e1, p, _⟩ => ⟨v, by rw [e1]; rfl, p⟩
theorem hatS {e : En K α} {ea : EA K β} {f : En K γ} {k : Nat} {p : β → γ} (h : HasAt ea k f p) : HasAt (aC e ea) (k + 1) f (fun x => p x.2) := fun ⟨v, r, e1, _, q⟩ => by
  obtain ⟨u, e2, r2⟩ := h q
  exact ⟨u, by rw [e1]; simpa using e2, r2⟩
end
theorem atI_nat {α : Type} {xs : List α} {k : Nat} {u : α} (h : xs[k]? = some u) : atI xs (k : Int) = some u := by
  have hl : k < xs.length := by
    rcases Nat.lt_or_ge k xs.length with q | q
    · exact q
    · rw [List.getElem?_eq_none q] at h; cases h
  have e : ixN xs.length (k : Int) = some k := by
    unfold ixN
    split
    · split
      · simp
      · omega
    · omega
  unfold atI
  rw [e]
  exact h
section
variable {X : Cx} {PK : PoolK} {pp : PP} {ρ : List (Sl X.K)} {α β γ δ : Type} {e a b : Expr} {es : List Expr} {pos : Pos}
theorem xlstH {ea : EA X.K α} {w : W α} (hp : NoPl ea) (h : PAX X PK pp ρ es w ea) (hn : Nat.ble ea.len 1000000 = true := by rfl) : PX X PK pp ρ (.List es pos) w (eH ea) := (pe_lst h).weak fun σ H Q ⟨O, Φ, c, S, hw, k⟩ =>
  ⟨O, _, c, S, hw, fun x vs H1 c1 p1 ch1 S1 r1 => by
    refine ⟨by rw [ea.hlen r1, sizeLine_eq]; have := Nat.le_of_ble_eq_true hn; omega, fun p np => ?_⟩
    have s := same_new (o := .lst vs) np
    exact k _ _ _ c1 p1 (ch1.trans (.of s)) (S1.same s) ⟨p, vs, rfl, ⟨new_at S1.av np, upd_same⟩, ea.mono (Mv.same s) (hp r1)⟩⟩
theorem xh {ea : EA X.K α} {w : W α} {f : En X.K β} {p : α → β} {j p'} (k : Nat) (q : HasAt ea k f p) (h : PX X PK pp ρ a w (eH ea)) : PX X PK pp ρ (.Subscript a (.Constant (.int (k : Int)) j p') pos) (bnd w fun x => ret (p x)) f :=
  (pe_ix ix_list h pe_int (fun _ _ => rfl)).weak fun σ H Q ⟨O, Φ, c, S, hw, kk⟩ => ⟨O, _, c, S, hw, fun x v H' c' p1 ch S' r => by
    obtain ⟨a, vs, rfl, l, r⟩ := r
    obtain ⟨u, e1, r2⟩ := q r
    exact ⟨a, vs, (k : Int), u, rfl, rfl, l.sq, atI_nat e1, kk _ _ H' c' p1 ch S' r2⟩⟩
theorem rput {en : En X.K α} {e' : En X.K β} {O : AS} {H : Hp} {v : V} {x : α} {y : β} {i : Nat} (r : en.r (Av O pp ρ) H v x) : en.r (Av O pp (put ρ i (.sh e' y))) H v x := en.mono (Mv.less fun a z => by
  rcases z with z | z | z
  · exact .inl z
  · exact .inr (.inl z)
  · exact .inr (.inr (own_put_sh z))) r
/-- a, b, c, d, e, f = x -/
theorem nh6 (i1 i2 i3 i4 i5 i6 : Nat) {x1 x2 x3 x4 x5 x6 : Str} {p1 p2 p3 p4 p5 p6 pt : Pos} {kt} {α1 α2 α3 α4 α5 α6 : Type} {e1 : En X.K α1} {e2 : En X.K α2} {e3 : En X.K α3} {e4 : En X.K α4} {e5 : En X.K α5} {e6 : En X.K α6} {w : W (α1 × α2 × α3 × α4 × α5 × α6 × Unit)} (hc : X.calm = true) (hN : X.N.Nodup)
    (h : PX X PK pp ρ e w (eH (aC e1 (aC e2 (aC e3 (aC e4 (aC e5 (aC e6 aN)))))))) (hi1 : X.N[i1]? = some x1 := by rfl) (hi2 : X.N[i2]? = some x2 := by rfl) (hi3 : X.N[i3]? = some x3 := by rfl) (hi4 : X.N[i4]? = some x4 := by rfl) (hi5 : X.N[i5]? = some x5 := by rfl) (hi6 : X.N[i6]? = some x6 := by rfl)
    (l1 : Loc X.env.scope x1 := by first | exact Or.inl rfl | exact Or.inr rfl) (l2 : Loc X.env.scope x2 := by first | exact Or.inl rfl | exact Or.inr rfl) (l3 : Loc X.env.scope x3 := by first | exact Or.inl rfl | exact Or.inr rfl) (l4 : Loc X.env.scope x4 := by first | exact Or.inl rfl | exact Or.inr rfl) (l5 : Loc X.env.scope x5 := by first | exact Or.inl rfl | exact Or.inr rfl) (l6 : Loc X.env.scope x6 := by first | exact Or.inl rfl | exact Or.inr rfl)
    (f1 : X.fn x1 = true ∨ X.env.scope.names.lookup x1 = some .local := by first | exact .inl rfl | exact .inr rfl) (f2 : X.fn x2 = true ∨ X.env.scope.names.lookup x2 = some .local := by first | exact .inl rfl | exact .inr rfl) (f3 : X.fn x3 = true ∨ X.env.scope.names.lookup x3 = some .local := by first | exact .inl rfl | exact .inr rfl) (f4 : X.fn x4 = true ∨ X.env.scope.names.lookup x4 = some .local := by first | exact .inl rfl | exact .inr rfl) (f5 : X.fn x5 = true ∨ X.env.scope.names.lookup x5 = some .local := by first | exact .inl rfl | exact .inr rfl) (f6 : X.fn x6 = true ∨ X.env.scope.names.lookup x6 = some .local := by first | exact .inl rfl | exact .inr rfl)
    (hs1 : (assignEach [Expr.Name x1 p1, Expr.Name x2 p2, Expr.Name x3 p3, Expr.Name x4 p4, Expr.Name x5 p5, Expr.Name x6 p6] X.env).map (·.2) = assign (.Name x1 p1) X.env :: (assignEach [Expr.Name x2 p2, Expr.Name x3 p3, Expr.Name x4 p4, Expr.Name x5 p5, Expr.Name x6 p6] X.env).map (·.2) := by rfl)
    (hs2 : (assignEach [Expr.Name x2 p2, Expr.Name x3 p3, Expr.Name x4 p4, Expr.Name x5 p5, Expr.Name x6 p6] X.env).map (·.2) = assign (.Name x2 p2) X.env :: (assignEach [Expr.Name x3 p3, Expr.Name x4 p4, Expr.Name x5 p5, Expr.Name x6 p6] X.env).map (·.2) := by rfl)
    (hs3 : (assignEach [Expr.Name x3 p3, Expr.Name x4 p4, Expr.Name x5 p5, Expr.Name x6 p6] X.env).map (·.2) = assign (.Name x3 p3) X.env :: (assignEach [Expr.Name x4 p4, Expr.Name x5 p5, Expr.Name x6 p6] X.env).map (·.2) := by rfl)
    (hs4 : (assignEach [Expr.Name x4 p4, Expr.Name x5 p5, Expr.Name x6 p6] X.env).map (·.2) = assign (.Name x4 p4) X.env :: (assignEach [Expr.Name x5 p5, Expr.Name x6 p6] X.env).map (·.2) := by rfl)
    (hs5 : (assignEach [Expr.Name x5 p5, Expr.Name x6 p6] X.env).map (·.2) = assign (.Name x5 p5) X.env :: (assignEach [Expr.Name x6 p6] X.env).map (·.2) := by rfl)
    (hs6 : (assignEach [Expr.Name x6 p6] X.env).map (·.2) = assign (.Name x6 p6) X.env :: (assignEach [] X.env).map (·.2) := by rfl)
    (hn : (assignEach [Expr.Name x1 p1, Expr.Name x2 p2, Expr.Name x3 p3, Expr.Name x4 p4, Expr.Name x5 p5, Expr.Name x6 p6] X.env).length = 6 := by rfl) (hst : (assignEach [Expr.Name x1 p1, Expr.Name x2 p2, Expr.Name x3 p3, Expr.Name x4 p4, Expr.Name x5 p5, Expr.Name x6 p6] X.env).findIdx? (·.1) = none := by rfl)
    (hsw : swapsWithSole [.Tuple [.Name x1 p1, .Name x2 p2, .Name x3 p3, .Name x4 p4, .Name x5 p5, .Name x6 p6] kt pt] e pos.line X.env = pure false := by rfl) (hww : swappedStores [.Tuple [.Name x1 p1, .Name x2 p2, .Name x3 p3, .Name x4 p4, .Name x5 p5, .Name x6 p6] kt pt] e X.env = pure none := by rfl)
    (h1 : (assignEach [.Tuple [.Name x1 p1, .Name x2 p2, .Name x3 p3, .Name x4 p4, .Name x5 p5, .Name x6 p6] kt pt] X.env).map (·.2) = [assign (.Tuple [.Name x1 p1, .Name x2 p2, .Name x3 p3, .Name x4 p4, .Name x5 p5, .Name x6 p6] kt pt) X.env] := by rfl) :
    PS X (.Assign [.Tuple [.Name x1 p1, .Name x2 p2, .Name x3 p3, .Name x4 p4, .Name x5 p5, .Name x6 p6] kt pt] e pos) (rdN PK pp ρ w fun (_ : Unit) z => put (put (put (put (put (put ρ i1 (.sh e1 z.1)) i2 (.sh e2 z.2.1)) i3 (.sh e3 z.2.2.1)) i4 (.sh e4 z.2.2.2.1)) i5 (.sh e5 z.2.2.2.2.1)) i6 (.sh e6 z.2.2.2.2.2.1)) :=
  (ps_asg h (pg_lst hc (pgs_cons (pg_name hN hi1 l1 f1) (pgs_cons (pg_name hN hi2 l2 f2) (pgs_cons (pg_name hN hi3 l3 f3) (pgs_cons (pg_name hN hi4 l4 f4) (pgs_cons (pg_name hN hi5 l5 f5) (pgs_cons (pg_name hN hi6 l6 f6) pgs_nil hs6) hs5) hs4) hs3) hs2) hs1) hn hst) hsw hww h1).weak fun D σ H ⟨O, Φ, c, S, hw, k⟩ => ⟨O, _, c, S, hw, fun z v H1 c1 q0 ch S1 r => by
    obtain ⟨a, vs, rfl, l, u1, _, rfl, r1, u2, _, rfl, r2, u3, _, rfl, r3, u4, _, rfl, r4, u5, _, rfl, r5, u6, _, rfl, r6, rfl⟩ := r
    exact ⟨a, [u1, u2, u3, u4, u5, u6], rfl, l.sq, rfl, u1, _, rfl, u2, _, rfl, u3, _, rfl, u4, _, rfl, u5, _, rfl, u6, [], rfl, rfl,
      k () z H1 c1 q0 _ (.of_chg ch fun a z => own_put_sh (own_put_sh (own_put_sh (own_put_sh (own_put_sh (own_put_sh z)))))) ((((((S1.put r1).put (rput r2)).put (rput (rput r3))).put (rput (rput (rput r4)))).put (rput (rput (rput (rput r5))))).put (rput (rput (rput (rput (rput r6))))))⟩⟩
/-! ### None or a pair -/
theorem xsomeP {w : W (α × β)} {e1 : En X.K α} {e2 : En X.K β} (h : PX X PK pp ρ e w (eP e1 e2)) : PX X PK pp ρ e (bnd w fun x => ret (some x)) (eO (eP e1 e2)) :=
  h.weak fun σ H Q ⟨O, Φ, c, S, hw, k⟩ => ⟨O, _, c, S, hw, fun x v H' c' p ch S' r => k (some x) v H' c' p ch S' ⟨r, by
    obtain ⟨a, u, w, e, _⟩ := r
    rw [e]
    intro z
    cases z⟩⟩
theorem tnotN {j pos'} {w : W (Option α)} {en : En X.K α} (h : PX X PK pp ρ a w (eO en)) : PTX X PK pp ρ (.Compare a [.IsNot] [.Constant .none j pos'] pos) (bnd w fun x => ret x.isSome) :=
  (pt_cmp (pc_notN h)).weak fun σ H Q ⟨O, Φ, c, S, hw, k⟩ => ⟨O, _, c, S, hw, fun x v H' c' p ch S' r => by
    cases x with
    | none =>
      have e : v = .non := r
      exact ⟨_, by rw [e]; rfl, k _ _ c' p ch S'⟩
    | some y => exact ⟨_, (by show V.bl _ = V.bl true; rw [decide_eq_false r.2]; rfl), k _ _ c' p ch S'⟩⟩
end
def oD {α : Type} (to : α → D) : Option α → D
  | none => .non
  | some y => to y
theorem tdOD {K : PySem.W.Frag} {α : Type} {en : En K α} {to : α → D} (d : ToD en to) : ToD (eO en) (oD to) := ⟨fun {O H v x} h => by
  cases x with
  | none => exact h
  | some y => exact d.d h.1⟩
/-! ### new trees -/
section
variable {K : PySem.W.Frag} {PK : PoolK} {pp : PP} {ρ : List (Sl K)} {O O' : AS} {c c' : Nat} {σ : L2.St} {H H' : Hp} {α β γ δ : Type} {p : Addr} {o : HO}
def OxS (O : AS) (S : List Addr) : AS := fun a => O a ∨ a ∈ S
structure FtR (K : PySem.W.Frag) (α : Type) where
  r : List Addr → AS → Hp → V → α → Prop
  mono : ∀ {S : List Addr} {O O' : AS} {H H' : Hp} {v : V} {x : α}, Mv O O' H H' → (∀ a ∈ S, H' a = H a) → r S O H v x → r S O' H' v x
  dom : ∀ {S : List Addr} {O : AS} {H : Hp} {v : V} {x : α}, r S O H v x → ∀ a ∈ S, H a ≠ none
def ftE (en : En K α) : FtR K α := ⟨fun S O H v x => S = [] ∧ en.r O H v x, fun m _ ⟨e, r⟩ => ⟨e, en.mono m r⟩, fun ⟨e, _⟩ a h => by rw [e] at h; cases h⟩
inductive FtRs (f : FtR K α) (O : AS) (H : Hp) : List Addr → List V → List α → Prop where
  | nil : FtRs f O H [] [] []
  | cons {S1 S2 v vs x xs} : f.r S1 O H v x → FtRs f O H S2 vs xs → FtRs f O H (S1 ++ S2) (v :: vs) (x :: xs)
theorem FtRs.snoc {f : FtR K α} {S S1 : List Addr} {vs : List V} {v : V} {xs : List α} {x : α} (h : FtRs f O H S vs xs) (r : f.r S1 O H v x) : FtRs f O H (S ++ S1) (vs ++ [v]) (xs ++ [x]) := by
  induction h with
  | nil => simpa using FtRs.cons r .nil
  | cons q _ ih => rw [List.append_assoc]; exact .cons q ih
theorem FtRs.mono {f : FtR K α} {S : List Addr} {vs : List V} {xs : List α} (h : FtRs f O H S vs xs) (m : Mv O O' H H') (s : ∀ a ∈ S, H' a = H a) : FtRs f O' H' S vs xs := by
  induction h with
  | nil => exact .nil
  | cons q _ ih => exact .cons (f.mono m (fun a z => s a (List.mem_append.mpr (.inl z))) q) (ih fun a z => s a (List.mem_append.mpr (.inr z)))
theorem FtRs.dom {f : FtR K α} {S : List Addr} {vs : List V} {xs : List α} (h : FtRs f O H S vs xs) : ∀ a ∈ S, H a ≠ none := by
  induction h with
  | nil => intro a z; cases z
  | cons q _ ih =>
    intro a z
    rcases List.mem_append.mp z with z | z
    · exact f.dom q a z
    · exact ih a z
def ftL (f : FtR K α) : FtR K (List α) := ⟨fun S O H v xs => ∃ a vs S', v = .ref a ∧ S = a :: S' ∧ H a = some (.lst vs) ∧ FtRs f O H S' vs xs,
  fun m s ⟨a, vs, S', e, es, h, q⟩ => ⟨a, vs, S', e, es, by rw [s a (by rw [es]; exact List.mem_cons_self)]; exact h, q.mono m fun b z => s b (by rw [es]; exact List.mem_cons_of_mem _ z)⟩,
  fun ⟨a, vs, S', e, es, h, q⟩ b z => by
    rw [es] at z
    rcases List.mem_cons.mp z with z | z
    · rw [z, h]; simp
    · exact q.dom b z⟩
theorem av_oxs {S : List Addr} {a : Addr} (h : Av (OxS O S) pp ρ a) : Av O pp ρ a ∨ a ∈ S := by
  rcases h with (h | h) | h | h
  · exact .inl (.inl h)
  · exact .inr h
  · exact .inl (.inr (.inl h))
  · exact .inl (.inr (.inr h))
theorem oxs_av {S : List Addr} {a : Addr} (h : Av O pp ρ a ∨ a ∈ S) : Av (OxS O S) pp ρ a := by
  rcases h with (h | h | h) | h
  · exact .inl (.inl h)
  · exact .inr (.inl h)
  · exact .inr (.inr h)
  · exact .inl (.inr h)
theorem Sat.sameO (S : Sat PK O pp ρ c σ H) (h : ∀ a, O a ↔ O' a) : Sat PK O' pp ρ c σ H := by
  have e : O = O' := funext fun a => propext (h a)
  rw [← e]; exact S
theorem Sat.subO (S : Sat PK O pp ρ c σ H) (h : ∀ a, O' a → O a) : Sat PK O' pp ρ c σ H := by
  have less : ∀ a, Av O' pp ρ a → Av O pp ρ a := fun a q => by
    rcases q with q | q | q
    · exact .inl (h a q)
    · exact .inr (.inl q)
    · exact .inr (.inr q)
  exact ⟨S.len, S.nd, fun a ha => ⟨fun z => (S.new a ha).1 (h a z), (S.new a ha).2⟩, fun a z => S.dom a (h a z), S.pool, fun i => (S.slots i).mv (Mv.less less) fun _ _ => rfl⟩
theorem Mv.oxs {S : List Addr} (ch : Chg pp H H') (hn : ∀ a ∈ S, H a = none) : Mv (Av O pp ρ) (Av (OxS O S) pp ρ) H H' := fun a o n e => ⟨ch a o e fun z => n (.inr (.inl z)), fun z => by
  rcases av_oxs z with z | z
  · exact n z
  · rw [hn a z] at e; cases e⟩
/-- behind a call that has made new things: they are avoided -/
theorem Sat.grow (S : Sat PK O pp ρ c σ H) {S1 : List Addr} (ch : Chg pp H H') (p : PoolOk PK pp H' c') (hn : ∀ a ∈ S1, H a = none) (hd : ∀ a ∈ S1, H' a ≠ none) : Sat PK (OxS O S1) pp ρ c' σ H' := by
  have S2 := S.chg ch p
  refine ⟨S.len, S.nd, fun a ha => ⟨fun z => ?_, (S.new a ha).2⟩, fun a z => ?_, p, fun i => (S.slots i).mv (Mv.oxs ch hn) fun a ha => ?_⟩
  · rcases z with z | z
    · exact (S.new a ha).1 z
    · exact S.av a (.inr (.inr ha)) (hn a z)
  · rcases z with z | z
    · exact S2.dom a z
    · exact hd a z
  · cases e : get ρ i with
    | ow b on x =>
      rw [e] at ha
      have ha : a = b := by simpa [own1] using ha
      subst ha
      have q := S.slots i
      rw [e] at q
      have hf := (S.new a (owns_mem e)).2
      cases e2 : H a with
      | none => exact absurd e2 (on.dom q.2)
      | some o => exact ch a o e2 hf
    | _ => rw [e] at ha; cases ha
/-- a new tree -/
def rdFr (PK : PoolK) (pp : PP) (ρ : List (Sl K)) (w : W α) (fr : FtR K α) : TE := fun σ H Q => ∃ O Φ c, Sat PK O pp ρ c σ H ∧ w Φ noX c ∧
  ∀ x S v H' c', Φ x c' → S.Nodup → (∀ a ∈ S, H a = none) → Chg pp H H' → Sat PK (OxS O S) pp ρ c' σ H' → fr.r S (Av (OxS O S) pp ρ) H' v x → Q v H'
def spFr (PK : PoolK) (ea : EA K α) (f : α → W β) (fr : FtR K β) : Sp := fun vs H Q _ => ∃ pp O x Φ c, Dom O H ∧ (∀ a, foot pp a → O a) ∧ PoolOk PK pp H c ∧ ea.r pp O H vs x ∧ f x Φ noX c ∧
  ∀ y S v H' c', Φ y c' → S.Nodup → (∀ a ∈ S, H a = none) → Chg pp H H' → PoolOk PK pp H' c' → fr.r S (OxS O S) H' v y → Q v H'
end
section
variable {P : Program} {w : World} {K : PySem.W.Frag} {mg : Str → Option Value} {base : Heap} {PK : PoolK} {α β : Type}
theorem fn_Fr {x qual : Str} {st : Stmt} {f : Addr} {fd : FuncData} {N ps : List Str} {k : Nat} {ea : EA K α} {fr : FtR K β} {fw : α → W β} {e : Expr} {pos : Pos} (F : Fun K x qual st f fd) (S : FnScope N ps (defScope st)) (hl : ea.len = ps.length) (hN : ea.len ≤ N.length) (hb : defBody st = [.Return (some e) pos])
    (hbody : ∀ (cdv : Value) (A : Around) (outer : List Env) (s : Shared) (H : Hp) (E : XK) (pp : PP) (x : α), Room k (A.deeper (envOfC qual (defScope st) s.heap.objs.size f cdv)) →
      PE (cxOf CX0 P w K mg base N qual (defScope st) f cdv A outer s H E).nox e (rdFr PK pp (ea.ents x ++ List.replicate (N.length - ea.len) .nil) (fw x) fr)) : FnOk P w K mg base CX0 (k + 1) f fd ps (spFr PK ea fw fr) := by
  refine F.ok S (fun vs H Q E h => ?_) (fun cdv A outer s H vs Q E hr h => ?_)
  · obtain ⟨pp, O, x, Φ, c, _, _, _, r, _⟩ := h
    rw [ea.hlen r, hl]
  · obtain ⟨pp, O, x, Φ, c, hd, hf, hp, r, hw, q⟩ := h
    rw [hb]
    refine ⟨_, pss_cons (ps_ret (hbody cdv A outer s H E pp x hr)) pss_never, O, Φ, c, sat_start hd hf hp r hN, hw, fun y S v H' c' p nd fresh ch S' rv => ?_⟩
    exact q y S v H' c' p nd fresh ch S'.pool (fr.mono (Mv.less fun a h => by
      rcases h with h | h
      · exact .inl (.inl h)
      · exact .inl (.inr h)) (fun _ _ => rfl) rv)
theorem fnFr_w {k : Nat} {f : Addr} {fd : FuncData} {ps : List Str} {ea : EA K α} {fr : FtR K β} {fw fw' : α → W β} (F : FnOk P w K mg base CX0 k f fd ps (spFr PK ea fw fr)) (h : ∀ x, fw x = fw' x) : FnOk P w K mg base CX0 k f fd ps (spFr PK ea fw' fr) := by
  rw [show fw' = fw from funext fun x => (h x).symm]
  exact F
end
section
variable {X : Cx} {PK : PoolK} {pp : PP} {ρ : List (Sl X.K)} {α β γ δ ι : Type} {e a b : Expr} {es : List Expr} {pos : Pos}
theorem xcallFr {k : Nat} {f : Addr} {fd : FuncData} {ps : List Str} {x : Str} {p : Pos} {ea : EA X.K α} {fr : FtR X.K β} {fw : α → W β} {wa : W α} (F : FnOk X.prog X.w X.K X.mg X.base CX0 k f fd ps (spFr PK ea fw fr)) (hr : Room k X.A) (hm : X.mg x = some (.ref f)) (hk : PySem.W.keepIn X.K (.ref f) = true)
    (hb : Binds X.K fd ps []) (ha : PAX X PK pp ρ (e :: es) wa ea) (hg : Gl X x := by rfl) (hdb : (x == ("__debug__" : Str)) = false := by decide) (he : starEach (e :: es) X.env = (false, eval e X.env) :: starEach es X.env := by rfl)
    (hpl : (backTo pos (starEach es X.env)).any (·.1) = false := by rfl) : PE X (.Call (.Name x p) (e :: es) [] pos) (rdFr PK pp ρ (bnd wa fw) fr) :=
  (pe_call F hr hg hm hk hb .nil pass0 ha hdb he hpl).weak fun σ H Q ⟨O, Φ, c, S, hw, kk⟩ => ⟨O, _, c, S, hw, fun y vs H1 c1 p1 ch1 S1 r1 => by
    show spFr PK ea fw fr (vs ++ []) H1 Q E0
    rw [List.append_nil]
    refine ⟨pp, Av O pp ρ, y, Φ, c1, S1.av, fun a h => .inr (.inl h), S1.pool, r1, p1, fun z T v H2 c2 p2 nd fresh ch2 pl2 rz => ?_⟩
    have fresh0 : ∀ a ∈ T, H a = none := fun a ha => chg_none S1 ch1 (fresh a ha)
    exact kk z T v H2 c2 p2 nd fresh0 (ch1.trans ch2) (S1.grow ch2 pl2 fresh (fr.dom rz)) (fr.mono (Mv.less fun a h => av_oxs h) (fun _ _ => rfl) rz)⟩
theorem xfr0 {w : W α} {en : En X.K α} (h : PX X PK pp ρ e w en) : PE X e (rdFr PK pp ρ w (ftE en)) := h.weak fun σ H Q ⟨O, Φ, c, S, hw, k⟩ => ⟨O, Φ, c, S, hw, fun x v H' c' p ch S' r =>
  k x [] v H' c' p List.nodup_nil (fun a h => by cases h) ch (S'.sameO fun a => ⟨.inl, fun z => z.elim id fun y => by cases y⟩) ⟨rfl, en.mono (Mv.less fun a h => (av_oxs h).elim id fun y => by cases y) r⟩⟩
theorem xifFr {t : Expr} {w : W Bool} {u : W α} {v : W β} {fr : FtR X.K α} {en : En X.K β} (hc : PTX X PK pp ρ t w) (ha : PE X a (rdFr PK pp ρ u fr)) (hb : PX X PK pp ρ b v en) : PE X (.IfExp t a b pos) (rdFr PK pp ρ (bnd w fun x => grd x u) fr) :=
  (pe_ifExp hc ha hb).weak fun σ H Q ⟨O, Φ, c, S, hw, k⟩ => ⟨O, _, c, S, hw, fun x H' c' p ch S' => by
    cases x with
    | true => exact ⟨O, Φ, c', S', p.2, fun y T v H2 c2 p2 nd fresh ch2 S2 => k y T v H2 c2 p2 nd (fun a ha => chg_none S' ch (fresh a ha)) (ch.trans ch2) S2⟩
    | false => cases p.1⟩
/-- [elt for tg in iter], each item new -/
theorem lc_readFr {own : List (Str × Nat)} {wi : W (List α)} {ext : List (Sl X.K) → α → List (Sl X.K)} {js : List Nat} {g : TG} {f : α → W β} {fr : FtR X.K β} (hj : ∀ j ∈ js, j ∈ own.map (·.2)) (hn : ∀ i ∈ own.map (·.2), get ρ i = .nil) (ho : ∀ x, owns (ext ρ x) = owns ρ) :
    ∀ σ H Q, rdFr PK pp ρ (bnd wi fun xs => mapW f xs) (ftL fr) σ H Q → tLc (rdI PK pp ρ wi ext js g) g tYes (fun σ H Q => ∃ x, rdFr PK pp (ext ρ x) (f x) fr σ H Q) (own.map (·.2)) σ H Q := by
  intro σ H Q ⟨O, Φ, c, S, hw, k⟩
  refine ⟨O, _, c, S, hw, fun xs J H1 c1 p1 ch S1 src hz D hD => ?_⟩
  have nf := nfoot S1 hD
  have hDH := chg_none S1 ch hD
  have mv0 : Mv (Av O pp ρ) (Av (OxS O [D]) pp ρ) H1 (upd H1 D (.lst [])) := fun a o n e => by
    have ne := ne_of_none e hD
    exact ⟨by rw [upd_ne ne]; exact e, fun z => (av_oxs z).elim n fun y => ne (by simpa using y)⟩
  have S10 : Sat PK (OxS O [D]) pp ρ c1 σ (upd H1 D (.lst [])) := (S1.newO (o := .lst []) hD).sameO fun a => ⟨fun z => z.elim .inl fun y => .inr (by simp [y]), fun z => z.elim .inl fun y => .inr (by simpa using y)⟩
  refine ⟨fun i m H' => m = xs.length - i ∧ i ≤ xs.length ∧ ∃ acc vs T c', H' D = some (.lst vs) ∧ FtRs fr (Av (OxS O (D :: T)) pp ρ) H' T vs acc ∧ vs.length ≤ i ∧ (D :: T).Nodup ∧ (∀ a ∈ T, H1 a = none) ∧ Chg pp (upd H1 D (.lst [])) (upd H' D (.lst [])) ∧ Sat PK (OxS O (D :: T)) pp ρ c' σ H' ∧ mapW f (xs.drop i) (fun ys c => Φ (acc ++ ys) c) noX c',
    ⟨xs.length, by simp, Nat.zero_le _, [], [], [], c1, upd_same, .nil, Nat.zero_le _, by simp, (fun a h => by cases h), by rw [upd_upd]; exact .refl, S10, by simpa using p1⟩, ?_⟩
  rintro i m H' ⟨rfl, hi', acc, vs, T, c', eD, fD, lD, nd, frT, chD, S', hw'⟩
  have mv : Mv (Av O pp ρ) (Av (OxS O (D :: T)) pp ρ) H1 H' := fun a o n e => by
    have ne : a ≠ D := ne_of_none e hD
    have z := chD a o (by rw [upd_ne ne]; exact e) fun z => n (.inr (.inl z))
    rw [upd_ne ne] at z
    refine ⟨z, fun y => ?_⟩
    rcases av_oxs y with y | y
    · exact n y
    · rcases List.mem_cons.mp y with y | y
      · exact ne y
      · rw [frT a y] at e; cases e
  by_cases hlt : i < xs.length
  · refine .inr ⟨src.go i H' _ hlt mv, fun H3 => ∃ acc vs T c', H3 D = some (.lst vs) ∧ FtRs fr (Av (OxS O (D :: T)) pp ρ) H3 T vs acc ∧ vs.length ≤ i + 1 ∧ (D :: T).Nodup ∧ (∀ a ∈ T, H1 a = none) ∧ Chg pp (upd H1 D (.lst [])) (upd H3 D (.lst [])) ∧ Sat PK (OxS O (D :: T)) pp ρ c' σ H3 ∧ mapW f (xs.drop (i + 1)) (fun ys c => Φ (acc ++ ys) c) noX c', fun H3 q => ⟨xs.length - (i + 1), by omega, rfl, hlt, q⟩, fun v H2 y => ?_⟩
    obtain ⟨us, H3, eus, sm, S3, hQ⟩ := src.yld i xs[i] H' v H2 pp ρ (OxS O (D :: T)) c' (wipe σ (own.map (·.2))) (List.getElem?_eq_getElem hlt) mv (S'.wipe hn) y
    refine hQ _ ⟨wipe_setAll fun u hu => hj _ (by rw [← eus]; exact List.mem_map.mpr ⟨u, hu, rfl⟩), ?_⟩
    unfold tYes
    simp only [if_true]
    rw [List.drop_eq_getElem_cons hlt] at hw'
    refine ⟨xs[i], OxS O (D :: T), _, c', S3, hw', fun y T1 v4 H4 c4 q nd1 fr1 ch4 S4 r4 => ?_⟩
    have e4 : H4 D = some (.lst vs) := ch4 D _ (sm D _ eD) nf
    have dT : ∀ a ∈ D :: T, H3 a ≠ none := fun a ha => S3.dom a (.inr ha)
    have nT1 : ∀ a ∈ T1, a ∉ D :: T := fun a h1 h2 => dT a h2 (fr1 a h1)
    have fr1' : ∀ a ∈ T1, H' a = none := fun a h1 => by
      cases e : H' a with
      | none => rfl
      | some o => have z := sm a o e; rw [fr1 a h1] at z; cases z
    have fr1'' : ∀ a ∈ T1, H1 a = none := fun a h1 => by
      cases e : H1 a with
      | none => rfl
      | some o =>
        by_cases hf : foot pp a
        · exact absurd (fr1 a h1) (S3.av a (.inr (.inl hf)))
        · have ne : a ≠ D := ne_of_none e hD
          have z := chD a o (by rw [upd_ne ne]; exact e) hf
          rw [upd_ne ne, fr1' a h1] at z
          cases z
    have nfT : ∀ a ∈ T, ¬ foot pp a := fun a ha hf => S1.av a (.inr (.inl hf)) (frT a ha)
    have ch5 : Chg pp H' H4 := fun a o e hf => ch4 a o (sm a o e) hf
    have eqT : ∀ a ∈ T, H4 a = H' a := fun a ha => by
      cases e : H' a with
      | none => exact absurd e (S'.dom a (.inr (List.mem_cons_of_mem _ ha)))
      | some o => exact ch5 a o e (nfT a ha)
    have nDT : ∀ a ∈ T, a ≠ D := fun a ha e => (List.nodup_cons.mp nd).1 (by rw [← e]; exact ha)
    have nDT1 : ∀ a ∈ T1, a ≠ D := fun a ha e => nT1 a ha (by rw [e]; exact List.mem_cons_self)
    have dT1 : ∀ a ∈ T1, H4 a ≠ none := fr.dom r4
    have S5 : Sat PK (OxS O (D :: (T ++ T1))) pp ρ c4 σ H4 := (S'.grow ch5 S4.pool fr1' dT1).sameO fun a => by
      unfold OxS
      rw [List.mem_cons, List.mem_cons, List.mem_append, or_assoc, or_assoc]
    refine ⟨vs, e4, Nat.lt_of_le_of_lt lD (Nat.lt_of_lt_of_le hlt hz), acc ++ [y], vs ++ [v4], T ++ T1, c4, upd_same, ?_, by rw [List.length_append]; exact Nat.succ_le_succ lD, ?_, ?_, ?_, S5.updO (.inr List.mem_cons_self) nf, ?_⟩
    · have mv4 : Mv (Av (OxS O (D :: T)) pp ρ) (Av (OxS O (D :: (T ++ T1))) pp ρ) H' (upd H4 D (.lst (vs ++ [v4]))) := fun a o n e => by
        have ne : a ≠ D := fun z => n (oxs_av (.inr (by rw [z]; exact List.mem_cons_self)))
        rw [upd_ne ne]
        refine ⟨ch5 a o e fun z => n (.inr (.inl z)), fun z => ?_⟩
        rcases av_oxs z with z | z
        · exact n (oxs_av (.inl z))
        · rcases List.mem_cons.mp z with z | z
          · exact ne z
          · rcases List.mem_append.mp z with z | z
            · exact n (oxs_av (.inr (List.mem_cons_of_mem _ z)))
            · rw [fr1' a z] at e; cases e
      have mv5 : Mv (Av (OxS (OxS O (D :: T)) T1) pp (ext ρ xs[i])) (Av (OxS O (D :: (T ++ T1))) pp ρ) H4 (upd H4 D (.lst (vs ++ [v4]))) := fun a o n e => by
        have ne : a ≠ D := fun z => n (oxs_av (.inl (.inl (.inr (by rw [z]; exact List.mem_cons_self)))))
        rw [upd_ne ne]
        refine ⟨e, fun z => n ?_⟩
        rcases av_oxs z with z | z
        · rcases z with z | z | z
          · exact .inl (.inl (.inl z))
          · exact .inr (.inl z)
          · exact .inr (.inr (by rw [ho]; exact z))
        · rcases List.mem_cons.mp z with z | z
          · exact absurd z ne
          · rcases List.mem_append.mp z with z | z
            · exact .inl (.inl (.inr (List.mem_cons_of_mem _ z)))
            · exact .inl (.inr z)
      exact (fD.mono mv4 fun a ha => by rw [upd_ne (nDT a ha)]; exact eqT a ha).snoc (fr.mono mv5 (fun a ha => upd_ne (nDT1 a ha)) r4)
    · have nd0 := List.nodup_cons.mp nd
      rw [List.nodup_cons]
      refine ⟨fun z => ?_, ?_⟩
      · rcases List.mem_append.mp z with z | z
        · exact nd0.1 z
        · exact nDT1 D z rfl
      · rw [List.nodup_append]
        exact ⟨nd0.2, nd1, fun a ha b hb e => nT1 b hb (by rw [← e]; exact List.mem_cons_of_mem _ ha)⟩
    · intro a ha
      rcases List.mem_append.mp ha with ha | ha
      · exact frT a ha
      · exact fr1'' a ha
    · intro a o e hf
      have z := chD a o e hf
      rw [upd_upd]
      by_cases ne : a = D
      · subst ne; rw [upd_same] at z ⊢; exact z
      · rw [upd_ne ne] at z ⊢
        exact ch5 a o z hf
    · have q2 : mapW f (xs.drop (i + 1)) (fun ys c => Φ (acc ++ (y :: ys)) c) noX c4 := q
      simpa [List.append_assoc] using q2
  · have e : i = xs.length := by omega
    subst e
    rw [List.drop_length] at hw'
    have hw2 : Φ (acc ++ []) c' := hw'
    rw [List.append_nil] at hw2
    refine .inl ⟨src.stop H' _ mv, k acc (D :: T) _ H' c' hw2 nd (fun a ha => ?_) (fun a o e hf => ?_) S' ⟨D, vs, T, rfl, rfl, eD, fD⟩⟩
    · rcases List.mem_cons.mp ha with z | z
      · rw [z]; exact hDH
      · exact chg_none S1 ch (frT a z)
    · have ne : a ≠ D := ne_of_none e hDH
      have z := chD a o (by rw [upd_ne ne]; exact ch a o e hf) hf
      rw [upd_ne ne] at z
      exact z
theorem xlcFr {elt tg iter : Expr} {scope : Scope} {own : List (Str × Nat)} {wi : W (List α)} {ext : List (Sl X.K) → α → List (Sl X.K)} {js : List Nat} {g : TG} {f : α → W β} {fr : FtR X.K β} (hc : X.calm = true) (hN : X.N.Nodup) (hi : PI X tg iter (rdI PK pp ρ wi ext js g)) (ok : BlkOk X.N X.env.scope scope own)
    (hj : ∀ j ∈ js, j ∈ own.map (·.2)) (hn : ∀ i ∈ own.map (·.2), get ρ i = .nil) (ho : ∀ x, owns (ext ρ x) = owns ρ)
    (hg : ∀ (s : Shared) (H : Hp) (C : Addr) (cl : List (Str × Addr)) (fp : List Addr), PG (X.blk s H scope (compEnvC scope cl C X.env) fp) tg g)
    (he : ∀ (s : Shared) (H : Hp) (C : Addr) (cl : List (Str × Addr)) (fp : List Addr) (x : α), PE (X.blk s H scope (compEnvC scope cl C X.env) fp) elt (rdFr PK pp (ext ρ x) (f x) fr))
    (hs : ∀ x, foldedSetIterable iter X.env x = pure x := by intro _; rfl) :
    PE X (.ListComp elt [⟨tg, iter, [], 0⟩] scope pos) (rdFr PK pp ρ (bnd wi fun xs => mapW f xs) (ftL fr)) :=
  (pe_lc hc hN hi ok hg (fun _ _ _ _ _ => pts_nil) (fun s H C cl fp => ⟨fun pins s' σ H Q I ⟨x, q⟩ => (he s _ C cl fp x).run pins s' σ H Q I q⟩) hs).weak (lc_readFr hj hn ho)
end
end Dc
/-! DcM: x = copied(e); y, z = x[a], b; y[..] = ..: a change within a new tree of two storeys. -/
namespace Dc
open PySem PySem.Spec L2 PyProof.Rows
section
variable {K : PySem.W.Frag} {PK : PoolK} {pp : PP} {ρ : List (Sl K)} {O O' : AS} {c c' : Nat} {σ : L2.St} {H H' : Hp} {α β γ δ : Type} {p : Addr} {o : HO}
def eRef : En K Addr := ⟨fun _ _ v a => v = .ref a, fun _ h => h⟩
theorem put_put : ∀ {ρ : List (Sl K)} {i : Nat} {s t : Sl K}, put (put ρ i s) i t = put ρ i t
  | [], _, _, _ => rfl
  | _ :: _, 0, _, _ => rfl
  | x :: r, i + 1, s, t => congrArg (x :: ·) (put_put (ρ := r))
theorem F2.of_get {R : α → β → Prop} : ∀ {l : List α} {m : List β}, l.length = m.length → (∀ (i : Nat) (a : α) (b : β), l[i]? = some a → m[i]? = some b → R a b) → F2 R l m
  | [], [], _, _ => .nil
  | [], _ :: _, h, _ => by cases h
  | _ :: _, [], h, _ => by cases h
  | a :: l, b :: m, h, f => .cons (f 0 a b rfl rfl) (F2.of_get (Nat.succ.inj h) fun i a b h1 h2 => f (i + 1) a b (by simpa using h1) (by simpa using h2))
/-- a row that stands at r -/
def RowAt (en : En K α) (O : AS) (H : Hp) (r : Addr) (x : List α) : Prop := ∃ us, H r = some (.lst us) ∧ F2 (en.r O H) us x
theorem frs0 {en : En K α} {S : List Addr} {vs : List V} {xs : List α} (h : FtRs (ftE en) O H S vs xs) : S = [] ∧ F2 (en.r O H) vs xs := by
  induction h with
  | nil => exact ⟨rfl, .nil⟩
  | cons q _ ih =>
    obtain ⟨e, r⟩ := q
    obtain ⟨e2, f⟩ := ih
    exact ⟨by rw [e, e2]; rfl, .cons r f⟩
theorem frs1 {en : En K α} {S : List Addr} {vs : List V} {xs : List (List α)} (h : FtRs (ftL (ftE en)) O H S vs xs) : vs = S.map V.ref ∧ F2 (RowAt en O H) S xs := by
  induction h with
  | nil => exact ⟨rfl, .nil⟩
  | cons q _ ih =>
    obtain ⟨a, us, S', e, es, ha, f⟩ := q
    obtain ⟨e0, f0⟩ := frs0 f
    obtain ⟨e2, f2⟩ := ih
    subst e0 es e
    exact ⟨by rw [e2]; rfl, .cons ⟨us, ha, f0⟩ f2⟩
theorem fr2_r {en : En K α} {S : List Addr} {v : V} {xs : List (List α)} (h : (ftL (ftL (ftE en))).r S O H v xs) : ∃ p rs, v = .ref p ∧ S = p :: rs ∧ H p = some (.lst (rs.map V.ref)) ∧ F2 (RowAt en O H) rs xs := by
  obtain ⟨p, vs, rs, e, es, hp, f⟩ := h
  obtain ⟨e2, f2⟩ := frs1 f
  subst e2
  exact ⟨p, rs, e, es, hp, f2⟩
end
section
variable {X : Cx} {PK : PoolK} {pp : PP} {ρ : List (Sl X.K)} {α β γ δ ι : Type}
theorem _root_.L2.PS.ex {X : Cx} {e : Stmt} {ι : Type} {t : ι → TS} (h : ∀ i, PS X e (t i)) : PS X e (fun D σ H => ∃ i, t i D σ H) := ⟨fun pins s σ H D I ⟨i, q⟩ => (h i).run pins s σ H D I q⟩
abbrev RC (ρ : List (Sl X.K)) (en : En X.K α) (i j l : Nat) (p r : Addr) (row : List α) (k : Int) : List (Sl X.K) := put (put (put ρ i (.sh eRef p)) j (.ow r (oL en) row)) l (.sh eI k)
def copW {β : Type} [Inhabited α] (w : W (List (List α))) (w1 w2 : W Int) (w3 : List α → Int → W (Int × α)) (kk : List (List α) → W β) : W β :=
  bnd w fun xs => bnd w1 fun a => grd (ixOk xs a) (bnd w2 fun b => bnd (w3 (ixAt xs a) b) fun q => kk (xs.set ((ixN xs.length a).getD 0) ((ixAt xs a).set ((ixN (ixAt xs a).length q.1).getD 0) q.2)))
theorem scopied [Inhabited α] (i j l : Nat) {x y z : Str} {px py pz pt qx qs pt2 pos1 pos2 : Pos} {kt k2} {call pk1 pk2 : Expr} {st3 : Stmt} {rest : List Stmt} {w : W (List (List α))} {w1 w2 : W Int} {w3 : List α → Int → W (Int × α)} {en : En X.K α} {kk : List (List α) → W (Fl γ δ ι)} {ρ' : γ → List (Sl X.K)} {ρl : δ → List (Sl X.K)} {er : En X.K ι}
    (hc : X.calm = true) (hN : X.N.Nodup) (hgi : get ρ i = .nil) (hgj : get ρ j = .nil) (hgl : get ρ l = .nil) (hij : i ≠ j) (hil : i ≠ l) (hjl : j ≠ l)
    (hRi : ∀ p r row k, get (RC ρ en i j l p r row k) i = .sh eRef p) (hRj : ∀ p r row k, get (RC ρ en i j l p r row k) j = .ow r (oL en) row)
    (h1 : PE X call (rdFr PK pp ρ w (ftL (ftL (ftE en))))) (hk1 : PX X PK pp ρ pk1 w1 eI) (hk2 : PX X PK pp ρ pk2 w2 eI)
    (h3 : ∀ p r row k, PS X st3 (rdN PK pp (RC ρ en i j l p r row k) (w3 row k) fun (_ : Unit) z => put (RC ρ en i j l p r row k) j (.ow r (oL en) (row.set ((ixN row.length z.1).getD 0) z.2))))
    (hr : ∀ y, PSX X PK pp (put ρ i (.sh (eL (eL en)) y)) rest (kk y) ρ' ρl er)
    (hlr : Nat.blt i ρ.length = true := by rfl) (hxi : X.N[i]? = some x := by rfl) (hxj : X.N[j]? = some y := by rfl) (hxl : X.N[l]? = some z := by rfl)
    (hx : Loc X.env.scope x := by first | exact Or.inl rfl | exact Or.inr rfl) (hf : X.fn x = true ∨ X.env.scope.names.lookup x = some .local := by first | exact .inl rfl | exact .inr rfl)
    (hs : swapsWith call (some (.Name x px)) pos1.line X.env = pure false := by rfl)
    (hyl : X.env.scope.names.lookup y = some .local := by rfl) (hzl : X.env.scope.names.lookup z = some .local := by rfl)
    (hv : Vis X.env.scope x := by first | exact Or.inl rfl | exact Or.inr (Or.inl rfl) | exact Or.inr (Or.inr rfl)) (hd : (x == ("__debug__" : Str)) = false := by decide) (hcd : (x == ("__classdict__" : Str)) = false := by decide)
    (hpl : PlainIx pk1 := by exact fun _ _ => rfl)
    (hst1 : starEach [Expr.Subscript (.Name x qx) pk1 qs, pk2] X.env = (false, eval (.Subscript (.Name x qx) pk1 qs) X.env) :: starEach [pk2] X.env := by rfl) (hst2 : starEach [pk2] X.env = (false, eval pk2 X.env) :: starEach [] X.env := by rfl)
    (hw : swappedStores [.Tuple [.Name y py, .Name z pz] kt pt] (.Tuple [.Subscript (.Name x qx) pk1 qs, pk2] k2 pt2) X.env = pure (some [y, z]) := by rfl)
    (hs2 : swapsWithSole [.Tuple [.Name y py, .Name z pz] kt pt] (.Tuple [.Subscript (.Name x qx) pk1 qs, pk2] k2 pt2) pos2.line X.env = pure false := by rfl) :
    PSX X PK pp ρ (.Assign [.Name x px] call pos1 :: .Assign [.Tuple [.Name y py, .Name z pz] kt pt] (.Tuple [.Subscript (.Name x qx) pk1 qs, pk2] k2 pt2) pos2 :: st3 :: rest)
      (copW w w1 w2 w3 kk) ρ' ρl er := by
  have t1 := ps_set (pos := pos1) (pos' := px) hN hxi hx h1 hs hf
  have t2 := ps_par (pos := pos2) (px := py) (py := pz) hc hN hxj hxl hjl hyl hzl (pa_cons (pe_ix (pos := qs) ix_list (pe_var (pos := qx) hxi hv hd hcd) hk1 hpl) (pa_cons hk2 pa_nil hst2) hst1) hw hs2
  refine (pss_cons t1 (pss_cons t2 (pss_cons (PS.ex fun q : Addr × Addr × List α × Int => h3 q.1 q.2.1 q.2.2.1 q.2.2.2) (PSs.ex hr)))).weak fun D σ H ⟨O, Φ, c, S, hw0, kD⟩ => ?_
  refine ⟨O, _, c, S, hw0, fun xs S0 v H1 c1 p1 nd fresh ch1 S1 r1 => ?_⟩
  obtain ⟨p, rs, rfl, rfl, hp, f1⟩ := fr2_r r1
  have lr : i < ρ.length := by simpa [Nat.blt_eq] using hlr
  change tSeq (tPar j l (tCons (tOp (rIxL X.K) (tVar i) (rdE PK pp ρ w1 eI)) (tCons (rdE PK pp ρ w2 eI) tNil))) _ D (σ.set i (some (V.ref p))) H1
  have S1j := S1.junk (v := .ref p) hgi
  have hσ1 : (σ.set i (some (V.ref p)))[i]? = some (some (.ref p)) := List.getElem?_set_self (by rw [S.len]; exact lr)
  generalize hs1 : σ.set i (some (V.ref p)) = σ1 at S1j hσ1
  have nfS : ∀ a ∈ p :: rs, ¬ foot pp a := fun a ha hf => S.av a (.inr (.inl hf)) (fresh a ha)
  have noS : ∀ a ∈ p :: rs, a ∉ owns ρ := fun a ha ho => S.av a (.inr (.inr ho)) (fresh a ha)
  have hp0 : p ∈ p :: rs := List.mem_cons_self
  have inS : ∀ {r}, r ∈ rs → r ∈ p :: rs := fun h => List.mem_cons_of_mem _ h
  refine ⟨.ref p, hσ1, OxS O (p :: rs), _, c1, S1j, p1, fun a v1 H2 c2 p2 ch2 S2 ra => ?_⟩
  obtain ⟨pa, p2⟩ := p2
  obtain ⟨m, hm⟩ := Option.isSome_iff_exists.mp pa
  have hlt := ixN_lt hm
  obtain ⟨r, er1, us, hus, fus⟩ := f1.get (List.getElem?_eq_getElem hlt)
  have exs : xs[m] = ixAt xs a := by
    unfold ixAt
    rw [hm, Option.getD_some, List.getD_eq_getElem?_getD, List.getElem?_eq_getElem hlt]
    rfl
  rw [exs] at fus
  have hrm : r ∈ rs := by
    have := List.mem_of_getElem? er1
    exact this
  have hp2 : H2 p = some (.lst (rs.map V.ref)) := ch2 p _ hp (nfS p hp0)
  have hat : atI (rs.map V.ref) a = some (.ref r) := by
    unfold atI
    rw [List.length_map, f1.length, hm]
    show (rs.map V.ref)[m]? = _
    rw [List.getElem?_map, er1]
    rfl
  refine ⟨p, rs.map V.ref, a, .ref r, rfl, ra, SqL.of hp2, hat, OxS O (p :: rs), _, c2, S2, p2, fun b v2 H3 c3 p3 ch3 S3 rb => ?_⟩
  refine ⟨.ref r, v2, rfl, ?_⟩
  have rb : v2 = .int b := rb
  subst rb
  -- where all stands ahead of the store
  have ch13 := ch2.trans ch3
  have hp3 : H3 p = some (.lst (rs.map V.ref)) := ch13 p _ hp (nfS p hp0)
  have nrp : r ≠ p := fun e => (List.nodup_cons.mp nd).1 (by rw [← e]; exact hrm)
  have nnd := (List.nodup_cons.mp nd).2
  obtain ⟨O3, hO3⟩ : ∃ O3 : AS, O3 = fun a => O a ∨ (a ∈ p :: rs ∧ a ≠ r) := ⟨_, rfl⟩
  have nO : ∀ a ∈ p :: rs, ¬ O a := fun a ha ho => S.dom a ho (fresh a ha)
  have S3a : Sat PK (Ox O3 r) pp ρ c3 σ1 H3 := S3.sameO fun a => by
    rw [hO3]
    constructor
    · rintro (h | h)
      · exact .inl (.inl h)
      · by_cases e : a = r
        · exact .inr e
        · exact .inl (.inr ⟨h, e⟩)
    · rintro ((h | h) | h)
      · exact .inl h
      · exact .inr h.1
      · exact .inr (by rw [h]; exact inS hrm)
  have S3b : Sat PK (Ox O3 r) pp (put ρ i (.sh eRef p)) c3 σ1 H3 := by
    have z := S3a.put (i := i) (en := eRef) (x := p) (v := .ref p) rfl
    rw [← hs1, List.set_set, hs1] at z
    exact z
  have no3 : ¬ O3 r := by
    rw [hO3]
    rintro (h | h)
    · exact nO r (inS hrm) h
    · exact h.2 rfl
  have hr3 : H3 r = some (.lst us) := ch13 r _ hus (nfS r (inS hrm))
  have mv13 : Mv (Av (OxS O (p :: rs)) pp ρ) (Av (OxS O (p :: rs)) pp ρ) H1 H3 := ch13.mv
  have S3c := S3b.own (i := j) (on := oL en) (x := ixAt xs a) (nfS r (inS hrm)) no3 ⟨us, hr3, fus.imp fun _ _ h => en.mono (Mv.less fun b z => by
    rcases z with (z | z) | z | z
    · rw [hO3] at z
      rcases z with z | z
      · exact .inl (.inl z)
      · exact .inl (.inr z.1)
    · exact .inl (.inr (by rw [z]; exact inS hrm))
    · exact .inr (.inl z)
    · exact .inr (.inr (own_put_sh z))) (en.mono mv13 h)⟩
  have S3d := S3c.put (i := l) (en := eI) (x := b) (v := .int b) rfl
  refine ⟨(p, r, ixAt xs a, b), O3, _, c3, S3d, p3, fun _ q H4 c4 p4 σ4 st4 S4 => ?_⟩
  -- behind the store
  replace S4 : Sat PK O3 pp (put (RC ρ en i j l p r (ixAt xs a) b) j (.ow r (oL en) ((ixAt xs a).set ((ixN (ixAt xs a).length q.1).getD 0) q.2))) c4 σ4 H4 := S4
  replace st4 : Stp pp (RC ρ en i j l p r (ixAt xs a) b) (put (RC ρ en i j l p r (ixAt xs a) b) j (.ow r (oL en) ((ixAt xs a).set ((ixN (ixAt xs a).length q.1).getD 0) q.2))) H3 H4 := st4
  generalize hrow : (ixAt xs a).set ((ixN (ixAt xs a).length q.1).getD 0) q.2 = row' at S4 st4 p4
  have ownsR : ∀ {k : Int} {d : Addr}, d ∈ owns (RC ρ en i j l p r (ixAt xs a) k) → d = r ∨ d ∈ owns ρ := fun {k d} z => by
    have z := own_put_sh z
    rcases owns_put z with z | z
    · exact .inl (by simpa [own1] using z)
    · exact .inr (own_put_sh z)
  have keep4 : ∀ d o, H3 d = some o → ¬ foot pp d → d ≠ r → d ∉ owns ρ → H4 d = some o := fun d o e n1 n2 n3 => st4.keep d o e n1 fun z => (ownsR z).elim n2 n3
  have hp4 : H4 p = some (.lst (rs.map V.ref)) := keep4 p _ hp3 (nfS p hp0) (Ne.symm nrp) (noS p hp0)
  have gi4 : get (put (RC ρ en i j l p r (ixAt xs a) b) j (.ow r (oL en) row')) i = .sh eRef p := by rw [get_put_ne hij]; exact hRi _ _ _ _
  have hσ4 : σ4[i]? = some (some (.ref p)) := by
    have z := S4.slots i
    rw [gi4] at z
    obtain ⟨v, e1, e2⟩ := z
    rw [e1, show v = V.ref p from e2]
  have gj4 : get (put (RC ρ en i j l p r (ixAt xs a) b) j (.ow r (oL en) row')) j = .ow r (oL en) row' := by
    rcases get_put_self (ρ := RC ρ en i j l p r (ixAt xs a) b) (i := j) (s := Sl.ow r (oL en) row') with e | e
    · exact e
    · have hl := get_len (ρ := RC ρ en i j l p r (ixAt xs a) b) (i := j) (by rw [hRj]; intro z; cases z)
      exfalso
      have gg : ∀ {r0 : List (Sl X.K)} {n : Nat} {s : Sl X.K}, n < r0.length → get (put r0 n s) n = s := fun {r0} => by
        induction r0 with
        | nil => intro n s h; cases h
        | cons h0 t ih =>
          intro n s h
          cases n with
          | zero => rfl
          | succ n => exact ih (by simpa using h)
      rw [gg hl] at e
      cases e
  obtain ⟨_, us', hus', fus'⟩ : σ4[j]? = some (some (.ref r)) ∧ ∃ us', H4 r = some (.lst us') ∧ F2 (en.r (Av O3 pp (put (RC ρ en i j l p r (ixAt xs a) b) j (.ow r (oL en) row'))) H4) us' row' := by
    have z := S4.slots j
    rw [gj4] at z
    exact z
  -- what is owned in ρ is owned there
  have ownsUp : ∀ d ∈ owns ρ, d ∈ owns (put (RC ρ en i j l p r (ixAt xs a) b) j (.ow r (oL en) row')) := fun d hd => by
    obtain ⟨n, α', on, x0, e⟩ := mem_owns hd
    have n1 : n ≠ i := fun z => by rw [z, hgi] at e; cases e
    have n2 : n ≠ j := fun z => by rw [z, hgj] at e; cases e
    have n3 : n ≠ l := fun z => by rw [z, hgl] at e; cases e
    exact owns_mem (i := n) (on := on) (x := x0) (by rw [get_put_ne n2, get_put_ne n3, get_put_ne n2, get_put_ne n1]; exact e)
  have owns_pi : ∀ d, d ∈ owns (put ρ i (.sh (eRef : En X.K Addr) p)) → d ∈ owns ρ := fun d z => own_put_sh z
  -- the two helpers forgotten
  have S5 : Sat PK O pp (put ρ i (.sh eRef p)) c4 σ4 H4 := by
    have z : Sat PK O3 pp (put ρ i (.sh eRef p)) c4 σ4 H4 := S4.drop (by simp only [put_len]) (by rw [owns_free rfl (by rw [hgi]; rfl)]; exact S.nd) (fun d z => ownsUp d (owns_pi d z)) fun n => by
      by_cases n2 : n = j
      · left; rw [n2, get_put_ne (Ne.symm hij)]; exact hgj
      · by_cases n3 : n = l
        · left; rw [n3, get_put_ne (Ne.symm hil)]; exact hgl
        · right; rw [get_put_ne n2, get_put_ne n3, get_put_ne n2]
    exact z.subO fun a h => by rw [hO3]; exact .inl h
  have nAv : ∀ d ∈ p :: rs, ¬ Av O pp (put ρ i (.sh (eRef : En X.K Addr) p)) d := fun d hd z => by
    rcases z with z | z | z
    · exact nO d hd z
    · exact nfS d hd z
    · exact noS d hd (owns_pi d z)
  have rfin : (eL (eL en)).r (Av O pp (put ρ i (.sh eRef p))) H4 (.ref p) (xs.set m row') := by
    refine ⟨p, rs.map V.ref, rfl, ⟨nAv p hp0, hp4⟩, F2.of_get (by rw [List.length_map, List.length_set]; exact f1.length) fun n u x0 hu hx0 => ?_⟩
    rw [List.getElem?_map] at hu
    cases hrn : rs[n]? with
    | none => rw [hrn] at hu; cases hu
    | some d =>
      rw [hrn] at hu
      have hu : u = .ref d := (Option.some.inj hu).symm
      subst hu
      have hdm : d ∈ rs := List.mem_of_getElem? hrn
      by_cases hnm : n = m
      · subst hnm
        rw [hrn] at er1
        have e : d = r := Option.some.inj er1
        subst e
        rw [List.getElem?_set_self hlt] at hx0
        have hx0 : row' = x0 := Option.some.inj hx0
        subst hx0
        exact ⟨d, us', rfl, ⟨nAv d (inS hdm), hus'⟩, fus'.imp fun _ _ => en.mono (Mv.less fun a z => by
          rcases z with z | z | z
          · exact .inl (by rw [hO3]; exact .inl z)
          · exact .inr (.inl z)
          · exact .inr (.inr (ownsUp a (owns_pi a z))))⟩
      · rw [List.getElem?_set_ne (Ne.symm hnm)] at hx0
        obtain ⟨x1, hx1, us1, hus1, fus1⟩ := f1.get' hrn
        have e : x1 = x0 := by rw [hx0] at hx1; exact (Option.some.inj hx1).symm
        subst e
        have ndr : d ≠ r := fun e => by
          subst e
          exact hnm ((List.getElem?_inj (List.getElem?_eq_some_iff.mp hrn).1 nnd).mp (hrn.trans er1.symm))
        refine ⟨d, us1, rfl, ⟨nAv d (inS hdm), keep4 d _ (ch13 d _ hus1 (nfS d (inS hdm))) (nfS d (inS hdm)) ndr (noS d (inS hdm))⟩, fus1.imp fun _ _ => en.mono fun a o na e => ?_⟩
        have nf : ¬ foot pp a := fun z => na (.inr (.inl z))
        have nS : a ∉ p :: rs := fun z => na (oxs_av (.inr z))
        refine ⟨keep4 a o (ch13 a o e nf) nf (fun z => nS (by rw [z]; exact inS hrm)) fun z => na (.inr (.inr z)), fun z => ?_⟩
        rcases z with z | z | z
        · exact na (.inl (.inl z))
        · exact nf z
        · exact na (.inr (.inr (owns_pi a z)))
  have S6 := S5.put (i := i) rfin
  rw [put_put] at S6
  have hset : σ4.set i (some (.ref p)) = σ4 := by
    apply List.ext_getElem?
    intro n
    by_cases hn : n = i
    · subst hn
      have hl : n < σ4.length := by
        rcases Nat.lt_or_ge n σ4.length with g | g
        · exact g
        · rw [List.getElem?_eq_none g] at hσ4; cases hσ4
      rw [List.getElem?_set_self hl, hσ4]
    · rw [List.getElem?_set_ne (Ne.symm hn)]
  rw [hset] at S6
  have hm' : (ixN xs.length a).getD 0 = m := by rw [hm]; rfl
  refine ⟨xs.set m row', O, Φ, c4, S6, by rw [hm', hrow] at p4; exact p4, fun fl H5 c5 q5 => (kD fl H5 c5 q5).mono ⟨fun d o e n1 n2 => ?_, fun d z => .inl (own_put_sh z)⟩⟩
  have ndS : d ∉ p :: rs := fun z => by rw [fresh d z] at e; cases e
  exact keep4 d o (ch13 d o (ch1 d o e n1) n1) n1 (fun z => ndS (by rw [z]; exact inS hrm)) n2
end
theorem blk_in2 {X0 : Cx} {N : List Str} {s s2 : Shared} {H H2 : Hp} {scope0 scope1 scope sc : Scope} {C C2 : Addr} {cl cl2 : List (Str × Addr)} {fp fp2 : List Addr} {own : List (Str × Nat)} (hN : X0.N = N) (hs : X0.env.scope = sc) (h : blkC N (relS scope1 (relS scope0 sc)) scope own = true) :
    BlkOk ((X0.blk s H scope0 (compEnvC scope0 cl C X0.env) fp).blk s2 H2 scope1 (compEnvC scope1 cl2 C2 (X0.blk s H scope0 (compEnvC scope0 cl C X0.env) fp).env) fp2).N ((X0.blk s H scope0 (compEnvC scope0 cl C X0.env) fp).blk s2 H2 scope1 (compEnvC scope1 cl2 C2 (X0.blk s H scope0 (compEnvC scope0 cl C X0.env) fp).env) fp2).env.scope scope own :=
  blk_in (X0 := X0.blk s H scope0 (compEnvC scope0 cl C X0.env) fp) (sc := relS scope0 sc) hN (by subst hs; rfl) h
end Dc
/-! DcN: dicts of one's own (whole numbers to values), own lists laid anew in a branch or a loop, own lists lent to a call, insert, x = ys.pop(k), xs[::-1]. -/
namespace Dc
open PySem PySem.Spec L2 PyProof.Rows
/-! ### any address -/
def anyW : W Addr := fun Φ _ c => ∀ a, Φ a c
theorem anyW_c {α : Type} (m : W α) : bnd anyW (fun _ => m) = m := by
  funext Φ Ψ c
  exact propext ⟨fun h => h (0 : Nat), fun h _ => h⟩
section
variable {X : Cx} {PK : PoolK} {pp : PP} {ρ : List (Sl X.K)} {α β γ δ ι : Type} {e a b : Expr} {pos : Pos}
theorem snilA {v : Addr → γ} {ρ' : γ → List (Sl X.K)} {ρl : δ → List (Sl X.K)} {er : En X.K β} (p : Addr) (f : Fit ρ (ρ' (v p))) : PSX X PK pp ρ [] (bnd anyW fun a => ret (.nx (v a))) ρ' ρl er :=
  (pss_nil).weak fun D σ H ⟨O, Φ, c, S, hw, k⟩ => k _ H c (hw p) σ f.stp (S.fit f)
end
/-! ### dicts -/
section
variable {K : PySem.W.Frag} {α β γ : Type} {O O' : AS} {H H' : Hp}
def dInK (d : List (Int × α)) (k : Int) : Bool := d.any fun kv => decide (kv.1 = k)
def dAt [Inhabited α] (d : List (Int × α)) (k : Int) : α := ((d.find? fun kv => decide (kv.1 = k)).map (·.2)).getD default
def dPut (d : List (Int × α)) (k : Int) (v : α) : List (Int × α) := if dInK d k then d.map fun kv => if kv.1 = k then (kv.1, v) else kv else d ++ [(k, v)]
def DKr (en : En K α) (O : AS) (H : Hp) (vk : List (Key × V)) (d : List (Int × α)) : Prop := F2 (fun (p : Key × V) (q : Int × α) => p.1 = Sum.inl q.1 ∧ en.r O H p.2 q.2) vk d
theorem DKr.mono {en : En K α} {vk : List (Key × V)} {d : List (Int × α)} (h : DKr en O H vk d) (m : Mv O O' H H') : DKr en O' H' vk d := h.imp fun _ _ ⟨e, r⟩ => ⟨e, en.mono m r⟩
theorem DKr.keys {en : En K α} {vk : List (Key × V)} {d : List (Int × α)} (h : DKr en O H vk d) : vk.map (·.1) = (d.map (·.1)).map Sum.inl := by
  induction h with
  | nil => rfl
  | cons q _ ih => rw [List.map_cons, List.map_cons, List.map_cons, ih, q.1]
theorem DKr.isin {en : En K α} {vk : List (Key × V)} {d : List (Int × α)} (h : DKr en O H vk d) (k : Int) : (valV vk (Sum.inl k)).isSome = dInK d k := by
  induction h with
  | nil => rfl
  | @cons p q l m r _ ih =>
    unfold dInK at ih ⊢
    rw [List.any_cons]
    by_cases e : q.1 = k
    · rw [valV_pos (show p.1 = Sum.inl k by rw [r.1, e]), decide_eq_true e]
      rfl
    · rw [valV_neg (show ¬ p.1 = Sum.inl k by rw [r.1]; intro z; exact e (Sum.inl.inj z)), decide_eq_false e, ih]
      rfl
theorem DKr.at_ [Inhabited α] {en : En K α} {vk : List (Key × V)} {d : List (Int × α)} (h : DKr en O H vk d) {k : Int} (hi : dInK d k = true) : ∃ v, valV vk (Sum.inl k) = some v ∧ en.r O H v (dAt d k) := by
  induction h with
  | nil => cases hi
  | @cons p q l m r _ ih =>
    by_cases e : q.1 = k
    · refine ⟨p.2, valV_pos (by rw [r.1, e]), ?_⟩
      unfold dAt
      rw [List.find?_cons_of_pos (by simpa using e)]
      exact r.2
    · unfold dInK at hi ih
      rw [List.any_cons, decide_eq_false e, Bool.false_or] at hi
      obtain ⟨v, e1, r1⟩ := ih hi
      refine ⟨v, by rw [valV_neg (show ¬ p.1 = Sum.inl k by rw [r.1]; intro z; exact e (Sum.inl.inj z))]; exact e1, ?_⟩
      unfold dAt at r1 ⊢
      rw [List.find?_cons_of_neg (by simpa using e)]
      exact r1
theorem DKr.any {en : En K α} {vk : List (Key × V)} {d : List (Int × α)} (h : DKr en O H vk d) (k : Int) : (vk.any fun kv => decide (kv.1 = (Sum.inl k : Key))) = dInK d k := by
  induction h with
  | nil => rfl
  | @cons p q l m r _ ih =>
    unfold dInK at ih ⊢
    rw [List.any_cons, List.any_cons, ih]
    congr 1
    rw [r.1]
    by_cases e : q.1 = k
    · rw [decide_eq_true e, decide_eq_true (by rw [e])]
    · rw [decide_eq_false e, decide_eq_false (fun z => e (Sum.inl.inj z))]
theorem DKr.put {en : En K α} {vk : List (Key × V)} {d : List (Int × α)} (h : DKr en O H vk d) {k : Int} {v : V} {x : α} (r : en.r O H v x) : DKr en O H (putK vk (Sum.inl k) v) (dPut d k x) := by
  unfold putK dPut
  rw [h.any]
  cases dInK d k with
  | true =>
    simp only [if_true]
    induction h with
    | nil => exact .nil
    | @cons p q l m q1 _ ih =>
      rw [List.map_cons, List.map_cons]
      refine .cons ?_ ih
      by_cases e : q.1 = k
      · rw [if_pos e, if_pos (by rw [q1.1, e])]
        exact ⟨q1.1, r⟩
      · rw [if_neg e, if_neg (by rw [q1.1]; intro z; exact e (Sum.inl.inj z))]
        exact q1
  | false =>
    simp only [Bool.false_eq_true, if_false]
    exact F2.append h (.cons ⟨rfl, r⟩ .nil)
def oDK (en : En K α) : On K (List (Int × α)) := ⟨fun O H a d => ∃ vk, H a = some (.dK vk) ∧ DKr en O H vk d, fun m h ⟨vk, q, f⟩ => ⟨vk, h.trans q, f.mono m⟩, fun ⟨vk, q, _⟩ z => by rw [q] at z; cases z⟩
/-- a dict that nobody writes at -/
def eDK (en : En K α) : En K (List (Int × α)) := ⟨fun O H v d => ∃ a vk, v = .ref a ∧ ¬ O a ∧ H a = some (.dK vk) ∧ DKr en O H vk d, fun m ⟨a, vk, e, n, h, f⟩ => ⟨a, vk, e, (m a _ n h).2, (m a _ n h).1, f.mono m⟩⟩
def sortI (l : List Int) : List Int := l.mergeSort fun a b => decide (a ≤ b)
theorem sorted_eq : ∀ {l m : List Int}, l.Perm m → l.Pairwise (· ≤ ·) → m.Pairwise (· ≤ ·) → l = m
  | [], m, p, _, _ => (List.Perm.nil_eq p)
  | a :: l, m, p, h1, h2 => by
    cases m with
    | nil => exact absurd p.symm.nil_eq (by simp)
    | cons b m =>
      have ha : a ∈ b :: m := p.mem_iff.mp List.mem_cons_self
      have hb : b ∈ a :: l := p.mem_iff.mpr List.mem_cons_self
      have e : a = b := by
        rcases List.mem_cons.mp ha with z | z
        · exact z
        · rcases List.mem_cons.mp hb with y | y
          · exact y.symm
          · have q1 := (List.pairwise_cons.mp h1).1 b y
            have q2 := (List.pairwise_cons.mp h2).1 a z
            omega
      subst e
      rw [sorted_eq (List.Perm.cons_inv p) (List.pairwise_cons.mp h1).2 (List.pairwise_cons.mp h2).2]
theorem sortI_perm (l : List Int) : (sortI l).Perm l := List.mergeSort_perm l _
theorem sortI_sorted (l : List Int) : (sortI l).Pairwise (· ≤ ·) := by
  have h := List.pairwise_mergeSort (le := fun (a b : Int) => decide (a ≤ b)) (fun a b c h1 h2 => by simp at *; omega) (fun a b => by simp; omega) l
  exact h.imp fun h => by simpa using h
end
section
variable {X : Cx} {PK : PoolK} {pp : PP} {ρ : List (Sl X.K)} {α β γ δ ι : Type} {e a b : Expr} {pos : Pos}
/-- x = {} -/
theorem ndnew (i : Nat) {x : Str} {p1 p2 : Pos} (en : En X.K α) (hN : X.N.Nodup) (hi : X.N[i]? = some x := by rfl) (hx : Loc X.env.scope x := by first | exact Or.inl rfl | exact Or.inr rfl) (hs : swapsWith (.Dict [] [] p2) (some (.Name x p1)) pos.line X.env = pure false := by rfl)
    (hf : X.fn x = true ∨ X.env.scope.names.lookup x = some .local := by first | exact .inl rfl | exact .inr rfl) : PS X (.Assign [.Name x p1] (.Dict [] [] p2) pos) (rdN PK pp ρ (ret ()) fun (p : Addr) (_ : Unit) => put ρ i (.ow p (oDK en) [])) :=
  (ps_set hN hi hx pe_dnewK hs hf).weak fun D σ H ⟨O, Φ, c, S, hw, k⟩ => fun p hp => k p () _ c hw _ ⟨fun a o e n _ => by rw [upd_ne (ne_of_none e hp)]; exact e, fun a z => by
    rcases owns_put z with z | z
    · have z : a = p := by simpa [own1] using z
      rw [z]; exact .inr ⟨hp, nfoot S hp⟩
    · exact .inl z⟩ ((S.newO (o := .dK []) hp).own (nfoot S hp) (fun z => S.av p (.inl z) hp) ⟨[], upd_same, .nil⟩)
theorem own_dk {O : AS} {c : Nat} {σ : L2.St} {H : Hp} {i : Nat} {p : Addr} {en : En X.K α} {d : List (Int × α)} (S : Sat PK O pp ρ c σ H) (hg : get ρ i = .ow p (oDK en) d) : σ[i]? = some (some (.ref p)) ∧ ∃ vk, H p = some (.dK vk) ∧ DKr en (Av O pp ρ) H vk d := by
  have q := S.slots i
  rw [hg] at q
  exact q
/-- k in d, k not in d -/
theorem tdin (i : Nat) {x : Str} {p' : Pos} {wk : W Int} {en : En X.K α} {p : Addr} {d : List (Int × α)} {A : Nat} (hg : get ρ i = .ow p (oDK en) d) (hr : Room A X.A) (h : PX X PK pp ρ a wk eI) (hN : X.N[i]? = some x := by rfl)
    (hv : Vis X.env.scope x := by first | exact Or.inl rfl | exact Or.inr (Or.inl rfl) | exact Or.inr (Or.inr rfl)) (hd : (x == ("__debug__" : Str)) = false := by decide) (hcd : (x == ("__classdict__" : Str)) = false := by decide) (hm : behindInMarks .In (.Name x p') = false := by rfl) :
    PTX X PK pp ρ (.Compare a [.In] [.Name x p'] pos) (bnd wk fun k => ret (dInK d k)) :=
  (pt_cmp (pc_din (by have := hr.units; omega) h (pe_var hN hv hd hcd)) hm).weak fun σ H Q ⟨O, Φ, c, S, hw, kk⟩ => ⟨O, _, c, S, hw, fun k v H1 c1 p1 ch S1 r => by
    obtain ⟨e1, vk, e2, f⟩ := own_dk S1 hg
    have r : v = .int k := r
    subst r
    exact ⟨_, e1, p, _, rfl, DGet.k (k := Sum.inl k) e2, _, rfl, by rw [f.isin]; exact kk _ _ c1 p1 ch S1⟩⟩
theorem tdnotin (i : Nat) {x : Str} {p' : Pos} {wk : W Int} {en : En X.K α} {p : Addr} {d : List (Int × α)} {A : Nat} (hg : get ρ i = .ow p (oDK en) d) (hr : Room A X.A) (h : PX X PK pp ρ a wk eI) (hN : X.N[i]? = some x := by rfl)
    (hv : Vis X.env.scope x := by first | exact Or.inl rfl | exact Or.inr (Or.inl rfl) | exact Or.inr (Or.inr rfl)) (hd : (x == ("__debug__" : Str)) = false := by decide) (hcd : (x == ("__classdict__" : Str)) = false := by decide) (hm : behindInMarks .NotIn (.Name x p') = false := by rfl) :
    PTX X PK pp ρ (.Compare a [.NotIn] [.Name x p'] pos) (bnd wk fun k => ret (!dInK d k)) :=
  (pt_cmp (pc_dnotin (by have := hr.units; omega) h (pe_var hN hv hd hcd)) hm).weak fun σ H Q ⟨O, Φ, c, S, hw, kk⟩ => ⟨O, _, c, S, hw, fun k v H1 c1 p1 ch S1 r => by
    obtain ⟨e1, vk, e2, f⟩ := own_dk S1 hg
    have r : v = .int k := r
    subst r
    exact ⟨_, e1, p, _, rfl, DGet.k (k := Sum.inl k) e2, _, rfl, by rw [f.isin]; exact kk _ _ c1 p1 ch S1⟩⟩
/-- d[k], d one's own -/
theorem xdget [Inhabited α] (i : Nat) {x : Str} {p' : Pos} {wk : W Int} {en : En X.K α} {p : Addr} {d : List (Int × α)} {A : Nat} (hg : get ρ i = .ow p (oDK en) d) (hr : Room A X.A) (h : PX X PK pp ρ a wk eI) (hN : X.N[i]? = some x := by rfl)
    (hv : Vis X.env.scope x := by first | exact Or.inl rfl | exact Or.inr (Or.inl rfl) | exact Or.inr (Or.inr rfl)) (hd : (x == ("__debug__" : Str)) = false := by decide) (hcd : (x == ("__classdict__" : Str)) = false := by decide) (hs : NoSl a := by exact fun _ _ => rfl) :
    PX X PK pp ρ (.Subscript (.Name x p') a pos) (bnd wk fun k => grd (dInK d k) (ret (dAt d k))) en :=
  (pe_dget (by have := hr.units; omega) (pe_var hN hv hd hcd) h hs).weak fun σ H Q ⟨O, Φ, c, S, hw, kk⟩ => by
    obtain ⟨e1, _⟩ := own_dk S hg
    refine ⟨_, e1, O, _, c, S, hw, fun k v H1 c1 p1 ch S1 r => ?_⟩
    obtain ⟨_, vk, e2, f⟩ := own_dk S1 hg
    have r : v = .int k := r
    subst r
    obtain ⟨v1, ev, rv⟩ := f.at_ p1.1
    exact ⟨p, v1, rfl, by rw [← ev]; exact DGet.k (k := Sum.inl k) e2, kk _ _ _ c1 p1.2 ch S1 rv⟩
/-- d[k], d any -/
theorem xdgetS [Inhabited α] {wd : W (List (Int × α))} {wk : W Int} {en : En X.K α} {A : Nat} (hr : Room A X.A) (h0 : PX X PK pp ρ b wd (eDK en)) (h : PX X PK pp ρ a wk eI) (hs : NoSl a := by exact fun _ _ => rfl) :
    PX X PK pp ρ (.Subscript b a pos) (bnd wd fun d => bnd wk fun k => grd (dInK d k) (ret (dAt d k))) en :=
  (pe_dget (by have := hr.units; omega) h0 h hs).weak fun σ H Q ⟨O, Φ, c, S, hw, kk⟩ => two S hw fun d k v u H1 c1 p1 ch S1 r1 r2 => by
    obtain ⟨p, vk, rfl, n, e2, f⟩ := r1
    have r2 : u = .int k := r2
    subst r2
    obtain ⟨v1, ev, rv⟩ := f.at_ p1.1
    exact ⟨p, v1, rfl, by rw [← ev]; exact DGet.k (k := Sum.inl k) e2, kk _ _ _ c1 p1.2 ch S1 rv⟩
/-- d[k] = e -/
theorem ndput (i : Nat) {x : Str} {ix : Expr} {p' pos' : Pos} {wv : W α} {wk : W Int} {en : En X.K α} {p : Addr} {d : List (Int × α)} {A : Nat} (hg : get ρ i = .ow p (oDK en) d) (hr : Room A X.A) (h : PX X PK pp ρ e wv en) (hk : PX X PK pp ρ ix wk eI) (hN : X.N[i]? = some x := by rfl)
    (hv : Vis X.env.scope x := by first | exact Or.inl rfl | exact Or.inr (Or.inl rfl) | exact Or.inr (Or.inr rfl)) (hd : (x == ("__debug__" : Str)) = false := by decide) (hcd : (x == ("__classdict__" : Str)) = false := by decide) (hs : swapsWith e (some (.Subscript (.Name x p') ix pos')) pos.line X.env = pure false := by rfl) :
    PS X (.Assign [.Subscript (.Name x p') ix pos'] e pos) (rdN PK pp ρ (bnd wv fun v => bnd wk fun k => grd (decide (d.length < 16777216)) (ret (k, v))) fun (_ : Unit) z => put ρ i (.ow p (oDK en) (dPut d z.1 z.2))) :=
  (ps_dput (by have := hr.units; omega) (pe_var hN hv hd hcd) hk h hs).weak fun D σ H ⟨O, Φ, c, S, hw, kk⟩ => ⟨O, _, c, S, hw, fun y v H1 c1 p1 ch1 S1 r1 => by
    obtain ⟨e1, _⟩ := own_dk S1 hg
    refine ⟨_, e1, O, _, c1, S1, p1, fun k u H2 c2 p2 ch2 S2 r2 => ?_⟩
    obtain ⟨_, vk, e2, f⟩ := own_dk S2 hg
    have r2 : u = .int k := r2
    subst r2
    have lk : vk.length < sizeLine := by rw [F2.length f, sizeLine_eq]; exact of_decide_eq_true p2.1
    refine ⟨p, _, rfl, DPut.k (k := Sum.inl k) e2 lk, ?_⟩
    have mv : Mv (Av O pp ρ) (Av O pp ρ) H2 (upd H2 p (.dK (putK vk (Sum.inl k) v))) := fun b o n e => ⟨by rw [upd_ne (fun z => n (by rw [z]; exact .inr (.inr (owns_mem hg))))]; exact e, n⟩
    obtain ⟨S3, st⟩ := S2.chgOwn (o := .dK (putK vk (Sum.inl k) v)) (on' := oDK en) (y := dPut d k y) hg ⟨_, upd_same, (f.put (en.mono ch2.mv r1)).mono mv⟩
    exact kk () (k, y) _ c2 p2.2 σ ((Stp.of_chg (ch1.trans ch2) fun _ z => z).trans st) S3⟩
/-- sorted(d), d one's own -/
theorem xsortD (i : Nat) {x : Str} {p' p2 : Pos} {en : En X.K α} {p : Addr} {d : List (Int × α)} (hc : X.calm = true) (hg : get ρ i = .ow p (oDK en) d) (hm : X.mg "sorted" = none) (hN : X.N[i]? = some x := by rfl)
    (hv : Vis X.env.scope x := by first | exact Or.inl rfl | exact Or.inr (Or.inl rfl) | exact Or.inr (Or.inr rfl)) (hd : (x == ("__debug__" : Str)) = false := by decide) (hcd : (x == ("__classdict__" : Str)) = false := by decide)
    (hgl : Gl X "sorted" := by rfl) (he : starEach [Expr.Name x p'] X.env = (false, eval (.Name x p') X.env) :: starEach [] X.env := by rfl) (hpl : (backTo pos (starEach [] X.env)).any (·.1) = false := by rfl) :
    PX X PK pp ρ (.Call (.Name "sorted" p2) [.Name x p'] [] pos) (grd (decide (d.length < 64)) (ret (sortI (d.map (·.1))))) (eL eI) :=
  (pe_callB (call_sortedDI hc) hgl hm (by decide +kernel) (pa_cons (pe_var hN hv hd hcd) pa_nil he) (by decide) (by decide) he hpl).weak fun σ H Q ⟨O, Φ, c, S, hw, kk⟩ => by
    obtain ⟨e1, vk, e2, f⟩ := own_dk S hg
    refine ⟨_, e1, p, vk, d.map (·.1), rfl, .inl e2, f.keys, by rw [List.length_map]; exact of_decide_eq_true hw.1, fun ys q hp hs nq => ?_⟩
    have ey : ys = sortI (d.map (·.1)) := sorted_eq (hp.trans (sortI_perm _).symm) hs (sortI_sorted _)
    have s := same_new (o := .lst (ys.map V.int)) nq
    refine kk _ _ _ c hw.2 (.of s) (S.same s) ⟨q, _, rfl, ⟨new_at S.av nq, upd_same⟩, ?_⟩
    rw [← ey]
    generalize ys = l
    induction l with
    | nil => exact .nil
    | cons y r ih => exact .cons rfl ih
/-- an own dict is read alone from then on -/
theorem ndfreeze (i : Nat) {p : Addr} {en : En X.K α} {xs : List (Int × α)} {rest : List Stmt} {w : W (Fl γ δ β)} {ρ' : γ → List (Sl X.K)} {ρl : δ → List (Sl X.K)} {er : En X.K β} (hg : get ρ i = .ow p (oDK en) xs) (h : PSX X PK pp (put ρ i (.sh (eDK en) xs)) rest w ρ' ρl er) : PSX X PK pp ρ rest w ρ' ρl er :=
  h.weak fun D σ H ⟨O, Φ, c, S, hw, k⟩ => by
    obtain ⟨e1, vs, e2, f2⟩ := own_dk S hg
    have hm := owns_mem hg
    have hne : ∀ a, a ∈ owns (put ρ i (.sh (eDK en) xs)) → a ∈ owns ρ := fun a z => by
      rcases owns_put z with z | z
      · cases z
      · exact z
    have less : ∀ a, Av O pp (put ρ i (.sh (eDK en) xs)) a → Av O pp ρ a := fun a z => by
      rcases z with z | z | z
      · exact .inl z
      · exact .inr (.inl z)
      · exact .inr (.inr (hne a z))
    have np : p ∉ owns (put ρ i (.sh (eDK en) xs)) := fun z => by
      obtain ⟨j, α', on, y, e⟩ := mem_owns z
      by_cases hj : j = i
      · subst hj
        rcases get_put_self (ρ := ρ) (i := j) (s := Sl.sh (eDK en) xs) with q | q <;> rw [q] at e <;> cases e
      · rw [get_put_ne hj] at e
        exact hj (owns_inj S.nd e hg)
    have S' : Sat PK O pp (put ρ i (.sh (eDK en) xs)) c σ H := by
      refine ⟨by rw [put_len]; exact S.len, owns_put_nodup S.nd (own1_nodup _) (fun b hb => by cases hb), fun a ha => S.new a (hne a ha), S.dom, S.pool, fun j => ?_⟩
      by_cases hj : j = i
      · subst hj
        rcases get_put_self (ρ := ρ) (i := j) (s := Sl.sh (eDK en) xs) with q | q
        · rw [q]
          refine ⟨_, e1, p, vs, rfl, fun z => ?_, e2, f2.mono (Mv.less less)⟩
          rcases z with z | z | z
          · exact (S.new p hm).1 z
          · exact (S.new p hm).2 z
          · exact np z
        · rw [q]; exact True.intro
      · rw [get_put_ne hj]
        exact (S.slots j).mv (Mv.less less) fun _ _ => rfl
    have st : Stp pp ρ (put ρ i (.sh (eDK en) xs)) H H := ⟨fun a o e _ _ => e, fun a z => .inl (hne a z)⟩
    exact ⟨O, Φ, c, S', hw, fun fl H' c' q => by
      have z := k fl H' c' q
      cases fl with
      | nx s => exact fun σ' t S2 => z σ' (st.trans t) S2
      | bk s => exact fun σ' t S2 => z σ' (st.trans t) S2
      | ct s => exact fun σ' t S2 => z σ' (st.trans t) S2
      | rt r => exact fun v ch pl r => z v (fun a o e n no => ch a o e n fun y => no (hne a y)) pl r⟩
/-! ### xs[::-1], xs.insert, x = ys.pop(k) -/
theorem xrev {w : W (List α)} {en : En X.K α} {k : Nat} {p1 p2 p3 : Pos} (h : PX X PK pp ρ e w (eL en)) : PX X PK pp ρ (.Subscript e (.Slice none none (some (.UnaryOp .USub (.Constant (.int 1) k p1) p2)) p3) pos) (bnd w fun x => ret x.reverse) (eL en) :=
  (pe_revL h).weak fun σ H Q ⟨O, Φ, c, S, hw, kk⟩ => ⟨O, _, c, S, hw, fun x v H1 c1 p1 ch S1 r => by
    obtain ⟨b, vs, rfl, l, f⟩ := r
    refine ⟨b, vs, rfl, l.sq, fun q nq => ?_⟩
    have s := same_new (o := .lst vs.reverse) nq
    exact kk _ _ _ c1 p1 (ch.trans (.of s)) (S1.same s) ⟨q, _, rfl, ⟨new_at S1.av nq, upd_same⟩, f.rev.imp fun _ _ => en.mono (Mv.same s)⟩⟩
def insOk {α : Type} (xs : List α) (k : Int) : Bool := decide (0 ≤ k) && decide (k < 2 ^ 63) && decide (xs.length < 16777216)
def insAt {α : Type} (xs : List α) (k : Int) (y : α) : List α := xs.take k.toNat ++ [y] ++ xs.drop k.toNat
theorem ninsert (i : Nat) {x : Str} {ix : Expr} {p' apos cpos : Pos} {wx : W Int} {w : W α} {en : En X.K α} {p : Addr} {xs : List α} (hg : get ρ i = .ow p (oL en) xs) (hx : PX X PK pp ρ ix wx eI) (h : PX X PK pp ρ a w en) (hN : X.N[i]? = some x := by rfl)
    (hv : Vis X.env.scope x := by first | exact Or.inl rfl | exact Or.inr (Or.inl rfl) | exact Or.inr (Or.inr rfl)) (hd : (x == ("__debug__" : Str)) = false := by decide) (hcd : (x == ("__classdict__" : Str)) = false := by decide)
    (hbase : attributeBase (.Name x p') "insert" X.env (eval (.Name x p') X.env) = eval (.Name x p') X.env := by rfl)
    (hfew : ((backTo cpos (starEach [ix, a] X.env)).all (fun x => !x.1) && (backToKw cpos (keywordEach [] X.env)).all (fun x => x.1.isSome) && decide ([ix, a].length + ([] : List Keyword).length + (if ([] : List Keyword).isEmpty then 0 else 1) < 30)) = true := by rfl)
    (hline : (apos.endLine == cpos.line) = true := by rfl) (hs : starEach [ix, a] X.env = (false, eval ix X.env) :: starEach [a] X.env := by rfl) (hs2 : starEach [a] X.env = (false, eval a X.env) :: starEach [] X.env := by rfl) (hplain : (backTo cpos (starEach [a] X.env)).any (·.1) = false := by rfl)
    (hsw : swapsWith (.Call (.Attribute (.Name x p') "insert" apos) [ix, a] [] cpos) none pos.line X.env = pure false := by rfl) :
    PS X (.Expr (.Call (.Attribute (.Name x p') "insert" apos) [ix, a] [] cpos) pos) (rdN PK pp ρ (bnd wx fun k => bnd w fun y => grd (insOk xs k) (ret (k, y))) fun (_ : Unit) z => put ρ i (.ow p (oL en) (insAt xs z.1 z.2))) :=
  (ps_expr (pe_bm PySem.F.plainAttrs_list PySem.F.slot_list_insert PySem.F.type_list_insert mt_insert (pe_var hN hv hd hcd) (pa_cons hx (pa_cons h pa_nil hs2) hs) hbase hfew hline hs hplain) hsw).weak fun D σ H ⟨O, Φ, c, S, hw, kk⟩ => by
    have q := S.slots i
    rw [hg] at q
    obtain ⟨e1, vs, e2, f2⟩ := q
    refine ⟨_, e1, .inl ⟨rfl, _, SqL.of e2⟩, O, _, c, S, hw, fun k v H1 c1 p1 ch1 S1 r1 => ⟨O, _, c1, S1, p1, fun y u H2 c2 p2 ch2 S2 r2 => ?_⟩⟩
    have r1 : v = .int k := r1
    subst r1
    have q := S2.slots i
    rw [hg] at q
    obtain ⟨_, vs, e2, f2⟩ := q
    have g := p2.1
    simp only [insOk, Bool.and_eq_true, decide_eq_true_eq] at g
    refine ⟨p, vs, k, u, rfl, rfl, e2, by rw [f2.length, sizeLine_eq]; exact g.2, g.1.1, g.1.2, ?_⟩
    have mv : Mv (Av O pp ρ) (Av O pp ρ) H2 (upd H2 p (.lst (vs.take k.toNat ++ [u] ++ vs.drop k.toNat))) := fun b o n e => ⟨by rw [upd_ne (fun z => n (by rw [z]; exact .inr (.inr (owns_mem hg))))]; exact e, n⟩
    obtain ⟨S3, st⟩ := S2.chgOwn (o := .lst (vs.take k.toNat ++ [u] ++ vs.drop k.toNat)) (on' := oL en) (y := insAt xs k y) hg ⟨_, upd_same, (((f2.take _).append (.cons r2 .nil)).append (f2.drop _)).imp fun _ _ => en.mono mv⟩
    exact kk () (k, y) _ c2 p2.2 σ ((Stp.of_chg (ch1.trans ch2) fun _ z => z).trans st) S3
def popAtOk {α : Type} (ys : List α) (k : Int) : Bool := ixOk ys k && decide (-(2 ^ 63) ≤ k) && decide (k < 2 ^ 63)
/-- x = ys.pop(k), ys one's own -/
theorem npopA [Inhabited α] (i j : Nat) {x y : Str} {ix : Expr} {q' px bpos dpos : Pos} {wx : W Int} {en : En X.K α} {q : Addr} {ys : List α} (hij : i ≠ j) (hN0 : X.N.Nodup) (hg2 : get ρ j = .ow q (oL en) ys) (h : PX X PK pp ρ ix wx eI) (hN : X.N[i]? = some x := by rfl) (hN2 : X.N[j]? = some y := by rfl)
    (hx : Loc X.env.scope x := by first | exact Or.inl rfl | exact Or.inr rfl) (hf : X.fn x = true ∨ X.env.scope.names.lookup x = some .local := by first | exact .inl rfl | exact .inr rfl)
    (hv2 : Vis X.env.scope y := by first | exact Or.inl rfl | exact Or.inr (Or.inl rfl) | exact Or.inr (Or.inr rfl)) (hd2 : (y == ("__debug__" : Str)) = false := by decide) (hcd2 : (y == ("__classdict__" : Str)) = false := by decide)
    (hbase2 : attributeBase (.Name y q') "pop" X.env (eval (.Name y q') X.env) = eval (.Name y q') X.env := by rfl)
    (hfew2 : ((backTo dpos (starEach [ix] X.env)).all (fun x => !x.1) && (backToKw dpos (keywordEach [] X.env)).all (fun x => x.1.isSome) && decide ([ix].length + ([] : List Keyword).length + (if ([] : List Keyword).isEmpty then 0 else 1) < 30)) = true := by rfl)
    (hline2 : (bpos.endLine == dpos.line) = true := by rfl) (hs2 : starEach [ix] X.env = (false, eval ix X.env) :: starEach [] X.env := by rfl) (hplain2 : (backTo dpos (starEach [] X.env)).any (·.1) = false := by rfl)
    (hsw : swapsWith (.Call (.Attribute (.Name y q') "pop" bpos) [ix] [] dpos) (some (.Name x px)) pos.line X.env = pure false := by rfl) :
    PS X (.Assign [.Name x px] (.Call (.Attribute (.Name y q') "pop" bpos) [ix] [] dpos) pos) (rdN PK pp ρ (bnd wx fun k => grd (popAtOk ys k) (ret k)) fun (_ : Unit) k => put (put ρ j (.ow q (oL en) (ys.eraseIdx ((ixN ys.length k).getD 0)))) i (.sh en (ixAt ys k))) :=
  (ps_set hN0 hN hx (pe_bm PySem.F.plainAttrs_list PySem.F.slot_list_pop PySem.F.type_list_pop mt_popAt (pe_var hN2 hv2 hd2 hcd2) (pa_cons h pa_nil hs2) hbase2 hfew2 hline2 hs2 hplain2) hsw hf).weak fun D σ H ⟨O, Φ, c, S, hw, kk⟩ => by
    have z := S.slots j
    rw [hg2] at z
    obtain ⟨e3, us, e4, f4⟩ := z
    refine ⟨_, e3, .inl ⟨rfl, _, SqL.of e4⟩, O, _, c, S, hw, fun k v H1 c1 p1 ch S1 r => ?_⟩
    have r : v = .int k := r
    subst r
    have z := S1.slots j
    rw [hg2] at z
    obtain ⟨_, us, e4, f4⟩ := z
    obtain ⟨g1, p2⟩ := p1
    simp only [popAtOk, Bool.and_eq_true, decide_eq_true_eq] at g1
    obtain ⟨m, hm⟩ := Option.isSome_iff_exists.mp g1.1.1
    have hlt := ixN_lt hm
    obtain ⟨v1, gv, rv⟩ := f4.get (List.getElem?_eq_getElem hlt)
    have hm2 : ixN us.length k = some m := by rw [f4.length]; exact hm
    refine ⟨q, us, k, m, v1, rfl, rfl, e4, g1.1.2, g1.2, (ixN_seq hm2).1, gv, ?_⟩
    have mv : Mv (Av O pp ρ) (Av O pp ρ) H1 (upd H1 q (.lst (us.eraseIdx m))) := fun b o n e => ⟨by rw [upd_ne (fun z => n (by rw [z]; exact .inr (.inr (owns_mem hg2))))]; exact e, n⟩
    obtain ⟨S2, st⟩ := S1.chgOwn (o := .lst (us.eraseIdx m)) (on' := oL en) (y := ys.eraseIdx m) hg2 ⟨_, upd_same, (f4.era m).imp fun _ _ => en.mono mv⟩
    have av : ∀ a, Av O pp (put ρ j (.ow q (oL en) (ys.eraseIdx m))) a → Av O pp ρ a := fun a z => by
      rcases z with z | z | z
      · exact .inl z
      · exact .inr (.inl z)
      · rw [owns_same hg2] at z; exact .inr (.inr z)
    have r1 : en.r (Av O pp (put ρ j (.ow q (oL en) (ys.eraseIdx m)))) (upd H1 q (.lst (us.eraseIdx m))) v1 (ixAt ys k) := by
      have e5 : ixAt ys k = ys[m] := by
        unfold ixAt
        rw [hm, Option.getD_some, List.getD_eq_getElem?_getD, List.getElem?_eq_getElem hlt]
        rfl
      rw [e5]
      exact en.mono (mv.trans (Mv.less av)) rv
    have S3 := S2.put (i := i) r1
    refine kk () k _ c1 p2 _ ?_ ?_
    · dsimp only
      rw [hm]
      exact ((Stp.of_chg ch fun _ z => z).trans st).trans ⟨fun a o e _ _ => e, fun a z => .inl (own_put_sh z)⟩
    · dsimp only
      rw [hm]
      exact S3
end
end Dc
/-! DcO: an own list lent to an expression. -/
namespace Dc
open PySem PySem.Spec L2 PyProof.Rows
def NoK (K : PySem.W.Frag) (H : Hp) : Prop := ∀ a o xs, H a = some o → ¬ kTup K a xs
/-- what the result of a lending tells: it is not the list that was lent -/
def Sep {K : PySem.W.Frag} {α β : Type} (en : En K α) (er : En K β) (gd : β → Bool) : Prop := ∀ {O : AS} {H : Hp} {p : Addr} {vs : List V} {xs : List α} {v : V} {y : β}, H p = some (.lst vs) → F2 (en.r O H) vs xs → NoK K H → er.r O H v y → gd y = true → er.r (Ox O p) H v y
section
variable {K : PySem.W.Frag} {α β γ : Type} {en : En K α}
theorem sep_I : Sep en eI (fun _ => true) := fun _ _ _ r _ => r
theorem sep_B : Sep en eB (fun _ => true) := fun _ _ _ r _ => r
theorem sep_U : Sep en eU (fun _ => true) := fun _ _ _ r _ => r
theorem sep_tup {O : AS} {H : Hp} {p a : Addr} {vs xs : List V} (hp : H p = some (.lst vs)) (t : TupAt K O H a xs) : TupAt K (Ox O p) H a xs := by
  rcases t with ⟨n, t⟩ | t
  · refine .inl ⟨fun z => ?_, t⟩
    rcases z with z | z
    · exact n z
    · subst z
      rcases t with t | ⟨o, t⟩ <;> (rw [hp] at t; cases t)
  · exact .inr t
theorem sep_P {e1 : En K β} {e2 : En K γ} (h1 : Sep en e1 (fun _ => true)) (h2 : Sep en e2 (fun _ => true)) : Sep en (eP e1 e2) (fun _ => true) := fun hp f nk ⟨a, u, w, e, t, q1, q2⟩ _ => ⟨a, u, w, e, sep_tup hp t, h1 hp f nk q1 rfl, h2 hp f nk q2 rfl⟩
/-- a list of tuples is not a list of lists -/
theorem sep_L {e1 : En K β} {e2 : En K γ} (h1 : Sep (eL en) e1 (fun _ => true)) (h2 : Sep (eL en) e2 (fun _ => true)) : Sep (eL en) (eL (eP e1 e2)) (fun y => !y.isEmpty) := fun {O H p vs xs v y} hp f nk ⟨a, us, e, ⟨na, ha⟩, g⟩ hy => by
  refine ⟨a, us, e, ⟨fun z => ?_, ha⟩, g.imp fun u z r => sep_P h1 h2 hp f nk r rfl⟩
  rcases z with z | z
  · exact na z
  · subst z
    rw [hp] at ha
    have e3 : vs = us := HO.lst.inj (Option.some.inj ha)
    subst e3
    cases g with
    | nil => cases hy
    | cons r _ =>
      cases f with
      | cons q _ =>
        obtain ⟨b, bs, e4, ⟨nb, hb⟩, _⟩ := q
        obtain ⟨b2, u, w, e5, t, _⟩ := r
        rw [e4] at e5
        cases e5
        rcases t with ⟨_, t⟩ | t
        · rcases t with t | ⟨o, t⟩ <;> (rw [hb] at t; cases t)
        · exact nk b _ _ hb t
end
section
variable {X : Cx} {PK : PoolK} {pp : PP} {ρ : List (Sl X.K)} {α β γ δ ι : Type} {e a b : Expr} {pos : Pos}
theorem nok_of {pins : List (Addr × Obj)} {σ : L2.St} {H : Hp} {s : Shared} (I : Inv X pins σ H s) : NoK X.K H := fun a o xs e k => by
  obtain ⟨o', its, n, hl, _⟩ := k
  have hb := I.mod.kin a o' hl
  have := (I.bs a o' hb).2
  rw [e] at this
  cases this
/-- x, y = xs, [] by a tuple (one of the names is a cell), both one's own -/
theorem npairOO (i j : Nat) {x y : Str} {px py pt : Pos} {kt k2 pt2} {lp : Pos} {w : W (List α)} {en1 : En X.K α} (en : En X.K β) (hc : X.calm = true) (hN : X.N.Nodup) (h : PE X a (rdF PK pp ρ w en1)) (hij : i ≠ j := by decide) (hi : X.N[i]? = some x := by rfl) (hj : X.N[j]? = some y := by rfl)
    (hx : Loc X.env.scope x := by first | exact Or.inl rfl | exact Or.inr rfl) (hy : Loc X.env.scope y := by first | exact Or.inl rfl | exact Or.inr rfl)
    (hf : X.fn x = true ∨ X.env.scope.names.lookup x = some .local := by first | exact .inl rfl | exact .inr rfl) (hf2 : X.fn y = true ∨ X.env.scope.names.lookup y = some .local := by first | exact .inl rfl | exact .inr rfl)
    (hs1 : (assignEach [Expr.Name x px, Expr.Name y py] X.env).map (·.2) = assign (.Name x px) X.env :: (assignEach [Expr.Name y py] X.env).map (·.2) := by rfl) (hs2 : (assignEach [Expr.Name y py] X.env).map (·.2) = assign (.Name y py) X.env :: (assignEach [] X.env).map (·.2) := by rfl)
    (hn : (assignEach [Expr.Name x px, Expr.Name y py] X.env).length = 2 := by rfl) (hst : (assignEach [Expr.Name x px, Expr.Name y py] X.env).findIdx? (·.1) = none := by rfl)
    (hsw : swapsWithSole [.Tuple [.Name x px, .Name y py] kt pt] (.Tuple [a, .List [] lp] k2 pt2) pos.line X.env = pure false := by rfl) (hww : swappedStores [.Tuple [.Name x px, .Name y py] kt pt] (.Tuple [a, .List [] lp] k2 pt2) X.env = pure none := by rfl) (h1 : (assignEach [.Tuple [.Name x px, .Name y py] kt pt] X.env).map (·.2) = [assign (.Tuple [.Name x px, .Name y py] kt pt) X.env] := by rfl)
    (he1 : starEach [a, .List [] lp] X.env = (false, eval a X.env) :: starEach [.List [] lp] X.env := by rfl) (he2 : starEach [Expr.List [] lp] X.env = (false, eval (.List [] lp) X.env) :: starEach [] X.env := by rfl) :
    PS X (.Assign [.Tuple [.Name x px, .Name y py] kt pt] (.Tuple [a, .List [] lp] k2 pt2) pos) (rdN PK pp ρ w fun (pq : Addr × Addr) z => put (put ρ i (.ow pq.1 (oL en1) z)) j (.ow pq.2 (oL en) [])) :=
  (ps_asg (pe_tup (pa_cons h (pa_cons (pe_lst pa_nil) pa_nil he2) he1)) (pg_tup hc (pgs_cons (pg_name hN hi hx hf) (pgs_cons (pg_name hN hj hy hf2) pgs_nil hs2) hs1) hn hst) hsw hww h1).weak fun D σ H ⟨O, Φ, c, S, hw, k⟩ => ⟨O, _, c, S, hw, fun z p vs H1 c1 p1 hp ch S1 e f => ⟨Nat.zero_le _, fun q nq => ⟨by show 2 ≤ sizeLine; decide, fun t nt => by
    have fp := nfoot S hp
    have S2 := S1.own (i := i) (on := oL en1) (x := z) fp (fun z => S.av p (.inl z) hp) ⟨vs, e, f⟩
    have fq := nfoot S2 nq
    have nOq : ¬ O q := fun z => S2.av q (.inl z) nq
    have S3 := (S2.newO (o := .lst []) nq).own (i := j) (on := oL en) (x := []) fq nOq ⟨[], upd_same, .nil⟩
    have S4 := S3.same (same_new (o := .tup [.ref p, .ref q]) nt)
    have ft := nfoot S3 nt
    have hq : H q = none := by
      cases e1 : H q with
      | none => rfl
      | some o =>
        have := ch q o e1 fq
        rw [nq] at this; cases this
    have ht : H t = none := by
      cases e1 : H t with
      | none => rfl
      | some o =>
        have y := ch t o e1 ft
        by_cases tq : t = q
        · rw [tq, nq] at y; cases y
        · rw [upd_ne tq, y] at nt; cases nt
    have tt : TupAt X.K (Av O pp (put (put ρ i (.ow p (oL en1) z)) j (.ow q (oL en) []))) (upd (upd H1 q (.lst [])) t (.tup [.ref p, .ref q])) t [.ref p, .ref q] := .inl ⟨new_at S3.av nt, .inl upd_same⟩
    refine ⟨t, [.ref p, .ref q], rfl, tt.sq, rfl, .ref p, [.ref q], rfl, .ref q, [], rfl, rfl, k (p, q) z _ c1 p1 _ ⟨fun b o e n _ => ?_, fun b z => ?_⟩ S4⟩
    · rw [upd_ne (ne_of_none e ht), upd_ne (ne_of_none e hq)]; exact ch b o e n
    · rcases owns_put z with z | z
      · have z : b = q := by simpa [own1] using z
        rw [z]; exact .inr ⟨hq, fq⟩
      · rcases owns_put z with z | z
        · have z : b = p := by simpa [own1] using z
          rw [z]; exact .inr ⟨hp, fp⟩
        · exact .inl z⟩⟩⟩
/-- the state sees an address that the code does not -/
theorem sanyA {ss : List Stmt} {f : Addr → W (Fl γ δ β)} {ρ' : γ → List (Sl X.K)} {ρl : δ → List (Sl X.K)} {er : En X.K β} (p : Addr) (h : PSX X PK pp ρ ss (f p) ρ' ρl er) : PSX X PK pp ρ ss (bnd anyW f) ρ' ρl er :=
  h.weak fun D σ H ⟨O, Φ, c, S, hw, k⟩ => ⟨O, Φ, c, S, hw p, k⟩
theorem lend_in {O : AS} {c : Nat} {σ : L2.St} {H : Hp} {i : Nat} {p : Addr} {en : En X.K α} {xs : List α} (S : Sat PK O pp ρ c σ H) (hg : get ρ i = .ow p (oL en) xs) (hgs : get (put ρ i (.sh (eL en) xs)) i = .sh (eL en) xs) : Sat PK O pp (put ρ i (.sh (eL en) xs)) c σ H := by
  have q := S.slots i
  rw [hg] at q
  obtain ⟨e1, vs, e2, f2⟩ := q
  have hm := owns_mem hg
  have hne : ∀ a, a ∈ owns (put ρ i (.sh (eL en) xs)) → a ∈ owns ρ := fun a z => own_put_sh z
  have less : ∀ a, Av O pp (put ρ i (.sh (eL en) xs)) a → Av O pp ρ a := fun a z => by
    rcases z with z | z | z
    · exact .inl z
    · exact .inr (.inl z)
    · exact .inr (.inr (hne a z))
  have np : p ∉ owns (put ρ i (.sh (eL en) xs)) := fun z => by
    obtain ⟨j, α', on, y, e⟩ := mem_owns z
    by_cases hj : j = i
    · subst hj
      rw [hgs] at e; cases e
    · rw [get_put_ne hj] at e
      exact hj (owns_inj S.nd e hg)
  refine ⟨by rw [put_len]; exact S.len, owns_put_nodup S.nd (own1_nodup _) (fun b hb => by cases hb), fun a ha => S.new a (hne a ha), S.dom, S.pool, fun j => ?_⟩
  by_cases hj : j = i
  · subst hj
    rw [hgs]
    refine ⟨_, e1, p, vs, rfl, ⟨fun z => ?_, e2⟩, f2.imp fun _ _ => en.mono (Mv.less less)⟩
    rcases z with z | z | z
    · exact (S.new p hm).1 z
    · exact (S.new p hm).2 z
    · exact np z
  · rw [get_put_ne hj]
    exact (S.slots j).mv (Mv.less less) fun _ _ => rfl
/-- a test that reads an own list -/
theorem tlend (i : Nat) {p : Addr} {en : En X.K α} {xs : List α} {w : W Bool} (hg : get ρ i = .ow p (oL en) xs) (h : PTX X PK pp (put ρ i (.sh (eL en) xs)) e w)
    (hgs : get (put ρ i (.sh (eL en) xs)) i = .sh (eL en) xs := by rfl) : PTX X PK pp ρ e w := by
  refine ⟨fun pins s σ H Q I ⟨O, Φ, c, S, hw, k⟩ => ?_⟩
  refine thn (h.run pins s σ H (fun b H1 => ∃ c1, Φ b c1 ∧ Chg pp H H1 ∧ Sat PK O pp (put ρ i (.sh (eL en) xs)) c1 σ H1) I ⟨O, _, c, lend_in S hg hgs, hw, fun b H1 c1 p1 ch S1 => ⟨c1, p1, ch, S1⟩⟩) fun b s1 ⟨H1, I1, c1, p1, ch, S1⟩ => ?_
  exact ⟨H1, I1, k b H1 c1 p1 ch (S.chg ch S1.pool)⟩
theorem xlend (i : Nat) {p : Addr} {en : En X.K α} {xs : List α} {w : W β} {er : En X.K β} {gd : β → Bool} (hg : get ρ i = .ow p (oL en) xs) (hsep : Sep en er gd) (h : PX X PK pp (put ρ i (.sh (eL en) xs)) e w er)
    (hgs : get (put ρ i (.sh (eL en) xs)) i = .sh (eL en) xs := by rfl) : PX X PK pp ρ e (bnd w fun y => grd (gd y) (ret y)) er := by
  refine ⟨fun pins s σ H Q I ⟨O, Φ, c, S, hw, k⟩ => ?_⟩
  have q := S.slots i
  rw [hg] at q
  obtain ⟨e1, vs, e2, f2⟩ := q
  have hm := owns_mem hg
  have hne : ∀ a, a ∈ owns (put ρ i (.sh (eL en) xs)) → a ∈ owns ρ := fun a z => own_put_sh z
  have less : ∀ a, Av O pp (put ρ i (.sh (eL en) xs)) a → Av O pp ρ a := fun a z => by
    rcases z with z | z | z
    · exact .inl z
    · exact .inr (.inl z)
    · exact .inr (.inr (hne a z))
  have np : p ∉ owns (put ρ i (.sh (eL en) xs)) := fun z => by
    obtain ⟨j, α', on, y, e⟩ := mem_owns z
    by_cases hj : j = i
    · subst hj
      rw [hgs] at e; cases e
    · rw [get_put_ne hj] at e
      exact hj (owns_inj S.nd e hg)
  have S' : Sat PK O pp (put ρ i (.sh (eL en) xs)) c σ H := by
    refine ⟨by rw [put_len]; exact S.len, owns_put_nodup S.nd (own1_nodup _) (fun b hb => by cases hb), fun a ha => S.new a (hne a ha), S.dom, S.pool, fun j => ?_⟩
    by_cases hj : j = i
    · subst hj
      rw [hgs]
      refine ⟨_, e1, p, vs, rfl, ⟨fun z => ?_, e2⟩, f2.imp fun _ _ => en.mono (Mv.less less)⟩
      rcases z with z | z | z
      · exact (S.new p hm).1 z
      · exact (S.new p hm).2 z
      · exact np z
    · rw [get_put_ne hj]
      exact (S.slots j).mv (Mv.less less) fun _ _ => rfl
  refine thn (h.run pins s σ H (fun v H1 => ∃ y c1, (gd y = true ∧ Φ y c1) ∧ Chg pp H H1 ∧ Sat PK O pp (put ρ i (.sh (eL en) xs)) c1 σ H1 ∧ er.r (Av O pp (put ρ i (.sh (eL en) xs))) H1 v y) I ⟨O, _, c, S', hw, fun y v H1 c1 p1 ch S1 r => ⟨y, c1, p1, ch, S1, r⟩⟩) fun u s1 ⟨v, H1, I1, rv, y, c1, p1, ch, S1, r⟩ => ?_
  have nk := nok_of I1
  have q := S1.slots i
  rw [hgs] at q
  obtain ⟨v2, e3, a2, vs2, e4, ⟨n2, h2⟩, f3⟩ := q
  rw [e1] at e3
  have e3 := Option.some.inj (Option.some.inj e3)
  subst e4
  have e5 : p = a2 := V.ref.inj e3
  subst e5
  refine ⟨v, H1, I1, rv, k y v H1 c1 p1.2 ch (S.chg ch S1.pool) (er.mono (Mv.less fun a z => ?_) (hsep h2 f3 nk r p1.1))⟩
  rcases z with z | z | z
  · exact .inl (.inl z)
  · exact .inl (.inr (.inl z))
  · by_cases e : a = p
    · exact .inr e
    · refine .inl (.inr (.inr ?_))
      obtain ⟨j, α', on, y', e6⟩ := mem_owns z
      have hj : j ≠ i := fun z2 => by
        subst z2
        rw [hg] at e6
        exact e (by cases e6; rfl)
      exact owns_mem (i := j) (on := on) (x := y') (by rw [get_put_ne hj]; exact e6)
end
end Dc
/-! Dm: fractions as pairs, by the library's Rat (no program in sight). -/
namespace Dc
abbrev Fr := Int × Int
def toQ (x : Fr) : Rat := Rat.divInt x.1 x.2
def ofQ (q : Rat) : Fr := (q.num, (q.den : Int))
theorem toQ_ofQ (q : Rat) : toQ (ofQ q) = q := Rat.num_divInt_den q
theorem ofQ_inj {q r : Rat} (h : ofQ q = ofQ r) : q = r := by rw [← toQ_ofQ q, h, toQ_ofQ]
def Red (x : Fr) : Prop := 1 ≤ x.2 ∧ Nat.gcd x.1.natAbs x.2.natAbs = 1
theorem red_ofQ (q : Rat) : Red (ofQ q) := ⟨by have := q.den_pos; show (1 : Int) ≤ (q.den : Int); omega, by
  have := q.reduced
  show Nat.gcd q.num.natAbs ((q.den : Int)).natAbs = 1
  rw [Int.natAbs_natCast]; exact this⟩
theorem low_pos {a b : Int} (h : 0 < b) : (a / ((Nat.gcd a.natAbs b.natAbs : Nat) : Int), b / ((Nat.gcd a.natAbs b.natAbs : Nat) : Int)) = ofQ (Rat.divInt a b) := by
  have e1 := Rat.num_divInt a b
  have e2 := Rat.den_divInt a b
  have hb : b ≠ 0 := by omega
  have hg : b.gcd a = Nat.gcd a.natAbs b.natAbs := by rw [Int.gcd, Nat.gcd_comm]
  rw [hg, Int.sign_eq_one_of_pos h, Int.one_mul] at e1
  rw [hg, if_neg hb] at e2
  unfold ofQ
  rw [e1, e2, Int.natCast_ediv, Int.natAbs_of_nonneg (by omega)]
theorem low_neg {a b : Int} (h : b < 0) : (-a / ((Nat.gcd a.natAbs b.natAbs : Nat) : Int), -b / ((Nat.gcd a.natAbs b.natAbs : Nat) : Int)) = ofQ (Rat.divInt a b) := by
  have := low_pos (a := -a) (b := -b) (by omega)
  rw [Int.natAbs_neg, Int.natAbs_neg, Rat.neg_divInt_neg] at this
  exact this
theorem ofQ_toQ {x : Fr} (h : Red x) : ofQ (toQ x) = x := by
  have := low_pos (a := x.1) (b := x.2) (by have := h.1; omega)
  rw [h.2] at this
  rw [toQ, ← this]
  simp
theorem red_iff {x : Fr} : Red x ↔ ofQ (toQ x) = x := ⟨ofQ_toQ, fun h => h ▸ red_ofQ _⟩
/-- how great the parts are -/
theorem low_le {a b : Int} (h : b ≠ 0) : (ofQ (Rat.divInt a b)).1.natAbs ≤ a.natAbs ∧ (ofQ (Rat.divInt a b)).2.natAbs ≤ b.natAbs := by
  have hd : ∀ (m n : Int) (g : Nat), (m / (g : Int)).natAbs ≤ m.natAbs := fun m n g => Int.natAbs_ediv_le_natAbs _ _
  rcases Int.lt_or_gt_of_ne h with q | q
  · rw [← low_neg q]
    exact ⟨by simpa using hd (-a) 0 _, by simpa using hd (-b) 0 _⟩
  · rw [← low_pos q]
    exact ⟨hd a 0 _, hd b 0 _⟩
theorem toQ_add {x y : Fr} (hx : x.2 ≠ 0) (hy : y.2 ≠ 0) : Rat.divInt (x.1 * y.2 + y.1 * x.2) (x.2 * y.2) = toQ x + toQ y := (Rat.divInt_add_divInt _ _ hx hy).symm
theorem toQ_mul (x y : Fr) : Rat.divInt (x.1 * y.1) (x.2 * y.2) = toQ x * toQ y := (Rat.divInt_mul_divInt _ _).symm
theorem toQ_neg (x : Fr) : toQ (-x.1, x.2) = - toQ x := (Rat.neg_divInt _ _).symm
theorem ofQ_neg (q : Rat) : ofQ (-q) = (-(ofQ q).1, (ofQ q).2) := rfl
theorem red_ne {x : Fr} (h : Red x) : x.2 ≠ 0 := by have := h.1; omega
/-- scaling by a common denominator -/
theorem divInt_of_mul {a b m : Int} (hm : m ≠ 0) : Rat.divInt (a * m) (b * m) = Rat.divInt a b := Rat.divInt_mul_right hm
theorem red_neg {x : Fr} (h : Red x) : Red (-x.1, x.2) := ⟨h.1, by simpa using h.2⟩
theorem red_zero : Red (0, 1) := ⟨by decide, by decide⟩
theorem red_int (n : Int) : Red (n, 1) := ⟨by show (1 : Int) ≤ 1; omega, by simp⟩
theorem toQ_int (n : Int) : toQ (n, 1) = (n : Rat) := by
  have := Rat.num_divInt_den (n : Rat)
  show Rat.divInt n 1 = _
  simpa using this
end Dc
set_option maxHeartbeats 4000000
namespace Dc
open PySem PySem.Spec L2
def topS (i : Nat) : Stmt := PySem.Challenge.pw_toldproducts_k03_whole_the_only_form.main.body.getD i (.Pass ⟨0, 0, 0, 0⟩)
abbrev s_law_pool : Stmt := topS 19
abbrev N_law_pool : List Str := [Str.ofString "_law_script", Str.ofString "_law_mark", Str.ofString "_law_great", Str.ofString "_law_spot", Str.ofString "_law_cell"]
abbrev P_law_pool : List Str := [Str.ofString "_law_script"]
theorem sc_law_pool : FnScope N_law_pool P_law_pool (defScope s_law_pool) := ⟨rfl, rfl, rfl, by decide +kernel, rfl, by decide +kernel, by decide +kernel⟩
abbrev s_law_pick : Stmt := topS 20
abbrev N_law_pick : List Str := [Str.ofString "_law_pool_here", Str.ofString "_law_many", Str.ofString "_law_found", Str.ofString "_law_stir"]
abbrev P_law_pick : List Str := [Str.ofString "_law_pool_here", Str.ofString "_law_many"]
theorem sc_law_pick : FnScope N_law_pick P_law_pick (defScope s_law_pick) := ⟨rfl, rfl, rfl, by decide +kernel, rfl, by decide +kernel, by decide +kernel⟩
abbrev s_lowest : Stmt := topS 6
abbrev N_lowest : List Str := [Str.ofString "above", Str.ofString "below", Str.ofString "common"]
abbrev P_lowest : List Str := [Str.ofString "above", Str.ofString "below"]
theorem sc_lowest : FnScope N_lowest P_lowest (defScope s_lowest) := ⟨rfl, rfl, rfl, by decide +kernel, rfl, by decide +kernel, by decide +kernel⟩
abbrev s_is_number : Stmt := topS 7
abbrev N_is_number : List Str := [Str.ofString "value"]
abbrev P_is_number : List Str := [Str.ofString "value"]
theorem sc_is_number : FnScope N_is_number P_is_number (defScope s_is_number) := ⟨rfl, rfl, rfl, by decide +kernel, rfl, by decide +kernel, by decide +kernel⟩
abbrev s_check_numbers : Stmt := topS 8
abbrev N_check_numbers : List Str := [Str.ofString "numbers", Str.ofString "number"]
abbrev P_check_numbers : List Str := [Str.ofString "numbers"]
theorem sc_check_numbers : FnScope N_check_numbers P_check_numbers (defScope s_check_numbers) := ⟨rfl, rfl, rfl, by decide +kernel, rfl, by decide +kernel, by decide +kernel⟩
abbrev s_integers_of : Stmt := topS 9
abbrev N_integers_of : List Str := [Str.ofString "row", Str.ofString "below", Str.ofString "number"]
abbrev P_integers_of : List Str := [Str.ofString "row"]
theorem sc_integers_of : FnScope N_integers_of P_integers_of (defScope s_integers_of) := ⟨rfl, rfl, rfl, by decide +kernel, rfl, by decide +kernel, by decide +kernel⟩
abbrev s_numbers_of : Stmt := topS 10
abbrev N_numbers_of : List Str := [Str.ofString "integers", Str.ofString "below", Str.ofString "integer"]
abbrev P_numbers_of : List Str := [Str.ofString "integers", Str.ofString "below"]
theorem sc_numbers_of : FnScope N_numbers_of P_numbers_of (defScope s_numbers_of) := ⟨rfl, rfl, rfl, by decide +kernel, rfl, by decide +kernel, by decide +kernel⟩
abbrev s_divided : Stmt := topS 13
abbrev N_divided : List Str := [Str.ofString "integers", Str.ofString "common", Str.ofString "integer"]
abbrev P_divided : List Str := [Str.ofString "integers"]
theorem sc_divided : FnScope N_divided P_divided (defScope s_divided) := ⟨rfl, rfl, rfl, by decide +kernel, rfl, by decide +kernel, by decide +kernel⟩
abbrev s_cleared : Stmt := topS 14
abbrev N_cleared : List Str := [Str.ofString "integers", Str.ofString "head", Str.ofString "place", Str.ofString "common", Str.ofString "scale", Str.ofString "share", Str.ofString "one", Str.ofString "two"]
abbrev P_cleared : List Str := [Str.ofString "integers", Str.ofString "head", Str.ofString "place"]
theorem sc_cleared : FnScope N_cleared P_cleared (defScope s_cleared) := ⟨rfl, rfl, rfl, by decide +kernel, rfl, by decide +kernel, by decide +kernel⟩
abbrev s_reduced : Stmt := topS 15
abbrev N_reduced : List Str := [Str.ofString "rows", Str.ofString "heads", Str.ofString "row", Str.ofString "integers", Str.ofString "place", Str.ofString "firsts", Str.ofString "first"]
abbrev P_reduced : List Str := [Str.ofString "rows"]
theorem sc_reduced : FnScope N_reduced P_reduced (defScope s_reduced) := ⟨rfl, rfl, rfl, by decide +kernel, rfl, by decide +kernel, by decide +kernel⟩
abbrev s_check_rows : Stmt := topS 16
abbrev N_check_rows : List Str := [Str.ofString "rows", Str.ofString "size", Str.ofString "row"]
abbrev P_check_rows : List Str := [Str.ofString "rows", Str.ofString "size"]
theorem sc_check_rows : FnScope N_check_rows P_check_rows (defScope s_check_rows) := ⟨rfl, rfl, rfl, by decide +kernel, rfl, by decide +kernel, by decide +kernel⟩
abbrev s_span : Stmt := topS 17
abbrev N_span : List Str := [Str.ofString "rows", Str.ofString "size"]
abbrev P_span : List Str := [Str.ofString "rows", Str.ofString "size"]
theorem sc_span : FnScope N_span P_span (defScope s_span) := ⟨rfl, rfl, rfl, by decide +kernel, rfl, by decide +kernel, by decide +kernel⟩
abbrev s_law_low : Stmt := topS 21
abbrev N_law_low : List Str := [Str.ofString "_law_above", Str.ofString "_law_below", Str.ofString "_law_one", Str.ofString "_law_two"]
abbrev P_law_low : List Str := [Str.ofString "_law_above", Str.ofString "_law_below"]
theorem sc_law_low : FnScope N_law_low P_law_low (defScope s_law_low) := ⟨rfl, rfl, rfl, by decide +kernel, rfl, by decide +kernel, by decide +kernel⟩
abbrev s_law_add : Stmt := topS 22
abbrev N_law_add : List Str := [Str.ofString "_law_one", Str.ofString "_law_two"]
abbrev P_law_add : List Str := [Str.ofString "_law_one", Str.ofString "_law_two"]
theorem sc_law_add : FnScope N_law_add P_law_add (defScope s_law_add) := ⟨rfl, rfl, rfl, by decide +kernel, rfl, by decide +kernel, by decide +kernel⟩
abbrev s_law_mul : Stmt := topS 23
abbrev N_law_mul : List Str := [Str.ofString "_law_one", Str.ofString "_law_two"]
abbrev P_law_mul : List Str := [Str.ofString "_law_one", Str.ofString "_law_two"]
theorem sc_law_mul : FnScope N_law_mul P_law_mul (defScope s_law_mul) := ⟨rfl, rfl, rfl, by decide +kernel, rfl, by decide +kernel, by decide +kernel⟩
abbrev s_law_number : Stmt := topS 24
abbrev N_law_number : List Str := [Str.ofString "_law_pool_here", Str.ofString "_law_great", Str.ofString "_law_kind", Str.ofString "_law_most", Str.ofString "_law_above", Str.ofString "_law_below"]
abbrev P_law_number : List Str := [Str.ofString "_law_pool_here", Str.ofString "_law_great"]
theorem sc_law_number : FnScope N_law_number P_law_number (defScope s_law_number) := ⟨rfl, rfl, rfl, by decide +kernel, rfl, by decide +kernel, by decide +kernel⟩
abbrev s_law_alike : Stmt := topS 25
abbrev N_law_alike : List Str := [Str.ofString "_law_told", Str.ofString "_law_due", Str.ofString "_law_kind", Str.ofString "_law_k"]
abbrev P_law_alike : List Str := [Str.ofString "_law_told", Str.ofString "_law_due"]
theorem sc_law_alike : FnScope N_law_alike P_law_alike (defScope s_law_alike) := ⟨rfl, rfl, rfl, by decide +kernel, rfl, by decide +kernel, by decide +kernel⟩
abbrev s_law_line : Stmt := topS 26
abbrev N_law_line : List Str := [Str.ofString "_law_pool_here", Str.ofString "_law_wide", Str.ofString "_law_great", Str.ofString "_law_k", Str.ofString "_law_line_here", Str.ofString "_law_turn"]
abbrev P_law_line : List Str := [Str.ofString "_law_pool_here", Str.ofString "_law_wide", Str.ofString "_law_great"]
theorem sc_law_line : FnScope N_law_line P_law_line (defScope s_law_line) := ⟨rfl, rfl, rfl, by decide +kernel, rfl, by decide +kernel, by decide +kernel⟩
abbrev s_law_shape : Stmt := topS 27
abbrev N_law_shape : List Str := [Str.ofString "_law_pool_here", Str.ofString "_law_kind"]
abbrev P_law_shape : List Str := [Str.ofString "_law_pool_here"]
theorem sc_law_shape : FnScope N_law_shape P_law_shape (defScope s_law_shape) := ⟨rfl, rfl, rfl, by decide +kernel, rfl, by decide +kernel, by decide +kernel⟩
abbrev s_law_fitting : Stmt := topS 28
abbrev N_law_fitting : List Str := [Str.ofString "_law_line_here", Str.ofString "_law_one"]
abbrev P_law_fitting : List Str := [Str.ofString "_law_line_here"]
theorem sc_law_fitting : FnScope N_law_fitting P_law_fitting (defScope s_law_fitting) := ⟨rfl, rfl, rfl, by decide +kernel, rfl, by decide +kernel, by decide +kernel⟩
abbrev s_law_dull : Stmt := topS 29
abbrev N_law_dull : List Str := [Str.ofString "_law_pool_here", Str.ofString "_law_lines", Str.ofString "_law_wide", Str.ofString "_law_kind", Str.ofString "_law_line_here", Str.ofString "_law_other", Str.ofString "_law_fee", Str.ofString "_law_found", Str.ofString "_law_one", Str.ofString "_law_a", Str.ofString "_law_b"]
abbrev P_law_dull : List Str := [Str.ofString "_law_pool_here", Str.ofString "_law_lines", Str.ofString "_law_wide"]
theorem sc_law_dull : FnScope N_law_dull P_law_dull (defScope s_law_dull) := ⟨rfl, rfl, rfl, by decide +kernel, rfl, by decide +kernel, by decide +kernel⟩
abbrev s_law_thin : Stmt := topS 30
abbrev N_law_thin : List Str := [Str.ofString "_law_pool_here", Str.ofString "_law_wide", Str.ofString "_law_line_here", Str.ofString "_law_turn"]
abbrev P_law_thin : List Str := [Str.ofString "_law_pool_here", Str.ofString "_law_wide"]
theorem sc_law_thin : FnScope N_law_thin P_law_thin (defScope s_law_thin) := ⟨rfl, rfl, rfl, by decide +kernel, rfl, by decide +kernel, by decide +kernel⟩
abbrev s_law_rows : Stmt := topS 31
abbrev N_law_rows : List Str := [Str.ofString "_law_pool_here", Str.ofString "_law_many", Str.ofString "_law_wide", Str.ofString "_law_great", Str.ofString "_law_thin_here", Str.ofString "_law_lines", Str.ofString "_law_k", Str.ofString "_law_one", Str.ofString "_law_line_here", Str.ofString "_law_turn"]
abbrev P_law_rows : List Str := [Str.ofString "_law_pool_here"]
theorem sc_law_rows : FnScope N_law_rows P_law_rows (defScope s_law_rows) := ⟨rfl, rfl, rfl, by decide +kernel, rfl, by decide +kernel, by decide +kernel⟩
abbrev s_law_minus : Stmt := topS 32
abbrev N_law_minus : List Str := [Str.ofString "_law_row", Str.ofString "_law_share", Str.ofString "_law_head", Str.ofString "_law_a", Str.ofString "_law_b"]
abbrev P_law_minus : List Str := [Str.ofString "_law_row", Str.ofString "_law_share", Str.ofString "_law_head"]
theorem sc_law_minus : FnScope N_law_minus P_law_minus (defScope s_law_minus) := ⟨rfl, rfl, rfl, by decide +kernel, rfl, by decide +kernel, by decide +kernel⟩
abbrev s_law_form : Stmt := topS 33
abbrev N_law_form : List Str := [Str.ofString "_law_rows_here", Str.ofString "_law_size", Str.ofString "_law_left", Str.ofString "_law_found", Str.ofString "_law_row", Str.ofString "_law_place", Str.ofString "_law_spots", Str.ofString "_law_k", Str.ofString "_law_head", Str.ofString "_law_first", Str.ofString "_law_one"]
abbrev P_law_form : List Str := [Str.ofString "_law_rows_here", Str.ofString "_law_size"]
theorem sc_law_form : FnScope N_law_form P_law_form (defScope s_law_form) := ⟨rfl, rfl, rfl, by decide +kernel, rfl, by decide +kernel, by decide +kernel⟩
abbrev s_law_turned : Stmt := topS 34
abbrev N_law_turned : List Str := [Str.ofString "_law_pool_here", Str.ofString "_law_lines", Str.ofString "_law_found", Str.ofString "_law_line_here", Str.ofString "_law_turn", Str.ofString "_law_at", Str.ofString "_law_to", Str.ofString "_law_changed", Str.ofString "_law_a", Str.ofString "_law_b", Str.ofString "_law_fee", Str.ofString "_law_one", Str.ofString "_law_cut"]
abbrev P_law_turned : List Str := [Str.ofString "_law_pool_here", Str.ofString "_law_lines"]
theorem sc_law_turned : FnScope N_law_turned P_law_turned (defScope s_law_turned) := ⟨rfl, rfl, rfl, by decide +kernel, rfl, by decide +kernel, by decide +kernel⟩
abbrev s_law_shaped : Stmt := topS 35
abbrev N_law_shaped : List Str := [Str.ofString "_law_lines", Str.ofString "_law_wide", Str.ofString "_law_starts", Str.ofString "_law_line_here", Str.ofString "_law_full", Str.ofString "_law_k", Str.ofString "_law_start"]
abbrev P_law_shaped : List Str := [Str.ofString "_law_lines", Str.ofString "_law_wide"]
theorem sc_law_shaped : FnScope N_law_shaped P_law_shaped (defScope s_law_shaped) := ⟨rfl, rfl, rfl, by decide +kernel, rfl, by decide +kernel, by decide +kernel⟩
abbrev s_law_holds : Stmt := topS 36
abbrev N_law_holds : List Str := [Str.ofString "_law_lines", Str.ofString "_law_starts", Str.ofString "_law_line_here", Str.ofString "_law_start", Str.ofString "_law_head", Str.ofString "_law_one"]
abbrev P_law_holds : List Str := [Str.ofString "_law_lines", Str.ofString "_law_starts", Str.ofString "_law_line_here"]
theorem sc_law_holds : FnScope N_law_holds P_law_holds (defScope s_law_holds) := ⟨rfl, rfl, rfl, by decide +kernel, rfl, by decide +kernel, by decide +kernel⟩
abbrev s_law : Stmt := topS 37
abbrev N_law : List Str := [Str.ofString "_law_script", Str.ofString "_law_pool_here", Str.ofString "_law_turn", Str.ofString "_law_lines", Str.ofString "_law_wide", Str.ofString "_law_handed", Str.ofString "_law_line_here", Str.ofString "_law_told", Str.ofString "_law_due", Str.ofString "_law_starts", Str.ofString "_law_k", Str.ofString "_law_again"]
abbrev P_law : List Str := [Str.ofString "_law_script"]
theorem sc_law : FnScope N_law P_law (defScope s_law) := ⟨rfl, rfl, rfl, by decide +kernel, rfl, by decide +kernel, by decide +kernel⟩
/-- where all stands -/
structure Txt (K : PySem.W.Frag) (mg : Str → Option Value) where
  a_law_pool : Addr
  d_law_pool : FuncData
  F_law_pool : Fun K (Str.ofString "_law_pool") (Str.ofString "_law_pool") s_law_pool a_law_pool d_law_pool
  m_law_pool : mg (Str.ofString "_law_pool") = some (.ref a_law_pool)
  a_law_pick : Addr
  d_law_pick : FuncData
  F_law_pick : Fun K (Str.ofString "_law_pick") (Str.ofString "_law_pick") s_law_pick a_law_pick d_law_pick
  m_law_pick : mg (Str.ofString "_law_pick") = some (.ref a_law_pick)
  a_lowest : Addr
  d_lowest : FuncData
  F_lowest : Fun K (Str.ofString "lowest") (Str.ofString "lowest") s_lowest a_lowest d_lowest
  m_lowest : mg (Str.ofString "lowest") = some (.ref a_lowest)
  a_is_number : Addr
  d_is_number : FuncData
  F_is_number : Fun K (Str.ofString "is_number") (Str.ofString "is_number") s_is_number a_is_number d_is_number
  m_is_number : mg (Str.ofString "is_number") = some (.ref a_is_number)
  a_check_numbers : Addr
  d_check_numbers : FuncData
  F_check_numbers : Fun K (Str.ofString "check_numbers") (Str.ofString "check_numbers") s_check_numbers a_check_numbers d_check_numbers
  m_check_numbers : mg (Str.ofString "check_numbers") = some (.ref a_check_numbers)
  a_integers_of : Addr
  d_integers_of : FuncData
  F_integers_of : Fun K (Str.ofString "integers_of") (Str.ofString "integers_of") s_integers_of a_integers_of d_integers_of
  m_integers_of : mg (Str.ofString "integers_of") = some (.ref a_integers_of)
  a_numbers_of : Addr
  d_numbers_of : FuncData
  F_numbers_of : Fun K (Str.ofString "numbers_of") (Str.ofString "numbers_of") s_numbers_of a_numbers_of d_numbers_of
  m_numbers_of : mg (Str.ofString "numbers_of") = some (.ref a_numbers_of)
  a_divided : Addr
  d_divided : FuncData
  F_divided : Fun K (Str.ofString "divided") (Str.ofString "divided") s_divided a_divided d_divided
  m_divided : mg (Str.ofString "divided") = some (.ref a_divided)
  a_cleared : Addr
  d_cleared : FuncData
  F_cleared : Fun K (Str.ofString "cleared") (Str.ofString "cleared") s_cleared a_cleared d_cleared
  m_cleared : mg (Str.ofString "cleared") = some (.ref a_cleared)
  a_reduced : Addr
  d_reduced : FuncData
  F_reduced : Fun K (Str.ofString "reduced") (Str.ofString "reduced") s_reduced a_reduced d_reduced
  m_reduced : mg (Str.ofString "reduced") = some (.ref a_reduced)
  a_check_rows : Addr
  d_check_rows : FuncData
  F_check_rows : Fun K (Str.ofString "check_rows") (Str.ofString "check_rows") s_check_rows a_check_rows d_check_rows
  m_check_rows : mg (Str.ofString "check_rows") = some (.ref a_check_rows)
  a_span : Addr
  d_span : FuncData
  F_span : Fun K (Str.ofString "span") (Str.ofString "span") s_span a_span d_span
  m_span : mg (Str.ofString "span") = some (.ref a_span)
  a_law_low : Addr
  d_law_low : FuncData
  F_law_low : Fun K (Str.ofString "_law_low") (Str.ofString "_law_low") s_law_low a_law_low d_law_low
  m_law_low : mg (Str.ofString "_law_low") = some (.ref a_law_low)
  a_law_add : Addr
  d_law_add : FuncData
  F_law_add : Fun K (Str.ofString "_law_add") (Str.ofString "_law_add") s_law_add a_law_add d_law_add
  m_law_add : mg (Str.ofString "_law_add") = some (.ref a_law_add)
  a_law_mul : Addr
  d_law_mul : FuncData
  F_law_mul : Fun K (Str.ofString "_law_mul") (Str.ofString "_law_mul") s_law_mul a_law_mul d_law_mul
  m_law_mul : mg (Str.ofString "_law_mul") = some (.ref a_law_mul)
  a_law_number : Addr
  d_law_number : FuncData
  F_law_number : Fun K (Str.ofString "_law_number") (Str.ofString "_law_number") s_law_number a_law_number d_law_number
  m_law_number : mg (Str.ofString "_law_number") = some (.ref a_law_number)
  a_law_alike : Addr
  d_law_alike : FuncData
  F_law_alike : Fun K (Str.ofString "_law_alike") (Str.ofString "_law_alike") s_law_alike a_law_alike d_law_alike
  m_law_alike : mg (Str.ofString "_law_alike") = some (.ref a_law_alike)
  a_law_line : Addr
  d_law_line : FuncData
  F_law_line : Fun K (Str.ofString "_law_line") (Str.ofString "_law_line") s_law_line a_law_line d_law_line
  m_law_line : mg (Str.ofString "_law_line") = some (.ref a_law_line)
  a_law_shape : Addr
  d_law_shape : FuncData
  F_law_shape : Fun K (Str.ofString "_law_shape") (Str.ofString "_law_shape") s_law_shape a_law_shape d_law_shape
  m_law_shape : mg (Str.ofString "_law_shape") = some (.ref a_law_shape)
  a_law_fitting : Addr
  d_law_fitting : FuncData
  F_law_fitting : Fun K (Str.ofString "_law_fitting") (Str.ofString "_law_fitting") s_law_fitting a_law_fitting d_law_fitting
  m_law_fitting : mg (Str.ofString "_law_fitting") = some (.ref a_law_fitting)
  a_law_dull : Addr
  d_law_dull : FuncData
  F_law_dull : Fun K (Str.ofString "_law_dull") (Str.ofString "_law_dull") s_law_dull a_law_dull d_law_dull
  m_law_dull : mg (Str.ofString "_law_dull") = some (.ref a_law_dull)
  a_law_thin : Addr
  d_law_thin : FuncData
  F_law_thin : Fun K (Str.ofString "_law_thin") (Str.ofString "_law_thin") s_law_thin a_law_thin d_law_thin
  m_law_thin : mg (Str.ofString "_law_thin") = some (.ref a_law_thin)
  a_law_rows : Addr
  d_law_rows : FuncData
  F_law_rows : Fun K (Str.ofString "_law_rows") (Str.ofString "_law_rows") s_law_rows a_law_rows d_law_rows
  m_law_rows : mg (Str.ofString "_law_rows") = some (.ref a_law_rows)
  a_law_minus : Addr
  d_law_minus : FuncData
  F_law_minus : Fun K (Str.ofString "_law_minus") (Str.ofString "_law_minus") s_law_minus a_law_minus d_law_minus
  m_law_minus : mg (Str.ofString "_law_minus") = some (.ref a_law_minus)
  a_law_form : Addr
  d_law_form : FuncData
  F_law_form : Fun K (Str.ofString "_law_form") (Str.ofString "_law_form") s_law_form a_law_form d_law_form
  m_law_form : mg (Str.ofString "_law_form") = some (.ref a_law_form)
  a_law_turned : Addr
  d_law_turned : FuncData
  F_law_turned : Fun K (Str.ofString "_law_turned") (Str.ofString "_law_turned") s_law_turned a_law_turned d_law_turned
  m_law_turned : mg (Str.ofString "_law_turned") = some (.ref a_law_turned)
  a_law_shaped : Addr
  d_law_shaped : FuncData
  F_law_shaped : Fun K (Str.ofString "_law_shaped") (Str.ofString "_law_shaped") s_law_shaped a_law_shaped d_law_shaped
  m_law_shaped : mg (Str.ofString "_law_shaped") = some (.ref a_law_shaped)
  a_law_holds : Addr
  d_law_holds : FuncData
  F_law_holds : Fun K (Str.ofString "_law_holds") (Str.ofString "_law_holds") s_law_holds a_law_holds d_law_holds
  m_law_holds : mg (Str.ofString "_law_holds") = some (.ref a_law_holds)
  a_law : Addr
  d_law : FuncData
  F_law : Fun K (Str.ofString "law") (Str.ofString "law") s_law a_law d_law
  m_law : mg (Str.ofString "law") = some (.ref a_law)
  z_abs : mg (Str.ofString "abs") = none
  z_bool : mg (Str.ofString "bool") = none
  z_enumerate : mg (Str.ofString "enumerate") = none
  z_int : mg (Str.ofString "int") = none
  z_isinstance : mg (Str.ofString "isinstance") = none
  z_len : mg (Str.ofString "len") = none
  z_list : mg (Str.ofString "list") = none
  z_range : mg (Str.ofString "range") = none
  z_sorted : mg (Str.ofString "sorted") = none
  z_tuple : mg (Str.ofString "tuple") = none
  z_zip : mg (Str.ofString "zip") = none
  m_gcd : mg (Str.ofString "gcd") = some (.builtin "math.gcd")
  m_lcm : mg (Str.ofString "lcm") = some (.builtin "math.lcm")
def wb_lowest (x : (Int × Int × Unit)) : W (Fl Empty Empty (Int × Int)) := (bnd (bnd (bnd (ret x.1) fun t4 => bnd (bnd (ret x.2.1) fun t2 => bnd (ret ()) fun t3 => ret (t2, t3)) fun t5 => ret (t4, t5)) fun t6 => grd true (ret ((Nat.gcd t6.1.natAbs t6.2.1.natAbs : Nat) : Int))) fun v1 => (bnd (bnd (bnd (ret x.2.1) fun t7 => bnd (ret (0 : Int)) fun t8 => ret (decide (t7 < t8))) fun b9 => ite b9 (bnd (bnd (ret v1) fun t11 => ret (-t11)) fun v10 => (ret (Fl.nx (v10)))) (ret (Fl.nx (v1)))) (sq fun (s12 : (Int)) => (bnd (bnd (bnd (bnd (ret x.1) fun t13 => bnd (ret s12) fun t14 => grd (fdivOk t13 t14) (ret (Int.fdiv t13 t14))) fun t19 => bnd (bnd (bnd (ret x.2.1) fun t15 => bnd (ret s12) fun t16 => grd (fdivOk t15 t16) (ret (Int.fdiv t15 t16))) fun t17 => bnd (ret ()) fun t18 => ret (t17, t18)) fun t20 => ret (t19, t20)) fun t21 => ret (t21.1, t21.2.1)) fun t22 => ret (Fl.rt t22)))))
def w_lowest (x : (Int × Int × Unit)) : W (Int × Int) := fnR (wb_lowest x)
def wb_is_number (x : ((Int × Int) × Unit)) : W (Fl Empty Empty Bool) := (bnd (bnd (bnd (bnd (ret x.1) fun t23 => ret t23.2) fun t24 => bnd (ret (1 : Int)) fun t25 => ret (decide (t25 ≤ t24))) fun t35 => ite t35 (bnd (bnd (bnd (bnd (ret x.1) fun t26 => ret t26.1) fun t30 => bnd (bnd (bnd (ret x.1) fun t27 => ret t27.2) fun t28 => bnd (ret ()) fun t29 => ret (t28, t29)) fun t31 => ret (t30, t31)) fun t32 => grd true (ret ((Nat.gcd t32.1.natAbs t32.2.1.natAbs : Nat) : Int))) fun t33 => bnd (ret (1 : Int)) fun t34 => ret (decide (t33 = t34))) (ret false)) fun t36 => ret (Fl.rt t36))
def w_is_number (x : ((Int × Int) × Unit)) : W Bool := fnR (wb_is_number x)
def wb_check_numbers (x : ((List (Int × Int)) × Unit)) : W (Fl Unit Empty Unit) := (bnd (bnd (ret x.1) fun xs => forW (fun (s37 : Unit) y38 => (bnd (bnd (bnd (bnd (bnd (ret y38) fun t39 => bnd (ret ()) fun t40 => ret (t39, t40)) w_is_number) fun t41 => ret (!t41)) fun b42 => ite b42 stuck (ret (Fl.nx ()))) (sq fun (_ : Unit) => (ret (Fl.nx ()))))) () xs) (sq fun (s43 : Unit) => (ret (Fl.nx ()))))
def w_check_numbers (x : ((List (Int × Int)) × Unit)) : W Unit := fnU (wb_check_numbers x)
def wb_integers_of (x : ((List (Int × Int)) × Unit)) : W (Fl Empty Empty ((List Int) × Int)) := (bnd (ret (1 : Int)) fun v44 => (bnd (bnd (ret x.1) fun xs => forW (fun (s45 : (Int)) y46 => (bnd (bnd (bnd (ret s45) fun t51 => bnd (bnd (bnd (ret y46) fun t48 => ret t48.2) fun t49 => bnd (ret ()) fun t50 => ret (t49, t50)) fun t52 => ret (t51, t52)) fun t53 => grd (lcmOk t53.1 t53.2.1) (ret ((Nat.lcm t53.1.natAbs t53.2.1.natAbs : Nat) : Int))) fun v47 => (ret (Fl.nx (v47))))) (v44) xs) (sq fun (s54 : (Int)) => (bnd (bnd (bnd (bnd (ret x.1) fun xs62 => mapW (fun y55 => (bnd (bnd (ret y55) fun t56 => ret t56.1) fun t60 => bnd (bnd (ret s54) fun t58 => bnd (bnd (ret y55) fun t57 => ret t57.2) fun t59 => grd (fdivOk t58 t59) (ret (Int.fdiv t58 t59))) fun t61 => grd (mulOk t60 t61) (ret (t60 * t61)))) xs62) fun t65 => bnd (bnd (ret s54) fun t63 => bnd (ret ()) fun t64 => ret (t63, t64)) fun t66 => ret (t65, t66)) fun t67 => ret (t67.1, t67.2.1)) fun t68 => ret (Fl.rt t68)))))
def w_integers_of (x : ((List (Int × Int)) × Unit)) : W ((List Int) × Int) := fnR (wb_integers_of x)
def wb_numbers_of (x : ((List Int) × Int × Unit)) : W (Fl Empty Empty (List (Int × Int))) := (bnd (bnd (ret x.1) fun xs74 => mapW (fun y69 => (bnd (bnd (ret y69) fun t72 => bnd (bnd (ret x.2.1) fun t70 => bnd (ret ()) fun t71 => ret (t70, t71)) fun t73 => ret (t72, t73)) w_lowest)) xs74) fun t75 => ret (Fl.rt t75))
def w_numbers_of (x : ((List Int) × Int × Unit)) : W (List (Int × Int)) := fnR (wb_numbers_of x)
def wb_divided (x : ((List Int) × Unit)) : W (Fl Empty Empty (List Int)) := (bnd (ret (0 : Int)) fun v76 => (bnd (bnd (ret x.1) fun xs => forW (fun (s77 : (Int)) y78 => (bnd (bnd (bnd (ret s77) fun t82 => bnd (bnd (ret y78) fun t80 => bnd (ret ()) fun t81 => ret (t80, t81)) fun t83 => ret (t82, t83)) fun t84 => grd true (ret ((Nat.gcd t84.1.natAbs t84.2.1.natAbs : Nat) : Int))) fun v79 => (bnd (bnd (bnd (ret v79) fun t85 => bnd (ret (1 : Int)) fun t86 => ret (decide (t85 = t86))) fun b87 => ite b87 (bnd (ret x.1) fun t88 => ret (Fl.rt t88)) (ret (Fl.nx ()))) (sq fun (_ : Unit) => (ret (Fl.nx (v79))))))) (v76) xs) (sq fun (s89 : (Int)) => (bnd (bnd (bnd (ret s89) fun t90 => bnd (ret (0 : Int)) fun t91 => ret (decide (t91 < t90))) fun t96 => ite t96 (bnd (ret x.1) fun xs95 => mapW (fun y92 => (bnd (ret y92) fun t93 => bnd (ret s89) fun t94 => grd (fdivOk t93 t94) (ret (Int.fdiv t93 t94)))) xs95) (ret x.1)) fun t97 => ret (Fl.rt t97)))))
def w_divided (x : ((List Int) × Unit)) : W (List Int) := fnR (wb_divided x)
def wb_cleared (x : ((List Int) × (List Int) × Int × Unit)) : W (Fl Empty Empty (List Int)) := (bnd (bnd (bnd (bnd (ret x.1) fun t99 => bnd (ret x.2.2.1) fun t100 => grd (ixOk t99 t100) (ret (ixAt t99 t100))) fun t105 => bnd (bnd (bnd (ret x.2.1) fun t101 => bnd (ret x.2.2.1) fun t102 => grd (ixOk t101 t102) (ret (ixAt t101 t102))) fun t103 => bnd (ret ()) fun t104 => ret (t103, t104)) fun t106 => ret (t105, t106)) fun t107 => grd true (ret ((Nat.gcd t107.1.natAbs t107.2.1.natAbs : Nat) : Int))) fun v98 => (bnd (bnd (bnd (bnd (bnd (ret x.2.1) fun t109 => bnd (ret x.2.2.1) fun t110 => grd (ixOk t109 t110) (ret (ixAt t109 t110))) fun t111 => bnd (ret v98) fun t112 => grd (fdivOk t111 t112) (ret (Int.fdiv t111 t112))) fun t119 => bnd (bnd (bnd (bnd (ret x.1) fun t113 => bnd (ret x.2.2.1) fun t114 => grd (ixOk t113 t114) (ret (ixAt t113 t114))) fun t115 => bnd (ret v98) fun t116 => grd (fdivOk t115 t116) (ret (Int.fdiv t115 t116))) fun t117 => bnd (ret ()) fun t118 => ret (t117, t118)) fun t120 => ret (t119, t120)) fun t121 => ret (t121.1, t121.2.1)) fun v108 => (bnd (bnd (bnd (bnd (bnd (bnd (ret x.1) fun t124 => bnd (bnd (ret x.2.1) fun t122 => bnd (ret ()) fun t123 => ret (t122, t123)) fun t125 => ret (t124, t125)) fun t126 => ret (t126.1.zip t126.2.1)) fun xs134 => mapW (fun y127 => (bnd (bnd (ret v108.1) fun t128 => bnd (ret y127.1) fun t129 => grd (mulOk t128 t129) (ret (t128 * t129))) fun t132 => bnd (bnd (ret v108.2) fun t130 => bnd (ret y127.2) fun t131 => grd (mulOk t130 t131) (ret (t130 * t131))) fun t133 => ret (t132 - t133))) xs134) fun t135 => bnd (ret ()) fun t136 => ret (t135, t136)) w_divided) fun t137 => ret (Fl.rt t137))))
def w_cleared (x : ((List Int) × (List Int) × Int × Unit)) : W (List Int) := fnR (wb_cleared x)
def wb_reduced (x : ((List (List (Int × Int))) × Unit)) : W (Fl Empty Empty (List (List (Int × Int)))) := (bnd (ret ()) fun _ => (bnd (bnd (ret x.1) fun xs => forW (fun (s139 : ((List (Int × (List Int))))) y140 => (bnd (bnd (bnd (bnd (ret y140) fun t142 => bnd (ret ()) fun t143 => ret (t142, t143)) w_integers_of) fun t144 => ret t144.1) fun v141 => (bnd (bnd (bnd (bnd (bnd (bnd (ret v141) fun t145 => bnd (ret ()) fun t146 => ret (t145, t146)) fun t147 => grd true (ret (t147.1.length : Int))) fun t148 => bnd (ret ()) fun t149 => ret (t148, t149)) fun t150 => grd (rngOk 0 t150.1) (ret (rangeF 0 t150.1.toNat))) fun xs => forW (fun (s151 : ((List Int) × (List (Int × (List Int))))) y152 => (bnd (bnd (bnd (bnd (ret s151.1) fun t153 => bnd (ret y152) fun t154 => grd (ixOk t153 t154) (ret (ixAt t153 t154))) fun t155 => bnd (ret (0 : Int)) fun t156 => ret (!decide (t155 = t156))) fun b157 => ite b157 (bnd (bnd (bnd (ret y152) fun t158 => ret (!dInK s151.2 t158)) fun b159 => ite b159 (bnd (bnd (bnd (bnd (ret s151.1) fun t160 => bnd (ret ()) fun t161 => ret (t160, t161)) w_divided) fun t163 => bnd (ret y152) fun t164 => grd (decide (s151.2.length < 16777216)) (ret (t164, t163))) fun v162 => (ret (Fl.bk (s151.1, (dPut s151.2 v162.1 v162.2))))) (ret (Fl.nx ()))) (sq fun (_ : Unit) => (bnd (bnd (bnd (ret s151.1) fun t171 => bnd (bnd (bnd (ret y152) fun t168 => grd (dInK s151.2 t168) (ret (dAt s151.2 t168))) fun t169 => bnd (bnd (ret y152) fun t166 => bnd (ret ()) fun t167 => ret (t166, t167)) fun t170 => ret (t169, t170)) fun t172 => ret (t171, t172)) w_cleared) fun v165 => (ret (Fl.nx (v165, s151.2)))))) (ret (Fl.nx (s151.1, s151.2)))) (sq fun (s173 : ((List Int) × (List (Int × (List Int))))) => (ret (Fl.nx (s173.1, s173.2)))))) (v141, s139) xs) (sq fun (s174 : ((List Int) × (List (Int × (List Int))))) => (ret (Fl.nx (s174.2))))))) (([] : (List (Int × (List Int))))) xs) (sq fun (s175 : ((List (Int × (List Int))))) => (bnd (grd (decide (s175.length < 64)) (ret (sortI (s175.map (·.1))))) fun v176 => (bnd (bnd (bnd (ret v176) fun t177 => ret t177.reverse) fun xs => forW (fun (s178 : ((List (Int × (List Int))))) y179 => (bnd (bnd (ret v176) fun xs => forW (fun (s180 : ((List (Int × (List Int))))) y181 => (bnd (bnd (bnd (bnd (ret y181) fun t182 => bnd (ret y179) fun t183 => ret (decide (t182 < t183))) fun t189 => ite t189 (bnd (bnd (bnd (ret y181) fun t184 => grd (dInK s180 t184) (ret (dAt s180 t184))) fun t185 => bnd (ret y179) fun t186 => grd (ixOk t185 t186) (ret (ixAt t185 t186))) fun t187 => bnd (ret (0 : Int)) fun t188 => ret (!decide (t187 = t188))) (ret false)) fun b190 => ite b190 (bnd (bnd (bnd (bnd (bnd (ret y181) fun t196 => grd (dInK s180 t196) (ret (dAt s180 t196))) fun t197 => bnd (bnd (bnd (ret y179) fun t193 => grd (dInK s180 t193) (ret (dAt s180 t193))) fun t194 => bnd (bnd (ret y179) fun t191 => bnd (ret ()) fun t192 => ret (t191, t192)) fun t195 => ret (t194, t195)) fun t198 => ret (t197, t198)) w_cleared) fun t200 => bnd (ret y181) fun t201 => grd (decide (s180.length < 16777216)) (ret (t201, t200))) fun v199 => (ret (Fl.nx ((dPut s180 v199.1 v199.2))))) (ret (Fl.nx (s180)))) (sq fun (s202 : ((List (Int × (List Int))))) => (ret (Fl.nx (s202)))))) (s178) xs) (sq fun (s203 : ((List (Int × (List Int))))) => (ret (Fl.nx (s203)))))) (s175) xs) (sq fun (s204 : ((List (Int × (List Int))))) => (bnd (bnd (ret v176) fun xs216 => mapW (fun y205 => (bnd (bnd (bnd (ret s204) fun t212 => bnd (ret y205) fun t213 => grd (dInK t212 t213) (ret (dAt t212 t213))) fun t214 => bnd (bnd (bnd (bnd (ret s204) fun t206 => bnd (ret y205) fun t207 => grd (dInK t206 t207) (ret (dAt t206 t207))) fun t208 => bnd (ret y205) fun t209 => grd (ixOk t208 t209) (ret (ixAt t208 t209))) fun t210 => bnd (ret ()) fun t211 => ret (t210, t211)) fun t215 => ret (t214, t215)) w_numbers_of)) xs216) fun t217 => ret (Fl.rt t217))))))))
def w_reduced (x : ((List (List (Int × Int))) × Unit)) : W (List (List (Int × Int))) := fnR (wb_reduced x)
def wb_check_rows (x : ((List (List (Int × Int))) × Int × Unit)) : W (Fl Unit Empty Unit) := (bnd (bnd (ret x.1) fun xs => forW (fun (s218 : Unit) y219 => (bnd (bnd (bnd (ret y219) fun t220 => bnd (ret ()) fun t221 => ret (t220, t221)) w_check_numbers) fun _ => (ret (Fl.nx ())))) () xs) (sq fun (s222 : Unit) => (bnd (bnd (ret x.1) fun xs => forW (fun (s223 : Unit) y224 => (bnd (bnd (bnd (bnd (bnd (ret y224) fun t225 => bnd (ret ()) fun t226 => ret (t225, t226)) fun t227 => grd true (ret (t227.1.length : Int))) fun t228 => bnd (ret x.2.1) fun t229 => ret (!decide (t228 = t229))) fun b230 => ite b230 stuck (ret (Fl.nx ()))) (sq fun (_ : Unit) => (ret (Fl.nx ()))))) () xs) (sq fun (s231 : Unit) => (ret (Fl.nx ()))))))
def w_check_rows (x : ((List (List (Int × Int))) × Int × Unit)) : W Unit := fnU (wb_check_rows x)
def wb_span (x : ((List (List (Int × Int))) × Int × Unit)) : W (Fl Empty Empty (List (List (Int × Int)))) := (bnd (bnd (bnd (ret x.1) fun t234 => bnd (bnd (ret x.2.1) fun t232 => bnd (ret ()) fun t233 => ret (t232, t233)) fun t235 => ret (t234, t235)) w_check_rows) fun _ => (bnd (bnd (bnd (ret x.1) fun t236 => bnd (ret ()) fun t237 => ret (t236, t237)) w_reduced) fun t238 => ret (Fl.rt t238)))
def w_span (x : ((List (List (Int × Int))) × Int × Unit)) : W (List (List (Int × Int))) := fnR (wb_span x)
def wb_law_low (x : (Int × Int × Unit)) : W (Fl Empty Empty (Int × Int)) := (bnd (bnd (bnd (bnd (ret x.1) fun t240 => bnd (ret ()) fun t241 => ret (t240, t241)) fun t242 => grd true (ret (if t242.1 < 0 then -t242.1 else t242.1))) fun t248 => bnd (bnd (bnd (bnd (ret x.2.1) fun t243 => bnd (ret ()) fun t244 => ret (t243, t244)) fun t245 => grd true (ret (if t245.1 < 0 then -t245.1 else t245.1))) fun t246 => bnd (ret ()) fun t247 => ret (t246, t247)) fun t249 => ret (t248, t249)) fun v239 => (bnd (whW (fun (s250 : (Int × Int)) => (bnd (ret s250.2) fun t251 => bnd (ret (0 : Int)) fun t252 => ret (!decide (t251 = t252)))) (fun (s250 : (Int × Int)) => (bnd (bnd (ret s250.2) fun t261 => bnd (bnd (bnd (bnd (bnd (ret s250.1) fun t254 => bnd (ret ()) fun t255 => ret (t254, t255)) fun t256 => grd true (ret t256.1)) fun t257 => bnd (ret s250.2) fun t258 => grd (modOk t257 t258) (ret (t257 % t258))) fun t259 => bnd (ret ()) fun t260 => ret (t259, t260)) fun t262 => ret (t261, t262)) fun v253 => (ret (Fl.nx (v253.1, v253.2.1))))) (Int.toNat v239.2.1 + 1) (v239.1, v239.2.1)) (sq fun (s263 : (Int × Int)) => (bnd (bnd (bnd (ret x.2.1) fun t264 => bnd (ret (0 : Int)) fun t265 => ret (decide (t265 < t264))) fun t286 => ite t286 (bnd (bnd (bnd (ret x.1) fun t266 => bnd (ret s263.1) fun t267 => grd (fdivOk t266 t267) (ret (Int.fdiv t266 t267))) fun t272 => bnd (bnd (bnd (ret x.2.1) fun t268 => bnd (ret s263.1) fun t269 => grd (fdivOk t268 t269) (ret (Int.fdiv t268 t269))) fun t270 => bnd (ret ()) fun t271 => ret (t270, t271)) fun t273 => ret (t272, t273)) fun t274 => ret (t274.1, t274.2.1)) (bnd (bnd (bnd (bnd (ret x.1) fun t275 => ret (-t275)) fun t276 => bnd (ret s263.1) fun t277 => grd (fdivOk t276 t277) (ret (Int.fdiv t276 t277))) fun t283 => bnd (bnd (bnd (bnd (ret x.2.1) fun t278 => ret (-t278)) fun t279 => bnd (ret s263.1) fun t280 => grd (fdivOk t279 t280) (ret (Int.fdiv t279 t280))) fun t281 => bnd (ret ()) fun t282 => ret (t281, t282)) fun t284 => ret (t283, t284)) fun t285 => ret (t285.1, t285.2.1))) fun t287 => ret (Fl.rt t287)))))
def w_law_low (x : (Int × Int × Unit)) : W (Int × Int) := fnR (wb_law_low x)
def wb_law_add (x : ((Int × Int) × (Int × Int) × Unit)) : W (Fl Empty Empty (Int × Int)) := (bnd (bnd (bnd (bnd (bnd (bnd (ret x.1) fun t294 => ret t294.1) fun t296 => bnd (bnd (ret x.2.1) fun t295 => ret t295.2) fun t297 => grd (mulOk t296 t297) (ret (t296 * t297))) fun t302 => bnd (bnd (bnd (ret x.2.1) fun t298 => ret t298.1) fun t300 => bnd (bnd (ret x.1) fun t299 => ret t299.2) fun t301 => grd (mulOk t300 t301) (ret (t300 * t301))) fun t303 => ret (t302 + t303)) fun t304 => bnd (bnd (bnd (bnd (ret x.1) fun t288 => ret t288.2) fun t290 => bnd (bnd (ret x.2.1) fun t289 => ret t289.2) fun t291 => grd (mulOk t290 t291) (ret (t290 * t291))) fun t292 => bnd (ret ()) fun t293 => ret (t292, t293)) fun t305 => ret (t304, t305)) w_law_low) fun t306 => ret (Fl.rt t306))
def w_law_add (x : ((Int × Int) × (Int × Int) × Unit)) : W (Int × Int) := fnR (wb_law_add x)
def wb_law_mul (x : ((Int × Int) × (Int × Int) × Unit)) : W (Fl Empty Empty (Int × Int)) := (bnd (bnd (bnd (bnd (bnd (ret x.1) fun t313 => ret t313.1) fun t315 => bnd (bnd (ret x.2.1) fun t314 => ret t314.1) fun t316 => grd (mulOk t315 t316) (ret (t315 * t316))) fun t317 => bnd (bnd (bnd (bnd (ret x.1) fun t307 => ret t307.2) fun t309 => bnd (bnd (ret x.2.1) fun t308 => ret t308.2) fun t310 => grd (mulOk t309 t310) (ret (t309 * t310))) fun t311 => bnd (ret ()) fun t312 => ret (t311, t312)) fun t318 => ret (t317, t318)) w_law_low) fun t319 => ret (Fl.rt t319))
def w_law_mul (x : ((Int × Int) × (Int × Int) × Unit)) : W (Int × Int) := fnR (wb_law_mul x)
def wb_law_number (x : (Bool × Unit)) : W (Fl Empty Empty (Int × Int)) := (bnd (bnd (bnd (ret (7 : Int)) fun t321 => bnd (ret ()) fun t322 => ret (t321, t322)) (fun x => pickW x.1)) fun v320 => (bnd (bnd (bnd (ret v320) fun t323 => bnd (ret (2 : Int)) fun t324 => ret (decide (t323 < t324))) fun b325 => ite b325 (bnd (bnd (bnd (ret v320) fun t328 => bnd (bnd (ret (1 : Int)) fun t326 => bnd (ret ()) fun t327 => ret (t326, t327)) fun t329 => ret (t328, t329)) fun t330 => ret (t330.1, t330.2.1)) fun t331 => ret (Fl.rt t331)) (ret (Fl.nx ()))) (sq fun (_ : Unit) => (bnd (bnd (ret x.1) fun t347 => ite t347 (bnd (bnd (ret (9 : Int)) fun t341 => bnd (bnd (ret (9 : Int)) fun t339 => bnd (bnd (ret (9 : Int)) fun t337 => bnd (bnd (ret (99 : Int)) fun t335 => bnd (bnd (ret (9999 : Int)) fun t333 => bnd (ret ([] : List Int)) fun t334 => ret (t333 :: t334)) fun t336 => ret (t335 :: t336)) fun t338 => ret (t337 :: t338)) fun t340 => ret (t339 :: t340)) fun t342 => ret (t341 :: t342)) fun t345 => bnd (bnd (ret v320) fun t343 => bnd (ret (2 : Int)) fun t344 => ret (t343 - t344)) fun t346 => grd (ixOk t345 t346) (ret (ixAt t345 t346))) (ret (9 : Int))) fun v332 => (bnd (bnd (bnd (ret (1 : Int)) fun t351 => bnd (bnd (bnd (ret v332) fun t349 => bnd (ret ()) fun t350 => ret (t349, t350)) (fun x => pickW x.1)) fun t352 => ret (t351 + t352)) fun t367 => bnd (bnd (bnd (ret (1 : Int)) fun t363 => bnd (bnd (bnd (bnd (bnd (ret (1 : Int)) fun t355 => bnd (bnd (ret v332) fun t353 => bnd (ret ([] : List Int)) fun t354 => ret (t353 :: t354)) fun t356 => ret (t355 :: t356)) fun t359 => bnd (bnd (bnd (ret (2 : Int)) fun t357 => bnd (ret ()) fun t358 => ret (t357, t358)) (fun x => pickW x.1)) fun t360 => grd (ixOk t359 t360) (ret (ixAt t359 t360))) fun t361 => bnd (ret ()) fun t362 => ret (t361, t362)) (fun x => pickW x.1)) fun t364 => ret (t363 + t364)) fun t365 => bnd (ret ()) fun t366 => ret (t365, t366)) fun t368 => ret (t367, t368)) fun v348 => (bnd (bnd (bnd (bnd (bnd (ret v348.1) fun t374 => bnd (bnd (bnd (ret v348.1) fun t371 => ret (-t371)) fun t372 => bnd (ret ([] : List Int)) fun t373 => ret (t372 :: t373)) fun t375 => ret (t374 :: t375)) fun t378 => bnd (bnd (bnd (ret (2 : Int)) fun t376 => bnd (ret ()) fun t377 => ret (t376, t377)) (fun x => pickW x.1)) fun t379 => grd (ixOk t378 t379) (ret (ixAt t378 t379))) fun t380 => bnd (bnd (ret v348.2.1) fun t369 => bnd (ret ()) fun t370 => ret (t369, t370)) fun t381 => ret (t380, t381)) w_law_low) fun t382 => ret (Fl.rt t382)))))))
def w_law_number (x : (Bool × Unit)) : W (Int × Int) := fnR (wb_law_number x)
def w_law_alike : Nat → (D × D × Unit) → W Bool
  | 0, _ => stuck
  | n + 1, x => fnR ((bnd (bnd (bnd (ret x.2.1) fun t383 => ret (nonD t383)) fun b384 => ite b384 (bnd (bnd (ret x.1) fun t385 => ret (nonD t385)) fun t386 => ret (Fl.rt t386)) (ret (Fl.nx ()))) (sq fun (_ : Unit) => (bnd (bnd (bnd (ret x.2.1) fun t387 => ret (isD "list" t387 || isD "tuple" t387)) fun b388 => ite b388 (bnd (bnd (bnd (ret x.2.1) fun t390 => ret (isD "list" t390)) fun t393 => ite t393 (bnd (ret x.1) fun t391 => ret (isD "list" t391)) (bnd (ret x.1) fun t392 => ret (isD "tuple" t392))) fun v389 => (bnd (bnd (bnd (bnd (ret v389) fun t394 => ret (!t394)) fun t403 => ite t403 (ret true) (bnd (bnd (bnd (ret x.1) fun t395 => bnd (ret ()) fun t396 => ret (t395, t396)) fun t397 => grd (seqD t397.1) (ret ((itemsD t397.1).length : Int))) fun t401 => bnd (bnd (bnd (ret x.2.1) fun t398 => bnd (ret ()) fun t399 => ret (t398, t399)) fun t400 => grd (seqD t400.1) (ret ((itemsD t400.1).length : Int))) fun t402 => ret (!decide (t401 = t402)))) fun b404 => ite b404 (bnd (ret false) fun t405 => ret (Fl.rt t405)) (ret (Fl.nx ()))) (sq fun (_ : Unit) => (bnd (bnd (bnd (bnd (bnd (bnd (ret x.2.1) fun t406 => bnd (ret ()) fun t407 => ret (t406, t407)) fun t408 => grd (seqD t408.1) (ret ((itemsD t408.1).length : Int))) fun t409 => bnd (ret ()) fun t410 => ret (t409, t410)) fun t411 => grd (rngOk 0 t411.1) (ret (rangeF 0 t411.1.toNat))) fun xs => forW (fun (s412 : Unit) y413 => (bnd (bnd (bnd (bnd (bnd (bnd (ret x.1) fun t418 => bnd (ret y413) fun t419 => grd (seqD t418 && ixOk (itemsD t418) t419) (ret (ixAt (itemsD t418) t419))) fun t420 => bnd (bnd (bnd (ret x.2.1) fun t414 => bnd (ret y413) fun t415 => grd (seqD t414 && ixOk (itemsD t414) t415) (ret (ixAt (itemsD t414) t415))) fun t416 => bnd (ret ()) fun t417 => ret (t416, t417)) fun t421 => ret (t420, t421)) (w_law_alike n)) fun t422 => ret (!t422)) fun b423 => ite b423 (bnd (ret false) fun t424 => ret (Fl.rt t424)) (ret (Fl.nx ()))) (sq fun (_ : Unit) => (ret (Fl.nx ()))))) () xs) (sq fun (s425 : Unit) => (bnd (ret true) fun t426 => ret (Fl.rt t426))))))) (ret (Fl.nx ()))) (sq fun (_ : Unit) => (bnd (bnd (bnd (ret x.1) fun t427 => ret (isD "int" t427)) fun t435 => ite t435 (bnd (bnd (bnd (ret x.1) fun t428 => ret (isD "bool" t428)) fun t430 => bnd (bnd (ret x.2.1) fun t429 => ret (isD "bool" t429)) fun t431 => ret (t430 == t431)) fun t434 => ite t434 (bnd (ret x.1) fun t432 => bnd (ret x.2.1) fun t433 => grd (SeqAt.shaped (toP t432) && SeqAt.shaped (toP t433)) (ret (PyData.eqv (toP t432) (toP t433)))) (ret false)) (ret false)) fun t436 => ret (Fl.rt t436)))))))
def wb_law_line (x : (Int × Bool × Unit)) : W (Fl Empty Empty (List (Int × Int))) := (bnd (bnd (bnd (ret x.1) fun t437 => bnd (ret (8 : Int)) fun t438 => ret (decide (t437 ≤ t438))) fun b439 => ite b439 (bnd (bnd (bnd (bnd (ret x.1) fun t440 => bnd (ret ()) fun t441 => ret (t440, t441)) fun t442 => grd (rngOk 0 t442.1) (ret (rangeF 0 t442.1.toNat))) fun xs446 => mapW (fun y443 => (bnd (bnd (ret x.2.1) fun t444 => bnd (ret ()) fun t445 => ret (t444, t445)) w_law_number)) xs446) fun t447 => ret (Fl.rt t447)) (ret (Fl.nx ()))) (sq fun (_ : Unit) => (bnd (bnd (bnd (bnd (bnd (ret (3 : Int)) fun t448 => bnd (ret ()) fun t449 => ret (t448, t449)) (fun x => pickW x.1)) fun t450 => bnd (ret (0 : Int)) fun t451 => ret (decide (t450 = t451))) fun b452 => ite b452 (bnd (bnd (bnd (bnd (ret x.1) fun t453 => bnd (ret ()) fun t454 => ret (t453, t454)) fun t455 => grd (rngOk 0 t455.1) (ret (rangeF 0 t455.1.toNat))) fun xs466 => mapW (fun y456 => (bnd (bnd (bnd (bnd (bnd (ret (19 : Int)) fun t457 => bnd (ret ()) fun t458 => ret (t457, t458)) (fun x => pickW x.1)) fun t459 => bnd (ret (9 : Int)) fun t460 => ret (t459 - t460)) fun t463 => bnd (bnd (ret (1 : Int)) fun t461 => bnd (ret ()) fun t462 => ret (t461, t462)) fun t464 => ret (t463, t464)) fun t465 => ret (t465.1, t465.2.1))) xs466) fun t467 => ret (Fl.rt t467)) (ret (Fl.nx ()))) (sq fun (_ : Unit) => (bnd (bnd (bnd (bnd (bnd (ret (0 : Int)) fun t471 => bnd (bnd (ret (1 : Int)) fun t469 => bnd (ret ()) fun t470 => ret (t469, t470)) fun t472 => ret (t471, t472)) fun t473 => ret (t473.1, t473.2.1)) fun t474 => bnd (ret ([] : List (Int × Int))) fun t475 => ret (t474 :: t475)) fun t476 => bnd (ret x.1) fun t477 => grd (repOk t476.length t477) (ret (List.replicate t477.toNat t476).flatten)) fun v468 => (bnd (bnd (bnd (bnd (bnd (ret (1 : Int)) fun t481 => bnd (bnd (bnd (ret (4 : Int)) fun t479 => bnd (ret ()) fun t480 => ret (t479, t480)) (fun x => pickW x.1)) fun t482 => ret (t481 + t482)) fun t483 => bnd (ret ()) fun t484 => ret (t483, t484)) fun t485 => grd (rngOk 0 t485.1) (ret (rangeF 0 t485.1.toNat))) fun xs => forW (fun (s486 : ((List (Int × Int)))) y487 => (bnd (bnd (bnd (bnd (ret x.2.1) fun t488 => bnd (ret ()) fun t489 => ret (t488, t489)) w_law_number) fun t493 => bnd (bnd (bnd (ret x.1) fun t490 => bnd (ret ()) fun t491 => ret (t490, t491)) (fun x => pickW x.1)) fun t494 => grd (ixOk s486 t494) (ret (t494, t493))) fun v492 => (ret (Fl.nx ((s486.set ((ixN s486.length v492.1).getD 0) v492.2)))))) (v468) xs) (sq fun (s495 : ((List (Int × Int)))) => (bnd (ret s495) fun t496 => ret (Fl.rt t496)))))))))
def w_law_line (x : (Int × Bool × Unit)) : W (List (Int × Int)) := fnR (wb_law_line x)
def wb_law_shape (x : (Unit)) : W (Fl Empty Empty (Int × Int)) := (bnd (bnd (bnd (bnd (bnd (ret (12 : Int)) fun t497 => bnd (ret ()) fun t498 => ret (t497, t498)) (fun x => pickW x.1)) fun t499 => bnd (ret (0 : Int)) fun t500 => ret (decide (t499 = t500))) fun b501 => ite b501 (bnd (bnd (bnd (bnd (ret (36 : Int)) fun t504 => bnd (bnd (bnd (ret (3 : Int)) fun t502 => bnd (ret ()) fun t503 => ret (t502, t503)) (fun x => pickW x.1)) fun t505 => ret (t504 - t505)) fun t512 => bnd (bnd (bnd (ret (40 : Int)) fun t508 => bnd (bnd (bnd (ret (3 : Int)) fun t506 => bnd (ret ()) fun t507 => ret (t506, t507)) (fun x => pickW x.1)) fun t509 => ret (t508 - t509)) fun t510 => bnd (ret ()) fun t511 => ret (t510, t511)) fun t513 => ret (t512, t513)) fun t514 => ret (t514.1, t514.2.1)) fun t515 => ret (Fl.rt t515)) (ret (Fl.nx ()))) (sq fun (_ : Unit) => (bnd (bnd (bnd (ret (4 : Int)) fun t517 => bnd (ret ()) fun t518 => ret (t517, t518)) (fun x => pickW x.1)) fun v516 => (bnd (bnd (bnd (ret v516) fun t519 => bnd (ret (0 : Int)) fun t520 => ret (decide (t519 = t520))) fun b521 => ite b521 (bnd (bnd (bnd (bnd (bnd (ret (37 : Int)) fun t522 => bnd (ret ()) fun t523 => ret (t522, t523)) (fun x => pickW x.1)) fun t530 => bnd (bnd (bnd (ret (1 : Int)) fun t526 => bnd (bnd (bnd (ret (3 : Int)) fun t524 => bnd (ret ()) fun t525 => ret (t524, t525)) (fun x => pickW x.1)) fun t527 => ret (t526 + t527)) fun t528 => bnd (ret ()) fun t529 => ret (t528, t529)) fun t531 => ret (t530, t531)) fun t532 => ret (t532.1, t532.2.1)) fun t533 => ret (Fl.rt t533)) (ret (Fl.nx ()))) (sq fun (_ : Unit) => (bnd (bnd (bnd (ret v516) fun t534 => bnd (ret (1 : Int)) fun t535 => ret (decide (t534 = t535))) fun b536 => ite b536 (bnd (bnd (bnd (bnd (bnd (ret (4 : Int)) fun t537 => bnd (ret ()) fun t538 => ret (t537, t538)) (fun x => pickW x.1)) fun t545 => bnd (bnd (bnd (ret (1 : Int)) fun t541 => bnd (bnd (bnd (ret (40 : Int)) fun t539 => bnd (ret ()) fun t540 => ret (t539, t540)) (fun x => pickW x.1)) fun t542 => ret (t541 + t542)) fun t543 => bnd (ret ()) fun t544 => ret (t543, t544)) fun t546 => ret (t545, t546)) fun t547 => ret (t547.1, t547.2.1)) fun t548 => ret (Fl.rt t548)) (ret (Fl.nx ()))) (sq fun (_ : Unit) => (bnd (bnd (bnd (bnd (bnd (ret (9 : Int)) fun t549 => bnd (ret ()) fun t550 => ret (t549, t550)) (fun x => pickW x.1)) fun t557 => bnd (bnd (bnd (ret (1 : Int)) fun t553 => bnd (bnd (bnd (ret (6 : Int)) fun t551 => bnd (ret ()) fun t552 => ret (t551, t552)) (fun x => pickW x.1)) fun t554 => ret (t553 + t554)) fun t555 => bnd (ret ()) fun t556 => ret (t555, t556)) fun t558 => ret (t557, t558)) fun t559 => ret (t559.1, t559.2.1)) fun t560 => ret (Fl.rt t560)))))))))
def w_law_shape (x : (Unit)) : W (Int × Int) := fnR (wb_law_shape x)
def wb_law_fitting (x : ((List (Int × Int)) × Unit)) : W (Fl Empty Empty Bool) := (bnd (bnd (bnd (ret x.1) fun xs562 => filW (fun y561 => (bnd (bnd (bnd (bnd (bnd (ret y561) fun t563 => ret t563.1) fun t564 => bnd (ret ()) fun t565 => ret (t564, t565)) fun t566 => grd true (ret (if t566.1 < 0 then -t566.1 else t566.1))) fun t567 => bnd (ret (9999 : Int)) fun t568 => ret (decide (t568 < t567))) fun t572 => ite t572 (ret true) (bnd (bnd (ret y561) fun t569 => ret t569.2) fun t570 => bnd (ret (9999 : Int)) fun t571 => ret (decide (t571 < t570))))) (fun y561 => (ret y561)) xs562) fun t573 => bnd (ret ([] : List (Int × Int))) fun t574 => ret (PyData.eqv (PyData.list (List.map (fun z => (PyData.tuple [(PyData.int z.1), (PyData.int z.2)])) t573)) (PyData.list (List.map (fun z => (PyData.tuple [(PyData.int z.1), (PyData.int z.2)])) t574)))) fun t575 => ret (Fl.rt t575))
def w_law_fitting (x : ((List (Int × Int)) × Unit)) : W Bool := fnR (wb_law_fitting x)
def wb_law_dull (x : ((List (List (Int × Int))) × Int × Unit)) : W (Fl Empty Empty (List (Int × Int))) := (bnd (bnd (bnd (ret (4 : Int)) fun t577 => bnd (ret ()) fun t578 => ret (t577, t578)) (fun x => pickW x.1)) fun v576 => (bnd (bnd (bnd (bnd (ret v576) fun t579 => bnd (ret (0 : Int)) fun t580 => ret (decide (t579 = t580))) fun t583 => ite t583 (ret true) (bnd (ret x.1) fun t581 => bnd (ret ([] : List (List (Int × Int)))) fun t582 => ret (PyData.eqv (PyData.list (List.map (fun z => (PyData.list (List.map (fun z => (PyData.tuple [(PyData.int z.1), (PyData.int z.2)])) z))) t581)) (PyData.list (List.map (fun z => (PyData.list (List.map (fun z => (PyData.tuple [(PyData.int z.1), (PyData.int z.2)])) z))) t582))))) fun b584 => ite b584 (bnd (bnd (bnd (bnd (bnd (ret (0 : Int)) fun t594 => bnd (bnd (ret (1 : Int)) fun t592 => bnd (ret ()) fun t593 => ret (t592, t593)) fun t595 => ret (t594, t595)) fun t596 => ret (t596.1, t596.2.1)) fun t597 => bnd (ret ([] : List (Int × Int))) fun t598 => ret (t597 :: t598)) fun t599 => bnd (ret x.2.1) fun t600 => grd (repOk t599.length t600) (ret (List.replicate t600.toNat t599).flatten)) fun t601 => ret (Fl.rt t601)) (ret (Fl.nx ()))) (sq fun (_ : Unit) => (bnd (bnd (bnd (ret x.1) fun t608 => bnd (bnd (bnd (bnd (bnd (ret x.1) fun t603 => bnd (ret ()) fun t604 => ret (t603, t604)) fun t605 => grd true (ret (t605.1.length : Int))) fun t606 => bnd (ret ()) fun t607 => ret (t606, t607)) (fun x => pickW x.1)) fun t609 => grd (ixOk t608 t609) (ret (ixAt t608 t609))) fun t619 => bnd (bnd (bnd (ret x.1) fun t615 => bnd (bnd (bnd (bnd (bnd (ret x.1) fun t610 => bnd (ret ()) fun t611 => ret (t610, t611)) fun t612 => grd true (ret (t612.1.length : Int))) fun t613 => bnd (ret ()) fun t614 => ret (t613, t614)) (fun x => pickW x.1)) fun t616 => grd (ixOk t615 t616) (ret (ixAt t615 t616))) fun t617 => bnd (ret ()) fun t618 => ret (t617, t618)) fun t620 => ret (t619, t620)) fun v602 => (bnd (bnd (bnd (bnd (bnd (bnd (ret (1 : Int)) fun t622 => ret (-t622)) fun t625 => bnd (bnd (ret (1 : Int)) fun t623 => bnd (ret ()) fun t624 => ret (t623, t624)) fun t626 => ret (t625, t626)) fun t627 => ret (t627.1, t627.2.1)) fun t650 => bnd (bnd (bnd (bnd (ret (2 : Int)) fun t630 => bnd (bnd (ret (1 : Int)) fun t628 => bnd (ret ()) fun t629 => ret (t628, t629)) fun t631 => ret (t630, t631)) fun t632 => ret (t632.1, t632.2.1)) fun t648 => bnd (bnd (bnd (bnd (ret (1 : Int)) fun t635 => bnd (bnd (ret (3 : Int)) fun t633 => bnd (ret ()) fun t634 => ret (t633, t634)) fun t636 => ret (t635, t636)) fun t637 => ret (t637.1, t637.2.1)) fun t646 => bnd (bnd (bnd (bnd (bnd (ret (3 : Int)) fun t638 => ret (-t638)) fun t641 => bnd (bnd (ret (2 : Int)) fun t639 => bnd (ret ()) fun t640 => ret (t639, t640)) fun t642 => ret (t641, t642)) fun t643 => ret (t643.1, t643.2.1)) fun t644 => bnd (ret ([] : List (Int × Int))) fun t645 => ret (t644 :: t645)) fun t647 => ret (t646 :: t647)) fun t649 => ret (t648 :: t649)) fun t651 => ret (t650 :: t651)) fun t654 => bnd (bnd (bnd (ret (4 : Int)) fun t652 => bnd (ret ()) fun t653 => ret (t652, t653)) (fun x => pickW x.1)) fun t655 => grd (ixOk t654 t655) (ret (ixAt t654 t655))) fun v621 => (bnd (bnd (bnd (ret v602.1) fun t657 => bnd (ret ()) fun t658 => ret (t657, t658)) fun t659 => grd true (ret t659.1)) fun v656 => (bnd (bnd (bnd (ret v576) fun t660 => bnd (ret (1 : Int)) fun t661 => ret (decide (t661 < t660))) fun b662 => ite b662 (bnd (bnd (ret v602.1) fun xs669 => mapW (fun y664 => (bnd (bnd (ret v621) fun t667 => bnd (bnd (ret y664) fun t665 => bnd (ret ()) fun t666 => ret (t665, t666)) fun t668 => ret (t667, t668)) w_law_mul)) xs669) fun v663 => (ret (Fl.nx (v663)))) (ret (Fl.nx (v656)))) (sq fun (s670 : ((List (Int × Int)))) => (bnd (bnd (bnd (ret v576) fun t671 => bnd (ret (3 : Int)) fun t672 => ret (decide (t671 = t672))) fun b673 => ite b673 (bnd (bnd (bnd (bnd (ret s670) fun t677 => bnd (bnd (ret v602.2.1) fun t675 => bnd (ret ()) fun t676 => ret (t675, t676)) fun t678 => ret (t677, t678)) fun t679 => ret (t679.1.zip t679.2.1)) fun xs685 => mapW (fun y680 => (bnd (bnd (ret y680.1) fun t683 => bnd (bnd (ret y680.2) fun t681 => bnd (ret ()) fun t682 => ret (t681, t682)) fun t684 => ret (t683, t684)) w_law_add)) xs685) fun v674 => (ret (Fl.nx (v674)))) (ret (Fl.nx (s670)))) (sq fun (s686 : ((List (Int × Int)))) => (bnd (bnd (bnd (bnd (ret s686) fun t687 => bnd (ret ()) fun t688 => ret (t687, t688)) w_law_fitting) fun t692 => ite t692 (ret s686) (bnd (bnd (ret v602.1) fun t689 => bnd (ret ()) fun t690 => ret (t689, t690)) fun t691 => grd true (ret t691.1))) fun t693 => ret (Fl.rt t693))))))))))))
def w_law_dull (x : ((List (List (Int × Int))) × Int × Unit)) : W (List (Int × Int)) := fnR (wb_law_dull x)
def wb_law_thin (x : (Int × Unit)) : W (Fl Empty Empty (List (Int × Int))) := (bnd (bnd (bnd (bnd (bnd (ret (0 : Int)) fun t697 => bnd (bnd (ret (1 : Int)) fun t695 => bnd (ret ()) fun t696 => ret (t695, t696)) fun t698 => ret (t697, t698)) fun t699 => ret (t699.1, t699.2.1)) fun t700 => bnd (ret ([] : List (Int × Int))) fun t701 => ret (t700 :: t701)) fun t702 => bnd (ret x.1) fun t703 => grd (repOk t702.length t703) (ret (List.replicate t703.toNat t702).flatten)) fun v694 => (bnd (bnd (bnd (bnd (ret (2 : Int)) fun t705 => bnd (ret ()) fun t706 => ret (t705, t706)) fun t707 => grd (rngOk 0 t707.1) (ret (rangeF 0 t707.1.toNat))) fun xs => forW (fun (s708 : ((List (Int × Int)))) y709 => (bnd (bnd (bnd (bnd (bnd (bnd (ret (1 : Int)) fun t712 => bnd (bnd (ret (1 : Int)) fun t710 => bnd (ret ()) fun t711 => ret (t710, t711)) fun t713 => ret (t712, t713)) fun t714 => ret (t714.1, t714.2.1)) fun t737 => bnd (bnd (bnd (bnd (bnd (ret (1 : Int)) fun t715 => ret (-t715)) fun t718 => bnd (bnd (ret (1 : Int)) fun t716 => bnd (ret ()) fun t717 => ret (t716, t717)) fun t719 => ret (t718, t719)) fun t720 => ret (t720.1, t720.2.1)) fun t735 => bnd (bnd (bnd (bnd (ret (2 : Int)) fun t723 => bnd (bnd (ret (1 : Int)) fun t721 => bnd (ret ()) fun t722 => ret (t721, t722)) fun t724 => ret (t723, t724)) fun t725 => ret (t725.1, t725.2.1)) fun t733 => bnd (bnd (bnd (bnd (ret (1 : Int)) fun t728 => bnd (bnd (ret (1 : Int)) fun t726 => bnd (ret ()) fun t727 => ret (t726, t727)) fun t729 => ret (t728, t729)) fun t730 => ret (t730.1, t730.2.1)) fun t731 => bnd (ret ([] : List (Int × Int))) fun t732 => ret (t731 :: t732)) fun t734 => ret (t733 :: t734)) fun t736 => ret (t735 :: t736)) fun t738 => ret (t737 :: t738)) fun t741 => bnd (bnd (bnd (ret (4 : Int)) fun t739 => bnd (ret ()) fun t740 => ret (t739, t740)) (fun x => pickW x.1)) fun t742 => grd (ixOk t741 t742) (ret (ixAt t741 t742))) fun t746 => bnd (bnd (bnd (ret x.1) fun t743 => bnd (ret ()) fun t744 => ret (t743, t744)) (fun x => pickW x.1)) fun t747 => grd (ixOk s708 t747) (ret (t747, t746))) fun v745 => (ret (Fl.nx ((s708.set ((ixN s708.length v745.1).getD 0) v745.2)))))) (v694) xs) (sq fun (s748 : ((List (Int × Int)))) => (bnd (ret s748) fun t749 => ret (Fl.rt t749)))))
def w_law_thin (x : (Int × Unit)) : W (List (Int × Int)) := fnR (wb_law_thin x)
def wb_law_rows (x : (Unit)) : W (Fl Empty Empty ((List (List (Int × Int))) × Int)) := (bnd (bnd (ret ()) w_law_shape) fun v750 => (bnd (bnd (bnd (bnd (ret v750.1) fun t752 => bnd (ret v750.2) fun t753 => grd (mulOk t752 t753) (ret (t752 * t753))) fun t754 => bnd (ret (7 : Int)) fun t755 => ret (decide (t754 < t755))) fun t760 => ite t760 (bnd (bnd (bnd (ret (2 : Int)) fun t756 => bnd (ret ()) fun t757 => ret (t756, t757)) (fun x => pickW x.1)) fun t758 => bnd (ret (1 : Int)) fun t759 => ret (decide (t758 = t759))) (ret false)) fun v751 => (bnd (bnd (bnd (ret v750.1) fun t762 => bnd (ret (4 : Int)) fun t763 => ret (decide (t763 < t762))) fun t766 => ite t766 (bnd (ret v750.2) fun t764 => bnd (ret (8 : Int)) fun t765 => ret (decide (t765 < t764))) (ret false)) fun v761 => (bnd (bnd (bnd (bnd (ret v750.1) fun t768 => bnd (ret ()) fun t769 => ret (t768, t769)) fun t770 => grd (rngOk 0 t770.1) (ret (rangeF 0 t770.1.toNat))) fun xs779 => mapW (fun y771 => (bnd (ret v761) fun t778 => ite t778 (bnd (bnd (ret v750.2) fun t772 => bnd (ret ()) fun t773 => ret (t772, t773)) w_law_thin) (bnd (bnd (ret v750.2) fun t776 => bnd (bnd (ret v751) fun t774 => bnd (ret ()) fun t775 => ret (t774, t775)) fun t777 => ret (t776, t777)) w_law_line))) xs779) fun v767 => (bnd (bnd (bnd (bnd (ret v750.1) fun t781 => bnd (ret (4 : Int)) fun t782 => ret (decide (t782 < t781))) fun t785 => ite t785 (bnd (ret v750.2) fun t783 => bnd (ret (3 : Int)) fun t784 => ret (decide (t784 < t783))) (ret false)) fun b786 => ite b786 (bnd (bnd (ret v767) fun xs797 => mapW (fun y788 => (bnd (ret y788) fun xs796 => mapW (fun y789 => (bnd (bnd (bnd (ret y789) fun t790 => ret t790.1) fun t793 => bnd (bnd (ret (1 : Int)) fun t791 => bnd (ret ()) fun t792 => ret (t791, t792)) fun t794 => ret (t793, t794)) fun t795 => ret (t795.1, t795.2.1))) xs796)) xs797) fun v787 => (bnd anyW fun a => ret (Fl.nx ((v787, a))))) (bnd anyW fun a => ret (Fl.nx ((v767, a))))) (sq fun (s799 : (((List (List (Int × Int))) × Addr))) => (bnd (bnd (bnd (bnd (bnd (bnd (ret (5 : Int)) fun t800 => bnd (ret ()) fun t801 => ret (t800, t801)) (fun x => pickW x.1)) fun t802 => bnd (ret ()) fun t803 => ret (t802, t803)) fun t804 => grd (rngOk 0 t804.1) (ret (rangeF 0 t804.1.toNat))) fun xs => forW (fun (s805 : ((List (List (Int × Int))))) y806 => (bnd (bnd (bnd (bnd (bnd (ret (s805.length : Int)) fun t807 => bnd (ret (1 : Int)) fun t808 => ret (t807 + t808)) fun t809 => bnd (ret ()) fun t810 => ret (t809, t810)) (fun x => pickW x.1)) fun t819 => bnd (bnd (bnd (bnd (ret s805) fun t815 => bnd (bnd (ret v750.2) fun t813 => bnd (ret ()) fun t814 => ret (t813, t814)) fun t816 => ret (t815, t816)) w_law_dull) fun t817 => grd (!t817.isEmpty) (ret t817)) fun t820 => grd (insOk s805 t819) (ret (t819, t820))) fun v818 => (ret (Fl.nx ((insAt s805 v818.1 v818.2)))))) (s799.1) xs) (sq fun (s821 : ((List (List (Int × Int))))) => (bnd (bnd (bnd (ret s821) fun t824 => bnd (bnd (ret v750.2) fun t822 => bnd (ret ()) fun t823 => ret (t822, t823)) fun t825 => ret (t824, t825)) fun t826 => ret (t826.1, t826.2.1)) fun t827 => ret (Fl.rt t827))))))))))
def w_law_rows (x : (Unit)) : W ((List (List (Int × Int))) × Int) := fnR (wb_law_rows x)
def wb_law_minus (x : ((List (Int × Int)) × (Int × Int) × (List (Int × Int)) × Unit)) : W (Fl Empty Empty (List (Int × Int))) := (bnd (bnd (bnd (bnd (ret x.2.1) fun t828 => ret t828.1) fun t829 => bnd (ret (0 : Int)) fun t830 => ret (decide (t829 = t830))) fun b831 => ite b831 (bnd (ret x.1) fun t832 => ret (Fl.rt t832)) (ret (Fl.nx ()))) (sq fun (_ : Unit) => (bnd (bnd (bnd (bnd (ret x.1) fun t835 => bnd (bnd (ret x.2.2.1) fun t833 => bnd (ret ()) fun t834 => ret (t833, t834)) fun t836 => ret (t835, t836)) fun t837 => ret (t837.1.zip t837.2.1)) fun xs859 => mapW (fun y838 => (bnd (bnd (bnd (ret y838.2) fun t839 => ret t839.1) fun t840 => bnd (ret (0 : Int)) fun t841 => ret (decide (t840 = t841))) fun t858 => ite t858 (ret y838.1) (bnd (bnd (ret y838.1) fun t856 => bnd (bnd (bnd (bnd (bnd (bnd (bnd (bnd (ret x.2.1) fun t844 => ret t844.1) fun t845 => ret (-t845)) fun t849 => bnd (bnd (bnd (ret x.2.1) fun t846 => ret t846.2) fun t847 => bnd (ret ()) fun t848 => ret (t847, t848)) fun t850 => ret (t849, t850)) fun t851 => ret (t851.1, t851.2.1)) fun t852 => bnd (bnd (ret y838.2) fun t842 => bnd (ret ()) fun t843 => ret (t842, t843)) fun t853 => ret (t852, t853)) w_law_mul) fun t854 => bnd (ret ()) fun t855 => ret (t854, t855)) fun t857 => ret (t856, t857)) w_law_add))) xs859) fun t860 => ret (Fl.rt t860))))
def w_law_minus (x : ((List (Int × Int)) × (Int × Int) × (List (Int × Int)) × Unit)) : W (List (Int × Int)) := fnR (wb_law_minus x)
def wb_law_form (x : ((List (List (Int × Int))) × Int × Unit)) : W (Fl Empty Empty (List (List (Int × Int)))) := (bnd (bnd (ret x.1) fun xs865 => mapW (fun y861 => (bnd (bnd (ret y861) fun t862 => bnd (ret ()) fun t863 => ret (t862, t863)) fun t864 => grd true (ret t864.1))) xs865) fun v866 => (bnd anyW fun a => (bnd (bnd (bnd (bnd (ret x.2.1) fun t868 => bnd (ret ()) fun t869 => ret (t868, t869)) fun t870 => grd (rngOk 0 t870.1) (ret (rangeF 0 t870.1.toNat))) fun xs => forW (fun (s871 : (((List (List (Int × Int))) × Addr) × (List (List (Int × Int))))) y872 => (bnd (bnd (bnd (bnd (ret (s871.1.1.length : Int)) fun t874 => bnd (ret ()) fun t875 => ret (t874, t875)) fun t876 => grd (rngOk 0 t876.1) (ret (rangeF 0 t876.1.toNat))) fun xs878 => filW (fun y877 => (bnd (bnd (bnd (bnd (ret y877) fun t879 => grd (ixOk s871.1.1 t879) (ret (ixAt s871.1.1 t879))) fun t880 => bnd (ret y872) fun t881 => grd (ixOk t880 t881) (ret (ixAt t880 t881))) fun t882 => ret t882.1) fun t883 => bnd (ret (0 : Int)) fun t884 => ret (!decide (t883 = t884)))) (fun y877 => (ret y877)) xs878) fun v873 => (bnd (bnd (bnd (ret v873) fun t885 => bnd (ret ([] : List Int)) fun t886 => ret (!(PyData.eqv (PyData.list (List.map (fun z => (PyData.int z)) t885)) (PyData.list (List.map (fun z => (PyData.int z)) t886))))) fun b887 => ite b887 (bnd (bnd (bnd (ret v873) fun t888 => bnd (ret (0 : Int)) fun t889 => grd (ixOk t888 t889) (ret (ixAt t888 t889))) fun t891 => grd (popAtOk s871.1.1 t891) (ret t891)) fun v890 => (bnd (bnd (bnd (bnd (bnd (ret (ixAt s871.1.1 v890)) fun t898 => bnd (ret y872) fun t899 => grd (ixOk t898 t899) (ret (ixAt t898 t899))) fun t900 => ret t900.2) fun t901 => bnd (bnd (bnd (bnd (ret (ixAt s871.1.1 v890)) fun t893 => bnd (ret y872) fun t894 => grd (ixOk t893 t894) (ret (ixAt t893 t894))) fun t895 => ret t895.1) fun t896 => bnd (ret ()) fun t897 => ret (t896, t897)) fun t902 => ret (t901, t902)) w_law_low) fun v892 => (bnd (bnd (ret (ixAt s871.1.1 v890)) fun xs909 => mapW (fun y904 => (bnd (bnd (ret v892) fun t907 => bnd (bnd (ret y904) fun t905 => bnd (ret ()) fun t906 => ret (t905, t906)) fun t908 => ret (t907, t908)) w_law_mul)) xs909) fun v903 => (bnd (bnd (ret (s871.1.1.eraseIdx ((ixN s871.1.1.length v890).getD 0))) fun xs920 => mapW (fun y911 => (bnd (bnd (ret y911) fun t918 => bnd (bnd (bnd (ret y911) fun t914 => bnd (ret y872) fun t915 => grd (ixOk t914 t915) (ret (ixAt t914 t915))) fun t916 => bnd (bnd (ret v903) fun t912 => bnd (ret ()) fun t913 => ret (t912, t913)) fun t917 => ret (t916, t917)) fun t919 => ret (t918, t919)) w_law_minus)) xs920) fun v910 => (bnd (bnd (bnd (ret s871.2) fun xs932 => mapW (fun y923 => (bnd (bnd (ret y923) fun t930 => bnd (bnd (bnd (ret y923) fun t926 => bnd (ret y872) fun t927 => grd (ixOk t926 t927) (ret (ixAt t926 t927))) fun t928 => bnd (bnd (ret v903) fun t924 => bnd (ret ()) fun t925 => ret (t924, t925)) fun t929 => ret (t928, t929)) fun t931 => ret (t930, t931)) w_law_minus)) xs932) fun t935 => bnd (bnd (ret v903) fun t933 => bnd (ret ([] : List (List (Int × Int)))) fun t934 => ret (t933 :: t934)) fun t936 => grd (decide (t935.length + t936.length ≤ 16777216)) (ret (t935 ++ t936))) fun v922 => (bnd anyW fun a => ret (Fl.nx ((v910, a), v922)))))))) (bnd anyW fun a => ret (Fl.nx ((s871.1.1, a), s871.2)))) (sq fun (s937 : (((List (List (Int × Int))) × Addr) × (List (List (Int × Int))))) => (bnd anyW fun a => ret (Fl.nx ((s937.1.1, a), s937.2))))))) ((v866, a), ([] : (List (List (Int × Int))))) xs) (sq fun (s938 : (((List (List (Int × Int))) × Addr) × (List (List (Int × Int))))) => (bnd (ret s938.2) fun t939 => ret (Fl.rt t939))))))
def w_law_form (x : ((List (List (Int × Int))) × Int × Unit)) : W (List (List (Int × Int))) := fnR (wb_law_form x)
def wb_law_turned (x : ((List (List (Int × Int))) × Unit)) : W (Fl Empty Empty (List (List (Int × Int)))) := (bnd (bnd (ret x.1) fun xs945 => mapW (fun y941 => (bnd (bnd (ret y941) fun t942 => bnd (ret ()) fun t943 => ret (t942, t943)) fun t944 => grd true (ret t944.1))) xs945) fun v940 => (bnd (bnd (bnd (bnd (ret (3 : Int)) fun t947 => bnd (ret ()) fun t948 => ret (t947, t948)) fun t949 => grd (rngOk 0 t949.1) (ret (rangeF 0 t949.1.toNat))) fun xs => forW (fun (s950 : ((List (List (Int × Int))))) y951 => (bnd (bnd (bnd (ret (s950.length : Int)) fun t952 => bnd (ret (1 : Int)) fun t953 => ret (decide (t953 < t952))) fun b954 => ite b954 (bnd (bnd (bnd (ret (s950.length : Int)) fun t956 => bnd (ret ()) fun t957 => ret (t956, t957)) (fun x => pickW x.1)) fun v955 => (bnd (bnd (bnd (bnd (bnd (bnd (ret v955) fun t959 => bnd (ret (1 : Int)) fun t960 => ret (t959 + t960)) fun t965 => bnd (bnd (bnd (bnd (ret (s950.length : Int)) fun t961 => bnd (ret (1 : Int)) fun t962 => ret (t961 - t962)) fun t963 => bnd (ret ()) fun t964 => ret (t963, t964)) (fun x => pickW x.1)) fun t966 => ret (t965 + t966)) fun t967 => bnd (ret ()) fun t968 => ret (t967, t968)) fun t969 => grd true (ret t969.1)) fun t970 => bnd (ret (s950.length : Int)) fun t971 => grd (modOk t970 t971) (ret (t970 % t971))) fun v958 => (bnd (bnd (bnd (bnd (bnd (ret v955) fun t973 => grd (ixOk s950 t973) (ret (ixAt s950 t973))) fun t977 => bnd (bnd (bnd (ret v958) fun t974 => grd (ixOk s950 t974) (ret (ixAt s950 t974))) fun t975 => bnd (ret ()) fun t976 => ret (t975, t976)) fun t978 => ret (t977, t978)) fun t979 => ret (t979.1.zip t979.2.1)) fun xs985 => mapW (fun y980 => (bnd (bnd (ret y980.1) fun t983 => bnd (bnd (ret y980.2) fun t981 => bnd (ret ()) fun t982 => ret (t981, t982)) fun t984 => ret (t983, t984)) w_law_add)) xs985) fun v972 => (bnd (bnd (bnd (bnd (ret v972) fun t986 => bnd (ret ()) fun t987 => ret (t986, t987)) w_law_fitting) fun b988 => ite b988 (bnd (bnd (ret v972) fun t990 => bnd (ret v955) fun t991 => grd (ixOk s950 t991) (ret (t991, t990))) fun v989 => (ret (Fl.nx ((s950.set ((ixN s950.length v989.1).getD 0) v989.2))))) (ret (Fl.nx (s950)))) (sq fun (s992 : ((List (List (Int × Int))))) => (ret (Fl.nx (s992)))))))) (ret (Fl.nx (s950)))) (sq fun (s993 : ((List (List (Int × Int))))) => (ret (Fl.nx (s993)))))) (v940) xs) (sq fun (s994 : ((List (List (Int × Int))))) => (bnd (bnd (bnd (bnd (bnd (bnd (ret (1 : Int)) fun t996 => ret (-t996)) fun t999 => bnd (bnd (ret (1 : Int)) fun t997 => bnd (ret ()) fun t998 => ret (t997, t998)) fun t1000 => ret (t999, t1000)) fun t1001 => ret (t1001.1, t1001.2.1)) fun t1024 => bnd (bnd (bnd (bnd (ret (2 : Int)) fun t1004 => bnd (bnd (ret (1 : Int)) fun t1002 => bnd (ret ()) fun t1003 => ret (t1002, t1003)) fun t1005 => ret (t1004, t1005)) fun t1006 => ret (t1006.1, t1006.2.1)) fun t1022 => bnd (bnd (bnd (bnd (ret (1 : Int)) fun t1009 => bnd (bnd (ret (3 : Int)) fun t1007 => bnd (ret ()) fun t1008 => ret (t1007, t1008)) fun t1010 => ret (t1009, t1010)) fun t1011 => ret (t1011.1, t1011.2.1)) fun t1020 => bnd (bnd (bnd (bnd (bnd (ret (3 : Int)) fun t1012 => ret (-t1012)) fun t1015 => bnd (bnd (ret (2 : Int)) fun t1013 => bnd (ret ()) fun t1014 => ret (t1013, t1014)) fun t1016 => ret (t1015, t1016)) fun t1017 => ret (t1017.1, t1017.2.1)) fun t1018 => bnd (ret ([] : List (Int × Int))) fun t1019 => ret (t1018 :: t1019)) fun t1021 => ret (t1020 :: t1021)) fun t1023 => ret (t1022 :: t1023)) fun t1025 => ret (t1024 :: t1025)) fun t1028 => bnd (bnd (bnd (ret (4 : Int)) fun t1026 => bnd (ret ()) fun t1027 => ret (t1026, t1027)) (fun x => pickW x.1)) fun t1029 => grd (ixOk t1028 t1029) (ret (ixAt t1028 t1029))) fun v995 => (bnd (bnd (bnd (bnd (ret s994) fun t1030 => bnd (ret ([] : List (List (Int × Int)))) fun t1031 => ret (!(PyData.eqv (PyData.list (List.map (fun z => (PyData.list (List.map (fun z => (PyData.tuple [(PyData.int z.1), (PyData.int z.2)])) z))) t1030)) (PyData.list (List.map (fun z => (PyData.list (List.map (fun z => (PyData.tuple [(PyData.int z.1), (PyData.int z.2)])) z))) t1031))))) fun t1041 => ite t1041 (bnd (bnd (bnd (bnd (ret (0 : Int)) fun t1032 => grd (ixOk s994 t1032) (ret (ixAt s994 t1032))) fun xs1038 => mapW (fun y1033 => (bnd (bnd (ret v995) fun t1036 => bnd (bnd (ret y1033) fun t1034 => bnd (ret ()) fun t1035 => ret (t1034, t1035)) fun t1037 => ret (t1036, t1037)) w_law_mul)) xs1038) fun t1039 => bnd (ret ()) fun t1040 => ret (t1039, t1040)) w_law_fitting) (ret false)) fun b1042 => ite b1042 (bnd (bnd (bnd (bnd (ret (0 : Int)) fun t1043 => grd (ixOk s994 t1043) (ret (ixAt s994 t1043))) fun xs1049 => mapW (fun y1044 => (bnd (bnd (ret v995) fun t1047 => bnd (bnd (ret y1044) fun t1045 => bnd (ret ()) fun t1046 => ret (t1045, t1046)) fun t1048 => ret (t1047, t1048)) w_law_mul)) xs1049) fun t1051 => bnd (ret (0 : Int)) fun t1052 => grd (ixOk s994 t1052) (ret (t1052, t1051))) fun v1050 => (ret (Fl.nx ((s994.set ((ixN s994.length v1050.1).getD 0) v1050.2))))) (ret (Fl.nx (s994)))) (sq fun (s1053 : ((List (List (Int × Int))))) => (bnd (bnd (bnd (bnd (bnd (bnd (ret s1053) fun t1055 => bnd (ret ()) fun t1056 => ret (t1055, t1056)) fun t1057 => grd true (ret (t1057.1.length : Int))) fun t1058 => bnd (ret (1 : Int)) fun t1059 => ret (t1058 + t1059)) fun t1060 => bnd (ret ()) fun t1061 => ret (t1060, t1061)) (fun x => pickW x.1)) fun v1054 => (bnd (bnd (bnd (ret s1053) fun t1063 => bnd (bnd (ret v1054) fun t1062 => ret (some t1062)) fun t1064 => bnd (ret none) fun t1065 => ret ((t1063.drop (HT.sIx t1063.length 0 t1064)).take (HT.sIx t1063.length t1063.length t1065 - HT.sIx t1063.length 0 t1064))) fun t1071 => bnd (bnd (bnd (ret s1053) fun t1067 => bnd (ret none) fun t1068 => bnd (bnd (ret v1054) fun t1066 => ret (some t1066)) fun t1069 => ret ((t1067.drop (HT.sIx t1067.length 0 t1068)).take (HT.sIx t1067.length t1067.length t1069 - HT.sIx t1067.length 0 t1068))) fun t1070 => ret t1070.reverse) fun t1072 => grd (decide (t1071.length + t1072.length ≤ 16777216)) (ret (t1071 ++ t1072))) fun t1073 => ret (Fl.rt t1073)))))))))
def w_law_turned (x : ((List (List (Int × Int))) × Unit)) : W (List (List (Int × Int))) := fnR (wb_law_turned x)
def wb_law_shaped (x : ((List (List (Int × Int))) × Int × Unit)) : W (Fl Empty Empty Bool) := (bnd (ret ([] : List Int)) fun v1074 => (bnd (bnd (ret x.1) fun xs => forW (fun (s1076 : ((List Int))) y1077 => (bnd (bnd (bnd (bnd (ret x.2.1) fun t1079 => bnd (ret ()) fun t1080 => ret (t1079, t1080)) fun t1081 => grd (rngOk 0 t1081.1) (ret (rangeF 0 t1081.1.toNat))) fun xs1083 => filW (fun y1082 => (bnd (bnd (bnd (ret y1077) fun t1084 => bnd (ret y1082) fun t1085 => grd (ixOk t1084 t1085) (ret (ixAt t1084 t1085))) fun t1086 => ret t1086.1) fun t1087 => bnd (ret (0 : Int)) fun t1088 => ret (!decide (t1087 = t1088)))) (fun y1082 => (ret y1082)) xs1083) fun v1078 => (bnd (bnd (bnd (bnd (ret v1078) fun t1089 => bnd (ret ([] : List Int)) fun t1090 => ret (PyData.eqv (PyData.list (List.map (fun z => (PyData.int z)) t1089)) (PyData.list (List.map (fun z => (PyData.int z)) t1090)))) fun t1112 => ite t1112 (ret true) (bnd (bnd (bnd (ret y1077) fun t1093 => bnd (bnd (ret v1078) fun t1091 => bnd (ret (0 : Int)) fun t1092 => grd (ixOk t1091 t1092) (ret (ixAt t1091 t1092))) fun t1094 => grd (ixOk t1093 t1094) (ret (ixAt t1093 t1094))) fun t1100 => bnd (bnd (bnd (ret (1 : Int)) fun t1097 => bnd (bnd (ret (1 : Int)) fun t1095 => bnd (ret ()) fun t1096 => ret (t1095, t1096)) fun t1098 => ret (t1097, t1098)) fun t1099 => ret (t1099.1, t1099.2.1)) fun t1101 => ret (!(PyData.eqv (PyData.tuple [(PyData.int t1100.1), (PyData.int t1100.2)]) (PyData.tuple [(PyData.int t1101.1), (PyData.int t1101.2)])))) fun t1111 => ite t1111 (ret true) (bnd (bnd (ret s1076) fun t1102 => bnd (ret ([] : List Int)) fun t1103 => ret (!(PyData.eqv (PyData.list (List.map (fun z => (PyData.int z)) t1102)) (PyData.list (List.map (fun z => (PyData.int z)) t1103))))) fun t1110 => ite t1110 (bnd (bnd (ret v1078) fun t1104 => bnd (ret (0 : Int)) fun t1105 => grd (ixOk t1104 t1105) (ret (ixAt t1104 t1105))) fun t1108 => bnd (bnd (bnd (ret (1 : Int)) fun t1106 => ret (-t1106)) fun t1107 => grd (ixOk s1076 t1107) (ret (ixAt s1076 t1107))) fun t1109 => ret (decide (t1108 ≤ t1109))) (ret false)))) fun b1113 => ite b1113 (bnd (ret false) fun t1114 => ret (Fl.rt t1114)) (ret (Fl.nx ()))) (sq fun (_ : Unit) => (bnd (bnd (bnd (ret v1078) fun t1115 => bnd (ret (0 : Int)) fun t1116 => grd (ixOk t1115 t1116) (ret (ixAt t1115 t1116))) fun t1118 => grd (decide (s1076.length < 16777216)) (ret t1118)) fun v1117 => (ret (Fl.nx ((s1076 ++ [v1117]))))))))) (v1074) xs) (sq fun (s1119 : ((List Int))) => (bnd (bnd (ret s1119) fun xs => forW (fun (s1120 : Unit) y1121 => (bnd (bnd (bnd (bnd (bnd (bnd (ret x.1) fun xs1123 => filW (fun y1122 => (bnd (bnd (bnd (ret y1122) fun t1124 => bnd (ret y1121) fun t1125 => grd (ixOk t1124 t1125) (ret (ixAt t1124 t1125))) fun t1126 => ret t1126.1) fun t1127 => bnd (ret (0 : Int)) fun t1128 => ret (!decide (t1127 = t1128)))) (fun y1122 => (ret y1122)) xs1123) fun t1129 => bnd (ret ()) fun t1130 => ret (t1129, t1130)) fun t1131 => grd true (ret (t1131.1.length : Int))) fun t1132 => bnd (ret (1 : Int)) fun t1133 => ret (!decide (t1132 = t1133))) fun b1134 => ite b1134 (bnd (ret false) fun t1135 => ret (Fl.rt t1135)) (ret (Fl.nx ()))) (sq fun (_ : Unit) => (ret (Fl.nx ()))))) () xs) (sq fun (s1136 : Unit) => (bnd (ret true) fun t1137 => ret (Fl.rt t1137)))))))
def w_law_shaped (x : ((List (List (Int × Int))) × Int × Unit)) : W Bool := fnR (wb_law_shaped x)
def wb_law_holds (x : ((List (List (Int × Int))) × (List Int) × (List (Int × Int)) × Unit)) : W (Fl Empty Empty Bool) := (bnd (bnd (bnd (bnd (ret x.2.1) fun t1140 => bnd (bnd (ret x.1) fun t1138 => bnd (ret ()) fun t1139 => ret (t1138, t1139)) fun t1141 => ret (t1140, t1141)) fun t1142 => ret (t1142.1.zip t1142.2.1)) fun xs => forW (fun (s1143 : ((List (Int × Int)))) y1144 => (bnd (bnd (bnd (ret s1143) fun t1152 => bnd (bnd (bnd (ret s1143) fun t1148 => bnd (ret y1144.1) fun t1149 => grd (ixOk t1148 t1149) (ret (ixAt t1148 t1149))) fun t1150 => bnd (bnd (ret y1144.2) fun t1146 => bnd (ret ()) fun t1147 => ret (t1146, t1147)) fun t1151 => ret (t1150, t1151)) fun t1153 => ret (t1152, t1153)) w_law_minus) fun v1145 => (ret (Fl.nx (v1145))))) (x.2.2.1) xs) (sq fun (s1154 : ((List (Int × Int)))) => (bnd (bnd (bnd (ret s1154) fun xs1156 => filW (fun y1155 => (bnd (bnd (ret y1155) fun t1157 => ret t1157.1) fun t1158 => bnd (ret (0 : Int)) fun t1159 => ret (!decide (t1158 = t1159)))) (fun y1155 => (ret y1155)) xs1156) fun t1160 => bnd (ret ([] : List (Int × Int))) fun t1161 => ret (PyData.eqv (PyData.list (List.map (fun z => (PyData.tuple [(PyData.int z.1), (PyData.int z.2)])) t1160)) (PyData.list (List.map (fun z => (PyData.tuple [(PyData.int z.1), (PyData.int z.2)])) t1161)))) fun t1162 => ret (Fl.rt t1162))))
def w_law_holds (x : ((List (List (Int × Int))) × (List Int) × (List (Int × Int)) × Unit)) : W Bool := fnR (wb_law_holds x)
def wb_law (x : ((List Int) × Unit)) : W (Fl Empty Empty Bool) := (bnd (bnd (bnd (bnd (ret (2 : Int)) fun t1163 => bnd (ret ()) fun t1164 => ret (t1163, t1164)) fun t1165 => grd (rngOk 0 t1165.1) (ret (rangeF 0 t1165.1.toNat))) fun xs => forW (fun (s1166 : Unit) y1167 => (bnd (bnd (ret ()) w_law_rows) fun v1168 => (bnd (bnd (ret v1168.1) fun xs1174 => mapW (fun y1170 => (bnd (bnd (ret y1170) fun t1171 => bnd (ret ()) fun t1172 => ret (t1171, t1172)) fun t1173 => grd true (ret t1173.1))) xs1174) fun v1169 => (bnd (bnd (bnd (bnd (bnd (ret v1169) fun t1178 => bnd (bnd (ret v1168.2) fun t1176 => bnd (ret ()) fun t1177 => ret (t1176, t1177)) fun t1179 => ret (t1178, t1179)) w_span) fun t1186 => bnd (bnd (bnd (bnd (ret v1168.1) fun t1182 => bnd (bnd (ret v1168.2) fun t1180 => bnd (ret ()) fun t1181 => ret (t1180, t1181)) fun t1183 => ret (t1182, t1183)) w_law_form) fun t1184 => bnd (ret ()) fun t1185 => ret (t1184, t1185)) fun t1187 => ret (t1186, t1187)) fun t1188 => ret (t1188.1, t1188.2.1)) fun v1175 => (bnd (bnd (bnd (bnd (bnd (bnd (bnd (ret v1175.1) fun t1192 => ret (D.lst (List.map (fun z => (D.lst (List.map (fun z => (D.tup [(D.int z.1), (D.int z.2)])) z))) t1192))) fun t1193 => bnd (bnd (bnd (ret v1175.2) fun t1189 => ret (D.lst (List.map (fun z => (D.lst (List.map (fun z => (D.tup [(D.int z.1), (D.int z.2)])) z))) t1189))) fun t1190 => bnd (ret ()) fun t1191 => ret (t1190, t1191)) fun t1194 => ret (t1193, t1194)) (w_law_alike 6)) fun t1195 => ret (!t1195)) fun t1204 => ite t1204 (ret true) (bnd (bnd (ret v1169) fun t1196 => bnd (ret v1168.1) fun t1197 => ret (!(PyData.eqv (PyData.list (List.map (fun z => (PyData.list (List.map (fun z => (PyData.tuple [(PyData.int z.1), (PyData.int z.2)])) z))) t1196)) (PyData.list (List.map (fun z => (PyData.list (List.map (fun z => (PyData.tuple [(PyData.int z.1), (PyData.int z.2)])) z))) t1197))))) fun t1203 => ite t1203 (ret true) (bnd (bnd (bnd (ret v1175.1) fun t1200 => bnd (bnd (ret v1168.2) fun t1198 => bnd (ret ()) fun t1199 => ret (t1198, t1199)) fun t1201 => ret (t1200, t1201)) w_law_shaped) fun t1202 => ret (!t1202)))) fun b1205 => ite b1205 (bnd (ret false) fun t1206 => ret (Fl.rt t1206)) (ret (Fl.nx ()))) (sq fun (_ : Unit) => (bnd (bnd (ret v1175.1) fun xs1221 => mapW (fun y1208 => (bnd (bnd (bnd (bnd (ret v1168.2) fun t1209 => bnd (ret ()) fun t1210 => ret (t1209, t1210)) fun t1211 => grd (rngOk 0 t1211.1) (ret (rangeF 0 t1211.1.toNat))) fun xs1213 => filW (fun y1212 => (bnd (bnd (bnd (ret y1208) fun t1214 => bnd (ret y1212) fun t1215 => grd (ixOk t1214 t1215) (ret (ixAt t1214 t1215))) fun t1216 => ret t1216.1) fun t1217 => bnd (ret (0 : Int)) fun t1218 => ret (!decide (t1217 = t1218)))) (fun y1212 => (ret y1212)) xs1213) fun t1219 => bnd (ret (0 : Int)) fun t1220 => grd (ixOk t1219 t1220) (ret (ixAt t1219 t1220)))) xs1221) fun v1207 => (bnd (bnd (bnd (bnd (ret v1168.1) fun xs1223 => filW (fun y1222 => (bnd (bnd (bnd (ret v1175.1) fun t1228 => bnd (bnd (ret v1207) fun t1226 => bnd (bnd (ret y1222) fun t1224 => bnd (ret ()) fun t1225 => ret (t1224, t1225)) fun t1227 => ret (t1226, t1227)) fun t1229 => ret (t1228, t1229)) w_law_holds) fun t1230 => ret (!t1230))) (fun y1222 => (ret y1222)) xs1223) fun t1231 => bnd (ret ([] : List (List (Int × Int)))) fun t1232 => ret (!(PyData.eqv (PyData.list (List.map (fun z => (PyData.list (List.map (fun z => (PyData.tuple [(PyData.int z.1), (PyData.int z.2)])) z))) t1231)) (PyData.list (List.map (fun z => (PyData.list (List.map (fun z => (PyData.tuple [(PyData.int z.1), (PyData.int z.2)])) z))) t1232))))) fun b1233 => ite b1233 (bnd (ret false) fun t1234 => ret (Fl.rt t1234)) (ret (Fl.nx ()))) (sq fun (_ : Unit) => (bnd (bnd (bnd (bnd (bnd (bnd (bnd (bnd (ret v1168.2) fun t1242 => bnd (bnd (bnd (bnd (ret v1168.1) fun t1238 => bnd (ret ()) fun t1239 => ret (t1238, t1239)) w_law_turned) fun t1240 => bnd (ret ()) fun t1241 => ret (t1240, t1241)) fun t1243 => ret (t1242, t1243)) fun t1244 => w_span (t1244.2.1, t1244.1, ())) fun t1245 => ret (D.lst (List.map (fun z => (D.lst (List.map (fun z => (D.tup [(D.int z.1), (D.int z.2)])) z))) t1245))) fun t1246 => bnd (bnd (bnd (ret v1175.2) fun t1235 => ret (D.lst (List.map (fun z => (D.lst (List.map (fun z => (D.tup [(D.int z.1), (D.int z.2)])) z))) t1235))) fun t1236 => bnd (ret ()) fun t1237 => ret (t1236, t1237)) fun t1247 => ret (t1246, t1247)) (w_law_alike 6)) fun t1248 => ret (!t1248)) fun b1249 => ite b1249 (bnd (ret false) fun t1250 => ret (Fl.rt t1250)) (ret (Fl.nx ()))) (sq fun (_ : Unit) => (bnd (bnd (bnd (bnd (bnd (ret v1175.1) fun t1252 => bnd (ret ()) fun t1253 => ret (t1252, t1253)) fun t1254 => grd true (ret (t1254.1.length : Int))) fun t1255 => bnd (ret (20 : Int)) fun t1256 => ret (decide (t1255 ≤ t1256))) fun t1261 => ite t1261 (bnd (bnd (ret v1175.1) fun t1257 => ret t1257.reverse) fun t1258 => bnd (ret v1175.1) fun t1259 => grd (decide (t1258.length + t1259.length ≤ 16777216)) (ret (t1258 ++ t1259))) (bnd (ret v1175.1) fun t1260 => ret t1260.reverse)) fun v1251 => (bnd (bnd (bnd (bnd (bnd (bnd (bnd (bnd (bnd (ret v1175.1) fun t1267 => bnd (bnd (ret v1168.2) fun t1265 => bnd (ret ()) fun t1266 => ret (t1265, t1266)) fun t1268 => ret (t1267, t1268)) w_span) fun t1269 => ret (D.lst (List.map (fun z => (D.lst (List.map (fun z => (D.tup [(D.int z.1), (D.int z.2)])) z))) t1269))) fun t1270 => bnd (bnd (bnd (ret v1175.2) fun t1262 => ret (D.lst (List.map (fun z => (D.lst (List.map (fun z => (D.tup [(D.int z.1), (D.int z.2)])) z))) t1262))) fun t1263 => bnd (ret ()) fun t1264 => ret (t1263, t1264)) fun t1271 => ret (t1270, t1271)) (w_law_alike 6)) fun t1272 => ret (!t1272)) fun t1284 => ite t1284 (ret true) (bnd (bnd (bnd (bnd (bnd (bnd (ret v1251) fun t1278 => bnd (bnd (ret v1168.2) fun t1276 => bnd (ret ()) fun t1277 => ret (t1276, t1277)) fun t1279 => ret (t1278, t1279)) w_span) fun t1280 => ret (D.lst (List.map (fun z => (D.lst (List.map (fun z => (D.tup [(D.int z.1), (D.int z.2)])) z))) t1280))) fun t1281 => bnd (bnd (bnd (ret v1175.2) fun t1273 => ret (D.lst (List.map (fun z => (D.lst (List.map (fun z => (D.tup [(D.int z.1), (D.int z.2)])) z))) t1273))) fun t1274 => bnd (ret ()) fun t1275 => ret (t1274, t1275)) fun t1282 => ret (t1281, t1282)) (w_law_alike 6)) fun t1283 => ret (!t1283))) fun b1285 => ite b1285 (bnd (ret false) fun t1286 => ret (Fl.rt t1286)) (ret (Fl.nx ()))) (sq fun (_ : Unit) => (ret (Fl.nx ())))))))))))))))) () xs) (sq fun (s1287 : Unit) => (bnd (bnd (bnd (bnd (bnd (bnd (ret ([] : List (List (Int × Int)))) fun t1297 => bnd (bnd (bnd (ret (1 : Int)) fun t1293 => bnd (bnd (bnd (ret (40 : Int)) fun t1291 => bnd (ret ()) fun t1292 => ret (t1291, t1292)) (fun x => pickW x.1)) fun t1294 => ret (t1293 + t1294)) fun t1295 => bnd (ret ()) fun t1296 => ret (t1295, t1296)) fun t1298 => ret (t1297, t1298)) w_span) fun t1299 => ret (D.lst (List.map (fun z => (D.lst (List.map (fun z => (D.tup [(D.int z.1), (D.int z.2)])) z))) t1299))) fun t1300 => bnd (bnd (bnd (ret ([] : List D)) fun t1288 => ret (D.lst (List.map (fun z => z) t1288))) fun t1289 => bnd (ret ()) fun t1290 => ret (t1289, t1290)) fun t1301 => ret (t1300, t1301)) (w_law_alike 6)) fun t1302 => ret (Fl.rt t1302))))
def w_law (x : ((List Int) × Unit)) : W Bool := fnR (wb_law x)
section
variable {P : Program} {w : World} {K : PySem.W.Frag} {mg : Str → Option Value} {base : Heap}
theorem b_law_pool (T : Txt K mg) : Binds K T.d_law_pool P_law_pool [] := T.F_law_pool.binds fun _ _ _ _ _ _ us hl => match us, hl with | [_], _ => rfl
theorem b_law_pick (T : Txt K mg) : Binds K T.d_law_pick P_law_pick [] := T.F_law_pick.binds fun _ _ _ _ _ _ us hl => match us, hl with | [_, _], _ => rfl
theorem b_lowest (T : Txt K mg) : Binds K T.d_lowest P_lowest [] := T.F_lowest.binds fun _ _ _ _ _ _ us hl => match us, hl with | [_, _], _ => rfl
theorem b_is_number (T : Txt K mg) : Binds K T.d_is_number P_is_number [] := T.F_is_number.binds fun _ _ _ _ _ _ us hl => match us, hl with | [_], _ => rfl
theorem b_check_numbers (T : Txt K mg) : Binds K T.d_check_numbers P_check_numbers [] := T.F_check_numbers.binds fun _ _ _ _ _ _ us hl => match us, hl with | [_], _ => rfl
theorem b_integers_of (T : Txt K mg) : Binds K T.d_integers_of P_integers_of [] := T.F_integers_of.binds fun _ _ _ _ _ _ us hl => match us, hl with | [_], _ => rfl
theorem b_numbers_of (T : Txt K mg) : Binds K T.d_numbers_of P_numbers_of [] := T.F_numbers_of.binds fun _ _ _ _ _ _ us hl => match us, hl with | [_, _], _ => rfl
theorem b_divided (T : Txt K mg) : Binds K T.d_divided P_divided [] := T.F_divided.binds fun _ _ _ _ _ _ us hl => match us, hl with | [_], _ => rfl
theorem b_cleared (T : Txt K mg) : Binds K T.d_cleared P_cleared [] := T.F_cleared.binds fun _ _ _ _ _ _ us hl => match us, hl with | [_, _, _], _ => rfl
theorem b_reduced (T : Txt K mg) : Binds K T.d_reduced P_reduced [] := T.F_reduced.binds fun _ _ _ _ _ _ us hl => match us, hl with | [_], _ => rfl
theorem b_check_rows (T : Txt K mg) : Binds K T.d_check_rows P_check_rows [] := T.F_check_rows.binds fun _ _ _ _ _ _ us hl => match us, hl with | [_, _], _ => rfl
theorem b_span (T : Txt K mg) : Binds K T.d_span P_span [] := T.F_span.binds fun _ _ _ _ _ _ us hl => match us, hl with | [_, _], _ => rfl
theorem b_law_low (T : Txt K mg) : Binds K T.d_law_low P_law_low [] := T.F_law_low.binds fun _ _ _ _ _ _ us hl => match us, hl with | [_, _], _ => rfl
theorem b_law_add (T : Txt K mg) : Binds K T.d_law_add P_law_add [] := T.F_law_add.binds fun _ _ _ _ _ _ us hl => match us, hl with | [_, _], _ => rfl
theorem b_law_mul (T : Txt K mg) : Binds K T.d_law_mul P_law_mul [] := T.F_law_mul.binds fun _ _ _ _ _ _ us hl => match us, hl with | [_, _], _ => rfl
theorem b_law_number (T : Txt K mg) : Binds K T.d_law_number P_law_number [] := T.F_law_number.binds fun _ _ _ _ _ _ us hl => match us, hl with | [_, _], _ => rfl
theorem b_law_alike (T : Txt K mg) : Binds K T.d_law_alike P_law_alike [] := T.F_law_alike.binds fun _ _ _ _ _ _ us hl => match us, hl with | [_, _], _ => rfl
theorem b_law_line (T : Txt K mg) : Binds K T.d_law_line P_law_line [] := T.F_law_line.binds fun _ _ _ _ _ _ us hl => match us, hl with | [_, _, _], _ => rfl
theorem b_law_shape (T : Txt K mg) : Binds K T.d_law_shape P_law_shape [] := T.F_law_shape.binds fun _ _ _ _ _ _ us hl => match us, hl with | [_], _ => rfl
theorem b_law_fitting (T : Txt K mg) : Binds K T.d_law_fitting P_law_fitting [] := T.F_law_fitting.binds fun _ _ _ _ _ _ us hl => match us, hl with | [_], _ => rfl
theorem b_law_dull (T : Txt K mg) : Binds K T.d_law_dull P_law_dull [] := T.F_law_dull.binds fun _ _ _ _ _ _ us hl => match us, hl with | [_, _, _], _ => rfl
theorem b_law_thin (T : Txt K mg) : Binds K T.d_law_thin P_law_thin [] := T.F_law_thin.binds fun _ _ _ _ _ _ us hl => match us, hl with | [_, _], _ => rfl
theorem b_law_rows (T : Txt K mg) : Binds K T.d_law_rows P_law_rows [] := T.F_law_rows.binds fun _ _ _ _ _ _ us hl => match us, hl with | [_], _ => rfl
theorem b_law_minus (T : Txt K mg) : Binds K T.d_law_minus P_law_minus [] := T.F_law_minus.binds fun _ _ _ _ _ _ us hl => match us, hl with | [_, _, _], _ => rfl
theorem b_law_form (T : Txt K mg) : Binds K T.d_law_form P_law_form [] := T.F_law_form.binds fun _ _ _ _ _ _ us hl => match us, hl with | [_, _], _ => rfl
theorem b_law_turned (T : Txt K mg) : Binds K T.d_law_turned P_law_turned [] := T.F_law_turned.binds fun _ _ _ _ _ _ us hl => match us, hl with | [_, _], _ => rfl
theorem b_law_shaped (T : Txt K mg) : Binds K T.d_law_shaped P_law_shaped [] := T.F_law_shaped.binds fun _ _ _ _ _ _ us hl => match us, hl with | [_, _], _ => rfl
theorem b_law_holds (T : Txt K mg) : Binds K T.d_law_holds P_law_holds [] := T.F_law_holds.binds fun _ _ _ _ _ _ us hl => match us, hl with | [_, _, _], _ => rfl
theorem b_law (T : Txt K mg) : Binds K T.d_law P_law [] := T.F_law.binds fun _ _ _ _ _ _ us hl => match us, hl with | [_], _ => rfl
def g_kb_span_1_0 {α : Type} : List α → List α → List α
  | [], [u0, u1] => [u1, u0]
  | _, _ => []
theorem kb_span_1_0_bad {α : Type} {us ws : List α} (h : ¬ (us.length = 0 ∧ ws.length = 2)) : g_kb_span_1_0 us ws = [] := by
  unfold g_kb_span_1_0
  split
  · exact absurd ⟨rfl, rfl⟩ h
  · rfl
theorem kb_span_1_0 (T : Txt K mg) : KBinds K T.d_span P_span [Str.ofString "size", Str.ofString "rows"] g_kb_span_1_0 g_kb_span_1_0 where
  to := fun s us ws _ hl => by
    by_cases h : us.length = 0 ∧ ws.length = 2
    · obtain ⟨hu, hw⟩ := h
      obtain ⟨oc, od, kV, doc, pm, an, cdv, ct, osl, e, _, _⟩ := T.F_span.ex
      rw [e]
      match us, ws, hu, hw with
      | [], [_, _], _, _ => exact BindsTo.of_eq rfl
    · rw [kb_span_1_0_bad h] at hl
      exact absurd hl (by decide)
  rel := fun {vs us zs ws} r1 r2 => by
    by_cases h : vs.length = 0 ∧ zs.length = 2
    · obtain ⟨hv, hz⟩ := h
      match vs, us, r1, hv, zs, ws, r2, hz with
      | [], _, Paired.nil, _, [_, _], _, Paired.cons r0 (Paired.cons r1 (Paired.nil)), _ => exact Paired.cons r1 (Paired.cons r0 (Paired.nil))
    · have h2 : ¬ (us.length = 0 ∧ ws.length = 2) := fun ⟨x, y⟩ => h ⟨r1.length.trans x, r2.length.trans y⟩
      rw [kb_span_1_0_bad h, kb_span_1_0_bad h2]
      exact .nil
theorem kb_span_1_0_pm (T : Txt K mg) {pp : PP} {O : AS} {H : Hp} {zs : List V} {y : (Int × (List (List (Int × Int))) × Unit)} (h : ((aC eI (aC (eL (eL eN)) aN)) : EA K _).r pp O H zs y) : ((aC (eL (eL eN)) (aC eI aN)) : EA K _).r pp O H (g_kb_span_1_0 [] zs) ((y.2.1, y.1, ())) := by
  obtain ⟨_, _, rfl, q0, _, _, rfl, q1, rfl⟩ := h
  exact ⟨_, _, rfl, q1, _, _, rfl, q0, rfl⟩
theorem ok_law_pick {f : Addr} {fd : FuncData} (F : Fun K "_law_pick" "_law_pick" s_law_pick f fd) (mi : mg "int" = none) : FnOk P w K mg base CX0 1 f fd ["_law_pool_here", "_law_many"] (spW (K := K) poolA (aPl (aC eI aN)) (fun x => pickW x.1) eI) := by
  refine F.ok sc_law_pick (fun vs H Q E h => ?_) (fun cdv A outer s H vs Q E hr h => ?_)
  · obtain ⟨pp, O, x, Φ, c, _, _, _, r, _⟩ := h
    exact (aPl (aC eI aN)).hlen r
  · obtain ⟨pp, O, x, Φ, c, hd, hf, hp, ⟨a, b, _, rfl, rfl, v, _, rfl, rv, rfl⟩, ⟨⟨hm0, hm1, hc⟩, hw⟩, q⟩ := h
    cases (show v = V.int x.1 from rv)
    obtain ⟨gs, f0, m, d, ha, hb, hab, hgs, hf0, m0, m1, d0, d1⟩ := hp
    refine ⟨_, pss_cons (pool_while (a := a) (b := b) (m := m) (d := d) (x := x.1) (u := hr.units) (ps_while PassesOwn.never (PW.pt (pw_and (pt_cmpR op_eq (pe_ix ix_list (pv 0) pe_int (fun _ _ => rfl)) pe_int (nomark _)) (pw_and1 (pt_cmpR (op_neD hr.units) (pe_ix ix_list (pv 0) pe_int (fun _ _ => rfl)) (pe_lst pa_nil) (nomark _)))))
        (pss_one (ps_asg (pe_bm PySem.F.plainAttrs_list PySem.F.slot_list_pop PySem.F.type_list_pop mt_popAt (pe_ix ix_list (pv 0) pe_int (fun _ _ => rfl)) (pa_cons pe_int pa_nil)) (pg_sub (pv 0) pe_int set_list)))) ?hs ?hb)
      (pss_cons (ps_if (pt_cmpR op_gt (pe_ix ix_list (pv 0) pe_int (fun _ _ => rfl)) pe_int (nomark _))
          (pss_cons (ps_set (i := 2) sc_law_pick.nd rfl (.inl rfl) (pe_op op_mod (pe_callTy call_int1 (by rfl) mi (by decide +kernel) (pa_cons (pe_ix ix_list (pv 0) pe_int (fun _ _ => rfl)) pa_nil)) (pv 1)))
          (pss_cons (ps_asg (pe_op op_fdivA (pe_ix ix_list (pv 0) pe_int (fun _ _ => rfl)) (pv 1)) (pg_sub (pv 0) pe_int set_list))
          (pss_one (ps_ret (pv 2))))) pss_nil)
      (pss_cons (ps_asg (pe_op op_add (pe_ix ix_list (pv 0) pe_int (fun _ _ => rfl)) pe_int) (pg_sub (pv 0) pe_int set_list))
      (pss_cons (ps_set (i := 3) sc_law_pick.nd rfl (.inl rfl) (pe_op op_mod (pe_callTy call_int1 (by rfl) mi (by decide +kernel) (pa_cons (pe_op op_powX (pe_op op_add (pe_ix ix_list (pv 0) pe_int (fun _ _ => rfl)) (pe_op op_mul pe_int (pe_ix ix_list (pv 0) pe_int (fun _ _ => rfl)))) pe_int) pa_nil)) (pe_op op_add (pe_op op_powX pe_int pe_int) pe_int)))
      (pss_cons (ps_set (i := 3) sc_law_pick.nd rfl (.inl rfl) (pe_op op_mod (pe_callTy call_int1 (by rfl) mi (by decide +kernel) (pa_cons (pe_op op_powX (pe_op op_add (pv 3) (pe_op op_mul pe_int (pe_ix ix_list (pv 0) pe_int (fun _ _ => rfl)))) pe_int) pa_nil)) (pe_op op_add (pe_op op_powX pe_int pe_int) pe_int)))
      (pss_one (ps_ret (pe_op op_mod (pe_callTy call_int1 (by rfl) mi (by decide +kernel) (pa_cons (pe_op op_fdivA (pv 3) (pe_op op_powX pe_int pe_int)) pa_nil)) (pv 1)))))))), ?_⟩
    case hs =>
      intro gs f H1 ⟨ea, eb, ne, hg, hf⟩ R hR
      refine ⟨.ref a, rfl, a, [.ref b, .int f, .int m, .int d], 1, .int f, rfl, rfl, SqL.of ea, rfl, rfl, _, rfl, ?_⟩
      refine ite2 (fun e => ?_) (fun e => ?_)
      · have e0 : f = 0 := V.int.inj (of_decide_eq_true e)
        subst e0
        refine ⟨.ref a, rfl, a, _, 0, .ref b, rfl, rfl, SqL.of ea, rfl, Nat.zero_le _, fun p np => ?_⟩
        have s1 := same_new (o := .lst []) np
        refine ⟨.list (gs.map .int), .list [], .lst (SqL.of (s1 _ _ eb)) (dpInts gs), .lst (SqL.of upd_same) .nil, shInts gs, rfl, _, rfl, ?_⟩
        have z := hR _ s1
        cases gs with
        | nil => simpa [PyData.eqv, PyData.eqvAll] using z
        | cons g gs => simpa [PyData.eqv, PyData.eqvAll] using z
      · have e0 : f ≠ 0 := fun z => e (by rw [z]; rfl)
        have z := hR _ (.refl _)
        simpa [e0] using z
    case hb =>
      intro g gs f H1 D ⟨ea, eb, ne, hg, hf⟩ k
      have e1 : seqIndex? 0 (List.map V.int (g :: gs)).length = some 0 := by simp [seqIndex?]
      refine ⟨.ref a, rfl, a, [.ref b, .int f, .int m, .int d], 0, .ref b, rfl, rfl, SqL.of ea, rfl, .inl ⟨rfl, _, SqL.of eb⟩, b, _, 0, 0, .int g, rfl, rfl, eb, by decide, by decide, e1, rfl, ?_⟩
      refine ⟨.ref a, rfl, a, [.ref b, .int f, .int m, .int d], 1, 1, rfl, rfl, by rw [upd_ne ne]; exact ea, rfl, k _ ⟨upd_same, by rw [upd_ne ne.symm, upd_same]; rfl, ne, fun y hy => hg y (List.mem_cons_of_mem _ hy), hg g List.mem_cons_self⟩ fun y o ey hn => ?_⟩
      rw [upd_ne (fun z => hn (.inl z)), upd_ne (fun z => hn (.inr z))]
      exact ey
    refine ⟨rfl, gs, f0, ⟨ha, hb, hab, hgs, hf0⟩, fun gs f H1 ⟨ea, eb, _, hg, hf⟩ ch1 => ?_⟩
    -- if pool[1] > 0
    refine ⟨.ref a, rfl, a, [.ref b, .int f, .int m, .int d], 1, .int f, rfl, rfl, SqL.of ea, rfl, _, _, rfl, rfl, _, rfl, ite2 (fun e => ?_) (fun e => ?_)⟩
    · refine ⟨.ref a, rfl, a, [.ref b, .int f, .int m, .int d], 1, .int f, rfl, rfl, SqL.of ea, rfl, .inl ⟨f, rfl, .int x.1, rfl, _, _, rfl, rfl, hm0, ?_⟩⟩
      refine ⟨.ref a, rfl, a, [.ref b, .int f, .int m, .int d], 1, .int f, rfl, rfl, SqL.of ea, rfl, .int x.1, rfl, _, _, rfl, rfl, ⟨by omega, hm1⟩, ?_⟩
      refine ⟨.ref a, rfl, a, [.ref b, .int f, .int m, .int d], 1, 1, rfl, rfl, ea, rfl, _, rfl, ?_⟩
      refine q _ _ _ _ (hw (f % x.1) (Int.emod_nonneg _ (by omega)) (Int.emod_lt_of_pos _ hm0)) (fun y o ey hn => ?_) ⟨gs, f.fdiv x.1, m, d, upd_same, by rw [upd_ne hab.symm]; exact eb, hab, hg, ?_, m0, m1, d0, by omega⟩ rfl
      · rw [upd_ne (fun z => hn (.inl z))]
        exact ch1 y o ey hn
      · rw [Int.fdiv_eq_ediv_of_nonneg _ (by omega)]
        exact Int.ediv_nonneg hf (by omega)
    · -- pool[3] = pool[3] + 1
      refine ⟨.ref a, rfl, a, [.ref b, .int f, .int m, .int d], 3, .int d, rfl, rfl, SqL.of ea, rfl, _, _, rfl, rfl, ?_⟩
      refine ⟨.ref a, rfl, a, [.ref b, .int f, .int m, .int d], 3, 3, rfl, rfl, ea, rfl, ?_⟩
      have e1 : upd H1 a (.lst ([.ref b, .int f, .int m, .int d].set 3 (.int (d + 1)))) a = some (.lst [.ref b, .int f, .int m, .int (d + 1)]) := upd_same
      have eb1 : upd H1 a (.lst ([.ref b, .int f, .int m, .int d].set 3 (.int (d + 1)))) b = some (.lst (gs.map V.int)) := by rw [upd_ne hab.symm]; exact eb
      have ch2 : Chg (some (a, b)) H (upd H1 a (.lst ([.ref b, .int f, .int m, .int d].set 3 (.int (d + 1))))) := fun y o ey hn => by
        rw [upd_ne (fun z => hn (.inl z))]
        exact ch1 y o ey hn
      generalize upd H1 a (.lst ([.ref b, .int f, .int m, .int d].set 3 (.int (d + 1)))) = H2 at e1 eb1 ch2 ⊢
      have p1 : (m + 900001 * (d + 1)).natAbs < 2 ^ 1030 := big_lt hc d0 d1 m0 (Int.le_trans m1 (by decide)) (q := 900001) (by decide) (by decide) rfl
      have v1 := bits_lt p1
      refine ⟨.ref a, rfl, a, [.ref b, .int f, .int m, .int (d + 1)], 2, .int m, rfl, rfl, SqL.of e1, rfl, .ref a, rfl, a, [.ref b, .int f, .int m, .int (d + 1)], 3, .int (d + 1), rfl, rfl, SqL.of e1, rfl, _, _, rfl, rfl, .inl ⟨by decide, by decide⟩, _, _, rfl, rfl, _, _, rfl, rfl, ⟨by decide, by omega⟩, .inl ⟨_, rfl, _, _, rfl, rfl, ⟨by decide, by decide⟩, _, _, rfl, rfl, _, _, rfl, rfl, (by show (0 : Int) < 10 ^ 33 + 87; decide +kernel), ?_⟩⟩
      generalize (m + 900001 * (d + 1)) ^ Int.toNat 3 = y0
      have y1 : 0 ≤ y0 % (10 ^ Int.toNat 33 + 87) := Int.emod_nonneg _ (by decide +kernel)
      have y2 : y0 % (10 ^ Int.toNat 33 + 87) < 10 ^ Int.toNat 33 + 87 := Int.emod_lt_of_pos _ (by decide +kernel)
      have ey : y0 % (10 ^ Int.toNat 33 + 87) = y0 % (10 ^ Int.toNat 33 + 87) := rfl
      generalize hy : y0 % (10 ^ Int.toNat 33 + 87) = y at y1 y2
      have y3 : y ≤ 10 ^ 40 := Int.le_trans (Int.le_of_lt y2) (by decide +kernel)
      have v2 := bits_lt (big_lt hc d0 d1 y1 y3 (q := 7919) (by decide) (by decide) rfl)
      rw [← hy] at v2
      refine ⟨_, rfl, .ref a, rfl, a, [.ref b, .int f, .int m, .int (d + 1)], 3, .int (d + 1), rfl, rfl, SqL.of e1, rfl, _, _, rfl, rfl, .inl ⟨by decide, by decide⟩, _, _, rfl, rfl, _, _, rfl, rfl, ⟨by decide, by omega⟩, .inl ⟨_, rfl, _, _, rfl, rfl, ⟨by decide, by decide⟩, _, _, rfl, rfl, _, _, rfl, rfl, (by show (0 : Int) < 10 ^ 31 + 99; decide +kernel), ?_⟩⟩
      refine ⟨_, rfl, _, _, rfl, rfl, ⟨by decide, by decide⟩, _, _, rfl, rfl, ⟨by decide +kernel, by decide +kernel⟩, .inl ⟨_, rfl, .int x.1, rfl, _, _, rfl, rfl, hm0, ?_⟩⟩
      exact q _ _ _ _ (hw _ (Int.emod_nonneg _ (by omega)) (Int.emod_lt_of_pos _ hm0)) ch2 ⟨gs, f, m, d + 1, e1, eb1, hab, hg, hf, m0, m1, by omega, by omega⟩ rfl

theorem ok_law_pool {f : Addr} {fd : FuncData} (F : Fun K "_law_pool" "_law_pool" s_law_pool f fd) (mi : mg "int" = none) (me : mg "enumerate" = none) : FnOk P w K mg base CX0 1 f fd ["_law_script"] (spPool K) := by
  refine F.ok sc_law_pool (fun vs H Q E h => ?_) (fun cdv A outer s H vs Q E hr h => ?_)
  · obtain ⟨a, ns, rfl, _⟩ := h
    rfl
  · obtain ⟨a, ns, rfl, hS, hl, q⟩ := h
    refine ⟨_, pss_cons (ps_par (i := 1) (j := 2) rfl sc_law_pool.nd rfl rfl (by decide) rfl rfl (pa_cons pe_int (pa_cons (pe_lst pa_nil) pa_nil)) (by rfl))
      (pss_cons (ps_for PassesOwn.never rfl (pi_enum (by rfl) me (pa_cons (pv 0) pa_nil)) (pg_tup rfl (pgs_cons (pg_name (i := 3) sc_law_pool.nd rfl (.inl rfl)) (pgs_cons (pg_name (i := 4) sc_law_pool.nd rfl (.inl rfl)) pgs_nil)))
        (pss_one (ps_if (pt_cmpR op_ge (pv 4) (pe_op op_powX pe_int pe_int) (nomark _))
          (pss_one (ps_expr (pe_bm PySem.F.plainAttrs_list PySem.F.slot_list_append PySem.F.type_list_append mt_append (pv 2) (pa_cons (pe_op op_sub (pv 4) (pe_op op_powX pe_int pe_int)) pa_nil))))
          (pss_one (ps_set (i := 1) sc_law_pool.nd rfl (.inl rfl) (pe_op op_add (pe_op op_mod (pe_callTy call_int1 (by rfl) mi (by decide +kernel) (pa_cons (pe_op op_powX (pe_op op_add (pe_op op_add (pv 1) (pe_op op_mul pe_int (pv 3)))
            (pe_op op_mod (pe_callTy call_int1 (by rfl) mi (by decide +kernel) (pa_cons (pv 4) pa_nil)) (pe_op op_add (pe_op op_powX pe_int pe_int) pe_int))) pe_int) pa_nil)) (pe_op op_add (pe_op op_powX pe_int pe_int) pe_int)) pe_int))))))
      (pss_one (ps_ret (pe_lst (pa_cons (pv 2) (pa_cons pe_int (pa_cons (pv 1) (pa_cons pe_int pa_nil)))))))), ?_⟩
    refine ⟨Nat.zero_le _, fun b nb => ?_⟩
    have s0 := same_new (o := .lst []) nb
    refine ⟨_, _, rfl, ?_⟩
    refine ⟨.ref a, rfl, a, _, rfl, s0.seq hS, ?_⟩
    refine ⟨fun i n σ H1 => ∃ m gs y3 y4, σ = [some (.ref a), some (.int m), some (.ref b), y3, y4] ∧ i + n = ns.length ∧ Same H H1 ∧ H1 b = some (.lst (gs.map V.int)) ∧ gs.length ≤ i ∧ (∀ g ∈ gs, 0 ≤ g) ∧ 0 ≤ m ∧ m ≤ 10 ^ 29,
      ⟨ns.length, 60013, [], none, none, rfl, by omega, s0, upd_same, Nat.le_refl _, (fun g hg => absurd hg List.not_mem_nil), by decide, by decide⟩, fun i n σ H1 hW => ?_⟩
    obtain ⟨m, gs, y3, y4, rfl, en, sm, eb, gl, hg, m0, m1⟩ := hW
    have hA : SqL K H1 a (ns.map V.int) := sm.seq hS
    by_cases hi : i < ns.length
    · have g1 : (ns.map V.int)[i]? = some (.int ns[i]) := by rw [List.getElem?_map, List.getElem?_eq_getElem hi]; rfl
      refine .inr ⟨⟨_, _, hA, g1⟩, fun σ H2 => ∃ m gs y3 y4, σ = [some (.ref a), some (.int m), some (.ref b), y3, y4] ∧ Same H H2 ∧ H2 b = some (.lst (gs.map V.int)) ∧ gs.length ≤ i + 1 ∧ (∀ g ∈ gs, 0 ≤ g) ∧ 0 ≤ m ∧ m ≤ 10 ^ 29, fun σ H2 ⟨m, gs, y3, y4, e1, e2, e3, e4, e5, e6⟩ => ⟨n - 1, by omega, m, gs, y3, y4, e1, by omega, e2, e3, e4, e5, e6⟩, fun v H2 y => ?_⟩
      obtain ⟨T, z, rfl, nT, rfl, hz⟩ := y
      have ez := hz _ hA
      rw [g1] at ez
      cases ez
      have sT := same_new (o := .tup [.int (i : Nat), .int ns[i]]) nT
      refine ⟨T, _, rfl, .inl (.inl upd_same), rfl, _, _, rfl, _, _, rfl, rfl, ?_⟩
      have eb2 := sT _ _ eb
      have sm2 := sm.trans sT
      generalize upd H1 T (.tup [.int (i : Nat), .int ns[i]]) = H2 at eb2 sm2 ⊢
      refine ⟨_, rfl, _, _, rfl, rfl, ⟨by decide, by decide⟩, _, _, rfl, rfl, _, rfl, ite2 (fun e => ?_) (fun e => ?_)⟩
      · refine ⟨_, rfl, .inl ⟨rfl, _, SqL.of eb2⟩, _, rfl, _, _, rfl, rfl, ⟨by decide, by decide⟩, _, _, rfl, rfl, b, _, _, rfl, rfl, eb2, ?_, ?_⟩
        · rw [List.length_map]
          exact small1000 (by omega)
        · refine ⟨m, gs ++ [ns[i] - 10 ^ Int.toNat 18], _, _, rfl, fun y o ey => ?_, ?_, by rw [List.length_append]; exact Nat.succ_le_succ gl, fun g hg' => ?_, m0, m1⟩
          · rw [upd_ne (ne_of_none ey nb)]
            exact sm2 _ _ ey
          · rw [upd_same, List.map_append]; rfl
          · rcases List.mem_append.mp hg' with h | h
            · exact hg g h
            · have h : g = ns[i] - 10 ^ Int.toNat 18 := by simpa using h
              have e2 : (10 : Int) ^ Int.toNat 18 ≤ ns[i] := of_decide_eq_true e
              omega
      · have c1 : 0 ≤ ns[i] % (10 ^ Int.toNat 21 + 117) := Int.emod_nonneg _ (by decide +kernel)
        have c2 : ns[i] % (10 ^ Int.toNat 21 + 117) < 10 ^ Int.toNat 21 + 117 := Int.emod_lt_of_pos _ (by decide +kernel)
        have hb : (m + 31 * ((i : Nat) : Int) + ns[i] % (10 ^ Int.toNat 21 + 117)).natAbs < 2 ^ 120 := by
          have k1 : (10 : Int) ^ Int.toNat 21 + 117 ≤ 2 ^ 100 := by decide +kernel
          have k2 : (10 : Int) ^ 29 ≤ 2 ^ 100 := by decide +kernel
          have k3 : (2 : Int) ^ 120 = 2 ^ 100 * 1048576 := by decide +kernel
          have k4 : (1000000 : Int) ≤ 2 ^ 100 := by decide +kernel
          have k5 : m + 31 * ((i : Nat) : Int) + ns[i] % (10 ^ Int.toNat 21 + 117) < 2 ^ 120 := by
            rw [k3]
            generalize ns[i] % (10 ^ Int.toNat 21 + 117) = y at c1 c2 ⊢
            generalize (2 : Int) ^ 100 = z at *
            omega
          have k6 : 0 ≤ m + 31 * ((i : Nat) : Int) + ns[i] % (10 ^ Int.toNat 21 + 117) := by omega
          have : (((m + 31 * ((i : Nat) : Int) + ns[i] % (10 ^ Int.toNat 21 + 117)).natAbs : Nat) : Int) < ((2 ^ 120 : Nat) : Int) := by
            rw [Int.natAbs_of_nonneg k6]
            exact_mod_cast k5
          exact_mod_cast this
        have v1 := bits_lt hb
        refine ⟨_, rfl, _, rfl, _, _, rfl, rfl, .inl ⟨by decide, by decide⟩, _, _, rfl, rfl, _, rfl, .inl ⟨_, rfl, _, _, rfl, rfl, ⟨by decide, by decide⟩, _, _, rfl, rfl, _, _, rfl, rfl, (by show (0 : Int) < 10 ^ 21 + 117; decide +kernel), _, _, rfl, rfl, _, _, rfl, rfl, ⟨by decide, by omega⟩,
          .inl ⟨_, rfl, _, _, rfl, rfl, ⟨by decide, by decide⟩, _, _, rfl, rfl, _, _, rfl, rfl, (by show (0 : Int) < 10 ^ 28 + 331; decide +kernel), _, _, rfl, rfl, _, gs, _, _, rfl, sm2, eb2, Nat.le_succ_of_le gl, hg, ?_, ?_⟩⟩⟩
        · exact Int.add_nonneg (Int.emod_nonneg _ (by decide +kernel)) (by decide)
        · have z := Int.emod_lt_of_pos ((m + 31 * ((i : Nat) : Int) + ns[i] % (10 ^ Int.toNat 21 + 117)) ^ Int.toNat 3) (show (0 : Int) < 10 ^ Int.toNat 28 + 331 by decide +kernel)
          have k1 : (10 : Int) ^ Int.toNat 28 + 331 + 1 ≤ 10 ^ 29 := by decide +kernel
          omega
    · have ei : i = ns.length := by omega
      subst ei
      refine .inl ⟨⟨_, hA, by rw [List.length_map]; exact Nat.le_refl _⟩, ?_⟩
      refine ⟨_, rfl, _, rfl, by show 4 ≤ sizeLine; decide, fun p np => ?_⟩
      have npb : p ≠ b := fun z => by rw [z, eb] at np; cases np
      refine q _ p b (sm.trans (same_new np)) ?_ nb ⟨gs, 0, m, 0, upd_same, by rw [upd_ne npb.symm]; exact eb, npb, hg, by decide, m0, Int.le_trans m1 (by decide), by decide, by decide⟩
      cases e : H p with
      | none => rfl
      | some o => rw [sm p o e] at np; cases np

theorem ok_lowest (T : Txt K mg) : FnOk P w K mg base CX0 1 T.a_lowest T.d_lowest P_lowest (spW (K := K) poolA (aC eI (aC eI aN)) w_lowest eN) :=
  fn_R (k := 0) (wb := wb_lowest) (ρ' := fun z : Empty => nomatch z) T.F_lowest sc_lowest rfl (show 2 ≤ 3 by decide) fun cdv A outer s H E pp x hr => (re [Sl.sh eI x.1, Sl.sh eI x.2.1, Sl.nil] rfl (sx (nset 2 sc_lowest.nd (xcallG c_gcd T.m_gcd (axc (xv 0 rfl) (axc (xv 1 rfl) axn)))) fun _ v1 => (re [Sl.sh eI x.1, Sl.sh eI x.2.1, Sl.sh eI v1] rfl (sq_ (nifJ (fun r (s : Int) => (put r 2 (Sl.sh eI s))) (tcmp w_lt (xv 1 rfl) xint) (re [Sl.sh eI x.1, Sl.sh eI x.2.1, Sl.sh eI v1] rfl (sx (nset 2 sc_lowest.nd (xun w_neg (xv 2 rfl))) fun _ v10 => (re [Sl.sh eI x.1, Sl.sh eI x.2.1, Sl.sh eI v10] rfl (snil (s := (v10)) (Fit.eq (Fit.eq (Fit.eq Fit.nil))))))) (re [Sl.sh eI x.1, Sl.sh eI x.2.1, Sl.sh eI v1] rfl (snil (s := (v1)) (Fit.eq (Fit.eq (Fit.eq Fit.nil)))))) fun s12 => (re [Sl.sh eI x.1, Sl.sh eI x.2.1, Sl.sh eI s12] rfl (sret (xtup2 (axc (xop w_fdiv (xv 0 rfl) (xv 2 rfl)) (axc (xop w_fdiv (xv 1 rfl) (xv 2 rfl)) axn)))))))))
theorem ok_is_number (T : Txt K mg) : FnOk P w K mg base CX0 1 T.a_is_number T.d_is_number P_is_number (spW (K := K) poolA (aC eN aN) w_is_number eB) :=
  fn_R (k := 0) (wb := wb_is_number) (ρ' := fun z : Empty => nomatch z) T.F_is_number sc_is_number rfl (show 1 ≤ 1 by decide) fun cdv A outer s H E pp x hr => (re [Sl.sh eN x.1] rfl (sret (xand (xcmp w_ge (xsnd (xv 0 rfl)) xint) (xone (xcmp w_eqI (xcallG c_gcd T.m_gcd (axc (xfst (xv 0 rfl)) (axc (xsnd (xv 0 rfl)) axn))) xint)))))
theorem ok_check_numbers (T : Txt K mg) : FnOk P w K mg base CX0 2 T.a_check_numbers T.d_check_numbers P_check_numbers (spW (K := K) poolA (aC (eL eN) aN) w_check_numbers eU) :=
  fn_U (k := 1) (wb := wb_check_numbers) (ρ' := fun _ : Unit => List.replicate 2 .nil) T.F_check_numbers sc_check_numbers rfl (show 1 ≤ 2 by decide) fun cdv A outer s H E pp x hr => (re [Sl.sh (eL eN) x.1, Sl.nil] rfl (sq_ (nforJ (fun r (_ : Unit) => r) (s0 := ()) PassesOwn.never rfl (wlistL 1 (xv 0 rfl)) (pg_name (i := 1) sc_check_numbers.nd rfl (by first | exact Or.inl rfl | exact Or.inr rfl)) (Fit.eq (Fit.eq Fit.nil)) (fun s37 y38 => (re [Sl.sh (eL eN) x.1, Sl.sh eN y38] rfl (sq_ (nif0 (tnot (tval (xcall (ok_is_number T) (hr.mono (by decide)) T.m_is_number T.F_is_number.kp (b_is_number T) (axc (xv 1 rfl) axn)))) snever) fun _ => (re [Sl.sh (eL eN) x.1, Sl.sh eN y38] rfl (snil (s := ()) (Fit.eq (Fit.dr Fit.nil)))))))) fun s43 => (re [Sl.sh (eL eN) x.1, Sl.nil] rfl (snil (s := ()) (Fit.dr (Fit.eq Fit.nil))))))
theorem ok_integers_of (T : Txt K mg) : FnOk P w K mg base CX0 1 T.a_integers_of T.d_integers_of P_integers_of (spW (K := K) poolA (aC (eL eN) aN) w_integers_of (eP (eL eI) eI)) :=
  fn_R (k := 0) (wb := wb_integers_of) (ρ' := fun z : Empty => nomatch z) T.F_integers_of sc_integers_of rfl (show 1 ≤ 3 by decide) fun cdv A outer s H E pp x hr => (re [Sl.sh (eL eN) x.1, Sl.nil, Sl.nil] rfl (sx (nset 1 sc_integers_of.nd xint) fun _ v44 => (re [Sl.sh (eL eN) x.1, Sl.sh eI v44, Sl.nil] rfl (sq_ (nforJ (fun r (s : Int) => (put r 1 (Sl.sh eI s))) (s0 := (v44)) PassesOwn.never rfl (wlistL 2 (xv 0 rfl)) (pg_name (i := 2) sc_integers_of.nd rfl (by first | exact Or.inl rfl | exact Or.inr rfl)) (Fit.eq (Fit.eq (Fit.eq Fit.nil))) (fun s45 y46 => (re [Sl.sh (eL eN) x.1, Sl.sh eI s45, Sl.sh eN y46] rfl (sx (nset 1 sc_integers_of.nd (xcallG c_lcm T.m_lcm (axc (xv 1 rfl) (axc (xsnd (xv 2 rfl)) axn)))) fun _ v47 => (re [Sl.sh (eL eN) x.1, Sl.sh eI v47, Sl.sh eN y46] rfl (snil (s := (v47)) (Fit.eq (Fit.eq (Fit.dr Fit.nil))))))))) fun s54 => (re [Sl.sh (eL eN) x.1, Sl.sh eI s54, Sl.nil] rfl (sret (xtup2 (axc (xfr (xlc (own := [(Str.ofString "number", 2)]) rfl sc_integers_of.nd (wlistL 2 (xv 0 rfl)) (blkOk_by (N := N_integers_of) (sc := defScope s_integers_of) (by decide +kernel)) (by decide) (nil1 rfl) (fun _ => rfl) (fun _ _ _ _ _ => (pg_name (i := 2) sc_integers_of.nd rfl (by first | exact Or.inl rfl | exact Or.inr rfl))) (fun _ _ _ _ _ y55 => (xop w_mul (xfst (xv 2 rfl)) (xop w_fdiv (xv 1 rfl) (xsnd (xv 2 rfl))))))) (axc (xv 1 rfl) axn)))))))))
theorem ok_numbers_of (T : Txt K mg) : FnOk P w K mg base CX0 2 T.a_numbers_of T.d_numbers_of P_numbers_of (spW (K := K) poolA (aC (eL eI) (aC eI aN)) w_numbers_of (eL eN)) :=
  fn_R (k := 1) (wb := wb_numbers_of) (ρ' := fun z : Empty => nomatch z) T.F_numbers_of sc_numbers_of rfl (show 2 ≤ 3 by decide) fun cdv A outer s H E pp x hr => (re [Sl.sh (eL eI) x.1, Sl.sh eI x.2.1, Sl.nil] rfl (sret (xfr (xlc (own := [(Str.ofString "integer", 2)]) rfl sc_numbers_of.nd (wlistL 2 (xv 0 rfl)) (blkOk_by (N := N_numbers_of) (sc := defScope s_numbers_of) (by decide +kernel)) (by decide) (nil1 rfl) (fun _ => rfl) (fun _ _ _ _ _ => (pg_name (i := 2) sc_numbers_of.nd rfl (by first | exact Or.inl rfl | exact Or.inr rfl))) (fun _ _ _ _ _ y69 => (xcall (ok_lowest T) (hr.mono (by decide)) T.m_lowest T.F_lowest.kp (b_lowest T) (axc (xv 2 rfl) (axc (xv 1 rfl) axn))))))))
theorem ok_divided (T : Txt K mg) : FnOk P w K mg base CX0 1 T.a_divided T.d_divided P_divided (spW (K := K) poolA (aC (eL eI) aN) w_divided (eL eI)) :=
  fn_R (k := 0) (wb := wb_divided) (ρ' := fun z : Empty => nomatch z) T.F_divided sc_divided rfl (show 1 ≤ 3 by decide) fun cdv A outer s H E pp x hr => (re [Sl.sh (eL eI) x.1, Sl.nil, Sl.nil] rfl (sx (nset 1 sc_divided.nd xint) fun _ v76 => (re [Sl.sh (eL eI) x.1, Sl.sh eI v76, Sl.nil] rfl (sq_ (nforJ (fun r (s : Int) => (put r 1 (Sl.sh eI s))) (s0 := (v76)) PassesOwn.never rfl (wlistL 2 (xv 0 rfl)) (pg_name (i := 2) sc_divided.nd rfl (by first | exact Or.inl rfl | exact Or.inr rfl)) (Fit.eq (Fit.eq (Fit.eq Fit.nil))) (fun s77 y78 => (re [Sl.sh (eL eI) x.1, Sl.sh eI s77, Sl.sh eI y78] rfl (sx (nset 1 sc_divided.nd (xcallG c_gcd T.m_gcd (axc (xv 1 rfl) (axc (xv 2 rfl) axn)))) fun _ v79 => (re [Sl.sh (eL eI) x.1, Sl.sh eI v79, Sl.sh eI y78] rfl (sq_ (nif0 (tcmp w_eqI (xv 1 rfl) xint) (re [Sl.sh (eL eI) x.1, Sl.sh eI v79, Sl.sh eI y78] rfl (sret (xv 0 rfl)))) fun _ => (re [Sl.sh (eL eI) x.1, Sl.sh eI v79, Sl.sh eI y78] rfl (snil (s := (v79)) (Fit.eq (Fit.eq (Fit.dr Fit.nil))))))))))) fun s89 => (re [Sl.sh (eL eI) x.1, Sl.sh eI s89, Sl.nil] rfl (sret (xif (tcmp w_gt (xv 1 rfl) xint) (xfr (xlc (own := [(Str.ofString "integer", 2)]) rfl sc_divided.nd (wlistL 2 (xv 0 rfl)) (blkOk_by (N := N_divided) (sc := defScope s_divided) (by decide +kernel)) (by decide) (nil1 rfl) (fun _ => rfl) (fun _ _ _ _ _ => (pg_name (i := 2) sc_divided.nd rfl (by first | exact Or.inl rfl | exact Or.inr rfl))) (fun _ _ _ _ _ y92 => (xop w_fdiv (xv 2 rfl) (xv 1 rfl))))) (xv 0 rfl))))))))
theorem ok_cleared (T : Txt K mg) : FnOk P w K mg base CX0 2 T.a_cleared T.d_cleared P_cleared (spW (K := K) poolA (aC (eL eI) (aC (eL eI) (aC eI aN))) w_cleared (eL eI)) :=
  fn_R (k := 1) (wb := wb_cleared) (ρ' := fun z : Empty => nomatch z) T.F_cleared sc_cleared rfl (show 3 ≤ 8 by decide) fun cdv A outer s H E pp x hr => (re [Sl.sh (eL eI) x.1, Sl.sh (eL eI) x.2.1, Sl.sh eI x.2.2.1, Sl.nil, Sl.nil, Sl.nil, Sl.nil, Sl.nil] rfl (sx (nset 3 sc_cleared.nd (xcallG c_gcd T.m_gcd (axc (xix w_ixL (xv 0 rfl) (xv 2 rfl)) (axc (xix w_ixL (xv 1 rfl) (xv 2 rfl)) axn)))) fun _ v98 => (re [Sl.sh (eL eI) x.1, Sl.sh (eL eI) x.2.1, Sl.sh eI x.2.2.1, Sl.sh eI v98, Sl.nil, Sl.nil, Sl.nil, Sl.nil] rfl (sx (npair 4 5 rfl sc_cleared.nd (xtup2 (axc (xop w_fdiv (xix w_ixL (xv 1 rfl) (xv 2 rfl)) (xv 3 rfl)) (axc (xop w_fdiv (xix w_ixL (xv 0 rfl) (xv 2 rfl)) (xv 3 rfl)) axn)))) fun _ v108 => (re [Sl.sh (eL eI) x.1, Sl.sh (eL eI) x.2.1, Sl.sh eI x.2.2.1, Sl.sh eI v98, Sl.sh eI v108.1, Sl.sh eI v108.2, Sl.nil, Sl.nil] rfl (sret (xcall (ok_divided T) (hr.mono (by decide)) T.m_divided T.F_divided.kp (b_divided T) (axc (xfr (xlc (own := [(Str.ofString "one", 6), (Str.ofString "two", 7)]) rfl sc_cleared.nd (wzip 6 7 T.z_zip (axc (xv 0 rfl) (axc (xv 1 rfl) axn))) (blkOk_by (N := N_cleared) (sc := defScope s_cleared) (by decide +kernel)) (by decide) (nil2 rfl rfl) (fun _ => rfl) (fun _ _ _ _ _ => (pg_tup rfl (pgs_cons (pg_name (i := 6) sc_cleared.nd rfl (by first | exact Or.inl rfl | exact Or.inr rfl)) (pgs_cons (pg_name (i := 7) sc_cleared.nd rfl (by first | exact Or.inl rfl | exact Or.inr rfl)) pgs_nil)))) (fun _ _ _ _ _ y127 => (xop0 w_sub (xop w_mul (xv 4 rfl) (xv 6 rfl)) (xop w_mul (xv 5 rfl) (xv 7 rfl)))))) axn))))))))
theorem ok_reduced (T : Txt K mg) : FnOk P w K mg base CX0 3 T.a_reduced T.d_reduced P_reduced (spW (K := K) poolA (aC (eL (eL eN)) aN) w_reduced (eL (eL eN))) :=
  fn_R (k := 2) (wb := wb_reduced) (ρ' := fun z : Empty => nomatch z) T.F_reduced sc_reduced rfl (show 1 ≤ 7 by decide) fun cdv A outer s H E pp x hr => (re [Sl.sh (eL (eL eN)) x.1, Sl.nil, Sl.nil, Sl.nil, Sl.nil, Sl.nil, Sl.nil] rfl (sx (ndnew 1 (eL eI) sc_reduced.nd) fun p138 _ => (re [Sl.sh (eL (eL eN)) x.1, Sl.ow p138 (oDK (eL eI)) ([] : (List (Int × (List Int)))), Sl.nil, Sl.nil, Sl.nil, Sl.nil, Sl.nil] rfl (sq_ (nforJ (fun r (s : (List (Int × (List Int)))) => (put r 1 (Sl.ow p138 (oDK (eL eI)) s))) (s0 := (([] : (List (Int × (List Int)))))) PassesOwn.never rfl (wlistL 2 (xv 0 rfl)) (pg_name (i := 2) sc_reduced.nd rfl (by first | exact Or.inl rfl | exact Or.inr rfl)) (Fit.eq (Fit.eq (Fit.eq (Fit.eq (Fit.eq (Fit.eq (Fit.eq Fit.nil))))))) (fun s139 y140 => (re [Sl.sh (eL (eL eN)) x.1, Sl.ow p138 (oDK (eL eI)) s139, Sl.sh (eL eN) y140, Sl.nil, Sl.nil, Sl.nil, Sl.nil] rfl (sx (nset 3 sc_reduced.nd (xfst (xcall (ok_integers_of T) (hr.mono (by decide)) T.m_integers_of T.F_integers_of.kp (b_integers_of T) (axc (xv 2 rfl) axn)))) fun _ v141 => (re [Sl.sh (eL (eL eN)) x.1, Sl.ow p138 (oDK (eL eI)) s139, Sl.sh (eL eN) y140, Sl.sh (eL eI) v141, Sl.nil, Sl.nil, Sl.nil] rfl (sq_ (nforJ (fun r (s : (List Int) × (List (Int × (List Int)))) => (put (put r 3 (Sl.sh (eL eI) s.1)) 1 (Sl.ow p138 (oDK (eL eI)) s.2))) (s0 := (v141, s139)) PassesOwn.never rfl (wrange1 4 T.z_range (axc (xcallB c_len T.z_len (by decide +kernel) (axc (xv 3 rfl) axn)) axn)) (pg_name (i := 4) sc_reduced.nd rfl (by first | exact Or.inl rfl | exact Or.inr rfl)) (Fit.eq (Fit.eq (Fit.eq (Fit.eq (Fit.eq (Fit.eq (Fit.eq Fit.nil))))))) (fun s151 y152 => (re [Sl.sh (eL (eL eN)) x.1, Sl.ow p138 (oDK (eL eI)) s151.2, Sl.sh (eL eN) y140, Sl.sh (eL eI) s151.1, Sl.sh eI y152, Sl.nil, Sl.nil] rfl (sq_ (nifJ (fun r (s : (List Int) × (List (Int × (List Int)))) => (put (put r 3 (Sl.sh (eL eI) s.1)) 1 (Sl.ow p138 (oDK (eL eI)) s.2))) (tcmp w_neI (xix w_ixL (xv 3 rfl) (xv 4 rfl)) xint) (re [Sl.sh (eL (eL eN)) x.1, Sl.ow p138 (oDK (eL eI)) s151.2, Sl.sh (eL eN) y140, Sl.sh (eL eI) s151.1, Sl.sh eI y152, Sl.nil, Sl.nil] rfl (sq_ (nif0 (tdnotin 1 rfl hr (xv 4 rfl)) (re [Sl.sh (eL (eL eN)) x.1, Sl.ow p138 (oDK (eL eI)) s151.2, Sl.sh (eL eN) y140, Sl.sh (eL eI) s151.1, Sl.sh eI y152, Sl.nil, Sl.nil] rfl (sx (ndput 1 rfl hr (xcall (ok_divided T) (hr.mono (by decide)) T.m_divided T.F_divided.kp (b_divided T) (axc (xv 3 rfl) axn)) (xv 4 rfl)) fun _ v162 => (re [Sl.sh (eL (eL eN)) x.1, Sl.ow p138 (oDK (eL eI)) (dPut s151.2 v162.1 v162.2), Sl.sh (eL eN) y140, Sl.sh (eL eI) s151.1, Sl.sh eI y152, Sl.nil, Sl.nil] rfl (sbrk (s := (s151.1, (dPut s151.2 v162.1 v162.2))) (Fit.eq (Fit.eq (Fit.eq (Fit.eq (Fit.dr (Fit.eq (Fit.eq Fit.nil)))))))))))) fun _ => (re [Sl.sh (eL (eL eN)) x.1, Sl.ow p138 (oDK (eL eI)) s151.2, Sl.sh (eL eN) y140, Sl.sh (eL eI) s151.1, Sl.sh eI y152, Sl.nil, Sl.nil] rfl (sx (nset 3 sc_reduced.nd (xcall (ok_cleared T) (hr.mono (by decide)) T.m_cleared T.F_cleared.kp (b_cleared T) (axc (xv 3 rfl) (axc (xdget 1 rfl hr (xv 4 rfl)) (axc (xv 4 rfl) axn))))) fun _ v165 => (re [Sl.sh (eL (eL eN)) x.1, Sl.ow p138 (oDK (eL eI)) s151.2, Sl.sh (eL eN) y140, Sl.sh (eL eI) v165, Sl.sh eI y152, Sl.nil, Sl.nil] rfl (snil (s := (v165, s151.2)) (Fit.eq (Fit.eq (Fit.eq (Fit.eq (Fit.eq (Fit.eq (Fit.eq Fit.nil))))))))))))) (re [Sl.sh (eL (eL eN)) x.1, Sl.ow p138 (oDK (eL eI)) s151.2, Sl.sh (eL eN) y140, Sl.sh (eL eI) s151.1, Sl.sh eI y152, Sl.nil, Sl.nil] rfl (snil (s := (s151.1, s151.2)) (Fit.eq (Fit.eq (Fit.eq (Fit.eq (Fit.eq (Fit.eq (Fit.eq Fit.nil)))))))))) fun s173 => (re [Sl.sh (eL (eL eN)) x.1, Sl.ow p138 (oDK (eL eI)) s173.2, Sl.sh (eL eN) y140, Sl.sh (eL eI) s173.1, Sl.sh eI y152, Sl.nil, Sl.nil] rfl (snil (s := (s173.1, s173.2)) (Fit.eq (Fit.eq (Fit.eq (Fit.eq (Fit.dr (Fit.eq (Fit.eq Fit.nil))))))))))))) fun s174 => (re [Sl.sh (eL (eL eN)) x.1, Sl.ow p138 (oDK (eL eI)) s174.2, Sl.sh (eL eN) y140, Sl.sh (eL eI) s174.1, Sl.nil, Sl.nil, Sl.nil] rfl (snil (s := (s174.2)) (Fit.eq (Fit.eq (Fit.dr (Fit.dr (Fit.eq (Fit.eq (Fit.eq Fit.nil))))))))))))))) fun s175 => (re [Sl.sh (eL (eL eN)) x.1, Sl.ow p138 (oDK (eL eI)) s175, Sl.nil, Sl.nil, Sl.nil, Sl.nil, Sl.nil] rfl (sx (nset 5 sc_reduced.nd (xsortD 1 rfl rfl T.z_sorted)) fun _ v176 => (re [Sl.sh (eL (eL eN)) x.1, Sl.ow p138 (oDK (eL eI)) s175, Sl.nil, Sl.nil, Sl.nil, Sl.sh (eL eI) v176, Sl.nil] rfl (sq_ (nforJ (fun r (s : (List (Int × (List Int)))) => (put r 1 (Sl.ow p138 (oDK (eL eI)) s))) (s0 := (s175)) PassesOwn.never rfl (wlistL 4 (xrev (xv 5 rfl))) (pg_name (i := 4) sc_reduced.nd rfl (by first | exact Or.inl rfl | exact Or.inr rfl)) (Fit.eq (Fit.eq (Fit.eq (Fit.eq (Fit.eq (Fit.eq (Fit.eq Fit.nil))))))) (fun s178 y179 => (re [Sl.sh (eL (eL eN)) x.1, Sl.ow p138 (oDK (eL eI)) s178, Sl.nil, Sl.nil, Sl.sh eI y179, Sl.sh (eL eI) v176, Sl.nil] rfl (sq_ (nforJ (fun r (s : (List (Int × (List Int)))) => (put r 1 (Sl.ow p138 (oDK (eL eI)) s))) (s0 := (s178)) PassesOwn.never rfl (wlistL 6 (xv 5 rfl)) (pg_name (i := 6) sc_reduced.nd rfl (by first | exact Or.inl rfl | exact Or.inr rfl)) (Fit.eq (Fit.eq (Fit.eq (Fit.eq (Fit.eq (Fit.eq (Fit.eq Fit.nil))))))) (fun s180 y181 => (re [Sl.sh (eL (eL eN)) x.1, Sl.ow p138 (oDK (eL eI)) s180, Sl.nil, Sl.nil, Sl.sh eI y179, Sl.sh (eL eI) v176, Sl.sh eI y181] rfl (sq_ (nifJ (fun r (s : (List (Int × (List Int)))) => (put r 1 (Sl.ow p138 (oDK (eL eI)) s))) (tw (wand (tcmp w_lt (xv 6 rfl) (xv 4 rfl)) (wand1 (tcmp w_neI (xix w_ixL (xdget 1 rfl hr (xv 6 rfl)) (xv 4 rfl)) xint)))) (re [Sl.sh (eL (eL eN)) x.1, Sl.ow p138 (oDK (eL eI)) s180, Sl.nil, Sl.nil, Sl.sh eI y179, Sl.sh (eL eI) v176, Sl.sh eI y181] rfl (sx (ndput 1 rfl hr (xcall (ok_cleared T) (hr.mono (by decide)) T.m_cleared T.F_cleared.kp (b_cleared T) (axc (xdget 1 rfl hr (xv 6 rfl)) (axc (xdget 1 rfl hr (xv 4 rfl)) (axc (xv 4 rfl) axn)))) (xv 6 rfl)) fun _ v199 => (re [Sl.sh (eL (eL eN)) x.1, Sl.ow p138 (oDK (eL eI)) (dPut s180 v199.1 v199.2), Sl.nil, Sl.nil, Sl.sh eI y179, Sl.sh (eL eI) v176, Sl.sh eI y181] rfl (snil (s := ((dPut s180 v199.1 v199.2))) (Fit.eq (Fit.eq (Fit.eq (Fit.eq (Fit.eq (Fit.eq (Fit.eq Fit.nil))))))))))) (re [Sl.sh (eL (eL eN)) x.1, Sl.ow p138 (oDK (eL eI)) s180, Sl.nil, Sl.nil, Sl.sh eI y179, Sl.sh (eL eI) v176, Sl.sh eI y181] rfl (snil (s := (s180)) (Fit.eq (Fit.eq (Fit.eq (Fit.eq (Fit.eq (Fit.eq (Fit.eq Fit.nil)))))))))) fun s202 => (re [Sl.sh (eL (eL eN)) x.1, Sl.ow p138 (oDK (eL eI)) s202, Sl.nil, Sl.nil, Sl.sh eI y179, Sl.sh (eL eI) v176, Sl.sh eI y181] rfl (snil (s := (s202)) (Fit.eq (Fit.eq (Fit.eq (Fit.eq (Fit.eq (Fit.eq (Fit.dr Fit.nil))))))))))))) fun s203 => (re [Sl.sh (eL (eL eN)) x.1, Sl.ow p138 (oDK (eL eI)) s203, Sl.nil, Sl.nil, Sl.sh eI y179, Sl.sh (eL eI) v176, Sl.nil] rfl (snil (s := (s203)) (Fit.eq (Fit.eq (Fit.eq (Fit.eq (Fit.dr (Fit.eq (Fit.eq Fit.nil))))))))))))) fun s204 => (re [Sl.sh (eL (eL eN)) x.1, Sl.ow p138 (oDK (eL eI)) s204, Sl.nil, Sl.nil, Sl.nil, Sl.sh (eL eI) v176, Sl.nil] rfl (ndfreeze 1 rfl (re [Sl.sh (eL (eL eN)) x.1, Sl.sh (eDK (eL eI)) s204, Sl.nil, Sl.nil, Sl.nil, Sl.sh (eL eI) v176, Sl.nil] rfl (sret (xfr (xlc (own := [(Str.ofString "first", 6)]) rfl sc_reduced.nd (wlistL 6 (xv 5 rfl)) (blkOk_by (N := N_reduced) (sc := defScope s_reduced) (by decide +kernel)) (by decide) (nil1 rfl) (fun _ => rfl) (fun _ _ _ _ _ => (pg_name (i := 6) sc_reduced.nd rfl (by first | exact Or.inl rfl | exact Or.inr rfl))) (fun _ _ _ _ _ y205 => (xcall (ok_numbers_of T) (hr.mono (by decide)) T.m_numbers_of T.F_numbers_of.kp (b_numbers_of T) (axc (xdgetS hr (xv 1 rfl) (xv 6 rfl)) (axc (xix w_ixL (xdgetS hr (xv 1 rfl) (xv 6 rfl)) (xv 6 rfl)) axn))))))))))))))))))
theorem ok_check_rows (T : Txt K mg) : FnOk P w K mg base CX0 3 T.a_check_rows T.d_check_rows P_check_rows (spW (K := K) poolA (aC (eL (eL eN)) (aC eI aN)) w_check_rows eU) :=
  fn_U (k := 2) (wb := wb_check_rows) (ρ' := fun _ : Unit => List.replicate 3 .nil) T.F_check_rows sc_check_rows rfl (show 2 ≤ 3 by decide) fun cdv A outer s H E pp x hr => (re [Sl.sh (eL (eL eN)) x.1, Sl.sh eI x.2.1, Sl.nil] rfl (sq_ (nforJ (fun r (_ : Unit) => r) (s0 := ()) PassesOwn.never rfl (wlistL 2 (xv 0 rfl)) (pg_name (i := 2) sc_check_rows.nd rfl (by first | exact Or.inl rfl | exact Or.inr rfl)) (Fit.eq (Fit.eq (Fit.eq Fit.nil))) (fun s218 y219 => (re [Sl.sh (eL (eL eN)) x.1, Sl.sh eI x.2.1, Sl.sh (eL eN) y219] rfl (sx (nexpr (xcall (ok_check_numbers T) (hr.mono (by decide)) T.m_check_numbers T.F_check_numbers.kp (b_check_numbers T) (axc (xv 2 rfl) axn))) fun _ _ => (re [Sl.sh (eL (eL eN)) x.1, Sl.sh eI x.2.1, Sl.sh (eL eN) y219] rfl (snil (s := ()) (Fit.eq (Fit.eq (Fit.dr Fit.nil))))))))) fun s222 => (re [Sl.sh (eL (eL eN)) x.1, Sl.sh eI x.2.1, Sl.nil] rfl (sq_ (nforJ (fun r (_ : Unit) => r) (s0 := ()) PassesOwn.never rfl (wlistL 2 (xv 0 rfl)) (pg_name (i := 2) sc_check_rows.nd rfl (by first | exact Or.inl rfl | exact Or.inr rfl)) (Fit.eq (Fit.eq (Fit.eq Fit.nil))) (fun s223 y224 => (re [Sl.sh (eL (eL eN)) x.1, Sl.sh eI x.2.1, Sl.sh (eL eN) y224] rfl (sq_ (nif0 (tcmp w_neI (xcallB c_len T.z_len (by decide +kernel) (axc (xv 2 rfl) axn)) (xv 1 rfl)) snever) fun _ => (re [Sl.sh (eL (eL eN)) x.1, Sl.sh eI x.2.1, Sl.sh (eL eN) y224] rfl (snil (s := ()) (Fit.eq (Fit.eq (Fit.dr Fit.nil))))))))) fun s231 => (re [Sl.sh (eL (eL eN)) x.1, Sl.sh eI x.2.1, Sl.nil] rfl (snil (s := ()) (Fit.dr (Fit.dr (Fit.eq Fit.nil)))))))))
theorem ok_span (T : Txt K mg) : FnOk P w K mg base CX0 4 T.a_span T.d_span P_span (spW (K := K) poolA (aC (eL (eL eN)) (aC eI aN)) w_span (eL (eL eN))) :=
  fn_R (k := 3) (wb := wb_span) (ρ' := fun z : Empty => nomatch z) T.F_span sc_span rfl (show 2 ≤ 2 by decide) fun cdv A outer s H E pp x hr => (re [Sl.sh (eL (eL eN)) x.1, Sl.sh eI x.2.1] rfl (sx (nexpr (xcall (ok_check_rows T) (hr.mono (by decide)) T.m_check_rows T.F_check_rows.kp (b_check_rows T) (axc (xv 0 rfl) (axc (xv 1 rfl) axn)))) fun _ _ => (re [Sl.sh (eL (eL eN)) x.1, Sl.sh eI x.2.1] rfl (sret (xcall (ok_reduced T) (hr.mono (by decide)) T.m_reduced T.F_reduced.kp (b_reduced T) (axc (xv 0 rfl) axn))))))
theorem ok_law_low (T : Txt K mg) : FnOk P w K mg base CX0 1 T.a_law_low T.d_law_low P_law_low (spW (K := K) poolA (aC eI (aC eI aN)) w_law_low eN) :=
  fn_R (k := 0) (wb := wb_law_low) (ρ' := fun z : Empty => nomatch z) T.F_law_low sc_law_low rfl (show 2 ≤ 4 by decide) fun cdv A outer s H E pp x hr => (re [Sl.sh eI x.1, Sl.sh eI x.2.1, Sl.nil, Sl.nil] rfl (sx (npar 2 3 rfl sc_law_low.nd (axc (xcallB c_abs T.z_abs (by decide +kernel) (axc (xv 0 rfl) axn)) (axc (xcallB c_abs T.z_abs (by decide +kernel) (axc (xv 1 rfl) axn)) axn))) fun _ v239 => (re [Sl.sh eI x.1, Sl.sh eI x.2.1, Sl.sh eI v239.1, Sl.sh eI v239.2.1] rfl (sq_ (nwhileJ (fun r (s : Int × Int) => (put (put r 2 (Sl.sh eI s.1)) 3 (Sl.sh eI s.2))) (s0 := (v239.1, v239.2.1)) (Int.toNat v239.2.1 + 1) PassesOwn.never (Fit.eq (Fit.eq (Fit.eq (Fit.eq Fit.nil)))) (fun s250 => (tcmp w_neI (xv 3 rfl) xint)) (fun s250 => (re [Sl.sh eI x.1, Sl.sh eI x.2.1, Sl.sh eI s250.1, Sl.sh eI s250.2] rfl (sx (npar 2 3 rfl sc_law_low.nd (axc (xv 3 rfl) (axc (xop w_mod (xcallT c_int T.z_int (by decide +kernel) (axc (xv 2 rfl) axn)) (xv 3 rfl)) axn))) fun _ v253 => (re [Sl.sh eI x.1, Sl.sh eI x.2.1, Sl.sh eI v253.1, Sl.sh eI v253.2.1] rfl (snil (s := (v253.1, v253.2.1)) (Fit.eq (Fit.eq (Fit.eq (Fit.eq Fit.nil)))))))))) fun s263 => (re [Sl.sh eI x.1, Sl.sh eI x.2.1, Sl.sh eI s263.1, Sl.sh eI s263.2] rfl (sret (xif (tcmp w_gt (xv 1 rfl) xint) (xtup2 (axc (xop w_fdiv (xv 0 rfl) (xv 2 rfl)) (axc (xop w_fdiv (xv 1 rfl) (xv 2 rfl)) axn))) (xtup2 (axc (xop w_fdiv (xun w_neg (xv 0 rfl)) (xv 2 rfl)) (axc (xop w_fdiv (xun w_neg (xv 1 rfl)) (xv 2 rfl)) axn))))))))))
theorem ok_law_add (T : Txt K mg) : FnOk P w K mg base CX0 2 T.a_law_add T.d_law_add P_law_add (spW (K := K) poolA (aC eN (aC eN aN)) w_law_add eN) :=
  fn_R (k := 1) (wb := wb_law_add) (ρ' := fun z : Empty => nomatch z) T.F_law_add sc_law_add rfl (show 2 ≤ 2 by decide) fun cdv A outer s H E pp x hr => (re [Sl.sh eN x.1, Sl.sh eN x.2.1] rfl (sret (xcall (ok_law_low T) (hr.mono (by decide)) T.m_law_low T.F_law_low.kp (b_law_low T) (axc (xop0 w_add (xop w_mul (xfst (xv 0 rfl)) (xsnd (xv 1 rfl))) (xop w_mul (xfst (xv 1 rfl)) (xsnd (xv 0 rfl)))) (axc (xop w_mul (xsnd (xv 0 rfl)) (xsnd (xv 1 rfl))) axn)))))
theorem ok_law_mul (T : Txt K mg) : FnOk P w K mg base CX0 2 T.a_law_mul T.d_law_mul P_law_mul (spW (K := K) poolA (aC eN (aC eN aN)) w_law_mul eN) :=
  fn_R (k := 1) (wb := wb_law_mul) (ρ' := fun z : Empty => nomatch z) T.F_law_mul sc_law_mul rfl (show 2 ≤ 2 by decide) fun cdv A outer s H E pp x hr => (re [Sl.sh eN x.1, Sl.sh eN x.2.1] rfl (sret (xcall (ok_law_low T) (hr.mono (by decide)) T.m_law_low T.F_law_low.kp (b_law_low T) (axc (xop w_mul (xfst (xv 0 rfl)) (xfst (xv 1 rfl))) (axc (xop w_mul (xsnd (xv 0 rfl)) (xsnd (xv 1 rfl))) axn)))))
theorem ok_law_number (T : Txt K mg) : FnOk P w K mg base CX0 2 T.a_law_number T.d_law_number P_law_number (spW (K := K) poolA (aPl (aC eB aN)) w_law_number eN) :=
  fn_R (k := 1) (wb := wb_law_number) (ρ' := fun z : Empty => nomatch z) T.F_law_number sc_law_number rfl (show 2 ≤ 6 by decide) fun cdv A outer s H E pp x hr => (re [Sl.pl, Sl.sh eB x.1, Sl.nil, Sl.nil, Sl.nil, Sl.nil] rfl (sx (nset 2 sc_law_number.nd (xcall (ok_law_pick T.F_law_pick T.z_int) (hr.mono (by decide)) T.m_law_pick T.F_law_pick.kp (b_law_pick T) (axp 0 rfl (axc xint axn)))) fun _ v320 => (re [Sl.pl, Sl.sh eB x.1, Sl.sh eI v320, Sl.nil, Sl.nil, Sl.nil] rfl (sq_ (nif0 (tcmp w_lt (xv 2 rfl) xint) (re [Sl.pl, Sl.sh eB x.1, Sl.sh eI v320, Sl.nil, Sl.nil, Sl.nil] rfl (sret (xtup2 (axc (xv 2 rfl) (axc xint axn)))))) fun _ => (re [Sl.pl, Sl.sh eB x.1, Sl.sh eI v320, Sl.nil, Sl.nil, Sl.nil] rfl (sx (nset 3 sc_law_number.nd (xif (tval (xv 1 rfl)) (xix w_ixL (xlst (alc xint (alc xint (alc xint (alc xint (alc xint (aln (en := eI)))))))) (xop0 w_sub (xv 2 rfl) xint)) xint)) fun _ v332 => (re [Sl.pl, Sl.sh eB x.1, Sl.sh eI v320, Sl.sh eI v332, Sl.nil, Sl.nil] rfl (sx (npar 4 5 rfl sc_law_number.nd (axc (xop0 w_add xint (xcall (ok_law_pick T.F_law_pick T.z_int) (hr.mono (by decide)) T.m_law_pick T.F_law_pick.kp (b_law_pick T) (axp 0 rfl (axc (xv 3 rfl) axn)))) (axc (xop0 w_add xint (xcall (ok_law_pick T.F_law_pick T.z_int) (hr.mono (by decide)) T.m_law_pick T.F_law_pick.kp (b_law_pick T) (axp 0 rfl (axc (xix w_ixL (xlst (alc xint (alc (xv 3 rfl) (aln (en := eI))))) (xcall (ok_law_pick T.F_law_pick T.z_int) (hr.mono (by decide)) T.m_law_pick T.F_law_pick.kp (b_law_pick T) (axp 0 rfl (axc xint axn)))) axn)))) axn))) fun _ v348 => (re [Sl.pl, Sl.sh eB x.1, Sl.sh eI v320, Sl.sh eI v332, Sl.sh eI v348.1, Sl.sh eI v348.2.1] rfl (sret (xcall (ok_law_low T) (hr.mono (by decide)) T.m_law_low T.F_law_low.kp (b_law_low T) (axc (xix w_ixL (xlst (alc (xv 4 rfl) (alc (xun w_neg (xv 4 rfl)) (aln (en := eI))))) (xcall (ok_law_pick T.F_law_pick T.z_int) (hr.mono (by decide)) T.m_law_pick T.F_law_pick.kp (b_law_pick T) (axp 0 rfl (axc xint axn)))) (axc (xv 5 rfl) axn)))))))))))))
theorem ok_law_alike (T : Txt K mg) : ∀ n : Nat, FnOk P w K mg base CX0 (1 + n) T.a_law_alike T.d_law_alike P_law_alike (spW (K := K) poolA (aC eD (aC eD aN)) (w_law_alike n) eB)
  | 0 => fn_R (k := 0) (wb := fun _ => stuck) (ρ' := fun z : Empty => nomatch z) T.F_law_alike sc_law_alike rfl (show 2 ≤ 4 by decide) fun cdv A outer s H E pp x hr => snever
  | n + 1 =>
    have ih := ok_law_alike T n
    fn_R (k := 1 + n) (ρ' := fun z : Empty => nomatch z) T.F_law_alike sc_law_alike rfl (show 2 ≤ 4 by decide) fun cdv A outer s H E pp x hr => (re [Sl.sh eD x.1, Sl.sh eD x.2.1, Sl.nil, Sl.nil] rfl (sq_ (nif0 (tisND (xv 1 rfl)) (re [Sl.sh eD x.1, Sl.sh eD x.2.1, Sl.nil, Sl.nil] rfl (sret (xisND (xv 0 rfl))))) fun _ => (re [Sl.sh eD x.1, Sl.sh eD x.2.1, Sl.nil, Sl.nil] rfl (sq_ (nif0 (tval (xisi2 T.z_isinstance T.z_list (by decide +kernel) (by decide) T.z_tuple (by decide +kernel) (by decide) (xv 1 rfl))) (re [Sl.sh eD x.1, Sl.sh eD x.2.1, Sl.nil, Sl.nil] rfl (sx (nset 2 sc_law_alike.nd (xif (tval (xisi T.z_isinstance T.z_list (by decide +kernel) (by decide) (xv 1 rfl))) (xisi T.z_isinstance T.z_list (by decide +kernel) (by decide) (xv 0 rfl)) (xisi T.z_isinstance T.z_tuple (by decide +kernel) (by decide) (xv 0 rfl)))) fun _ v389 => (re [Sl.sh eD x.1, Sl.sh eD x.2.1, Sl.sh eB v389, Sl.nil] rfl (sq_ (nif0 (tw (wor (tnot (tval (xv 2 rfl))) (wor1 (tcmp w_neI (xcallB c_lenD T.z_len (by decide +kernel) (axc (xv 0 rfl) axn)) (xcallB c_lenD T.z_len (by decide +kernel) (axc (xv 1 rfl) axn)))))) (re [Sl.sh eD x.1, Sl.sh eD x.2.1, Sl.sh eB v389, Sl.nil] rfl (sret xbl))) fun _ => (re [Sl.sh eD x.1, Sl.sh eD x.2.1, Sl.sh eB v389, Sl.nil] rfl (sq_ (nforJ (fun r (_ : Unit) => r) (s0 := ()) PassesOwn.never rfl (wrange1 3 T.z_range (axc (xcallB c_lenD T.z_len (by decide +kernel) (axc (xv 1 rfl) axn)) axn)) (pg_name (i := 3) sc_law_alike.nd rfl (by first | exact Or.inl rfl | exact Or.inr rfl)) (Fit.eq (Fit.eq (Fit.eq (Fit.eq Fit.nil)))) (fun s412 y413 => (re [Sl.sh eD x.1, Sl.sh eD x.2.1, Sl.sh eB v389, Sl.sh eI y413] rfl (sq_ (nif0 (tnot (tval (xcall ih hr T.m_law_alike T.F_law_alike.kp (b_law_alike T) (axc (xix w_ixD (xv 0 rfl) (xv 3 rfl)) (axc (xix w_ixD (xv 1 rfl) (xv 3 rfl)) axn))))) (re [Sl.sh eD x.1, Sl.sh eD x.2.1, Sl.sh eB v389, Sl.sh eI y413] rfl (sret xbl))) fun _ => (re [Sl.sh eD x.1, Sl.sh eD x.2.1, Sl.sh eB v389, Sl.sh eI y413] rfl (snil (s := ()) (Fit.eq (Fit.eq (Fit.eq (Fit.dr Fit.nil)))))))))) fun s425 => (re [Sl.sh eD x.1, Sl.sh eD x.2.1, Sl.sh eB v389, Sl.nil] rfl (sret xbl))))))))) fun _ => (re [Sl.sh eD x.1, Sl.sh eD x.2.1, Sl.nil, Sl.nil] rfl (sret (xand (xisi T.z_isinstance T.z_int (by decide +kernel) (by decide) (xv 0 rfl)) (xand (xcmp w_eqB (xisi T.z_isinstance T.z_bool (by decide +kernel) (by decide) (xv 0 rfl)) (xisi T.z_isinstance T.z_bool (by decide +kernel) (by decide) (xv 1 rfl))) (xone (xcmpG (w_eqDD hr.units) (xv 0 rfl) (xv 1 rfl)))))))))))
theorem ok_law_line (T : Txt K mg) : FnOk P w K mg base CX0 3 T.a_law_line T.d_law_line P_law_line (spW (K := K) poolA (aPl (aC eI (aC eB aN))) w_law_line (eL eN)) :=
  fn_R (k := 2) (wb := wb_law_line) (ρ' := fun z : Empty => nomatch z) T.F_law_line sc_law_line rfl (show 3 ≤ 6 by decide) fun cdv A outer s H E pp x hr => (re [Sl.pl, Sl.sh eI x.1, Sl.sh eB x.2.1, Sl.nil, Sl.nil, Sl.nil] rfl (sq_ (nif0 (tcmp w_le (xv 1 rfl) xint) (re [Sl.pl, Sl.sh eI x.1, Sl.sh eB x.2.1, Sl.nil, Sl.nil, Sl.nil] rfl (sret (xfr (xlc (own := [(Str.ofString "_law_k", 3)]) rfl sc_law_line.nd (wrange1 3 T.z_range (axc (xv 1 rfl) axn)) (blkOk_by (N := N_law_line) (sc := defScope s_law_line) (by decide +kernel)) (by decide) (nil1 rfl) (fun _ => rfl) (fun _ _ _ _ _ => (pg_name (i := 3) sc_law_line.nd rfl (by first | exact Or.inl rfl | exact Or.inr rfl))) (fun _ _ _ _ _ y443 => (xcall (ok_law_number T) (hr.mono (by decide)) T.m_law_number T.F_law_number.kp (b_law_number T) (axp 0 rfl (axc (xv 2 rfl) axn))))))))) fun _ => (re [Sl.pl, Sl.sh eI x.1, Sl.sh eB x.2.1, Sl.nil, Sl.nil, Sl.nil] rfl (sq_ (nif0 (tcmp w_eqI (xcall (ok_law_pick T.F_law_pick T.z_int) (hr.mono (by decide)) T.m_law_pick T.F_law_pick.kp (b_law_pick T) (axp 0 rfl (axc xint axn))) xint) (re [Sl.pl, Sl.sh eI x.1, Sl.sh eB x.2.1, Sl.nil, Sl.nil, Sl.nil] rfl (sret (xfr (xlc (own := [(Str.ofString "_law_k", 3)]) rfl sc_law_line.nd (wrange1 3 T.z_range (axc (xv 1 rfl) axn)) (blkOk_by (N := N_law_line) (sc := defScope s_law_line) (by decide +kernel)) (by decide) (nil1 rfl) (fun _ => rfl) (fun _ _ _ _ _ => (pg_name (i := 3) sc_law_line.nd rfl (by first | exact Or.inl rfl | exact Or.inr rfl))) (fun _ _ _ _ _ y456 => (xtup2 (axc (xop0 w_sub (xcall (ok_law_pick T.F_law_pick T.z_int) (hr.mono (by decide)) T.m_law_pick T.F_law_pick.kp (b_law_pick T) (axp 0 rfl (axc xint axn))) xint) (axc xint axn))))))))) fun _ => (re [Sl.pl, Sl.sh eI x.1, Sl.sh eB x.2.1, Sl.nil, Sl.nil, Sl.nil] rfl (sx (nown (nsetFe 4 sc_law_line.nd (xrepF (xlst (alc (xtup2 (axc xint (axc xint axn))) (aln (en := eN)))) (xv 1 rfl)))) fun p478 v468 => (re [Sl.pl, Sl.sh eI x.1, Sl.sh eB x.2.1, Sl.nil, Sl.ow p478 (oL eN) v468, Sl.nil] rfl (sq_ (nforJ (fun r (s : (List (Int × Int))) => (put r 4 (Sl.ow p478 (oL eN) s))) (s0 := (v468)) PassesOwn.never rfl (wrange1 5 T.z_range (axc (xop0 w_add xint (xcall (ok_law_pick T.F_law_pick T.z_int) (hr.mono (by decide)) T.m_law_pick T.F_law_pick.kp (b_law_pick T) (axp 0 rfl (axc xint axn)))) axn)) (pg_name (i := 5) sc_law_line.nd rfl (by first | exact Or.inl rfl | exact Or.inr rfl)) (Fit.eq (Fit.eq (Fit.eq (Fit.eq (Fit.eq (Fit.eq Fit.nil)))))) (fun s486 y487 => (re [Sl.pl, Sl.sh eI x.1, Sl.sh eB x.2.1, Sl.nil, Sl.ow p478 (oL eN) s486, Sl.sh eI y487] rfl (sx (nsetix 4 rfl (xcall (ok_law_number T) (hr.mono (by decide)) T.m_law_number T.F_law_number.kp (b_law_number T) (axp 0 rfl (axc (xv 2 rfl) axn))) (xcall (ok_law_pick T.F_law_pick T.z_int) (hr.mono (by decide)) T.m_law_pick T.F_law_pick.kp (b_law_pick T) (axp 0 rfl (axc (xv 1 rfl) axn)))) fun _ v492 => (re [Sl.pl, Sl.sh eI x.1, Sl.sh eB x.2.1, Sl.nil, Sl.ow p478 (oL eN) (s486.set ((ixN s486.length v492.1).getD 0) v492.2), Sl.sh eI y487] rfl (snil (s := ((s486.set ((ixN s486.length v492.1).getD 0) v492.2))) (Fit.eq (Fit.eq (Fit.eq (Fit.eq (Fit.eq (Fit.dr Fit.nil)))))))))))) fun s495 => (re [Sl.pl, Sl.sh eI x.1, Sl.sh eB x.2.1, Sl.nil, Sl.ow p478 (oL eN) s495, Sl.nil] rfl (nfreeze 4 rfl (re [Sl.pl, Sl.sh eI x.1, Sl.sh eB x.2.1, Sl.nil, Sl.sh (eL eN) s495, Sl.nil] rfl (sret (xv 4 rfl)))))))))))))
theorem ok_law_shape (T : Txt K mg) : FnOk P w K mg base CX0 2 T.a_law_shape T.d_law_shape P_law_shape (spW (K := K) poolA (aPl aN) w_law_shape eN) :=
  fn_R (k := 1) (wb := wb_law_shape) (ρ' := fun z : Empty => nomatch z) T.F_law_shape sc_law_shape rfl (show 1 ≤ 2 by decide) fun cdv A outer s H E pp x hr => (re [Sl.pl, Sl.nil] rfl (sq_ (nif0 (tcmp w_eqI (xcall (ok_law_pick T.F_law_pick T.z_int) (hr.mono (by decide)) T.m_law_pick T.F_law_pick.kp (b_law_pick T) (axp 0 rfl (axc xint axn))) xint) (re [Sl.pl, Sl.nil] rfl (sret (xtup2 (axc (xop0 w_sub xint (xcall (ok_law_pick T.F_law_pick T.z_int) (hr.mono (by decide)) T.m_law_pick T.F_law_pick.kp (b_law_pick T) (axp 0 rfl (axc xint axn)))) (axc (xop0 w_sub xint (xcall (ok_law_pick T.F_law_pick T.z_int) (hr.mono (by decide)) T.m_law_pick T.F_law_pick.kp (b_law_pick T) (axp 0 rfl (axc xint axn)))) axn)))))) fun _ => (re [Sl.pl, Sl.nil] rfl (sx (nset 1 sc_law_shape.nd (xcall (ok_law_pick T.F_law_pick T.z_int) (hr.mono (by decide)) T.m_law_pick T.F_law_pick.kp (b_law_pick T) (axp 0 rfl (axc xint axn)))) fun _ v516 => (re [Sl.pl, Sl.sh eI v516] rfl (sq_ (nif0 (tcmp w_eqI (xv 1 rfl) xint) (re [Sl.pl, Sl.sh eI v516] rfl (sret (xtup2 (axc (xcall (ok_law_pick T.F_law_pick T.z_int) (hr.mono (by decide)) T.m_law_pick T.F_law_pick.kp (b_law_pick T) (axp 0 rfl (axc xint axn))) (axc (xop0 w_add xint (xcall (ok_law_pick T.F_law_pick T.z_int) (hr.mono (by decide)) T.m_law_pick T.F_law_pick.kp (b_law_pick T) (axp 0 rfl (axc xint axn)))) axn)))))) fun _ => (re [Sl.pl, Sl.sh eI v516] rfl (sq_ (nif0 (tcmp w_eqI (xv 1 rfl) xint) (re [Sl.pl, Sl.sh eI v516] rfl (sret (xtup2 (axc (xcall (ok_law_pick T.F_law_pick T.z_int) (hr.mono (by decide)) T.m_law_pick T.F_law_pick.kp (b_law_pick T) (axp 0 rfl (axc xint axn))) (axc (xop0 w_add xint (xcall (ok_law_pick T.F_law_pick T.z_int) (hr.mono (by decide)) T.m_law_pick T.F_law_pick.kp (b_law_pick T) (axp 0 rfl (axc xint axn)))) axn)))))) fun _ => (re [Sl.pl, Sl.sh eI v516] rfl (sret (xtup2 (axc (xcall (ok_law_pick T.F_law_pick T.z_int) (hr.mono (by decide)) T.m_law_pick T.F_law_pick.kp (b_law_pick T) (axp 0 rfl (axc xint axn))) (axc (xop0 w_add xint (xcall (ok_law_pick T.F_law_pick T.z_int) (hr.mono (by decide)) T.m_law_pick T.F_law_pick.kp (b_law_pick T) (axp 0 rfl (axc xint axn)))) axn)))))))))))))
theorem ok_law_fitting (T : Txt K mg) : FnOk P w K mg base CX0 1 T.a_law_fitting T.d_law_fitting P_law_fitting (spW (K := K) poolA (aC (eL eN) aN) w_law_fitting eB) :=
  fn_R (k := 0) (wb := wb_law_fitting) (ρ' := fun z : Empty => nomatch z) T.F_law_fitting sc_law_fitting rfl (show 1 ≤ 2 by decide) fun cdv A outer s H E pp x hr => (re [Sl.sh (eL eN) x.1, Sl.nil] rfl (sret (xcmp (w_eqD (dL (dP dI dI)) (dL (dP dI dI)) (shx (shL (shP shI shI))) (shx (shL (shP shI shI))) hr.units) (xfr (xlcI (own := [(Str.ofString "_law_one", 1)]) rfl sc_law_fitting.nd (wlistL 1 (xv 0 rfl)) (blkOk_by (N := N_law_fitting) (sc := defScope s_law_fitting) (by decide +kernel)) (by decide) (nil1 rfl) (fun _ => rfl) (fun _ _ _ _ _ => (pg_name (i := 1) sc_law_fitting.nd rfl (by first | exact Or.inl rfl | exact Or.inr rfl))) (fun _ _ _ _ _ y561 => (tw (wor (tcmp w_gt (xcallB c_abs T.z_abs (by decide +kernel) (axc (xfst (xv 1 rfl)) axn)) xint) (wor1 (tcmp w_gt (xsnd (xv 1 rfl)) xint))))) (fun _ _ _ _ _ y561 => (xv 1 rfl)))) (xlst (aln (en := eN))))))
theorem ok_law_dull (T : Txt K mg) : FnOk P w K mg base CX0 3 T.a_law_dull T.d_law_dull P_law_dull (spW (K := K) poolA (aPl (aC (eL (eL eN)) (aC eI aN))) w_law_dull (eL eN)) :=
  fn_R (k := 2) (wb := wb_law_dull) (ρ' := fun z : Empty => nomatch z) T.F_law_dull sc_law_dull rfl (show 3 ≤ 11 by decide) fun cdv A outer s H E pp x hr => (re [Sl.pl, Sl.sh (eL (eL eN)) x.1, Sl.sh eI x.2.1, Sl.nil, Sl.nil, Sl.nil, Sl.nil, Sl.nil, Sl.nil, Sl.nil, Sl.nil] rfl (sx (nset 3 sc_law_dull.nd (xcall (ok_law_pick T.F_law_pick T.z_int) (hr.mono (by decide)) T.m_law_pick T.F_law_pick.kp (b_law_pick T) (axp 0 rfl (axc xint axn)))) fun _ v576 => (re [Sl.pl, Sl.sh (eL (eL eN)) x.1, Sl.sh eI x.2.1, Sl.sh eI v576, Sl.nil, Sl.nil, Sl.nil, Sl.nil, Sl.nil, Sl.nil, Sl.nil] rfl (sq_ (nif0 (tw (wor (tcmp w_eqI (xv 3 rfl) xint) (wor1 (tcmp (w_eqD (dL (dL (dP dI dI))) (dL (dL (dP dI dI))) (shx (shL (shL (shP shI shI)))) (shx (shL (shL (shP shI shI)))) hr.units) (xv 1 rfl) (xlst (aln (en := (eL eN)))))))) (re [Sl.pl, Sl.sh (eL (eL eN)) x.1, Sl.sh eI x.2.1, Sl.sh eI v576, Sl.nil, Sl.nil, Sl.nil, Sl.nil, Sl.nil, Sl.nil, Sl.nil] rfl (sret (xfr (xrepF (xlst (alc (xtup2 (axc xint (axc xint axn))) (aln (en := eN)))) (xv 2 rfl)))))) fun _ => (re [Sl.pl, Sl.sh (eL (eL eN)) x.1, Sl.sh eI x.2.1, Sl.sh eI v576, Sl.nil, Sl.nil, Sl.nil, Sl.nil, Sl.nil, Sl.nil, Sl.nil] rfl (sx (npar 4 5 rfl sc_law_dull.nd (axc (xix w_ixL (xv 1 rfl) (xcall (ok_law_pick T.F_law_pick T.z_int) (hr.mono (by decide)) T.m_law_pick T.F_law_pick.kp (b_law_pick T) (axp 0 rfl (axc (xcallB c_len T.z_len (by decide +kernel) (axc (xv 1 rfl) axn)) axn)))) (axc (xix w_ixL (xv 1 rfl) (xcall (ok_law_pick T.F_law_pick T.z_int) (hr.mono (by decide)) T.m_law_pick T.F_law_pick.kp (b_law_pick T) (axp 0 rfl (axc (xcallB c_len T.z_len (by decide +kernel) (axc (xv 1 rfl) axn)) axn)))) axn))) fun _ v602 => (re [Sl.pl, Sl.sh (eL (eL eN)) x.1, Sl.sh eI x.2.1, Sl.sh eI v576, Sl.sh (eL eN) v602.1, Sl.sh (eL eN) v602.2.1, Sl.nil, Sl.nil, Sl.nil, Sl.nil, Sl.nil] rfl (sx (nset 6 sc_law_dull.nd (xix w_ixL (xlst (alc (xtup2 (axc (xun w_neg xint) (axc xint axn))) (alc (xtup2 (axc xint (axc xint axn))) (alc (xtup2 (axc xint (axc xint axn))) (alc (xtup2 (axc (xun w_neg xint) (axc xint axn))) (aln (en := eN))))))) (xcall (ok_law_pick T.F_law_pick T.z_int) (hr.mono (by decide)) T.m_law_pick T.F_law_pick.kp (b_law_pick T) (axp 0 rfl (axc xint axn))))) fun _ v621 => (re [Sl.pl, Sl.sh (eL (eL eN)) x.1, Sl.sh eI x.2.1, Sl.sh eI v576, Sl.sh (eL eN) v602.1, Sl.sh (eL eN) v602.2.1, Sl.sh eN v621, Sl.nil, Sl.nil, Sl.nil, Sl.nil] rfl (sx (nset 7 sc_law_dull.nd (xcallT c_list T.z_list (by decide +kernel) (axc (xR (xv 4 rfl)) axn))) fun _ v656 => (re [Sl.pl, Sl.sh (eL (eL eN)) x.1, Sl.sh eI x.2.1, Sl.sh eI v576, Sl.sh (eL eN) v602.1, Sl.sh (eL eN) v602.2.1, Sl.sh eN v621, Sl.sh (eL eN) v656, Sl.nil, Sl.nil, Sl.nil] rfl (sq_ (nifJ (fun r (s : (List (Int × Int))) => (put r 7 (Sl.sh (eL eN) s))) (tcmp w_gt (xv 3 rfl) xint) (re [Sl.pl, Sl.sh (eL (eL eN)) x.1, Sl.sh eI x.2.1, Sl.sh eI v576, Sl.sh (eL eN) v602.1, Sl.sh (eL eN) v602.2.1, Sl.sh eN v621, Sl.sh (eL eN) v656, Sl.nil, Sl.nil, Sl.nil] rfl (sx (nsetF (xlcS 7 (own := [(Str.ofString "_law_one", 8)]) rfl sc_law_dull.nd (wlistL 8 (xv 4 rfl)) (blkOk_by (N := N_law_dull) (sc := defScope s_law_dull) (by decide +kernel)) (by decide) (nil1 rfl) (fun _ => rfl) (fun _ _ _ _ _ => (pg_name (i := 8) sc_law_dull.nd rfl (by first | exact Or.inl rfl | exact Or.inr rfl))) (fun _ _ _ _ _ y664 => (xcall (ok_law_mul T) (hr.mono (by decide)) T.m_law_mul T.F_law_mul.kp (b_law_mul T) (axc (xv 6 rfl) (axc (xv 8 rfl) axn)))) (sw_true rfl rfl rfl (by decide +kernel)))) fun _ v663 => (re [Sl.pl, Sl.sh (eL (eL eN)) x.1, Sl.sh eI x.2.1, Sl.sh eI v576, Sl.sh (eL eN) v602.1, Sl.sh (eL eN) v602.2.1, Sl.sh eN v621, Sl.sh (eL eN) v663, Sl.nil, Sl.nil, Sl.nil] rfl (snil (s := (v663)) (Fit.eq (Fit.eq (Fit.eq (Fit.eq (Fit.eq (Fit.eq (Fit.eq (Fit.eq (Fit.eq (Fit.eq (Fit.eq Fit.nil))))))))))))))) (re [Sl.pl, Sl.sh (eL (eL eN)) x.1, Sl.sh eI x.2.1, Sl.sh eI v576, Sl.sh (eL eN) v602.1, Sl.sh (eL eN) v602.2.1, Sl.sh eN v621, Sl.sh (eL eN) v656, Sl.nil, Sl.nil, Sl.nil] rfl (snil (s := (v656)) (Fit.eq (Fit.eq (Fit.eq (Fit.eq (Fit.eq (Fit.eq (Fit.eq (Fit.eq (Fit.eq (Fit.eq (Fit.eq Fit.nil)))))))))))))) fun s670 => (re [Sl.pl, Sl.sh (eL (eL eN)) x.1, Sl.sh eI x.2.1, Sl.sh eI v576, Sl.sh (eL eN) v602.1, Sl.sh (eL eN) v602.2.1, Sl.sh eN v621, Sl.sh (eL eN) s670, Sl.nil, Sl.nil, Sl.nil] rfl (sq_ (nifJ (fun r (s : (List (Int × Int))) => (put r 7 (Sl.sh (eL eN) s))) (tcmp w_eqI (xv 3 rfl) xint) (re [Sl.pl, Sl.sh (eL (eL eN)) x.1, Sl.sh eI x.2.1, Sl.sh eI v576, Sl.sh (eL eN) v602.1, Sl.sh (eL eN) v602.2.1, Sl.sh eN v621, Sl.sh (eL eN) s670, Sl.nil, Sl.nil, Sl.nil] rfl (sx (nsetF (xlcS 7 (own := [(Str.ofString "_law_a", 9), (Str.ofString "_law_b", 10)]) rfl sc_law_dull.nd (wzip 9 10 T.z_zip (axc (xv 7 rfl) (axc (xv 5 rfl) axn))) (blkOk_by (N := N_law_dull) (sc := defScope s_law_dull) (by decide +kernel)) (by decide) (nil2 rfl rfl) (fun _ => rfl) (fun _ _ _ _ _ => (pg_tup rfl (pgs_cons (pg_name (i := 9) sc_law_dull.nd rfl (by first | exact Or.inl rfl | exact Or.inr rfl)) (pgs_cons (pg_name (i := 10) sc_law_dull.nd rfl (by first | exact Or.inl rfl | exact Or.inr rfl)) pgs_nil)))) (fun _ _ _ _ _ y680 => (xcall (ok_law_add T) (hr.mono (by decide)) T.m_law_add T.F_law_add.kp (b_law_add T) (axc (xv 9 rfl) (axc (xv 10 rfl) axn)))) (sw_true rfl rfl rfl (by decide +kernel)))) fun _ v674 => (re [Sl.pl, Sl.sh (eL (eL eN)) x.1, Sl.sh eI x.2.1, Sl.sh eI v576, Sl.sh (eL eN) v602.1, Sl.sh (eL eN) v602.2.1, Sl.sh eN v621, Sl.sh (eL eN) v674, Sl.nil, Sl.nil, Sl.nil] rfl (snil (s := (v674)) (Fit.eq (Fit.eq (Fit.eq (Fit.eq (Fit.eq (Fit.eq (Fit.eq (Fit.eq (Fit.eq (Fit.eq (Fit.eq Fit.nil))))))))))))))) (re [Sl.pl, Sl.sh (eL (eL eN)) x.1, Sl.sh eI x.2.1, Sl.sh eI v576, Sl.sh (eL eN) v602.1, Sl.sh (eL eN) v602.2.1, Sl.sh eN v621, Sl.sh (eL eN) s670, Sl.nil, Sl.nil, Sl.nil] rfl (snil (s := (s670)) (Fit.eq (Fit.eq (Fit.eq (Fit.eq (Fit.eq (Fit.eq (Fit.eq (Fit.eq (Fit.eq (Fit.eq (Fit.eq Fit.nil)))))))))))))) fun s686 => (re [Sl.pl, Sl.sh (eL (eL eN)) x.1, Sl.sh eI x.2.1, Sl.sh eI v576, Sl.sh (eL eN) v602.1, Sl.sh (eL eN) v602.2.1, Sl.sh eN v621, Sl.sh (eL eN) s686, Sl.nil, Sl.nil, Sl.nil] rfl (sret (xif (tval (xcall (ok_law_fitting T) (hr.mono (by decide)) T.m_law_fitting T.F_law_fitting.kp (b_law_fitting T) (axc (xv 7 rfl) axn))) (xv 7 rfl) (xcallT c_list T.z_list (by decide +kernel) (axc (xR (xv 4 rfl)) axn)))))))))))))))))))
theorem ok_law_thin (T : Txt K mg) : FnOk P w K mg base CX0 2 T.a_law_thin T.d_law_thin P_law_thin (spW (K := K) poolA (aPl (aC eI aN)) w_law_thin (eL eN)) :=
  fn_R (k := 1) (wb := wb_law_thin) (ρ' := fun z : Empty => nomatch z) T.F_law_thin sc_law_thin rfl (show 2 ≤ 4 by decide) fun cdv A outer s H E pp x hr => (re [Sl.pl, Sl.sh eI x.1, Sl.nil, Sl.nil] rfl (sx (nown (nsetFe 2 sc_law_thin.nd (xrepF (xlst (alc (xtup2 (axc xint (axc xint axn))) (aln (en := eN)))) (xv 1 rfl)))) fun p704 v694 => (re [Sl.pl, Sl.sh eI x.1, Sl.ow p704 (oL eN) v694, Sl.nil] rfl (sq_ (nforJ (fun r (s : (List (Int × Int))) => (put r 2 (Sl.ow p704 (oL eN) s))) (s0 := (v694)) PassesOwn.never rfl (wrange1 3 T.z_range (axc xint axn)) (pg_name (i := 3) sc_law_thin.nd rfl (by first | exact Or.inl rfl | exact Or.inr rfl)) (Fit.eq (Fit.eq (Fit.eq (Fit.eq Fit.nil)))) (fun s708 y709 => (re [Sl.pl, Sl.sh eI x.1, Sl.ow p704 (oL eN) s708, Sl.sh eI y709] rfl (sx (nsetix 2 rfl (xix w_ixL (xlst (alc (xtup2 (axc xint (axc xint axn))) (alc (xtup2 (axc (xun w_neg xint) (axc xint axn))) (alc (xtup2 (axc xint (axc xint axn))) (alc (xtup2 (axc xint (axc xint axn))) (aln (en := eN))))))) (xcall (ok_law_pick T.F_law_pick T.z_int) (hr.mono (by decide)) T.m_law_pick T.F_law_pick.kp (b_law_pick T) (axp 0 rfl (axc xint axn)))) (xcall (ok_law_pick T.F_law_pick T.z_int) (hr.mono (by decide)) T.m_law_pick T.F_law_pick.kp (b_law_pick T) (axp 0 rfl (axc (xv 1 rfl) axn)))) fun _ v745 => (re [Sl.pl, Sl.sh eI x.1, Sl.ow p704 (oL eN) (s708.set ((ixN s708.length v745.1).getD 0) v745.2), Sl.sh eI y709] rfl (snil (s := ((s708.set ((ixN s708.length v745.1).getD 0) v745.2))) (Fit.eq (Fit.eq (Fit.eq (Fit.dr Fit.nil)))))))))) fun s748 => (re [Sl.pl, Sl.sh eI x.1, Sl.ow p704 (oL eN) s748, Sl.nil] rfl (nfreeze 2 rfl (re [Sl.pl, Sl.sh eI x.1, Sl.sh (eL eN) s748, Sl.nil] rfl (sret (xv 2 rfl)))))))))
theorem ok_law_rows (T : Txt K mg) : FnOk P w K mg base CX0 4 T.a_law_rows T.d_law_rows P_law_rows (spW (K := K) poolA (aPl aN) w_law_rows (eP (eL (eL eN)) eI)) :=
  fn_R (k := 3) (wb := wb_law_rows) (ρ' := fun z : Empty => nomatch z) T.F_law_rows sc_law_rows rfl (show 1 ≤ 10 by decide) fun cdv A outer s H E pp x hr => (re [Sl.pl, Sl.nil, Sl.nil, Sl.nil, Sl.nil, Sl.nil, Sl.nil, Sl.nil, Sl.nil, Sl.nil] rfl (sx (npair 1 2 rfl sc_law_rows.nd (xcall (ok_law_shape T) (hr.mono (by decide)) T.m_law_shape T.F_law_shape.kp (b_law_shape T) (axp 0 rfl axn))) fun _ v750 => (re [Sl.pl, Sl.sh eI v750.1, Sl.sh eI v750.2, Sl.nil, Sl.nil, Sl.nil, Sl.nil, Sl.nil, Sl.nil, Sl.nil] rfl (sx (nset 3 sc_law_rows.nd (xand (xcmp w_lt (xop w_mul (xv 1 rfl) (xv 2 rfl)) xint) (xone (xcmp w_eqI (xcall (ok_law_pick T.F_law_pick T.z_int) (hr.mono (by decide)) T.m_law_pick T.F_law_pick.kp (b_law_pick T) (axp 0 rfl (axc xint axn))) xint)))) fun _ v751 => (re [Sl.pl, Sl.sh eI v750.1, Sl.sh eI v750.2, Sl.sh eB v751, Sl.nil, Sl.nil, Sl.nil, Sl.nil, Sl.nil, Sl.nil] rfl (sx (nset 4 sc_law_rows.nd (xand (xcmp w_gt (xv 1 rfl) xint) (xone (xcmp w_gt (xv 2 rfl) xint)))) fun _ v761 => (re [Sl.pl, Sl.sh eI v750.1, Sl.sh eI v750.2, Sl.sh eB v751, Sl.sh eB v761, Sl.nil, Sl.nil, Sl.nil, Sl.nil, Sl.nil] rfl (sx (nown (xlcS 5 (own := [(Str.ofString "_law_k", 6)]) rfl sc_law_rows.nd (wrange1 6 T.z_range (axc (xv 1 rfl) axn)) (blkOk_by (N := N_law_rows) (sc := defScope s_law_rows) (by decide +kernel)) (by decide) (nil1 rfl) (fun _ => rfl) (fun _ _ _ _ _ => (pg_name (i := 6) sc_law_rows.nd rfl (by first | exact Or.inl rfl | exact Or.inr rfl))) (fun _ _ _ _ _ y771 => (xif (tval (xv 4 rfl)) (xcall (ok_law_thin T) (hr.mono (by decide)) T.m_law_thin T.F_law_thin.kp (b_law_thin T) (axp 0 rfl (axc (xv 2 rfl) axn))) (xcall (ok_law_line T) (hr.mono (by decide)) T.m_law_line T.F_law_line.kp (b_law_line T) (axp 0 rfl (axc (xv 2 rfl) (axc (xv 3 rfl) axn)))))) (sw_true rfl rfl rfl (by decide +kernel)))) fun p780 v767 => (re [Sl.pl, Sl.sh eI v750.1, Sl.sh eI v750.2, Sl.sh eB v751, Sl.sh eB v761, Sl.ow p780 (oL (eL eN)) v767, Sl.nil, Sl.nil, Sl.nil, Sl.nil] rfl (sq_ (nifJ (fun r (s : ((List (List (Int × Int))) × Addr)) => (put r 5 (Sl.ow s.2 (oL (eL eN)) s.1))) (tw (wand (tcmp w_gt (xv 1 rfl) xint) (wand1 (tcmp w_gt (xv 2 rfl) xint)))) (re [Sl.pl, Sl.sh eI v750.1, Sl.sh eI v750.2, Sl.sh eB v751, Sl.sh eB v761, Sl.ow p780 (oL (eL eN)) v767, Sl.nil, Sl.nil, Sl.nil, Sl.nil] rfl (nfreeze 5 rfl (re [Sl.pl, Sl.sh eI v750.1, Sl.sh eI v750.2, Sl.sh eB v751, Sl.sh eB v761, Sl.sh (eL (eL eN)) v767, Sl.nil, Sl.nil, Sl.nil, Sl.nil] rfl (sx (nown (xlcS 5 (own := [(Str.ofString "_law_line_here", 8)]) rfl sc_law_rows.nd (wlistL 8 (xv 5 rfl)) (blkOk_by (N := N_law_rows) (sc := defScope s_law_rows) (by decide +kernel)) (by decide) (nil1 rfl) (fun _ => rfl) (fun _ _ _ _ _ => (pg_name (i := 8) sc_law_rows.nd rfl (by first | exact Or.inl rfl | exact Or.inr rfl))) (fun _ _ _ _ _ y788 => (xfr (xlc (own := [(Str.ofString "_law_one", 7)]) rfl sc_law_rows.nd (wlistL 7 (xv 8 rfl)) (blk_in (N := N_law_rows) (sc := defScope s_law_rows) rfl rfl (by decide +kernel)) (by decide) (nil1 rfl) (fun _ => rfl) (fun _ _ _ _ _ => (pg_name (i := 7) sc_law_rows.nd rfl (by first | exact Or.inl rfl | exact Or.inr rfl))) (fun _ _ _ _ _ y789 => (xtup2 (axc (xfst (xv 7 rfl)) (axc xint axn))))))) (sw_true rfl rfl rfl (by decide +kernel)))) fun p798 v787 => (re [Sl.pl, Sl.sh eI v750.1, Sl.sh eI v750.2, Sl.sh eB v751, Sl.sh eB v761, Sl.ow p798 (oL (eL eN)) v787, Sl.nil, Sl.nil, Sl.nil, Sl.nil] rfl (snilA (v := fun a => ((v787, a))) p798 (Fit.eq (Fit.eq (Fit.eq (Fit.eq (Fit.eq (Fit.eq (Fit.eq (Fit.eq (Fit.eq (Fit.eq Fit.nil)))))))))))))))) (re [Sl.pl, Sl.sh eI v750.1, Sl.sh eI v750.2, Sl.sh eB v751, Sl.sh eB v761, Sl.ow p780 (oL (eL eN)) v767, Sl.nil, Sl.nil, Sl.nil, Sl.nil] rfl (snilA (v := fun a => ((v767, a))) p780 (Fit.eq (Fit.eq (Fit.eq (Fit.eq (Fit.eq (Fit.eq (Fit.eq (Fit.eq (Fit.eq (Fit.eq Fit.nil))))))))))))) fun s799 => (re [Sl.pl, Sl.sh eI v750.1, Sl.sh eI v750.2, Sl.sh eB v751, Sl.sh eB v761, Sl.ow s799.2 (oL (eL eN)) s799.1, Sl.nil, Sl.nil, Sl.nil, Sl.nil] rfl (sq_ (nforJ (fun r (s : (List (List (Int × Int)))) => (put r 5 (Sl.ow s799.2 (oL (eL eN)) s))) (s0 := (s799.1)) PassesOwn.never rfl (wrange1 9 T.z_range (axc (xcall (ok_law_pick T.F_law_pick T.z_int) (hr.mono (by decide)) T.m_law_pick T.F_law_pick.kp (b_law_pick T) (axp 0 rfl (axc xint axn))) axn)) (pg_name (i := 9) sc_law_rows.nd rfl (by first | exact Or.inl rfl | exact Or.inr rfl)) (Fit.eq (Fit.eq (Fit.eq (Fit.eq (Fit.eq (Fit.eq (Fit.eq (Fit.eq (Fit.eq (Fit.eq Fit.nil)))))))))) (fun s805 y806 => (re [Sl.pl, Sl.sh eI v750.1, Sl.sh eI v750.2, Sl.sh eB v751, Sl.sh eB v761, Sl.ow s799.2 (oL (eL eN)) s805, Sl.nil, Sl.nil, Sl.nil, Sl.sh eI y806] rfl (sx (ninsert 5 rfl (xcall (ok_law_pick T.F_law_pick T.z_int) (hr.mono (by decide)) T.m_law_pick T.F_law_pick.kp (b_law_pick T) (axp 0 rfl (axc (xop0 w_add (xlenO 5 rfl T.z_len) xint) axn))) (xlend 5 rfl (sep_L sep_I sep_I) (xcall (ok_law_dull T) (hr.mono (by decide)) T.m_law_dull T.F_law_dull.kp (b_law_dull T) (axp 0 rfl (axc (xv 5 rfl) (axc (xv 2 rfl) axn)))))) fun _ v818 => (re [Sl.pl, Sl.sh eI v750.1, Sl.sh eI v750.2, Sl.sh eB v751, Sl.sh eB v761, Sl.ow s799.2 (oL (eL eN)) (insAt s805 v818.1 v818.2), Sl.nil, Sl.nil, Sl.nil, Sl.sh eI y806] rfl (snil (s := ((insAt s805 v818.1 v818.2))) (Fit.eq (Fit.eq (Fit.eq (Fit.eq (Fit.eq (Fit.eq (Fit.eq (Fit.eq (Fit.eq (Fit.dr Fit.nil)))))))))))))))) fun s821 => (re [Sl.pl, Sl.sh eI v750.1, Sl.sh eI v750.2, Sl.sh eB v751, Sl.sh eB v761, Sl.ow s799.2 (oL (eL eN)) s821, Sl.nil, Sl.nil, Sl.nil, Sl.nil] rfl (nfreeze 5 rfl (re [Sl.pl, Sl.sh eI v750.1, Sl.sh eI v750.2, Sl.sh eB v751, Sl.sh eB v761, Sl.sh (eL (eL eN)) s821, Sl.nil, Sl.nil, Sl.nil, Sl.nil] rfl (sret (xtup2 (axc (xv 5 rfl) (axc (xv 2 rfl) axn)))))))))))))))))))
theorem ok_law_minus (T : Txt K mg) : FnOk P w K mg base CX0 3 T.a_law_minus T.d_law_minus P_law_minus (spW (K := K) poolA (aC (eL eN) (aC eN (aC (eL eN) aN))) w_law_minus (eL eN)) :=
  fn_R (k := 2) (wb := wb_law_minus) (ρ' := fun z : Empty => nomatch z) T.F_law_minus sc_law_minus rfl (show 3 ≤ 5 by decide) fun cdv A outer s H E pp x hr => (re [Sl.sh (eL eN) x.1, Sl.sh eN x.2.1, Sl.sh (eL eN) x.2.2.1, Sl.nil, Sl.nil] rfl (sq_ (nif0 (tcmp w_eqI (xfst (xv 1 rfl)) xint) (re [Sl.sh (eL eN) x.1, Sl.sh eN x.2.1, Sl.sh (eL eN) x.2.2.1, Sl.nil, Sl.nil] rfl (sret (xv 0 rfl)))) fun _ => (re [Sl.sh (eL eN) x.1, Sl.sh eN x.2.1, Sl.sh (eL eN) x.2.2.1, Sl.nil, Sl.nil] rfl (sret (xfr (xlc (own := [(Str.ofString "_law_a", 3), (Str.ofString "_law_b", 4)]) rfl sc_law_minus.nd (wzip 3 4 T.z_zip (axc (xv 0 rfl) (axc (xv 2 rfl) axn))) (blkOk_by (N := N_law_minus) (sc := defScope s_law_minus) (by decide +kernel)) (by decide) (nil2 rfl rfl) (fun _ => rfl) (fun _ _ _ _ _ => (pg_tup rfl (pgs_cons (pg_name (i := 3) sc_law_minus.nd rfl (by first | exact Or.inl rfl | exact Or.inr rfl)) (pgs_cons (pg_name (i := 4) sc_law_minus.nd rfl (by first | exact Or.inl rfl | exact Or.inr rfl)) pgs_nil)))) (fun _ _ _ _ _ y838 => (xif (tcmp w_eqI (xfst (xv 4 rfl)) xint) (xv 3 rfl) (xcall (ok_law_add T) (hr.mono (by decide)) T.m_law_add T.F_law_add.kp (b_law_add T) (axc (xv 3 rfl) (axc (xcall (ok_law_mul T) (hr.mono (by decide)) T.m_law_mul T.F_law_mul.kp (b_law_mul T) (axc (xtup2 (axc (xun w_neg (xfst (xv 1 rfl))) (axc (xsnd (xv 1 rfl)) axn))) (axc (xv 4 rfl) axn))) axn)))))))))))
theorem ok_law_form (T : Txt K mg) : FnOk P w K mg base CX0 4 T.a_law_form T.d_law_form P_law_form (spW (K := K) poolA (aC (eL (eL eN)) (aC eI aN)) w_law_form (eL (eL eN))) :=
  fn_R (k := 3) (wb := wb_law_form) (ρ' := fun z : Empty => nomatch z) T.F_law_form sc_law_form rfl (show 2 ≤ 11 by decide) fun cdv A outer s H E pp x hr => (re [Sl.sh (eL (eL eN)) x.1, Sl.sh eI x.2.1, Sl.nil, Sl.nil, Sl.nil, Sl.nil, Sl.nil, Sl.nil, Sl.nil, Sl.nil, Sl.nil] rfl (sx (npairOO 2 3 (eL eN) rfl sc_law_form.nd (xlc (own := [(Str.ofString "_law_row", 4)]) rfl sc_law_form.nd (wlistL 4 (xv 0 rfl)) (blkOk_by (N := N_law_form) (sc := defScope s_law_form) (by decide +kernel)) (by decide) (nil1 rfl) (fun _ => rfl) (fun _ _ _ _ _ => (pg_name (i := 4) sc_law_form.nd rfl (by first | exact Or.inl rfl | exact Or.inr rfl))) (fun _ _ _ _ _ y861 => (xcallT c_list T.z_list (by decide +kernel) (axc (xR (xv 4 rfl)) axn))))) fun p867 v866 => (re [Sl.sh (eL (eL eN)) x.1, Sl.sh eI x.2.1, Sl.ow p867.1 (oL (eL eN)) v866, Sl.ow p867.2 (oL (eL eN)) ([] : (List (List (Int × Int)))), Sl.nil, Sl.nil, Sl.nil, Sl.nil, Sl.nil, Sl.nil, Sl.nil] rfl (nfreeze 3 rfl (re [Sl.sh (eL (eL eN)) x.1, Sl.sh eI x.2.1, Sl.ow p867.1 (oL (eL eN)) v866, Sl.sh (eL (eL eN)) ([] : (List (List (Int × Int)))), Sl.nil, Sl.nil, Sl.nil, Sl.nil, Sl.nil, Sl.nil, Sl.nil] rfl (sanyA (f := fun a => _) p867.1 (sq_ (nforJ (fun r (s : ((List (List (Int × Int))) × Addr) × (List (List (Int × Int)))) => (put (put r 2 (Sl.ow s.1.2 (oL (eL eN)) s.1.1)) 3 (Sl.sh (eL (eL eN)) s.2))) (s0 := ((v866, p867.1), ([] : (List (List (Int × Int)))))) PassesOwn.never rfl (wrange1 5 T.z_range (axc (xv 1 rfl) axn)) (pg_name (i := 5) sc_law_form.nd rfl (by first | exact Or.inl rfl | exact Or.inr rfl)) (Fit.eq (Fit.eq (Fit.eq (Fit.eq (Fit.eq (Fit.eq (Fit.eq (Fit.eq (Fit.eq (Fit.eq (Fit.eq Fit.nil))))))))))) (fun s871 y872 => (re [Sl.sh (eL (eL eN)) x.1, Sl.sh eI x.2.1, Sl.ow s871.1.2 (oL (eL eN)) s871.1.1, Sl.sh (eL (eL eN)) s871.2, Sl.nil, Sl.sh eI y872, Sl.nil, Sl.nil, Sl.nil, Sl.nil, Sl.nil] rfl (sx (nsetF (xlcIS 6 (own := [(Str.ofString "_law_k", 7)]) rfl sc_law_form.nd (wrange1 7 T.z_range (axc (xlenO 2 rfl T.z_len) axn)) (blkOk_by (N := N_law_form) (sc := defScope s_law_form) (by decide +kernel)) (by decide) (nil1 rfl) (fun _ => rfl) (fun _ _ _ _ _ => (pg_name (i := 7) sc_law_form.nd rfl (by first | exact Or.inl rfl | exact Or.inr rfl))) (fun _ _ _ _ _ y877 => (tcmp w_neI (xfst (xix w_ixL (xixO 2 rfl (xv 7 rfl)) (xv 5 rfl))) xint)) (fun _ _ _ _ _ y877 => (xv 7 rfl)) (sw_true rfl rfl rfl (by decide +kernel)))) fun _ v873 => (re [Sl.sh (eL (eL eN)) x.1, Sl.sh eI x.2.1, Sl.ow s871.1.2 (oL (eL eN)) s871.1.1, Sl.sh (eL (eL eN)) s871.2, Sl.nil, Sl.sh eI y872, Sl.sh (eL eI) v873, Sl.nil, Sl.nil, Sl.nil, Sl.nil] rfl (sq_ (nifJ (fun r (s : ((List (List (Int × Int))) × Addr) × (List (List (Int × Int)))) => (put (put r 2 (Sl.ow s.1.2 (oL (eL eN)) s.1.1)) 3 (Sl.sh (eL (eL eN)) s.2))) (tcmp (w_neD (dL dI) (dL dI) (shx (shL shI)) (shx (shL shI)) hr.units) (xv 6 rfl) (xlst (aln (en := eI)))) (re [Sl.sh (eL (eL eN)) x.1, Sl.sh eI x.2.1, Sl.ow s871.1.2 (oL (eL eN)) s871.1.1, Sl.sh (eL (eL eN)) s871.2, Sl.nil, Sl.sh eI y872, Sl.sh (eL eI) v873, Sl.nil, Sl.nil, Sl.nil, Sl.nil] rfl (sx (npopA 8 2 (by decide) sc_law_form.nd rfl (xix w_ixL (xv 6 rfl) xint)) fun _ v890 => (re [Sl.sh (eL (eL eN)) x.1, Sl.sh eI x.2.1, Sl.ow s871.1.2 (oL (eL eN)) (s871.1.1.eraseIdx ((ixN s871.1.1.length v890).getD 0)), Sl.sh (eL (eL eN)) s871.2, Sl.nil, Sl.sh eI y872, Sl.sh (eL eI) v873, Sl.nil, Sl.sh (eL eN) (ixAt s871.1.1 v890), Sl.nil, Sl.nil] rfl (sx (nset 9 sc_law_form.nd (xcall (ok_law_low T) (hr.mono (by decide)) T.m_law_low T.F_law_low.kp (b_law_low T) (axc (xsnd (xix w_ixL (xv 8 rfl) (xv 5 rfl))) (axc (xfst (xix w_ixL (xv 8 rfl) (xv 5 rfl))) axn)))) fun _ v892 => (re [Sl.sh (eL (eL eN)) x.1, Sl.sh eI x.2.1, Sl.ow s871.1.2 (oL (eL eN)) (s871.1.1.eraseIdx ((ixN s871.1.1.length v890).getD 0)), Sl.sh (eL (eL eN)) s871.2, Sl.nil, Sl.sh eI y872, Sl.sh (eL eI) v873, Sl.nil, Sl.sh (eL eN) (ixAt s871.1.1 v890), Sl.sh eN v892, Sl.nil] rfl (sx (nsetF (nsetFe 8 sc_law_form.nd (xlc (own := [(Str.ofString "_law_one", 10)]) rfl sc_law_form.nd (wlistL 10 (xv 8 rfl)) (blkOk_by (N := N_law_form) (sc := defScope s_law_form) (by decide +kernel)) (by decide) (nil1 rfl) (fun _ => rfl) (fun _ _ _ _ _ => (pg_name (i := 10) sc_law_form.nd rfl (by first | exact Or.inl rfl | exact Or.inr rfl))) (fun _ _ _ _ _ y904 => (xcall (ok_law_mul T) (hr.mono (by decide)) T.m_law_mul T.F_law_mul.kp (b_law_mul T) (axc (xv 9 rfl) (axc (xv 10 rfl) axn))))))) fun _ v903 => (re [Sl.sh (eL (eL eN)) x.1, Sl.sh eI x.2.1, Sl.ow s871.1.2 (oL (eL eN)) (s871.1.1.eraseIdx ((ixN s871.1.1.length v890).getD 0)), Sl.sh (eL (eL eN)) s871.2, Sl.nil, Sl.sh eI y872, Sl.sh (eL eI) v873, Sl.nil, Sl.sh (eL eN) v903, Sl.sh eN v892, Sl.nil] rfl (nfreeze 2 rfl (re [Sl.sh (eL (eL eN)) x.1, Sl.sh eI x.2.1, Sl.sh (eL (eL eN)) (s871.1.1.eraseIdx ((ixN s871.1.1.length v890).getD 0)), Sl.sh (eL (eL eN)) s871.2, Sl.nil, Sl.sh eI y872, Sl.sh (eL eI) v873, Sl.nil, Sl.sh (eL eN) v903, Sl.sh eN v892, Sl.nil] rfl (sx (nown (nsetFe 2 sc_law_form.nd (xlc (own := [(Str.ofString "_law_row", 4)]) rfl sc_law_form.nd (wlistL 4 (xv 2 rfl)) (blkOk_by (N := N_law_form) (sc := defScope s_law_form) (by decide +kernel)) (by decide) (nil1 rfl) (fun _ => rfl) (fun _ _ _ _ _ => (pg_name (i := 4) sc_law_form.nd rfl (by first | exact Or.inl rfl | exact Or.inr rfl))) (fun _ _ _ _ _ y911 => (xcall (ok_law_minus T) (hr.mono (by decide)) T.m_law_minus T.F_law_minus.kp (b_law_minus T) (axc (xv 4 rfl) (axc (xix w_ixL (xv 4 rfl) (xv 5 rfl)) (axc (xv 8 rfl) axn)))))))) fun p921 v910 => (re [Sl.sh (eL (eL eN)) x.1, Sl.sh eI x.2.1, Sl.ow p921 (oL (eL eN)) v910, Sl.sh (eL (eL eN)) s871.2, Sl.nil, Sl.sh eI y872, Sl.sh (eL eI) v873, Sl.nil, Sl.sh (eL eN) v903, Sl.sh eN v892, Sl.nil] rfl (sx (nset 3 sc_law_form.nd (xop w_cat (xfr (xlc (own := [(Str.ofString "_law_row", 4)]) rfl sc_law_form.nd (wlistL 4 (xv 3 rfl)) (blkOk_by (N := N_law_form) (sc := defScope s_law_form) (by decide +kernel)) (by decide) (nil1 rfl) (fun _ => rfl) (fun _ _ _ _ _ => (pg_name (i := 4) sc_law_form.nd rfl (by first | exact Or.inl rfl | exact Or.inr rfl))) (fun _ _ _ _ _ y923 => (xcall (ok_law_minus T) (hr.mono (by decide)) T.m_law_minus T.F_law_minus.kp (b_law_minus T) (axc (xv 4 rfl) (axc (xix w_ixL (xv 4 rfl) (xv 5 rfl)) (axc (xv 8 rfl) axn))))))) (xlst (alc (xv 8 rfl) (aln (en := (eL eN))))))) fun _ v922 => (re [Sl.sh (eL (eL eN)) x.1, Sl.sh eI x.2.1, Sl.ow p921 (oL (eL eN)) v910, Sl.sh (eL (eL eN)) v922, Sl.nil, Sl.sh eI y872, Sl.sh (eL eI) v873, Sl.nil, Sl.sh (eL eN) v903, Sl.sh eN v892, Sl.nil] rfl (snilA (v := fun a => ((v910, a), v922)) p921 (Fit.eq (Fit.eq (Fit.eq (Fit.eq (Fit.eq (Fit.eq (Fit.eq (Fit.eq (Fit.dr (Fit.dr (Fit.eq Fit.nil))))))))))))))))))))))))) (re [Sl.sh (eL (eL eN)) x.1, Sl.sh eI x.2.1, Sl.ow s871.1.2 (oL (eL eN)) s871.1.1, Sl.sh (eL (eL eN)) s871.2, Sl.nil, Sl.sh eI y872, Sl.sh (eL eI) v873, Sl.nil, Sl.nil, Sl.nil, Sl.nil] rfl (snilA (v := fun a => ((s871.1.1, a), s871.2)) s871.1.2 (Fit.eq (Fit.eq (Fit.eq (Fit.eq (Fit.eq (Fit.eq (Fit.eq (Fit.eq (Fit.eq (Fit.eq (Fit.eq Fit.nil)))))))))))))) fun s937 => (re [Sl.sh (eL (eL eN)) x.1, Sl.sh eI x.2.1, Sl.ow s937.1.2 (oL (eL eN)) s937.1.1, Sl.sh (eL (eL eN)) s937.2, Sl.nil, Sl.sh eI y872, Sl.sh (eL eI) v873, Sl.nil, Sl.nil, Sl.nil, Sl.nil] rfl (snilA (v := fun a => ((s937.1.1, a), s937.2)) s937.1.2 (Fit.eq (Fit.eq (Fit.eq (Fit.eq (Fit.eq (Fit.dr (Fit.dr (Fit.eq (Fit.eq (Fit.eq (Fit.eq Fit.nil))))))))))))))))))) fun s938 => (re [Sl.sh (eL (eL eN)) x.1, Sl.sh eI x.2.1, Sl.ow s938.1.2 (oL (eL eN)) s938.1.1, Sl.sh (eL (eL eN)) s938.2, Sl.nil, Sl.nil, Sl.nil, Sl.nil, Sl.nil, Sl.nil, Sl.nil] rfl (nfreeze 2 rfl (re [Sl.sh (eL (eL eN)) x.1, Sl.sh eI x.2.1, Sl.sh (eL (eL eN)) s938.1.1, Sl.sh (eL (eL eN)) s938.2, Sl.nil, Sl.nil, Sl.nil, Sl.nil, Sl.nil, Sl.nil, Sl.nil] rfl (sret (xv 3 rfl))))))))))))
theorem ok_law_turned (T : Txt K mg) : FnOk P w K mg base CX0 3 T.a_law_turned T.d_law_turned P_law_turned (spW (K := K) poolA (aPl (aC (eL (eL eN)) aN)) w_law_turned (eL (eL eN))) :=
  fn_R (k := 2) (wb := wb_law_turned) (ρ' := fun z : Empty => nomatch z) T.F_law_turned sc_law_turned rfl (show 2 ≤ 13 by decide) fun cdv A outer s H E pp x hr => (re [Sl.pl, Sl.sh (eL (eL eN)) x.1, Sl.nil, Sl.nil, Sl.nil, Sl.nil, Sl.nil, Sl.nil, Sl.nil, Sl.nil, Sl.nil, Sl.nil, Sl.nil] rfl (sx (nown (xlcS 2 (own := [(Str.ofString "_law_line_here", 3)]) rfl sc_law_turned.nd (wlistL 3 (xv 1 rfl)) (blkOk_by (N := N_law_turned) (sc := defScope s_law_turned) (by decide +kernel)) (by decide) (nil1 rfl) (fun _ => rfl) (fun _ _ _ _ _ => (pg_name (i := 3) sc_law_turned.nd rfl (by first | exact Or.inl rfl | exact Or.inr rfl))) (fun _ _ _ _ _ y941 => (xcallT c_list T.z_list (by decide +kernel) (axc (xR (xv 3 rfl)) axn))) (sw_true rfl rfl rfl (by decide +kernel)))) fun p946 v940 => (re [Sl.pl, Sl.sh (eL (eL eN)) x.1, Sl.ow p946 (oL (eL eN)) v940, Sl.nil, Sl.nil, Sl.nil, Sl.nil, Sl.nil, Sl.nil, Sl.nil, Sl.nil, Sl.nil, Sl.nil] rfl (sq_ (nforJ (fun r (s : (List (List (Int × Int)))) => (put r 2 (Sl.ow p946 (oL (eL eN)) s))) (s0 := (v940)) PassesOwn.never rfl (wrange1 4 T.z_range (axc xint axn)) (pg_name (i := 4) sc_law_turned.nd rfl (by first | exact Or.inl rfl | exact Or.inr rfl)) (Fit.eq (Fit.eq (Fit.eq (Fit.eq (Fit.eq (Fit.eq (Fit.eq (Fit.eq (Fit.eq (Fit.eq (Fit.eq (Fit.eq (Fit.eq Fit.nil))))))))))))) (fun s950 y951 => (re [Sl.pl, Sl.sh (eL (eL eN)) x.1, Sl.ow p946 (oL (eL eN)) s950, Sl.nil, Sl.sh eI y951, Sl.nil, Sl.nil, Sl.nil, Sl.nil, Sl.nil, Sl.nil, Sl.nil, Sl.nil] rfl (sq_ (nifJ (fun r (s : (List (List (Int × Int)))) => (put r 2 (Sl.ow p946 (oL (eL eN)) s))) (tcmp w_gt (xlenO 2 rfl T.z_len) xint) (re [Sl.pl, Sl.sh (eL (eL eN)) x.1, Sl.ow p946 (oL (eL eN)) s950, Sl.nil, Sl.sh eI y951, Sl.nil, Sl.nil, Sl.nil, Sl.nil, Sl.nil, Sl.nil, Sl.nil, Sl.nil] rfl (sx (nset 5 sc_law_turned.nd (xcall (ok_law_pick T.F_law_pick T.z_int) (hr.mono (by decide)) T.m_law_pick T.F_law_pick.kp (b_law_pick T) (axp 0 rfl (axc (xlenO 2 rfl T.z_len) axn)))) fun _ v955 => (re [Sl.pl, Sl.sh (eL (eL eN)) x.1, Sl.ow p946 (oL (eL eN)) s950, Sl.nil, Sl.sh eI y951, Sl.sh eI v955, Sl.nil, Sl.nil, Sl.nil, Sl.nil, Sl.nil, Sl.nil, Sl.nil] rfl (sx (nset 6 sc_law_turned.nd (xop w_mod (xcallT c_int T.z_int (by decide +kernel) (axc (xop0 w_add (xop0 w_add (xv 5 rfl) xint) (xcall (ok_law_pick T.F_law_pick T.z_int) (hr.mono (by decide)) T.m_law_pick T.F_law_pick.kp (b_law_pick T) (axp 0 rfl (axc (xop0 w_sub (xlenO 2 rfl T.z_len) xint) axn)))) axn)) (xlenO 2 rfl T.z_len))) fun _ v958 => (re [Sl.pl, Sl.sh (eL (eL eN)) x.1, Sl.ow p946 (oL (eL eN)) s950, Sl.nil, Sl.sh eI y951, Sl.sh eI v955, Sl.sh eI v958, Sl.nil, Sl.nil, Sl.nil, Sl.nil, Sl.nil, Sl.nil] rfl (sx (nsetF (xlcS 7 (own := [(Str.ofString "_law_a", 8), (Str.ofString "_law_b", 9)]) rfl sc_law_turned.nd (wzip 8 9 T.z_zip (axc (xixO 2 rfl (xv 5 rfl)) (axc (xixO 2 rfl (xv 6 rfl)) axn))) (blkOk_by (N := N_law_turned) (sc := defScope s_law_turned) (by decide +kernel)) (by decide) (nil2 rfl rfl) (fun _ => rfl) (fun _ _ _ _ _ => (pg_tup rfl (pgs_cons (pg_name (i := 8) sc_law_turned.nd rfl (by first | exact Or.inl rfl | exact Or.inr rfl)) (pgs_cons (pg_name (i := 9) sc_law_turned.nd rfl (by first | exact Or.inl rfl | exact Or.inr rfl)) pgs_nil)))) (fun _ _ _ _ _ y980 => (xcall (ok_law_add T) (hr.mono (by decide)) T.m_law_add T.F_law_add.kp (b_law_add T) (axc (xv 8 rfl) (axc (xv 9 rfl) axn)))) (sw_true rfl rfl rfl (by decide +kernel)))) fun _ v972 => (re [Sl.pl, Sl.sh (eL (eL eN)) x.1, Sl.ow p946 (oL (eL eN)) s950, Sl.nil, Sl.sh eI y951, Sl.sh eI v955, Sl.sh eI v958, Sl.sh (eL eN) v972, Sl.nil, Sl.nil, Sl.nil, Sl.nil, Sl.nil] rfl (sq_ (nifJ (fun r (s : (List (List (Int × Int)))) => (put r 2 (Sl.ow p946 (oL (eL eN)) s))) (tval (xcall (ok_law_fitting T) (hr.mono (by decide)) T.m_law_fitting T.F_law_fitting.kp (b_law_fitting T) (axc (xv 7 rfl) axn))) (re [Sl.pl, Sl.sh (eL (eL eN)) x.1, Sl.ow p946 (oL (eL eN)) s950, Sl.nil, Sl.sh eI y951, Sl.sh eI v955, Sl.sh eI v958, Sl.sh (eL eN) v972, Sl.nil, Sl.nil, Sl.nil, Sl.nil, Sl.nil] rfl (sx (nsetix 2 rfl (xv 7 rfl) (xv 5 rfl)) fun _ v989 => (re [Sl.pl, Sl.sh (eL (eL eN)) x.1, Sl.ow p946 (oL (eL eN)) (s950.set ((ixN s950.length v989.1).getD 0) v989.2), Sl.nil, Sl.sh eI y951, Sl.sh eI v955, Sl.sh eI v958, Sl.sh (eL eN) v972, Sl.nil, Sl.nil, Sl.nil, Sl.nil, Sl.nil] rfl (snil (s := ((s950.set ((ixN s950.length v989.1).getD 0) v989.2))) (Fit.eq (Fit.eq (Fit.eq (Fit.eq (Fit.eq (Fit.eq (Fit.eq (Fit.eq (Fit.eq (Fit.eq (Fit.eq (Fit.eq (Fit.eq Fit.nil))))))))))))))))) (re [Sl.pl, Sl.sh (eL (eL eN)) x.1, Sl.ow p946 (oL (eL eN)) s950, Sl.nil, Sl.sh eI y951, Sl.sh eI v955, Sl.sh eI v958, Sl.sh (eL eN) v972, Sl.nil, Sl.nil, Sl.nil, Sl.nil, Sl.nil] rfl (snil (s := (s950)) (Fit.eq (Fit.eq (Fit.eq (Fit.eq (Fit.eq (Fit.eq (Fit.eq (Fit.eq (Fit.eq (Fit.eq (Fit.eq (Fit.eq (Fit.eq Fit.nil)))))))))))))))) fun s992 => (re [Sl.pl, Sl.sh (eL (eL eN)) x.1, Sl.ow p946 (oL (eL eN)) s992, Sl.nil, Sl.sh eI y951, Sl.sh eI v955, Sl.sh eI v958, Sl.sh (eL eN) v972, Sl.nil, Sl.nil, Sl.nil, Sl.nil, Sl.nil] rfl (snil (s := (s992)) (Fit.eq (Fit.eq (Fit.eq (Fit.eq (Fit.eq (Fit.dr (Fit.dr (Fit.dr (Fit.eq (Fit.eq (Fit.eq (Fit.eq (Fit.eq Fit.nil))))))))))))))))))))))) (re [Sl.pl, Sl.sh (eL (eL eN)) x.1, Sl.ow p946 (oL (eL eN)) s950, Sl.nil, Sl.sh eI y951, Sl.nil, Sl.nil, Sl.nil, Sl.nil, Sl.nil, Sl.nil, Sl.nil, Sl.nil] rfl (snil (s := (s950)) (Fit.eq (Fit.eq (Fit.eq (Fit.eq (Fit.eq (Fit.eq (Fit.eq (Fit.eq (Fit.eq (Fit.eq (Fit.eq (Fit.eq (Fit.eq Fit.nil)))))))))))))))) fun s993 => (re [Sl.pl, Sl.sh (eL (eL eN)) x.1, Sl.ow p946 (oL (eL eN)) s993, Sl.nil, Sl.sh eI y951, Sl.nil, Sl.nil, Sl.nil, Sl.nil, Sl.nil, Sl.nil, Sl.nil, Sl.nil] rfl (snil (s := (s993)) (Fit.eq (Fit.eq (Fit.eq (Fit.eq (Fit.dr (Fit.eq (Fit.eq (Fit.eq (Fit.eq (Fit.eq (Fit.eq (Fit.eq (Fit.eq Fit.nil))))))))))))))))))) fun s994 => (re [Sl.pl, Sl.sh (eL (eL eN)) x.1, Sl.ow p946 (oL (eL eN)) s994, Sl.nil, Sl.nil, Sl.nil, Sl.nil, Sl.nil, Sl.nil, Sl.nil, Sl.nil, Sl.nil, Sl.nil] rfl (sx (nset 10 sc_law_turned.nd (xix w_ixL (xlst (alc (xtup2 (axc (xun w_neg xint) (axc xint axn))) (alc (xtup2 (axc xint (axc xint axn))) (alc (xtup2 (axc xint (axc xint axn))) (alc (xtup2 (axc (xun w_neg xint) (axc xint axn))) (aln (en := eN))))))) (xcall (ok_law_pick T.F_law_pick T.z_int) (hr.mono (by decide)) T.m_law_pick T.F_law_pick.kp (b_law_pick T) (axp 0 rfl (axc xint axn))))) fun _ v995 => (re [Sl.pl, Sl.sh (eL (eL eN)) x.1, Sl.ow p946 (oL (eL eN)) s994, Sl.nil, Sl.nil, Sl.nil, Sl.nil, Sl.nil, Sl.nil, Sl.nil, Sl.sh eN v995, Sl.nil, Sl.nil] rfl (sq_ (nifJ (fun r (s : (List (List (Int × Int)))) => (put r 2 (Sl.ow p946 (oL (eL eN)) s))) (tw (wand (tlend 2 rfl (tcmp (w_neD (dL (dL (dP dI dI))) (dL (dL (dP dI dI))) (shx (shL (shL (shP shI shI)))) (shx (shL (shL (shP shI shI)))) hr.units) (xv 2 rfl) (xlst (aln (en := (eL eN)))))) (wand1 (tval (xcall (ok_law_fitting T) (hr.mono (by decide)) T.m_law_fitting T.F_law_fitting.kp (b_law_fitting T) (axc (xfr (xlc (own := [(Str.ofString "_law_one", 11)]) rfl sc_law_turned.nd (wlistL 11 (xixO 2 rfl xint)) (blkOk_by (N := N_law_turned) (sc := defScope s_law_turned) (by decide +kernel)) (by decide) (nil1 rfl) (fun _ => rfl) (fun _ _ _ _ _ => (pg_name (i := 11) sc_law_turned.nd rfl (by first | exact Or.inl rfl | exact Or.inr rfl))) (fun _ _ _ _ _ y1033 => (xcall (ok_law_mul T) (hr.mono (by decide)) T.m_law_mul T.F_law_mul.kp (b_law_mul T) (axc (xv 10 rfl) (axc (xv 11 rfl) axn)))))) axn)))))) (re [Sl.pl, Sl.sh (eL (eL eN)) x.1, Sl.ow p946 (oL (eL eN)) s994, Sl.nil, Sl.nil, Sl.nil, Sl.nil, Sl.nil, Sl.nil, Sl.nil, Sl.sh eN v995, Sl.nil, Sl.nil] rfl (sx (nsetix 2 rfl (xfr (xlc (own := [(Str.ofString "_law_one", 11)]) rfl sc_law_turned.nd (wlistL 11 (xixO 2 rfl xint)) (blkOk_by (N := N_law_turned) (sc := defScope s_law_turned) (by decide +kernel)) (by decide) (nil1 rfl) (fun _ => rfl) (fun _ _ _ _ _ => (pg_name (i := 11) sc_law_turned.nd rfl (by first | exact Or.inl rfl | exact Or.inr rfl))) (fun _ _ _ _ _ y1044 => (xcall (ok_law_mul T) (hr.mono (by decide)) T.m_law_mul T.F_law_mul.kp (b_law_mul T) (axc (xv 10 rfl) (axc (xv 11 rfl) axn)))))) xint) fun _ v1050 => (re [Sl.pl, Sl.sh (eL (eL eN)) x.1, Sl.ow p946 (oL (eL eN)) (s994.set ((ixN s994.length v1050.1).getD 0) v1050.2), Sl.nil, Sl.nil, Sl.nil, Sl.nil, Sl.nil, Sl.nil, Sl.nil, Sl.sh eN v995, Sl.nil, Sl.nil] rfl (snil (s := ((s994.set ((ixN s994.length v1050.1).getD 0) v1050.2))) (Fit.eq (Fit.eq (Fit.eq (Fit.eq (Fit.eq (Fit.eq (Fit.eq (Fit.eq (Fit.eq (Fit.eq (Fit.eq (Fit.eq (Fit.eq Fit.nil))))))))))))))))) (re [Sl.pl, Sl.sh (eL (eL eN)) x.1, Sl.ow p946 (oL (eL eN)) s994, Sl.nil, Sl.nil, Sl.nil, Sl.nil, Sl.nil, Sl.nil, Sl.nil, Sl.sh eN v995, Sl.nil, Sl.nil] rfl (snil (s := (s994)) (Fit.eq (Fit.eq (Fit.eq (Fit.eq (Fit.eq (Fit.eq (Fit.eq (Fit.eq (Fit.eq (Fit.eq (Fit.eq (Fit.eq (Fit.eq Fit.nil)))))))))))))))) fun s1053 => (re [Sl.pl, Sl.sh (eL (eL eN)) x.1, Sl.ow p946 (oL (eL eN)) s1053, Sl.nil, Sl.nil, Sl.nil, Sl.nil, Sl.nil, Sl.nil, Sl.nil, Sl.sh eN v995, Sl.nil, Sl.nil] rfl (nfreeze 2 rfl (re [Sl.pl, Sl.sh (eL (eL eN)) x.1, Sl.sh (eL (eL eN)) s1053, Sl.nil, Sl.nil, Sl.nil, Sl.nil, Sl.nil, Sl.nil, Sl.nil, Sl.sh eN v995, Sl.nil, Sl.nil] rfl (sx (nset 12 sc_law_turned.nd (xcall (ok_law_pick T.F_law_pick T.z_int) (hr.mono (by decide)) T.m_law_pick T.F_law_pick.kp (b_law_pick T) (axp 0 rfl (axc (xop0 w_add (xcallB c_len T.z_len (by decide +kernel) (axc (xv 2 rfl) axn)) xint) axn)))) fun _ v1054 => (re [Sl.pl, Sl.sh (eL (eL eN)) x.1, Sl.sh (eL (eL eN)) s1053, Sl.nil, Sl.nil, Sl.nil, Sl.nil, Sl.nil, Sl.nil, Sl.nil, Sl.sh eN v995, Sl.nil, Sl.sh eI v1054] rfl (sret (xop w_cat (xslice (xv 2 rfl) (on_some (xv 12 rfl)) on_none) (xrev (xslice (xv 2 rfl) on_none (on_some (xv 12 rfl)))))))))))))))))))
theorem ok_law_shaped (T : Txt K mg) : FnOk P w K mg base CX0 1 T.a_law_shaped T.d_law_shaped P_law_shaped (spW (K := K) poolA (aC (eL (eL eN)) (aC eI aN)) w_law_shaped eB) :=
  fn_R (k := 0) (wb := wb_law_shaped) (ρ' := fun z : Empty => nomatch z) T.F_law_shaped sc_law_shaped rfl (show 2 ≤ 7 by decide) fun cdv A outer s H E pp x hr => (re [Sl.sh (eL (eL eN)) x.1, Sl.sh eI x.2.1, Sl.nil, Sl.nil, Sl.nil, Sl.nil, Sl.nil] rfl (sx (nown (nsetFe 2 sc_law_shaped.nd (xlstF (aln (en := eI))))) fun p1075 v1074 => (re [Sl.sh (eL (eL eN)) x.1, Sl.sh eI x.2.1, Sl.ow p1075 (oL eI) v1074, Sl.nil, Sl.nil, Sl.nil, Sl.nil] rfl (sq_ (nforJ (fun r (s : (List Int)) => (put r 2 (Sl.ow p1075 (oL eI) s))) (s0 := (v1074)) PassesOwn.never rfl (wlistL 3 (xv 0 rfl)) (pg_name (i := 3) sc_law_shaped.nd rfl (by first | exact Or.inl rfl | exact Or.inr rfl)) (Fit.eq (Fit.eq (Fit.eq (Fit.eq (Fit.eq (Fit.eq (Fit.eq Fit.nil))))))) (fun s1076 y1077 => (re [Sl.sh (eL (eL eN)) x.1, Sl.sh eI x.2.1, Sl.ow p1075 (oL eI) s1076, Sl.sh (eL eN) y1077, Sl.nil, Sl.nil, Sl.nil] rfl (sx (nsetF (xlcIS 4 (own := [(Str.ofString "_law_k", 5)]) rfl sc_law_shaped.nd (wrange1 5 T.z_range (axc (xv 1 rfl) axn)) (blkOk_by (N := N_law_shaped) (sc := defScope s_law_shaped) (by decide +kernel)) (by decide) (nil1 rfl) (fun _ => rfl) (fun _ _ _ _ _ => (pg_name (i := 5) sc_law_shaped.nd rfl (by first | exact Or.inl rfl | exact Or.inr rfl))) (fun _ _ _ _ _ y1082 => (tcmp w_neI (xfst (xix w_ixL (xv 3 rfl) (xv 5 rfl))) xint)) (fun _ _ _ _ _ y1082 => (xv 5 rfl)) (sw_true rfl rfl rfl (by decide +kernel)))) fun _ v1078 => (re [Sl.sh (eL (eL eN)) x.1, Sl.sh eI x.2.1, Sl.ow p1075 (oL eI) s1076, Sl.sh (eL eN) y1077, Sl.sh (eL eI) v1078, Sl.nil, Sl.nil] rfl (sq_ (nif0 (tw (wor (tcmp (w_eqD (dL dI) (dL dI) (shx (shL shI)) (shx (shL shI)) hr.units) (xv 4 rfl) (xlst (aln (en := eI)))) (wor (tcmp (w_neD (dP dI dI) (dP dI dI) (shx (shP shI shI)) (shx (shP shI shI)) hr.units) (xix w_ixL (xv 3 rfl) (xix w_ixL (xv 4 rfl) xint)) (xtup2 (axc xint (axc xint axn)))) (wor1 (tw (wand (tlend 2 rfl (tcmp (w_neD (dL dI) (dL dI) (shx (shL shI)) (shx (shL shI)) hr.units) (xv 2 rfl) (xlst (aln (en := eI))))) (wand1 (tcmp w_le (xix w_ixL (xv 4 rfl) xint) (xixO 2 rfl (xun w_neg xint)))))))))) (re [Sl.sh (eL (eL eN)) x.1, Sl.sh eI x.2.1, Sl.ow p1075 (oL eI) s1076, Sl.sh (eL eN) y1077, Sl.sh (eL eI) v1078, Sl.nil, Sl.nil] rfl (sret xbl))) fun _ => (re [Sl.sh (eL (eL eN)) x.1, Sl.sh eI x.2.1, Sl.ow p1075 (oL eI) s1076, Sl.sh (eL eN) y1077, Sl.sh (eL eI) v1078, Sl.nil, Sl.nil] rfl (sx (nappend 2 rfl (xix w_ixL (xv 4 rfl) xint)) fun _ v1117 => (re [Sl.sh (eL (eL eN)) x.1, Sl.sh eI x.2.1, Sl.ow p1075 (oL eI) (s1076 ++ [v1117]), Sl.sh (eL eN) y1077, Sl.sh (eL eI) v1078, Sl.nil, Sl.nil] rfl (snil (s := ((s1076 ++ [v1117]))) (Fit.eq (Fit.eq (Fit.eq (Fit.dr (Fit.dr (Fit.eq (Fit.eq Fit.nil))))))))))))))))) fun s1119 => (re [Sl.sh (eL (eL eN)) x.1, Sl.sh eI x.2.1, Sl.ow p1075 (oL eI) s1119, Sl.nil, Sl.nil, Sl.nil, Sl.nil] rfl (nfreeze 2 rfl (re [Sl.sh (eL (eL eN)) x.1, Sl.sh eI x.2.1, Sl.sh (eL eI) s1119, Sl.nil, Sl.nil, Sl.nil, Sl.nil] rfl (sq_ (nforJ (fun r (_ : Unit) => r) (s0 := ()) PassesOwn.never rfl (wlistL 6 (xv 2 rfl)) (pg_name (i := 6) sc_law_shaped.nd rfl (by first | exact Or.inl rfl | exact Or.inr rfl)) (Fit.eq (Fit.eq (Fit.eq (Fit.eq (Fit.eq (Fit.eq (Fit.eq Fit.nil))))))) (fun s1120 y1121 => (re [Sl.sh (eL (eL eN)) x.1, Sl.sh eI x.2.1, Sl.sh (eL eI) s1119, Sl.nil, Sl.nil, Sl.nil, Sl.sh eI y1121] rfl (sq_ (nif0 (tcmp w_neI (xcallB c_len T.z_len (by decide +kernel) (axc (xfr (xlcI (own := [(Str.ofString "_law_line_here", 3)]) rfl sc_law_shaped.nd (wlistL 3 (xv 0 rfl)) (blkOk_by (N := N_law_shaped) (sc := defScope s_law_shaped) (by decide +kernel)) (by decide) (nil1 rfl) (fun _ => rfl) (fun _ _ _ _ _ => (pg_name (i := 3) sc_law_shaped.nd rfl (by first | exact Or.inl rfl | exact Or.inr rfl))) (fun _ _ _ _ _ y1122 => (tcmp w_neI (xfst (xix w_ixL (xv 3 rfl) (xv 6 rfl))) xint)) (fun _ _ _ _ _ y1122 => (xv 3 rfl)))) axn)) xint) (re [Sl.sh (eL (eL eN)) x.1, Sl.sh eI x.2.1, Sl.sh (eL eI) s1119, Sl.nil, Sl.nil, Sl.nil, Sl.sh eI y1121] rfl (sret xbl))) fun _ => (re [Sl.sh (eL (eL eN)) x.1, Sl.sh eI x.2.1, Sl.sh (eL eI) s1119, Sl.nil, Sl.nil, Sl.nil, Sl.sh eI y1121] rfl (snil (s := ()) (Fit.eq (Fit.eq (Fit.eq (Fit.eq (Fit.eq (Fit.eq (Fit.dr Fit.nil))))))))))))) fun s1136 => (re [Sl.sh (eL (eL eN)) x.1, Sl.sh eI x.2.1, Sl.sh (eL eI) s1119, Sl.nil, Sl.nil, Sl.nil, Sl.nil] rfl (sret xbl))))))))))
theorem ok_law_holds (T : Txt K mg) : FnOk P w K mg base CX0 4 T.a_law_holds T.d_law_holds P_law_holds (spW (K := K) poolA (aC (eL (eL eN)) (aC (eL eI) (aC (eL eN) aN))) w_law_holds eB) :=
  fn_R (k := 3) (wb := wb_law_holds) (ρ' := fun z : Empty => nomatch z) T.F_law_holds sc_law_holds rfl (show 3 ≤ 6 by decide) fun cdv A outer s H E pp x hr => (re [Sl.sh (eL (eL eN)) x.1, Sl.sh (eL eI) x.2.1, Sl.sh (eL eN) x.2.2.1, Sl.nil, Sl.nil, Sl.nil] rfl (sq_ (nforJ (fun r (s : (List (Int × Int))) => (put r 2 (Sl.sh (eL eN) s))) (s0 := (x.2.2.1)) PassesOwn.never rfl (wzip 3 4 T.z_zip (axc (xv 1 rfl) (axc (xv 0 rfl) axn))) (pg_tup rfl (pgs_cons (pg_name (i := 3) sc_law_holds.nd rfl (by first | exact Or.inl rfl | exact Or.inr rfl)) (pgs_cons (pg_name (i := 4) sc_law_holds.nd rfl (by first | exact Or.inl rfl | exact Or.inr rfl)) pgs_nil))) (Fit.eq (Fit.eq (Fit.eq (Fit.eq (Fit.eq (Fit.eq Fit.nil)))))) (fun s1143 y1144 => (re [Sl.sh (eL (eL eN)) x.1, Sl.sh (eL eI) x.2.1, Sl.sh (eL eN) s1143, Sl.sh eI y1144.1, Sl.sh (eL eN) y1144.2, Sl.nil] rfl (sx (nset 2 sc_law_holds.nd (xcall (ok_law_minus T) (hr.mono (by decide)) T.m_law_minus T.F_law_minus.kp (b_law_minus T) (axc (xv 2 rfl) (axc (xix w_ixL (xv 2 rfl) (xv 3 rfl)) (axc (xv 4 rfl) axn))))) fun _ v1145 => (re [Sl.sh (eL (eL eN)) x.1, Sl.sh (eL eI) x.2.1, Sl.sh (eL eN) v1145, Sl.sh eI y1144.1, Sl.sh (eL eN) y1144.2, Sl.nil] rfl (snil (s := (v1145)) (Fit.eq (Fit.eq (Fit.eq (Fit.dr (Fit.dr (Fit.eq Fit.nil)))))))))))) fun s1154 => (re [Sl.sh (eL (eL eN)) x.1, Sl.sh (eL eI) x.2.1, Sl.sh (eL eN) s1154, Sl.nil, Sl.nil, Sl.nil] rfl (sret (xcmp (w_eqD (dL (dP dI dI)) (dL (dP dI dI)) (shx (shL (shP shI shI))) (shx (shL (shP shI shI))) hr.units) (xfr (xlcI (own := [(Str.ofString "_law_one", 5)]) rfl sc_law_holds.nd (wlistL 5 (xv 2 rfl)) (blkOk_by (N := N_law_holds) (sc := defScope s_law_holds) (by decide +kernel)) (by decide) (nil1 rfl) (fun _ => rfl) (fun _ _ _ _ _ => (pg_name (i := 5) sc_law_holds.nd rfl (by first | exact Or.inl rfl | exact Or.inr rfl))) (fun _ _ _ _ _ y1155 => (tcmp w_neI (xfst (xv 5 rfl)) xint)) (fun _ _ _ _ _ y1155 => (xv 5 rfl)))) (xlst (aln (en := eN))))))))
theorem ok_law (T : Txt K mg) (hm : ∀ ns : List Int, ns.length ≤ 63 → w_law (ns, ()) (fun r _ => r = true) noX 0) : FnOk P w K mg base CX0 8 T.a_law T.d_law P_law (spLaw K) :=
  fn_law (PK := poolA) (k := 7) (wb := wb_law) (ρ' := fun z : Empty => nomatch z) T.F_law sc_law (show 1 ≤ 12 by decide) (fun cdv A outer s H E x hl hr => (re [Sl.sh (eR eI) x.1, Sl.nil, Sl.nil, Sl.nil, Sl.nil, Sl.nil, Sl.nil, Sl.nil, Sl.nil, Sl.nil, Sl.nil, Sl.nil] rfl (spool 1 0 hl sc_law.nd rfl rfl rfl (ok_law_pool T.F_law_pool T.z_int T.z_enumerate) (hr.mono (by decide)) T.m_law_pool T.F_law_pool.kp (b_law_pool T) (fun _ _ => (re [Sl.sh (eR eI) x.1, Sl.pl, Sl.nil, Sl.nil, Sl.nil, Sl.nil, Sl.nil, Sl.nil, Sl.nil, Sl.nil, Sl.nil, Sl.nil] rfl (sq_ (nforJ (fun r (_ : Unit) => r) (s0 := ()) PassesOwn.never rfl (wrange1 2 T.z_range (axc xint axn)) (pg_name (i := 2) sc_law.nd rfl (by first | exact Or.inl rfl | exact Or.inr rfl)) (Fit.eq (Fit.eq (Fit.eq (Fit.eq (Fit.eq (Fit.eq (Fit.eq (Fit.eq (Fit.eq (Fit.eq (Fit.eq (Fit.eq Fit.nil)))))))))))) (fun s1166 y1167 => (re [Sl.sh (eR eI) x.1, Sl.pl, Sl.sh eI y1167, Sl.nil, Sl.nil, Sl.nil, Sl.nil, Sl.nil, Sl.nil, Sl.nil, Sl.nil, Sl.nil] rfl (sx (npair 3 4 rfl sc_law.nd (xcall (ok_law_rows T) (hr.mono (by decide)) T.m_law_rows T.F_law_rows.kp (b_law_rows T) (axp 1 rfl axn))) fun _ v1168 => (re [Sl.sh (eR eI) x.1, Sl.pl, Sl.sh eI y1167, Sl.sh (eL (eL eN)) v1168.1, Sl.sh eI v1168.2, Sl.nil, Sl.nil, Sl.nil, Sl.nil, Sl.nil, Sl.nil, Sl.nil] rfl (sx (nsetF (xlcS 5 (own := [(Str.ofString "_law_line_here", 6)]) rfl sc_law.nd (wlistL 6 (xv 3 rfl)) (blkOk_by (N := N_law) (sc := defScope s_law) (by decide +kernel)) (by decide) (nil1 rfl) (fun _ => rfl) (fun _ _ _ _ _ => (pg_name (i := 6) sc_law.nd rfl (by first | exact Or.inl rfl | exact Or.inr rfl))) (fun _ _ _ _ _ y1170 => (xcallT c_list T.z_list (by decide +kernel) (axc (xR (xv 6 rfl)) axn))) (sw_true rfl rfl rfl (by decide +kernel)))) fun _ v1169 => (re [Sl.sh (eR eI) x.1, Sl.pl, Sl.sh eI y1167, Sl.sh (eL (eL eN)) v1168.1, Sl.sh eI v1168.2, Sl.sh (eL (eL eN)) v1169, Sl.nil, Sl.nil, Sl.nil, Sl.nil, Sl.nil, Sl.nil] rfl (sx (npair 7 8 rfl sc_law.nd (xtup2 (axc (xcall (ok_span T) (hr.mono (by decide)) T.m_span T.F_span.kp (b_span T) (axc (xv 5 rfl) (axc (xv 4 rfl) axn))) (axc (xcall (ok_law_form T) (hr.mono (by decide)) T.m_law_form T.F_law_form.kp (b_law_form T) (axc (xv 3 rfl) (axc (xv 4 rfl) axn))) axn)))) fun _ v1175 => (re [Sl.sh (eR eI) x.1, Sl.pl, Sl.sh eI y1167, Sl.sh (eL (eL eN)) v1168.1, Sl.sh eI v1168.2, Sl.sh (eL (eL eN)) v1169, Sl.nil, Sl.sh (eL (eL eN)) v1175.1, Sl.sh (eL (eL eN)) v1175.2, Sl.nil, Sl.nil, Sl.nil] rfl (sq_ (nif0 (tw (wor (tnot (tval (xcall (ok_law_alike T 6) (hr.mono (by decide)) T.m_law_alike T.F_law_alike.kp (b_law_alike T) (axc (xD (tdL (tdL (tdP tdI tdI))) (xv 7 rfl)) (axc (xD (tdL (tdL (tdP tdI tdI))) (xv 8 rfl)) axn))))) (wor (tcmp (w_neD (dL (dL (dP dI dI))) (dL (dL (dP dI dI))) (shx (shL (shL (shP shI shI)))) (shx (shL (shL (shP shI shI)))) hr.units) (xv 5 rfl) (xv 3 rfl)) (wor1 (tnot (tval (xcall (ok_law_shaped T) (hr.mono (by decide)) T.m_law_shaped T.F_law_shaped.kp (b_law_shaped T) (axc (xv 7 rfl) (axc (xv 4 rfl) axn))))))))) (re [Sl.sh (eR eI) x.1, Sl.pl, Sl.sh eI y1167, Sl.sh (eL (eL eN)) v1168.1, Sl.sh eI v1168.2, Sl.sh (eL (eL eN)) v1169, Sl.nil, Sl.sh (eL (eL eN)) v1175.1, Sl.sh (eL (eL eN)) v1175.2, Sl.nil, Sl.nil, Sl.nil] rfl (sret xbl))) fun _ => (re [Sl.sh (eR eI) x.1, Sl.pl, Sl.sh eI y1167, Sl.sh (eL (eL eN)) v1168.1, Sl.sh eI v1168.2, Sl.sh (eL (eL eN)) v1169, Sl.nil, Sl.sh (eL (eL eN)) v1175.1, Sl.sh (eL (eL eN)) v1175.2, Sl.nil, Sl.nil, Sl.nil] rfl (sx (nsetF (nsetFe 9 sc_law.nd (xlc (own := [(Str.ofString "_law_line_here", 6)]) rfl sc_law.nd (wlistL 6 (xv 7 rfl)) (blkOk_by (N := N_law) (sc := defScope s_law) (by decide +kernel)) (by decide) (nil1 rfl) (fun _ => rfl) (fun _ _ _ _ _ => (pg_name (i := 6) sc_law.nd rfl (by first | exact Or.inl rfl | exact Or.inr rfl))) (fun _ _ _ _ _ y1208 => (xix w_ixL (xfr (xlcI (own := [(Str.ofString "_law_k", 10)]) rfl sc_law.nd (wrange1 10 T.z_range (axc (xv 4 rfl) axn)) (blk_in (N := N_law) (sc := defScope s_law) rfl rfl (by decide +kernel)) (by decide) (nil1 rfl) (fun _ => rfl) (fun _ _ _ _ _ => (pg_name (i := 10) sc_law.nd rfl (by first | exact Or.inl rfl | exact Or.inr rfl))) (fun _ _ _ _ _ y1212 => (tcmp w_neI (xfst (xix w_ixL (xv 6 rfl) (xv 10 rfl))) xint)) (fun _ _ _ _ _ y1212 => (xv 10 rfl)))) xint))))) fun _ v1207 => (re [Sl.sh (eR eI) x.1, Sl.pl, Sl.sh eI y1167, Sl.sh (eL (eL eN)) v1168.1, Sl.sh eI v1168.2, Sl.sh (eL (eL eN)) v1169, Sl.nil, Sl.sh (eL (eL eN)) v1175.1, Sl.sh (eL (eL eN)) v1175.2, Sl.sh (eL eI) v1207, Sl.nil, Sl.nil] rfl (sq_ (nif0 (tcmp (w_neD (dL (dL (dP dI dI))) (dL (dL (dP dI dI))) (shx (shL (shL (shP shI shI)))) (shx (shL (shL (shP shI shI)))) hr.units) (xfr (xlcI (own := [(Str.ofString "_law_line_here", 6)]) rfl sc_law.nd (wlistL 6 (xv 3 rfl)) (blkOk_by (N := N_law) (sc := defScope s_law) (by decide +kernel)) (by decide) (nil1 rfl) (fun _ => rfl) (fun _ _ _ _ _ => (pg_name (i := 6) sc_law.nd rfl (by first | exact Or.inl rfl | exact Or.inr rfl))) (fun _ _ _ _ _ y1222 => (tnot (tval (xcall (ok_law_holds T) (hr.mono (by decide)) T.m_law_holds T.F_law_holds.kp (b_law_holds T) (axc (xv 7 rfl) (axc (xv 9 rfl) (axc (xv 6 rfl) axn))))))) (fun _ _ _ _ _ y1222 => (xv 6 rfl)))) (xlst (aln (en := (eL eN))))) (re [Sl.sh (eR eI) x.1, Sl.pl, Sl.sh eI y1167, Sl.sh (eL (eL eN)) v1168.1, Sl.sh eI v1168.2, Sl.sh (eL (eL eN)) v1169, Sl.nil, Sl.sh (eL (eL eN)) v1175.1, Sl.sh (eL (eL eN)) v1175.2, Sl.sh (eL eI) v1207, Sl.nil, Sl.nil] rfl (sret xbl))) fun _ => (re [Sl.sh (eR eI) x.1, Sl.pl, Sl.sh eI y1167, Sl.sh (eL (eL eN)) v1168.1, Sl.sh eI v1168.2, Sl.sh (eL (eL eN)) v1169, Sl.nil, Sl.sh (eL (eL eN)) v1175.1, Sl.sh (eL (eL eN)) v1175.2, Sl.sh (eL eI) v1207, Sl.nil, Sl.nil] rfl (sq_ (nif0 (tnot (tval (xcall (ok_law_alike T 6) (hr.mono (by decide)) T.m_law_alike T.F_law_alike.kp (b_law_alike T) (axc (xD (tdL (tdL (tdP tdI tdI))) (xcallK _ (ok_span T) (hr.mono (by decide)) T.m_span T.F_span.kp (kb_span_1_0 T) (kxc (xv 4 rfl) (kxc (xcall (ok_law_turned T) (hr.mono (by decide)) T.m_law_turned T.F_law_turned.kp (b_law_turned T) (axp 1 rfl (axc (xv 3 rfl) axn))) kxn)) (kb_span_1_0_pm T))) (axc (xD (tdL (tdL (tdP tdI tdI))) (xv 8 rfl)) axn))))) (re [Sl.sh (eR eI) x.1, Sl.pl, Sl.sh eI y1167, Sl.sh (eL (eL eN)) v1168.1, Sl.sh eI v1168.2, Sl.sh (eL (eL eN)) v1169, Sl.nil, Sl.sh (eL (eL eN)) v1175.1, Sl.sh (eL (eL eN)) v1175.2, Sl.sh (eL eI) v1207, Sl.nil, Sl.nil] rfl (sret xbl))) fun _ => (re [Sl.sh (eR eI) x.1, Sl.pl, Sl.sh eI y1167, Sl.sh (eL (eL eN)) v1168.1, Sl.sh eI v1168.2, Sl.sh (eL (eL eN)) v1169, Sl.nil, Sl.sh (eL (eL eN)) v1175.1, Sl.sh (eL (eL eN)) v1175.2, Sl.sh (eL eI) v1207, Sl.nil, Sl.nil] rfl (sx (nset 11 sc_law.nd (xif (tcmp w_le (xcallB c_len T.z_len (by decide +kernel) (axc (xv 7 rfl) axn)) xint) (xop w_cat (xrev (xv 7 rfl)) (xv 7 rfl)) (xrev (xv 7 rfl)))) fun _ v1251 => (re [Sl.sh (eR eI) x.1, Sl.pl, Sl.sh eI y1167, Sl.sh (eL (eL eN)) v1168.1, Sl.sh eI v1168.2, Sl.sh (eL (eL eN)) v1169, Sl.nil, Sl.sh (eL (eL eN)) v1175.1, Sl.sh (eL (eL eN)) v1175.2, Sl.sh (eL eI) v1207, Sl.nil, Sl.sh (eL (eL eN)) v1251] rfl (sq_ (nif0 (tw (wor (tnot (tval (xcall (ok_law_alike T 6) (hr.mono (by decide)) T.m_law_alike T.F_law_alike.kp (b_law_alike T) (axc (xD (tdL (tdL (tdP tdI tdI))) (xcall (ok_span T) (hr.mono (by decide)) T.m_span T.F_span.kp (b_span T) (axc (xv 7 rfl) (axc (xv 4 rfl) axn)))) (axc (xD (tdL (tdL (tdP tdI tdI))) (xv 8 rfl)) axn))))) (wor1 (tnot (tval (xcall (ok_law_alike T 6) (hr.mono (by decide)) T.m_law_alike T.F_law_alike.kp (b_law_alike T) (axc (xD (tdL (tdL (tdP tdI tdI))) (xcall (ok_span T) (hr.mono (by decide)) T.m_span T.F_span.kp (b_span T) (axc (xv 11 rfl) (axc (xv 4 rfl) axn)))) (axc (xD (tdL (tdL (tdP tdI tdI))) (xv 8 rfl)) axn)))))))) (re [Sl.sh (eR eI) x.1, Sl.pl, Sl.sh eI y1167, Sl.sh (eL (eL eN)) v1168.1, Sl.sh eI v1168.2, Sl.sh (eL (eL eN)) v1169, Sl.nil, Sl.sh (eL (eL eN)) v1175.1, Sl.sh (eL (eL eN)) v1175.2, Sl.sh (eL eI) v1207, Sl.nil, Sl.sh (eL (eL eN)) v1251] rfl (sret xbl))) fun _ => (re [Sl.sh (eR eI) x.1, Sl.pl, Sl.sh eI y1167, Sl.sh (eL (eL eN)) v1168.1, Sl.sh eI v1168.2, Sl.sh (eL (eL eN)) v1169, Sl.nil, Sl.sh (eL (eL eN)) v1175.1, Sl.sh (eL (eL eN)) v1175.2, Sl.sh (eL eI) v1207, Sl.nil, Sl.sh (eL (eL eN)) v1251] rfl (snil (s := ()) (Fit.eq (Fit.eq (Fit.dr (Fit.dr (Fit.dr (Fit.dr (Fit.eq (Fit.dr (Fit.dr (Fit.dr (Fit.eq (Fit.dr Fit.nil)))))))))))))))))))))))))))))))))) fun s1287 => (re [Sl.sh (eR eI) x.1, Sl.pl, Sl.nil, Sl.nil, Sl.nil, Sl.nil, Sl.nil, Sl.nil, Sl.nil, Sl.nil, Sl.nil, Sl.nil] rfl (sret (xcall (ok_law_alike T 6) (hr.mono (by decide)) T.m_law_alike T.F_law_alike.kp (b_law_alike T) (axc (xD (tdL (tdL (tdP tdI tdI))) (xcall (ok_span T) (hr.mono (by decide)) T.m_span T.F_span.kp (b_span T) (axc (xlst (aln (en := (eL eN)))) (axc (xop0 w_add xint (xcall (ok_law_pick T.F_law_pick T.z_int) (hr.mono (by decide)) T.m_law_pick T.F_law_pick.kp (b_law_pick T) (axp 1 rfl (axc xint axn)))) axn)))) (axc (xD (tdL tdD) (xlst (aln (en := eD)))) axn))))))))))) hm
end
theorem all_mk {l : PySem.W.OpenLaw} {w : World} {K : PySem.W.Frag} {h : Heap} {mg : Str → Option Value} {fa : Addr} (X : K.In h) (G : h.Ns mainGlobals mg) (hfa : mg (Str.ofString "law") = some (.ref fa))
    {f0 : Addr} {od0 an0 : Option Addr} {sl0 : Array (Option Value)} {oc0 kV0 dc0 pm0 cd0 ct0 : Value}
    (a0 : PySem.W.nsIn K mainGlobals (Str.ofString "_law_pool") = some (some (.ref f0))) (l0 : K.lookup f0 = some ⟨oc0, od0, .func (PySem.W.fnOf (Str.ofString "_law_pool") (Str.ofString "_law_pool") (defArgs s_law_pool) (defBody s_law_pool) (defScope s_law_pool) .none kV0 dc0 pm0 an0 cd0 ct0), sl0⟩) (c0 : PySem.W.codeIn K cd0 (Str.ofString "_law_pool") = true) (k0 : PySem.W.keepIn K (.ref f0) = true)
    {f1 : Addr} {od1 an1 : Option Addr} {sl1 : Array (Option Value)} {oc1 kV1 dc1 pm1 cd1 ct1 : Value}
    (a1 : PySem.W.nsIn K mainGlobals (Str.ofString "_law_pick") = some (some (.ref f1))) (l1 : K.lookup f1 = some ⟨oc1, od1, .func (PySem.W.fnOf (Str.ofString "_law_pick") (Str.ofString "_law_pick") (defArgs s_law_pick) (defBody s_law_pick) (defScope s_law_pick) .none kV1 dc1 pm1 an1 cd1 ct1), sl1⟩) (c1 : PySem.W.codeIn K cd1 (Str.ofString "_law_pick") = true) (k1 : PySem.W.keepIn K (.ref f1) = true)
    {f2 : Addr} {od2 an2 : Option Addr} {sl2 : Array (Option Value)} {oc2 kV2 dc2 pm2 cd2 ct2 : Value}
    (a2 : PySem.W.nsIn K mainGlobals (Str.ofString "lowest") = some (some (.ref f2))) (l2 : K.lookup f2 = some ⟨oc2, od2, .func (PySem.W.fnOf (Str.ofString "lowest") (Str.ofString "lowest") (defArgs s_lowest) (defBody s_lowest) (defScope s_lowest) .none kV2 dc2 pm2 an2 cd2 ct2), sl2⟩) (c2 : PySem.W.codeIn K cd2 (Str.ofString "lowest") = true) (k2 : PySem.W.keepIn K (.ref f2) = true)
    {f3 : Addr} {od3 an3 : Option Addr} {sl3 : Array (Option Value)} {oc3 kV3 dc3 pm3 cd3 ct3 : Value}
    (a3 : PySem.W.nsIn K mainGlobals (Str.ofString "is_number") = some (some (.ref f3))) (l3 : K.lookup f3 = some ⟨oc3, od3, .func (PySem.W.fnOf (Str.ofString "is_number") (Str.ofString "is_number") (defArgs s_is_number) (defBody s_is_number) (defScope s_is_number) .none kV3 dc3 pm3 an3 cd3 ct3), sl3⟩) (c3 : PySem.W.codeIn K cd3 (Str.ofString "is_number") = true) (k3 : PySem.W.keepIn K (.ref f3) = true)
    {f4 : Addr} {od4 an4 : Option Addr} {sl4 : Array (Option Value)} {oc4 kV4 dc4 pm4 cd4 ct4 : Value}
    (a4 : PySem.W.nsIn K mainGlobals (Str.ofString "check_numbers") = some (some (.ref f4))) (l4 : K.lookup f4 = some ⟨oc4, od4, .func (PySem.W.fnOf (Str.ofString "check_numbers") (Str.ofString "check_numbers") (defArgs s_check_numbers) (defBody s_check_numbers) (defScope s_check_numbers) .none kV4 dc4 pm4 an4 cd4 ct4), sl4⟩) (c4 : PySem.W.codeIn K cd4 (Str.ofString "check_numbers") = true) (k4 : PySem.W.keepIn K (.ref f4) = true)
    {f5 : Addr} {od5 an5 : Option Addr} {sl5 : Array (Option Value)} {oc5 kV5 dc5 pm5 cd5 ct5 : Value}
    (a5 : PySem.W.nsIn K mainGlobals (Str.ofString "integers_of") = some (some (.ref f5))) (l5 : K.lookup f5 = some ⟨oc5, od5, .func (PySem.W.fnOf (Str.ofString "integers_of") (Str.ofString "integers_of") (defArgs s_integers_of) (defBody s_integers_of) (defScope s_integers_of) .none kV5 dc5 pm5 an5 cd5 ct5), sl5⟩) (c5 : PySem.W.codeIn K cd5 (Str.ofString "integers_of") = true) (k5 : PySem.W.keepIn K (.ref f5) = true)
    {f6 : Addr} {od6 an6 : Option Addr} {sl6 : Array (Option Value)} {oc6 kV6 dc6 pm6 cd6 ct6 : Value}
    (a6 : PySem.W.nsIn K mainGlobals (Str.ofString "numbers_of") = some (some (.ref f6))) (l6 : K.lookup f6 = some ⟨oc6, od6, .func (PySem.W.fnOf (Str.ofString "numbers_of") (Str.ofString "numbers_of") (defArgs s_numbers_of) (defBody s_numbers_of) (defScope s_numbers_of) .none kV6 dc6 pm6 an6 cd6 ct6), sl6⟩) (c6 : PySem.W.codeIn K cd6 (Str.ofString "numbers_of") = true) (k6 : PySem.W.keepIn K (.ref f6) = true)
    {f7 : Addr} {od7 an7 : Option Addr} {sl7 : Array (Option Value)} {oc7 kV7 dc7 pm7 cd7 ct7 : Value}
    (a7 : PySem.W.nsIn K mainGlobals (Str.ofString "divided") = some (some (.ref f7))) (l7 : K.lookup f7 = some ⟨oc7, od7, .func (PySem.W.fnOf (Str.ofString "divided") (Str.ofString "divided") (defArgs s_divided) (defBody s_divided) (defScope s_divided) .none kV7 dc7 pm7 an7 cd7 ct7), sl7⟩) (c7 : PySem.W.codeIn K cd7 (Str.ofString "divided") = true) (k7 : PySem.W.keepIn K (.ref f7) = true)
    {f8 : Addr} {od8 an8 : Option Addr} {sl8 : Array (Option Value)} {oc8 kV8 dc8 pm8 cd8 ct8 : Value}
    (a8 : PySem.W.nsIn K mainGlobals (Str.ofString "cleared") = some (some (.ref f8))) (l8 : K.lookup f8 = some ⟨oc8, od8, .func (PySem.W.fnOf (Str.ofString "cleared") (Str.ofString "cleared") (defArgs s_cleared) (defBody s_cleared) (defScope s_cleared) .none kV8 dc8 pm8 an8 cd8 ct8), sl8⟩) (c8 : PySem.W.codeIn K cd8 (Str.ofString "cleared") = true) (k8 : PySem.W.keepIn K (.ref f8) = true)
    {f9 : Addr} {od9 an9 : Option Addr} {sl9 : Array (Option Value)} {oc9 kV9 dc9 pm9 cd9 ct9 : Value}
    (a9 : PySem.W.nsIn K mainGlobals (Str.ofString "reduced") = some (some (.ref f9))) (l9 : K.lookup f9 = some ⟨oc9, od9, .func (PySem.W.fnOf (Str.ofString "reduced") (Str.ofString "reduced") (defArgs s_reduced) (defBody s_reduced) (defScope s_reduced) .none kV9 dc9 pm9 an9 cd9 ct9), sl9⟩) (c9 : PySem.W.codeIn K cd9 (Str.ofString "reduced") = true) (k9 : PySem.W.keepIn K (.ref f9) = true)
    {f10 : Addr} {od10 an10 : Option Addr} {sl10 : Array (Option Value)} {oc10 kV10 dc10 pm10 cd10 ct10 : Value}
    (a10 : PySem.W.nsIn K mainGlobals (Str.ofString "check_rows") = some (some (.ref f10))) (l10 : K.lookup f10 = some ⟨oc10, od10, .func (PySem.W.fnOf (Str.ofString "check_rows") (Str.ofString "check_rows") (defArgs s_check_rows) (defBody s_check_rows) (defScope s_check_rows) .none kV10 dc10 pm10 an10 cd10 ct10), sl10⟩) (c10 : PySem.W.codeIn K cd10 (Str.ofString "check_rows") = true) (k10 : PySem.W.keepIn K (.ref f10) = true)
    {f11 : Addr} {od11 an11 : Option Addr} {sl11 : Array (Option Value)} {oc11 kV11 dc11 pm11 cd11 ct11 : Value}
    (a11 : PySem.W.nsIn K mainGlobals (Str.ofString "span") = some (some (.ref f11))) (l11 : K.lookup f11 = some ⟨oc11, od11, .func (PySem.W.fnOf (Str.ofString "span") (Str.ofString "span") (defArgs s_span) (defBody s_span) (defScope s_span) .none kV11 dc11 pm11 an11 cd11 ct11), sl11⟩) (c11 : PySem.W.codeIn K cd11 (Str.ofString "span") = true) (k11 : PySem.W.keepIn K (.ref f11) = true)
    {f12 : Addr} {od12 an12 : Option Addr} {sl12 : Array (Option Value)} {oc12 kV12 dc12 pm12 cd12 ct12 : Value}
    (a12 : PySem.W.nsIn K mainGlobals (Str.ofString "_law_low") = some (some (.ref f12))) (l12 : K.lookup f12 = some ⟨oc12, od12, .func (PySem.W.fnOf (Str.ofString "_law_low") (Str.ofString "_law_low") (defArgs s_law_low) (defBody s_law_low) (defScope s_law_low) .none kV12 dc12 pm12 an12 cd12 ct12), sl12⟩) (c12 : PySem.W.codeIn K cd12 (Str.ofString "_law_low") = true) (k12 : PySem.W.keepIn K (.ref f12) = true)
    {f13 : Addr} {od13 an13 : Option Addr} {sl13 : Array (Option Value)} {oc13 kV13 dc13 pm13 cd13 ct13 : Value}
    (a13 : PySem.W.nsIn K mainGlobals (Str.ofString "_law_add") = some (some (.ref f13))) (l13 : K.lookup f13 = some ⟨oc13, od13, .func (PySem.W.fnOf (Str.ofString "_law_add") (Str.ofString "_law_add") (defArgs s_law_add) (defBody s_law_add) (defScope s_law_add) .none kV13 dc13 pm13 an13 cd13 ct13), sl13⟩) (c13 : PySem.W.codeIn K cd13 (Str.ofString "_law_add") = true) (k13 : PySem.W.keepIn K (.ref f13) = true)
    {f14 : Addr} {od14 an14 : Option Addr} {sl14 : Array (Option Value)} {oc14 kV14 dc14 pm14 cd14 ct14 : Value}
    (a14 : PySem.W.nsIn K mainGlobals (Str.ofString "_law_mul") = some (some (.ref f14))) (l14 : K.lookup f14 = some ⟨oc14, od14, .func (PySem.W.fnOf (Str.ofString "_law_mul") (Str.ofString "_law_mul") (defArgs s_law_mul) (defBody s_law_mul) (defScope s_law_mul) .none kV14 dc14 pm14 an14 cd14 ct14), sl14⟩) (c14 : PySem.W.codeIn K cd14 (Str.ofString "_law_mul") = true) (k14 : PySem.W.keepIn K (.ref f14) = true)
    {f15 : Addr} {od15 an15 : Option Addr} {sl15 : Array (Option Value)} {oc15 kV15 dc15 pm15 cd15 ct15 : Value}
    (a15 : PySem.W.nsIn K mainGlobals (Str.ofString "_law_number") = some (some (.ref f15))) (l15 : K.lookup f15 = some ⟨oc15, od15, .func (PySem.W.fnOf (Str.ofString "_law_number") (Str.ofString "_law_number") (defArgs s_law_number) (defBody s_law_number) (defScope s_law_number) .none kV15 dc15 pm15 an15 cd15 ct15), sl15⟩) (c15 : PySem.W.codeIn K cd15 (Str.ofString "_law_number") = true) (k15 : PySem.W.keepIn K (.ref f15) = true)
    {f16 : Addr} {od16 an16 : Option Addr} {sl16 : Array (Option Value)} {oc16 kV16 dc16 pm16 cd16 ct16 : Value}
    (a16 : PySem.W.nsIn K mainGlobals (Str.ofString "_law_alike") = some (some (.ref f16))) (l16 : K.lookup f16 = some ⟨oc16, od16, .func (PySem.W.fnOf (Str.ofString "_law_alike") (Str.ofString "_law_alike") (defArgs s_law_alike) (defBody s_law_alike) (defScope s_law_alike) .none kV16 dc16 pm16 an16 cd16 ct16), sl16⟩) (c16 : PySem.W.codeIn K cd16 (Str.ofString "_law_alike") = true) (k16 : PySem.W.keepIn K (.ref f16) = true)
    {f17 : Addr} {od17 an17 : Option Addr} {sl17 : Array (Option Value)} {oc17 kV17 dc17 pm17 cd17 ct17 : Value}
    (a17 : PySem.W.nsIn K mainGlobals (Str.ofString "_law_line") = some (some (.ref f17))) (l17 : K.lookup f17 = some ⟨oc17, od17, .func (PySem.W.fnOf (Str.ofString "_law_line") (Str.ofString "_law_line") (defArgs s_law_line) (defBody s_law_line) (defScope s_law_line) .none kV17 dc17 pm17 an17 cd17 ct17), sl17⟩) (c17 : PySem.W.codeIn K cd17 (Str.ofString "_law_line") = true) (k17 : PySem.W.keepIn K (.ref f17) = true)
    {f18 : Addr} {od18 an18 : Option Addr} {sl18 : Array (Option Value)} {oc18 kV18 dc18 pm18 cd18 ct18 : Value}
    (a18 : PySem.W.nsIn K mainGlobals (Str.ofString "_law_shape") = some (some (.ref f18))) (l18 : K.lookup f18 = some ⟨oc18, od18, .func (PySem.W.fnOf (Str.ofString "_law_shape") (Str.ofString "_law_shape") (defArgs s_law_shape) (defBody s_law_shape) (defScope s_law_shape) .none kV18 dc18 pm18 an18 cd18 ct18), sl18⟩) (c18 : PySem.W.codeIn K cd18 (Str.ofString "_law_shape") = true) (k18 : PySem.W.keepIn K (.ref f18) = true)
    {f19 : Addr} {od19 an19 : Option Addr} {sl19 : Array (Option Value)} {oc19 kV19 dc19 pm19 cd19 ct19 : Value}
    (a19 : PySem.W.nsIn K mainGlobals (Str.ofString "_law_fitting") = some (some (.ref f19))) (l19 : K.lookup f19 = some ⟨oc19, od19, .func (PySem.W.fnOf (Str.ofString "_law_fitting") (Str.ofString "_law_fitting") (defArgs s_law_fitting) (defBody s_law_fitting) (defScope s_law_fitting) .none kV19 dc19 pm19 an19 cd19 ct19), sl19⟩) (c19 : PySem.W.codeIn K cd19 (Str.ofString "_law_fitting") = true) (k19 : PySem.W.keepIn K (.ref f19) = true)
    {f20 : Addr} {od20 an20 : Option Addr} {sl20 : Array (Option Value)} {oc20 kV20 dc20 pm20 cd20 ct20 : Value}
    (a20 : PySem.W.nsIn K mainGlobals (Str.ofString "_law_dull") = some (some (.ref f20))) (l20 : K.lookup f20 = some ⟨oc20, od20, .func (PySem.W.fnOf (Str.ofString "_law_dull") (Str.ofString "_law_dull") (defArgs s_law_dull) (defBody s_law_dull) (defScope s_law_dull) .none kV20 dc20 pm20 an20 cd20 ct20), sl20⟩) (c20 : PySem.W.codeIn K cd20 (Str.ofString "_law_dull") = true) (k20 : PySem.W.keepIn K (.ref f20) = true)
    {f21 : Addr} {od21 an21 : Option Addr} {sl21 : Array (Option Value)} {oc21 kV21 dc21 pm21 cd21 ct21 : Value}
    (a21 : PySem.W.nsIn K mainGlobals (Str.ofString "_law_thin") = some (some (.ref f21))) (l21 : K.lookup f21 = some ⟨oc21, od21, .func (PySem.W.fnOf (Str.ofString "_law_thin") (Str.ofString "_law_thin") (defArgs s_law_thin) (defBody s_law_thin) (defScope s_law_thin) .none kV21 dc21 pm21 an21 cd21 ct21), sl21⟩) (c21 : PySem.W.codeIn K cd21 (Str.ofString "_law_thin") = true) (k21 : PySem.W.keepIn K (.ref f21) = true)
    {f22 : Addr} {od22 an22 : Option Addr} {sl22 : Array (Option Value)} {oc22 kV22 dc22 pm22 cd22 ct22 : Value}
    (a22 : PySem.W.nsIn K mainGlobals (Str.ofString "_law_rows") = some (some (.ref f22))) (l22 : K.lookup f22 = some ⟨oc22, od22, .func (PySem.W.fnOf (Str.ofString "_law_rows") (Str.ofString "_law_rows") (defArgs s_law_rows) (defBody s_law_rows) (defScope s_law_rows) .none kV22 dc22 pm22 an22 cd22 ct22), sl22⟩) (c22 : PySem.W.codeIn K cd22 (Str.ofString "_law_rows") = true) (k22 : PySem.W.keepIn K (.ref f22) = true)
    {f23 : Addr} {od23 an23 : Option Addr} {sl23 : Array (Option Value)} {oc23 kV23 dc23 pm23 cd23 ct23 : Value}
    (a23 : PySem.W.nsIn K mainGlobals (Str.ofString "_law_minus") = some (some (.ref f23))) (l23 : K.lookup f23 = some ⟨oc23, od23, .func (PySem.W.fnOf (Str.ofString "_law_minus") (Str.ofString "_law_minus") (defArgs s_law_minus) (defBody s_law_minus) (defScope s_law_minus) .none kV23 dc23 pm23 an23 cd23 ct23), sl23⟩) (c23 : PySem.W.codeIn K cd23 (Str.ofString "_law_minus") = true) (k23 : PySem.W.keepIn K (.ref f23) = true)
    {f24 : Addr} {od24 an24 : Option Addr} {sl24 : Array (Option Value)} {oc24 kV24 dc24 pm24 cd24 ct24 : Value}
    (a24 : PySem.W.nsIn K mainGlobals (Str.ofString "_law_form") = some (some (.ref f24))) (l24 : K.lookup f24 = some ⟨oc24, od24, .func (PySem.W.fnOf (Str.ofString "_law_form") (Str.ofString "_law_form") (defArgs s_law_form) (defBody s_law_form) (defScope s_law_form) .none kV24 dc24 pm24 an24 cd24 ct24), sl24⟩) (c24 : PySem.W.codeIn K cd24 (Str.ofString "_law_form") = true) (k24 : PySem.W.keepIn K (.ref f24) = true)
    {f25 : Addr} {od25 an25 : Option Addr} {sl25 : Array (Option Value)} {oc25 kV25 dc25 pm25 cd25 ct25 : Value}
    (a25 : PySem.W.nsIn K mainGlobals (Str.ofString "_law_turned") = some (some (.ref f25))) (l25 : K.lookup f25 = some ⟨oc25, od25, .func (PySem.W.fnOf (Str.ofString "_law_turned") (Str.ofString "_law_turned") (defArgs s_law_turned) (defBody s_law_turned) (defScope s_law_turned) .none kV25 dc25 pm25 an25 cd25 ct25), sl25⟩) (c25 : PySem.W.codeIn K cd25 (Str.ofString "_law_turned") = true) (k25 : PySem.W.keepIn K (.ref f25) = true)
    {f26 : Addr} {od26 an26 : Option Addr} {sl26 : Array (Option Value)} {oc26 kV26 dc26 pm26 cd26 ct26 : Value}
    (a26 : PySem.W.nsIn K mainGlobals (Str.ofString "_law_shaped") = some (some (.ref f26))) (l26 : K.lookup f26 = some ⟨oc26, od26, .func (PySem.W.fnOf (Str.ofString "_law_shaped") (Str.ofString "_law_shaped") (defArgs s_law_shaped) (defBody s_law_shaped) (defScope s_law_shaped) .none kV26 dc26 pm26 an26 cd26 ct26), sl26⟩) (c26 : PySem.W.codeIn K cd26 (Str.ofString "_law_shaped") = true) (k26 : PySem.W.keepIn K (.ref f26) = true)
    {f27 : Addr} {od27 an27 : Option Addr} {sl27 : Array (Option Value)} {oc27 kV27 dc27 pm27 cd27 ct27 : Value}
    (a27 : PySem.W.nsIn K mainGlobals (Str.ofString "_law_holds") = some (some (.ref f27))) (l27 : K.lookup f27 = some ⟨oc27, od27, .func (PySem.W.fnOf (Str.ofString "_law_holds") (Str.ofString "_law_holds") (defArgs s_law_holds) (defBody s_law_holds) (defScope s_law_holds) .none kV27 dc27 pm27 an27 cd27 ct27), sl27⟩) (c27 : PySem.W.codeIn K cd27 (Str.ofString "_law_holds") = true) (k27 : PySem.W.keepIn K (.ref f27) = true)
    {f28 : Addr} {od28 an28 : Option Addr} {sl28 : Array (Option Value)} {oc28 kV28 dc28 pm28 cd28 ct28 : Value}
    (a28 : PySem.W.nsIn K mainGlobals (Str.ofString "law") = some (some (.ref f28))) (l28 : K.lookup f28 = some ⟨oc28, od28, .func (PySem.W.fnOf (Str.ofString "law") (Str.ofString "law") (defArgs s_law) (defBody s_law) (defScope s_law) .none kV28 dc28 pm28 an28 cd28 ct28), sl28⟩) (c28 : PySem.W.codeIn K cd28 (Str.ofString "law") = true) (k28 : PySem.W.keepIn K (.ref f28) = true)
    (z_abs : PySem.W.nsIn K mainGlobals (Str.ofString "abs") = some none)
    (z_bool : PySem.W.nsIn K mainGlobals (Str.ofString "bool") = some none)
    (z_enumerate : PySem.W.nsIn K mainGlobals (Str.ofString "enumerate") = some none)
    (z_int : PySem.W.nsIn K mainGlobals (Str.ofString "int") = some none)
    (z_isinstance : PySem.W.nsIn K mainGlobals (Str.ofString "isinstance") = some none)
    (z_len : PySem.W.nsIn K mainGlobals (Str.ofString "len") = some none)
    (z_list : PySem.W.nsIn K mainGlobals (Str.ofString "list") = some none)
    (z_range : PySem.W.nsIn K mainGlobals (Str.ofString "range") = some none)
    (z_sorted : PySem.W.nsIn K mainGlobals (Str.ofString "sorted") = some none)
    (z_tuple : PySem.W.nsIn K mainGlobals (Str.ofString "tuple") = some none)
    (z_zip : PySem.W.nsIn K mainGlobals (Str.ofString "zip") = some none)
    (g_gcd : PySem.W.nsIn K mainGlobals (Str.ofString "gcd") = some (some (.builtin "math.gcd")))
    (g_lcm : PySem.W.nsIn K mainGlobals (Str.ofString "lcm") = some (some (.builtin "math.lcm")))
    (hm : ∀ ns : List Int, ns.length ≤ 63 → w_law (ns, ()) (fun r _ => r = true) noX 0) :
    ∃ fd : FuncData, (∀ (s : Shared) (v : Value), BindsTo s fd ⟨[v], []⟩ [(Str.ofString "_law_script", v)]) ∧ ∀ base : Heap, K.In base → base.Ns mainGlobals mg → FnOk l.prog w K mg base CX0 8 fa fd P_law (spLaw K) := by
  have e := hfa.symm.trans (PySem.W.mg_of X G a28)
  cases e
  let T : Txt K mg := {
    a_law_pool := f0, d_law_pool := _, F_law_pool := fun_mk (st := s_law_pool) l0 c0 k0, m_law_pool := PySem.W.mg_of X G a0,
    a_law_pick := f1, d_law_pick := _, F_law_pick := fun_mk (st := s_law_pick) l1 c1 k1, m_law_pick := PySem.W.mg_of X G a1,
    a_lowest := f2, d_lowest := _, F_lowest := fun_mk (st := s_lowest) l2 c2 k2, m_lowest := PySem.W.mg_of X G a2,
    a_is_number := f3, d_is_number := _, F_is_number := fun_mk (st := s_is_number) l3 c3 k3, m_is_number := PySem.W.mg_of X G a3,
    a_check_numbers := f4, d_check_numbers := _, F_check_numbers := fun_mk (st := s_check_numbers) l4 c4 k4, m_check_numbers := PySem.W.mg_of X G a4,
    a_integers_of := f5, d_integers_of := _, F_integers_of := fun_mk (st := s_integers_of) l5 c5 k5, m_integers_of := PySem.W.mg_of X G a5,
    a_numbers_of := f6, d_numbers_of := _, F_numbers_of := fun_mk (st := s_numbers_of) l6 c6 k6, m_numbers_of := PySem.W.mg_of X G a6,
    a_divided := f7, d_divided := _, F_divided := fun_mk (st := s_divided) l7 c7 k7, m_divided := PySem.W.mg_of X G a7,
    a_cleared := f8, d_cleared := _, F_cleared := fun_mk (st := s_cleared) l8 c8 k8, m_cleared := PySem.W.mg_of X G a8,
    a_reduced := f9, d_reduced := _, F_reduced := fun_mk (st := s_reduced) l9 c9 k9, m_reduced := PySem.W.mg_of X G a9,
    a_check_rows := f10, d_check_rows := _, F_check_rows := fun_mk (st := s_check_rows) l10 c10 k10, m_check_rows := PySem.W.mg_of X G a10,
    a_span := f11, d_span := _, F_span := fun_mk (st := s_span) l11 c11 k11, m_span := PySem.W.mg_of X G a11,
    a_law_low := f12, d_law_low := _, F_law_low := fun_mk (st := s_law_low) l12 c12 k12, m_law_low := PySem.W.mg_of X G a12,
    a_law_add := f13, d_law_add := _, F_law_add := fun_mk (st := s_law_add) l13 c13 k13, m_law_add := PySem.W.mg_of X G a13,
    a_law_mul := f14, d_law_mul := _, F_law_mul := fun_mk (st := s_law_mul) l14 c14 k14, m_law_mul := PySem.W.mg_of X G a14,
    a_law_number := f15, d_law_number := _, F_law_number := fun_mk (st := s_law_number) l15 c15 k15, m_law_number := PySem.W.mg_of X G a15,
    a_law_alike := f16, d_law_alike := _, F_law_alike := fun_mk (st := s_law_alike) l16 c16 k16, m_law_alike := PySem.W.mg_of X G a16,
    a_law_line := f17, d_law_line := _, F_law_line := fun_mk (st := s_law_line) l17 c17 k17, m_law_line := PySem.W.mg_of X G a17,
    a_law_shape := f18, d_law_shape := _, F_law_shape := fun_mk (st := s_law_shape) l18 c18 k18, m_law_shape := PySem.W.mg_of X G a18,
    a_law_fitting := f19, d_law_fitting := _, F_law_fitting := fun_mk (st := s_law_fitting) l19 c19 k19, m_law_fitting := PySem.W.mg_of X G a19,
    a_law_dull := f20, d_law_dull := _, F_law_dull := fun_mk (st := s_law_dull) l20 c20 k20, m_law_dull := PySem.W.mg_of X G a20,
    a_law_thin := f21, d_law_thin := _, F_law_thin := fun_mk (st := s_law_thin) l21 c21 k21, m_law_thin := PySem.W.mg_of X G a21,
    a_law_rows := f22, d_law_rows := _, F_law_rows := fun_mk (st := s_law_rows) l22 c22 k22, m_law_rows := PySem.W.mg_of X G a22,
    a_law_minus := f23, d_law_minus := _, F_law_minus := fun_mk (st := s_law_minus) l23 c23 k23, m_law_minus := PySem.W.mg_of X G a23,
    a_law_form := f24, d_law_form := _, F_law_form := fun_mk (st := s_law_form) l24 c24 k24, m_law_form := PySem.W.mg_of X G a24,
    a_law_turned := f25, d_law_turned := _, F_law_turned := fun_mk (st := s_law_turned) l25 c25 k25, m_law_turned := PySem.W.mg_of X G a25,
    a_law_shaped := f26, d_law_shaped := _, F_law_shaped := fun_mk (st := s_law_shaped) l26 c26 k26, m_law_shaped := PySem.W.mg_of X G a26,
    a_law_holds := f27, d_law_holds := _, F_law_holds := fun_mk (st := s_law_holds) l27 c27 k27, m_law_holds := PySem.W.mg_of X G a27,
    a_law := fa, d_law := _, F_law := fun_mk (st := s_law) l28 c28 k28, m_law := PySem.W.mg_of X G a28,
    z_abs := PySem.W.mg_none_of X G z_abs,
    z_bool := PySem.W.mg_none_of X G z_bool,
    z_enumerate := PySem.W.mg_none_of X G z_enumerate,
    z_int := PySem.W.mg_none_of X G z_int,
    z_isinstance := PySem.W.mg_none_of X G z_isinstance,
    z_len := PySem.W.mg_none_of X G z_len,
    z_list := PySem.W.mg_none_of X G z_list,
    z_range := PySem.W.mg_none_of X G z_range,
    z_sorted := PySem.W.mg_none_of X G z_sorted,
    z_tuple := PySem.W.mg_none_of X G z_tuple,
    z_zip := PySem.W.mg_none_of X G z_zip,
    m_gcd := PySem.W.mg_of X G g_gcd,
    m_lcm := PySem.W.mg_of X G g_lcm
  }
  exact ⟨_, fun s v => .of_eq rfl, fun base _ _ => ok_law T hm⟩

end Dc
namespace Dc
open PySem PySem.Spec L2
theorem gcd_pos_of {a b : Int} (h : b ≠ 0) : 0 < Nat.gcd a.natAbs b.natAbs := Nat.gcd_pos_of_pos_right _ (by omega)
theorem gcd_le_of {a b : Int} (h : b ≠ 0) : Nat.gcd a.natAbs b.natAbs ≤ b.natAbs := Nat.gcd_le_right _ (by omega)
theorem fdiv_negr (a : Int) (g : Nat) : Int.fdiv a (-(g : Int)) = -a / (g : Int) := by
  have := Int.neg_fdiv_neg (-a) (g : Int)
  rw [Int.neg_neg] at this
  rw [this, Int.fdiv_eq_ediv_of_nonneg _ (by omega)]
theorem fdiv_posr (a : Int) (g : Nat) : Int.fdiv a (g : Int) = a / (g : Int) := Int.fdiv_eq_ediv_of_nonneg _ (by omega)
theorem lowest_eq {a b : Int} (h : b ≠ 0) (hb : b.natAbs < 2 ^ 9000) : w_lowest (a, b, ()) = ret (ofQ (Rat.divInt a b)) := by
  have g0 := gcd_pos_of (a := a) h
  have g1 := gcd_le_of (a := a) h
  unfold w_lowest wb_lowest
  simp only [bnd_ret, bnd_assoc, bnd_grd, bnd_ite, grd_true, fnR_bnd, fnR_ite, fnR_grd, fnR_ret, sq_nx]
  generalize hg : Nat.gcd a.natAbs b.natAbs = g at *
  by_cases q : b < 0
  · rw [ite_ok (decide_eq_true q), grd_ok (fdivOk_of (by omega) (by omega)), grd_ok (fdivOk_of (by omega) (by omega)), fdiv_negr, fdiv_negr, ← low_neg q, hg]
  · rw [ite_no (decide_eq_false q), grd_ok (fdivOk_of (by omega) (by omega)), grd_ok (fdivOk_of (by omega) (by omega)), fdiv_posr, fdiv_posr, ← low_pos (by omega), hg]
theorem gcd_loop {β δ : Type} (t : Int × Int → W Bool) (f : Int × Int → W (Fl (Int × Int) (Int × Int) β)) (ht : ∀ s, t s = ret (!decide (s.2 = 0))) (hf : ∀ s : Int × Int, 0 < s.2 → f s = ret (.nx (s.2, s.1 % s.2))) :
    ∀ (n : Nat) (x y : Int), 0 ≤ x → 0 ≤ y → y.toNat < n → whW (δ := δ) t f n (x, y) = ret (.nx ((Nat.gcd x.natAbs y.natAbs : Nat), 0))
  | 0, _, _, _, _, h => by omega
  | n + 1, x, y, hx, hy, h => by
    show bnd (t (x, y)) _ = _
    rw [ht, bnd_ret]
    by_cases q : y = 0
    · subst q
      rw [ite_no (by simp)]
      simp [Int.natAbs_of_nonneg hx]
    · rw [ite_ok (by simp [q]), hf _ (by show 0 < y; omega), bnd_ret]
      have m0 := Int.emod_nonneg x q
      have m1 := Int.emod_lt_of_pos x (show 0 < y by omega)
      have := gcd_loop (δ := δ) t f ht hf n y (x % y) hy m0 (by omega)
      refine this.trans ?_
      have e : (x % y).natAbs = x.natAbs % y.natAbs := by
        rw [Int.natAbs_emod_of_nonneg hx]
      rw [e, Nat.gcd_comm y.natAbs, ← Nat.gcd_rec, Nat.gcd_comm y.natAbs]
theorem iabs (a : Int) : (if a < 0 then -a else a) = (a.natAbs : Int) := by split <;> omega
theorem law_low_eq {a b : Int} (h : b ≠ 0) (hb : b.natAbs < 2 ^ 9000) : w_law_low (a, b, ()) = ret (ofQ (Rat.divInt a b)) := by
  have g0 := gcd_pos_of (a := a) h
  have g1 := gcd_le_of (a := a) h
  unfold w_law_low wb_law_low
  simp only [bnd_ret, bnd_assoc, bnd_grd, bnd_ite, grd_true, fnR_bnd, fnR_ite, fnR_grd, fnR_ret, sq_nx, iabs]
  rw [gcd_loop _ _ (fun s => rfl) (fun s hs => by rw [grd_ok (by simp [modOk]; exact hs)]) _ _ _ (by omega) (by omega) (by omega), bnd_ret, sq_nx]
  simp only [fnR_ite, fnR_grd, fnR_ret, Int.natAbs_natCast]
  generalize hg : Nat.gcd a.natAbs b.natAbs = g at *
  by_cases q : 0 < b
  · rw [ite_ok (decide_eq_true q), grd_ok (fdivOk_of (by omega) (by omega)), grd_ok (fdivOk_of (by omega) (by omega)), fdiv_posr, fdiv_posr, ← low_pos (by omega), hg]
  · rw [ite_no (decide_eq_false q), grd_ok (fdivOk_of (by omega) (by omega)), grd_ok (fdivOk_of (by omega) (by omega)), fdiv_posr, fdiv_posr, ← low_neg (by omega), hg]
end Dc
namespace Dc
open PySem PySem.Spec L2
theorem small {x : Nat} (h : x < 2 ^ 64) : x < 2 ^ 9000 := Nat.lt_of_lt_of_le h (Nat.pow_le_pow_right (by decide) (by decide))
theorem lsmall {x : Nat} (h : x < 2 ^ 64) : x.log2 < 9000 := log2_lt (small h) (by decide)
theorem ixN_of {n : Nat} {k : Int} (h : 0 ≤ k) (h2 : k < n) : ixN n k = some k.toNat := by
  unfold ixN
  simp only [h, h2]
  simp
theorem ix_in {α : Type} [Inhabited α] {l : List α} {k : Int} (h : 0 ≤ k) (h2 : k < l.length) : ixOk l k = true ∧ ixAt l k ∈ l := by
  have e := ixN_of h h2
  refine ⟨by simp [ixOk, e], ?_⟩
  have hk : k.toNat < l.length := by omega
  unfold ixAt
  rw [e, Option.getD_some, List.getD_eq_getElem?_getD, List.getElem?_eq_getElem hk, Option.getD_some]
  exact List.getElem_mem hk
/-- numbers of the law's pool -/
structure Num (g : Bool) (x : Fr) : Prop where
  red : Red x
  up : x.1.natAbs ≤ 9999
  dn : x.2.natAbs ≤ 9999
  sm : g = false → x.2.natAbs ≤ 9
theorem Num.of {g : Bool} {a b m : Int} (h1 : 1 ≤ b) (h2 : b ≤ m) (ha : a.natAbs ≤ m.natAbs) (hm : m ≤ 9999) (hg : g = false → m ≤ 9) : Num g (ofQ (Rat.divInt a b)) := by
  have h := low_le (a := a) (b := b) (by omega)
  exact ⟨red_ofQ _, by omega, by omega, fun z => by have := hg z; omega⟩
theorem law_number_tr (g : Bool) : Tr 5 (w_law_number (g, ())) (Num g) := by
  unfold w_law_number wb_law_number
  simp only [bnd_ret, bnd_assoc, bnd_grd, bnd_ifr, grd_true, fnR_bnd, fnR_ite, fnR_grd, fnR_ret, sq_nx, sq_rt]
  refine Tr.bnd (a := 1) (b := 4) Tr.pick fun k hk => ?_
  refine Tr.ite (fun q => Tr.ret ?_) fun q => ?_
  · have q := of_decide_eq_true q
    exact ⟨red_int k, by show k.natAbs ≤ 9999; omega, by show (1 : Int).natAbs ≤ 9999; decide, fun _ => by show (1 : Int).natAbs ≤ 9; decide⟩
  have q := of_decide_eq_false q
  refine Tr.bnd (a := 0) (b := 4) (S := fun m : Int => 1 ≤ m ∧ m ≤ 9999 ∧ (g = false → m ≤ 9)) (Tr.ite (fun hg => ?_) fun hg => Tr.ret ⟨by decide, by decide, fun _ => by decide⟩) fun m hm => ?_
  · have i1 := ix_in (l := ([9, 9, 9, 99, 9999] : List Int)) (k := k - 2) (by omega) (by have : ([9, 9, 9, 99, 9999] : List Int).length = 5 := rfl; omega)
    refine Tr.grd i1.1 (Tr.ret ?_)
    generalize ixAt ([9, 9, 9, 99, 9999] : List Int) (k - 2) = m at i1 ⊢
    have hz : 1 ≤ m ∧ m ≤ 9999 := by
      have := i1.2
      simp at this
      omega
    exact ⟨hz.1, hz.2, fun z => by rw [hg] at z; cases z⟩
  · obtain ⟨h1, h2, h3⟩ := hm
    refine Tr.bnd (a := 1) (b := 3) (Tr.pick (by omega) (lsmall (by omega))) fun x hx => ?_
    refine Tr.bnd (a := 1) (b := 2) Tr.pick fun y hy => ?_
    have i1 := ix_in (l := [1, m]) hy.1 hy.2
    refine Tr.grd i1.1 ?_
    generalize ixAt [1, m] y = z at i1
    have hz : 1 ≤ z ∧ z ≤ m := by
      have := i1.2
      simp at this
      omega
    refine Tr.bnd (a := 1) (b := 1) (Tr.pick (by omega) (lsmall (by omega))) fun u hu => ?_
    refine Tr.bnd (a := 1) (b := 0) Tr.pick fun v hv => ?_
    have i2 := ix_in (l := [1 + x, -(1 + x)]) hv.1 hv.2
    refine Tr.grd i2.1 ?_
    generalize ixAt [1 + x, -(1 + x)] v = a at i2
    have ha : a.natAbs ≤ m.natAbs := by
      have := i2.2
      simp at this
      omega
    rw [law_low_eq (by omega) (small (by omega)), bnd_ret]
    exact Tr.ret (Num.of (m := m) (by omega) (by omega) ha h2 h3)
end Dc
namespace Dc
open PySem PySem.Spec L2
theorem rangeF_mem {lo : Int} {n : Nat} {y : Int} (h : y ∈ rangeF lo n) : lo ≤ y ∧ y < lo + n := by
  obtain ⟨i, hi⟩ := List.getElem?_of_mem h
  have := rangeF_get _ _ _ _ hi
  omega
/-! ### alike -/
def dOk : Nat → D → Prop
  | _, .int _ => True
  | _, .bl _ => True
  | _, .non => True
  | n + 1, .lst ds => ds.length ≤ 16777216 ∧ ∀ d ∈ ds, dOk n d
  | n + 1, .tup ds => ds.length ≤ 16777216 ∧ ∀ d ∈ ds, dOk n d
  | _, _ => False
theorem alike_loop {n : Nat} {d : D} (ih : ∀ e ∈ itemsD d, w_law_alike n (e, e, ()) = ret true) (f : Unit → Int → W (Fl Unit Unit Bool))
    (hf : ∀ y, f () y = grd (true && ixOk (itemsD d) y) (grd (true && ixOk (itemsD d) y) (bnd (w_law_alike n (ixAt (itemsD d) y, ixAt (itemsD d) y, ())) fun t => ite (!t) (ret (Fl.rt false)) (ret (Fl.nx ()))))) :
    forW (δ := Empty) f () (rangeF 0 ((itemsD d).length : Int).toNat) = ret (.nx ()) := by
  have := forW_eq (δ := Empty) (f := f) (g := fun _ _ => ()) (s := ()) (xs := rangeF 0 ((itemsD d).length : Int).toNat) (fun y hy s => by
    have hm := rangeF_mem hy
    have i := ix_in (l := itemsD d) (k := y) (by omega) (by omega)
    cases s
    rw [hf, grd_ok (by simp [i.1]), grd_ok (by simp [i.1]), ih _ i.2, bnd_ret]
    rfl)
  rw [this]
theorem alike_leaf {n : Nat} {d : D} (h0 : nonD d = false) (h1 : isD "list" d = false) (h2 : isD "tuple" d = false) (h3 : isD "int" d = true) (h4 : SeqAt.shaped (toP d) = true) (h5 : PyData.eqv (toP d) (toP d) = true) : w_law_alike (n + 1) (d, d, ()) = ret true := by
  unfold w_law_alike
  simp only [bnd_ret, bnd_assoc, bnd_grd, bnd_ifr, grd_true, fnR_bnd, fnR_ite, fnR_grd, fnR_ret, sq_nx, sq_rt, h0, h1, h2, h3, h4, h5, ite_false, ite_true, bnd_ite, Bool.or_false, Bool.and_true, beq_self_eq_true]
theorem alike_node {n : Nat} {d : D} (h0 : nonD d = false) (h1 : (isD "list" d || isD "tuple" d) = true) (hs : seqD d = true) (hl : (itemsD d).length ≤ 16777216) (ih : ∀ e ∈ itemsD d, w_law_alike n (e, e, ()) = ret true) : w_law_alike (n + 1) (d, d, ()) = ret true := by
  have hk : isD "list" d = false → isD "tuple" d = true := fun z => by simpa [z] using h1
  unfold w_law_alike
  simp only [bnd_ret, bnd_assoc, bnd_grd, bnd_ifr, grd_true, fnR_bnd, fnR_ite, fnR_grd, fnR_ret, sq_nx, sq_rt, h0, h1, hs, ite_false, ite_true, bnd_ite, Bool.not_true, Bool.not_false, decide_true, fnR_stuck]
  cases e : isD "list" d
  · simp only [hk e, ite_false, ite_true, Bool.not_true, Bool.not_false]
    rw [grd_ok (by simp [rngOk]; omega), alike_loop ih _ fun y => rfl, bnd_ret]
    rfl
  · simp only [ite_false, ite_true, Bool.not_true, Bool.not_false]
    rw [grd_ok (by simp [rngOk]; omega), alike_loop ih _ fun y => rfl, bnd_ret]
    rfl
theorem alike_self : ∀ (n : Nat) (d : D), dOk n d → w_law_alike (n + 1) (d, d, ()) = ret true := by
  intro n
  induction n with
  | zero =>
    intro d h
    cases d with
    | lst ds => exact h.elim
    | tup ds => exact h.elim
    | str s => exact h.elim
    | non => rfl
    | int i => exact alike_leaf rfl rfl rfl rfl rfl (by simp [toP, PyData.eqv])
    | bl b => exact alike_leaf rfl rfl rfl rfl rfl (by simp [toP, PyData.eqv])
  | succ n ih =>
    intro d h
    cases d with
    | lst ds => exact alike_node rfl rfl rfl h.1 fun e he => ih e (h.2 e he)
    | tup ds => exact alike_node rfl rfl rfl h.1 fun e he => ih e (h.2 e he)
    | str s => exact h.elim
    | non => rfl
    | int i => exact alike_leaf rfl rfl rfl rfl rfl (by simp [toP, PyData.eqv])
    | bl b => exact alike_leaf rfl rfl rfl rfl rfl (by simp [toP, PyData.eqv])
end Dc
namespace Dc
open PySem PySem.Spec L2
def lineD (l : List Fr) : D := D.lst (l.map fun z => D.tup [D.int z.1, D.int z.2])
theorem alike_pair (a b : Int) : w_law_alike 6 (D.tup [D.int a, D.int b], D.tup [D.int a, D.int b], ()) = ret true := alike_self 5 _ ⟨by show 2 ≤ 16777216; decide, fun d hd => by
  simp only [List.mem_cons, List.not_mem_nil, or_false] at hd
  rcases hd with rfl | rfl <;> exact True.intro⟩
theorem alike_line {l : List Fr} (h : l.length ≤ 16777216) : w_law_alike 6 (D.lst (l.map fun z => D.tup [D.int z.1, D.int z.2]), D.lst (l.map fun z => D.tup [D.int z.1, D.int z.2]), ()) = ret true := alike_self 5 _ ⟨by rw [List.length_map]; exact h, fun d hd => by
  obtain ⟨x, _, rfl⟩ := List.mem_map.mp hd
  exact ⟨by show 2 ≤ 16777216; decide, fun d hd => by
    simp only [List.mem_cons, List.not_mem_nil, or_false] at hd
    rcases hd with rfl | rfl <;> exact True.intro⟩⟩
/-- not too great -/
def Sz (n : Nat) (x : Fr) : Prop := x.1.natAbs < 2 ^ n ∧ x.2.natAbs < 2 ^ n
theorem mul_lt_pow {a b n m : Nat} (h : a < 2 ^ n) (h2 : b < 2 ^ m) : a * b < 2 ^ (n + m) := by
  rw [Nat.pow_add]
  rcases Nat.eq_zero_or_pos b with z | z
  · rw [z, Nat.mul_zero]; exact Nat.mul_pos (Nat.pow_pos (by decide)) (Nat.pow_pos (by decide))
  · exact Nat.lt_of_lt_of_le ((Nat.mul_lt_mul_right z).mpr h) (Nat.mul_le_mul_left _ (Nat.le_of_lt h2))
theorem is_number_eq {x : Fr} (h : Red x) : w_is_number (x, ()) = ret true := by
  unfold w_is_number wb_is_number
  simp only [bnd_ret, bnd_assoc, bnd_grd, bnd_ite, grd_true, fnR_bnd, fnR_ite, fnR_grd, fnR_ret, sq_nx, sq_rt]
  rw [ite_ok (decide_eq_true h.1), h.2]
  rfl
theorem check_numbers_eq {l : List Fr} (h : ∀ x ∈ l, Red x) : w_check_numbers (l, ()) = ret () := by
  unfold w_check_numbers wb_check_numbers
  simp only [bnd_ret]
  rw [forW_eq (g := fun _ _ => ()) (fun x hx s => by
    simp only [bnd_ret, is_number_eq (h x hx), bnd_assoc, bnd_ifs]
    rfl), bnd_ret]
  rfl
theorem law_add_eq {x y : Fr} (hx : x.2 ≠ 0) (hy : y.2 ≠ 0) (sx : Sz 4000 x) (sy : Sz 4000 y) : w_law_add (x, y, ()) = ret (ofQ (toQ x + toQ y)) := by
  have b := mul_lt_pow sx.2 sy.2
  unfold w_law_add wb_law_add
  simp only [bnd_ret, bnd_assoc, bnd_grd, fnR_bnd, fnR_grd, fnR_ret]
  rw [grd_ok (mulOk_of sx.1 sy.2), grd_ok (mulOk_of sy.1 sx.2), grd_ok (mulOk_of sx.2 sy.2), law_low_eq (Int.mul_ne_zero hx hy) (by rw [Int.natAbs_mul]; exact Nat.lt_of_lt_of_le b (Nat.pow_le_pow_right (by decide) (by decide))), bnd_ret, toQ_add hx hy]
theorem law_mul_eq {x y : Fr} (hx : x.2 ≠ 0) (hy : y.2 ≠ 0) (sx : Sz 4000 x) (sy : Sz 4000 y) : w_law_mul (x, y, ()) = ret (ofQ (toQ x * toQ y)) := by
  have b := mul_lt_pow sx.2 sy.2
  unfold w_law_mul wb_law_mul
  simp only [bnd_ret, bnd_assoc, bnd_grd, fnR_bnd, fnR_grd, fnR_ret]
  rw [grd_ok (mulOk_of sx.1 sy.1), grd_ok (mulOk_of sx.2 sy.2), law_low_eq (Int.mul_ne_zero hx hy) (by rw [Int.natAbs_mul]; exact Nat.lt_of_lt_of_le b (Nat.pow_le_pow_right (by decide) (by decide))), bnd_ret, toQ_mul]
theorem law_add_gen {x y : Fr} (hx : x.2 ≠ 0) (hy : y.2 ≠ 0) (bx : x.1.natAbs < 2 ^ 100000) (by_ : y.1.natAbs < 2 ^ 100000) (b : x.2.natAbs * y.2.natAbs < 2 ^ 9000) : w_law_add (x, y, ()) = ret (ofQ (toQ x + toQ y)) := by
  have l1 : x.2.natAbs < 2 ^ 9000 := Nat.lt_of_le_of_lt (Nat.le_mul_of_pos_right _ (by omega)) b
  have l2 : y.2.natAbs < 2 ^ 9000 := Nat.lt_of_le_of_lt (Nat.le_mul_of_pos_left _ (by omega)) b
  unfold w_law_add wb_law_add
  simp only [bnd_ret, bnd_assoc, bnd_grd, fnR_bnd, fnR_grd, fnR_ret]
  rw [grd_ok (mulOk_of bx l2), grd_ok (mulOk_of by_ l1), grd_ok (mulOk_of l1 l2), law_low_eq (Int.mul_ne_zero hx hy) (by rw [Int.natAbs_mul]; exact b), bnd_ret, toQ_add hx hy]
theorem Num.sz {g : Bool} {x : Fr} (h : Num g x) : Sz 4000 x := by
  have h1 := h.up
  have h2 := h.dn
  have e : (2 : Nat) ^ 14 ≤ 2 ^ 4000 := Nat.pow_le_pow_right (by decide) (by decide)
  exact ⟨Nat.lt_of_lt_of_le (show x.1.natAbs < 2 ^ 14 by omega) e, Nat.lt_of_lt_of_le (show x.2.natAbs < 2 ^ 14 by omega) e⟩
theorem Num.ne {g : Bool} {x : Fr} (h : Num g x) : x.2 ≠ 0 := red_ne h.red
def addL (l m : List Fr) : List Fr := (l.zip m).map fun z => ofQ (toQ z.1 + toQ z.2)
def mulL (x : Fr) (l : List Fr) : List Fr := l.map fun z => ofQ (toQ x * toQ z)
theorem flat1 {α : Type} (x : α) : ∀ n : Nat, (List.replicate n [x]).flatten = List.replicate n x
  | 0 => rfl
  | n + 1 => by rw [List.replicate_succ, List.flatten_cons, flat1 x n]; rfl
theorem repOk1 {n : Int} (h0 : 0 ≤ n) (h : n ≤ 16777216) : repOk 1 n = true := by
  simp only [repOk, Bool.and_eq_true, decide_eq_true_eq]
  omega
end Dc
namespace Dc
open PySem PySem.Spec L2
theorem Tr.then {α β : Type} {n : Nat} (a : Nat) {m : W α} {k : α → W β} {S : α → Prop} {T : β → Prop} (h : Tr a m S) (h2 : ∀ x, S x → Tr (n - a) (k x) T) (ha : a ≤ n := by decide) : Tr n (Dc.bnd m k) T :=
  (Tr.bnd h h2).up (by omega)
theorem Tr.mapN {α β : Type} {n L N : Nat} {f : α → W β} {S : β → Prop} {xs : List α} (h : ∀ x ∈ xs, Tr n (f x) S) (hl : xs.length ≤ L) (hN : L * n ≤ N := by decide) : Tr N (mapW f xs) (fun ys => ys.length = xs.length ∧ ∀ y ∈ ys, S y) :=
  (Tr.map (S := fun _ y => S y) h).mono (Nat.le_trans (Nat.mul_le_mul_right n hl) hN) fun ys z => ⟨z.len, fun y hy => by
    obtain ⟨_, _, q⟩ := z.all y hy
    exact q⟩
theorem Tr.forN {α β γ δ : Type} {n L N : Nat} {f : γ → α → W (Fl γ γ β)} {xs : List α} {s : γ} (R : γ → Prop) (h0 : R s) (h : ∀ x ∈ xs, ∀ s, R s → Tr n (f s x) (fun fl => ∃ s', fl = .nx s' ∧ R s')) (hl : xs.length ≤ L) (hN : L * n ≤ N := by decide) : Tr N (forW (δ := δ) f s xs) (fun fl => ∃ s', fl = .nx s' ∧ R s') :=
  (Tr.for h0 h).up (Nat.le_trans (Nat.mul_le_mul_right n hl) hN)
/-- a line of numbers -/
def Lin (g : Bool) (n : Nat) (l : List Fr) : Prop := l.length = n ∧ ∀ x ∈ l, Num g x
theorem num_int {g : Bool} {n : Int} (h : n.natAbs ≤ 9999) : Num g (n, 1) := ⟨red_int n, h, by show (1 : Int).natAbs ≤ 9999; decide, fun _ => by show (1 : Int).natAbs ≤ 9; decide⟩
theorem lin_set {g : Bool} {n : Nat} {l : List Fr} (h : Lin g n l) {x : Fr} (hx : Num g x) (i : Nat) : Lin g n (l.set i x) := ⟨by rw [List.length_set]; exact h.1, fun y hy => by
  rcases List.mem_or_eq_of_mem_set hy with q | q
  · exact h.2 y q
  · rw [q]; exact hx⟩
theorem mem2 {a b x : Int} (h : x ∈ [a, b]) : x = a ∨ x = b := by simpa using h
theorem mulSmall {i j : Int} (hi : i.natAbs < 2 ^ 64) (hj : j.natAbs < 2 ^ 64) : mulOk i j = true := mulOk_of hi hj
theorem eqvAll_refl {α : Type} {to : α → PyData} (h : ∀ x, PyData.eqv (to x) (to x) = true) : ∀ l : List α, PyData.eqvAll (l.map to) (l.map to) = true
  | [] => rfl
  | x :: r => by
    show (PyData.eqv (to x) (to x) && PyData.eqvAll (r.map to) (r.map to)) = true
    rw [h, eqvAll_refl h r]
    rfl
theorem eqv_pair (x : Fr) : PyData.eqv (PyData.tuple [PyData.int x.1, PyData.int x.2]) (PyData.tuple [PyData.int x.1, PyData.int x.2]) = true := by simp [PyData.eqv, PyData.eqvAll]
theorem eqv_line (l : List Fr) : PyData.eqv (PyData.list (l.map fun z => PyData.tuple [PyData.int z.1, PyData.int z.2])) (PyData.list (l.map fun z => PyData.tuple [PyData.int z.1, PyData.int z.2])) = true := by
  simp only [PyData.eqv]
  exact eqvAll_refl eqv_pair l
theorem eqv_rows (l : List (List Fr)) : PyData.eqv (PyData.list (l.map fun z => PyData.list (z.map fun z => PyData.tuple [PyData.int z.1, PyData.int z.2]))) (PyData.list (l.map fun z => PyData.list (z.map fun z => PyData.tuple [PyData.int z.1, PyData.int z.2]))) = true := by
  simp only [PyData.eqv]
  exact eqvAll_refl eqv_line l
end Dc
namespace Dc
open PySem PySem.Spec L2
theorem mapW_ret {α : Type} (l : List α) : mapW (fun y => ret y) l = ret l := by
  rw [mapW_eq (g := fun y => y) fun _ _ => rfl, List.map_id']
theorem flat_eq {α : Type} : ∀ (n : Nat) (rows : List (List α)), n + rows.flatten.length ≤ 16777216 → flatW (fun y => ret y) (fun _ z => ret z) n rows = ret rows.flatten
  | _, [], _ => rfl
  | n, r :: t, h => by
    rw [List.flatten_cons, List.length_append] at h
    show bnd (ret r) _ = _
    rw [bnd_ret, grd_ok (decide_eq_true (by omega)), mapW_ret, bnd_ret, flat_eq (n + r.length) t (by omega), bnd_ret]
    rfl
/-- the least common denominator -/
def lcmL (l : List Fr) : Int := l.foldl (fun s x => ((Nat.lcm s.natAbs x.2.natAbs : Nat) : Int)) 1
theorem lcmL_go : ∀ (l : List Fr) (s : Int), 0 < s → (∀ x ∈ l, 1 ≤ x.2) → 0 < l.foldl (fun s x => ((Nat.lcm s.natAbs x.2.natAbs : Nat) : Int)) s ∧ s ∣ l.foldl (fun s x => ((Nat.lcm s.natAbs x.2.natAbs : Nat) : Int)) s ∧ ∀ x ∈ l, x.2 ∣ l.foldl (fun s x => ((Nat.lcm s.natAbs x.2.natAbs : Nat) : Int)) s
  | [], s, hs, _ => ⟨hs, Int.dvd_refl _, fun _ h => by cases h⟩
  | x :: r, s, hs, h => by
    have hx := h x (List.mem_cons_self ..)
    have hp : 0 < ((Nat.lcm s.natAbs x.2.natAbs : Nat) : Int) := by
      have := Nat.lcm_pos (m := s.natAbs) (n := x.2.natAbs) (by omega) (by omega)
      omega
    obtain ⟨h1, h2, h3⟩ := lcmL_go r _ hp fun y hy => h y (List.mem_cons_of_mem _ hy)
    have d1 : s ∣ ((Nat.lcm s.natAbs x.2.natAbs : Nat) : Int) := Int.natAbs_dvd_natAbs.mp (by rw [Int.natAbs_natCast]; exact Nat.dvd_lcm_left ..)
    have d2 : x.2 ∣ ((Nat.lcm s.natAbs x.2.natAbs : Nat) : Int) := Int.natAbs_dvd_natAbs.mp (by rw [Int.natAbs_natCast]; exact Nat.dvd_lcm_right ..)
    refine ⟨h1, Int.dvd_trans d1 h2, fun y hy => ?_⟩
    rcases List.mem_cons.mp hy with q | q
    · rw [q]; exact Int.dvd_trans d2 h2
    · exact h3 y q
theorem lcmL_loop {f : Int → Fr → W (Fl Int Int (List Int × Int))} (hf : ∀ s x, f s x = grd (lcmOk s x.2) (ret (.nx ((Nat.lcm s.natAbs x.2.natAbs : Nat) : Int)))) : ∀ (l : List Fr) (s : Int), 0 < s → (∀ x ∈ l, 1 ≤ x.2) → l.foldl (fun s x => ((Nat.lcm s.natAbs x.2.natAbs : Nat) : Int)) s < 2 ^ 13000 → forW (δ := Empty) f s l = ret (.nx (l.foldl (fun s x => ((Nat.lcm s.natAbs x.2.natAbs : Nat) : Int)) s))
  | [], s, hs, _, _ => rfl
  | x :: r, s, hs, h, hb => by
    have hx := h x (List.mem_cons_self ..)
    have hp : 0 < ((Nat.lcm s.natAbs x.2.natAbs : Nat) : Int) := by
      have := Nat.lcm_pos (m := s.natAbs) (n := x.2.natAbs) (by omega) (by omega)
      omega
    obtain ⟨h1, h2, h3⟩ := lcmL_go (x :: r) s hs h
    have l1 := Int.le_of_dvd h1 h2
    have l2 := Int.le_of_dvd h1 (h3 x (List.mem_cons_self ..))
    have e : ((2 : Int) ^ 13000) = ((2 ^ 13000 : Nat) : Int) := by simp
    generalize hB : List.foldl (fun s x => ((Nat.lcm s.natAbs x.2.natAbs : Nat) : Int)) s (x :: r) = B at *
    show bnd (f s x) _ = _
    rw [e] at hb
    rw [hf, grd_ok (lcmOk_of (by omega) (by omega)), bnd_ret]
    refine (lcmL_loop hf r _ hp (fun y hy => h y (List.mem_cons_of_mem _ hy)) (by rw [e]; rw [← hB] at hb; exact hb)).trans ?_
    rw [← hB]
    rfl
def intsL (l : List Fr) : List Int := l.map fun x => x.1 * Int.fdiv (lcmL l) x.2
theorem integers_of_eq {l : List Fr} (h : ∀ x ∈ l, Red x) (hz : ∀ x ∈ l, Sz 4000 x) (hb : lcmL l < 2 ^ 13000) : w_integers_of (l, ()) = ret (intsL l, lcmL l) := by
  have h1 : ∀ x ∈ l, 1 ≤ x.2 := fun x hx => (h x hx).1
  unfold w_integers_of wb_integers_of
  simp only [bnd_ret, bnd_assoc, bnd_grd, grd_true, fnR_bnd, fnR_ite, fnR_grd, fnR_ret, sq_nx, sq_rt]
  rw [lcmL_loop (fun s x => rfl) l 1 (by decide) h1 hb, bnd_ret, sq_nx]
  have hp := (lcmL_go l 1 (by decide) h1).1
  have e : ((2 : Int) ^ 13000) = ((2 ^ 13000 : Nat) : Int) := by simp
  rw [e] at hb
  change lcmL l < _ at hb
  change 0 < lcmL l at hp
  change fnR (bnd (mapW (fun y92 => grd (fdivOk (lcmL l) y92.2) (grd (mulOk y92.1 (Int.fdiv (lcmL l) y92.2)) (ret (y92.1 * Int.fdiv (lcmL l) y92.2)))) l) fun t => ret (Fl.rt (t, lcmL l))) = _
  rw [mapW_eq (g := fun x => x.1 * Int.fdiv (lcmL l) x.2) fun x hx => by
    have q := h1 x hx
    have z := hz x hx
    rw [grd_ok (fdivOk_of (by omega) (Nat.lt_of_lt_of_le z.2 (Nat.pow_le_pow_right (by decide) (by decide)))), grd_ok (mulOk_of (m := 13000) z.1 ?_)]
    rw [Int.fdiv_eq_ediv_of_nonneg _ (by omega)]
    have := Int.natAbs_ediv_le_natAbs (lcmL l) x.2
    omega, bnd_ret]
  rfl
theorem lcmL_dvd {l : List Fr} (h : ∀ x ∈ l, Red x) {x : Fr} (hx : x ∈ l) : x.2 ∣ lcmL l := (lcmL_go l 1 (by decide) fun y hy => (h y hy).1).2.2 x hx
theorem lcmL_pos {l : List Fr} (h : ∀ x ∈ l, Red x) : 0 < lcmL l := (lcmL_go l 1 (by decide) fun y hy => (h y hy).1).1
/-- over a common denominator -/
theorem over {x : Fr} {B : Int} (h : 1 ≤ x.2) (hB : 0 < B) (hd : x.2 ∣ B) : Rat.divInt (x.1 * Int.fdiv B x.2) B = toQ x := by
  obtain ⟨k, rfl⟩ := hd
  have hk : k ≠ 0 := by rintro rfl; simp at hB
  rw [Int.fdiv_eq_ediv_of_nonneg _ (by omega), Int.mul_ediv_cancel_left _ (by omega)]
  exact Rat.divInt_mul_right hk
theorem divInt_add_same {a b d : Int} (hd : d ≠ 0) : Rat.divInt a d + Rat.divInt b d = Rat.divInt (a + b) d := by
  rw [Rat.divInt_add_divInt _ _ hd hd, ← Int.add_mul, Rat.divInt_mul_right hd]
/-- totals -/
def zadd (f : Int) (T r : List Int) : List Int := List.zipWith (fun t m => t + f * m) T r
def totF : List Int → List Int → List (List Int) → List Int
  | T, f :: fs, r :: rs => totF (if f ≠ 0 then zadd f T r else T) fs rs
  | T, _, _ => T
theorem zadd_len {f : Int} {T r : List Int} (h : r.length = T.length) : (zadd f T r).length = T.length := by
  rw [zadd, List.length_zipWith]; omega
theorem add_loop {f : List Int → Int × Int → W (Fl (List Int) (List Int) (List Fr))} {c : Int} (hf : ∀ s y, f s y = grd (ixOk s y.1) (grd (mulOk c y.2) (ret (.nx (s.set ((ixN s.length y.1).getD 0) (ixAt s y.1 + c * y.2)))))) : ∀ (r T P : List Int), r.length = T.length → (∀ m ∈ r, mulOk c m = true) → forW (δ := List Int) f (P ++ T) (enumF P.length r) = ret (.nx (P ++ zadd c T r))
  | [], [], P, _, _ => by simp [zadd]; rfl
  | [], _ :: _, _, h, _ => by simp at h
  | _ :: _, [], _, h, _ => by simp at h
  | m :: r, t :: T, P, h, hm => by
    show bnd (f (P ++ t :: T) ((P.length : Int), m)) _ = _
    have hl : ((P ++ t :: T).length) = P.length + (T.length + 1) := by simp
    have e : ixN (P ++ t :: T).length (P.length : Int) = some P.length := by
      rw [ixN_of (by omega) (by omega)]; simp
    rw [hf, grd_ok (show ixOk (P ++ t :: T) (P.length : Int) = true by unfold ixOk; rw [e]; rfl), grd_ok (hm m (List.mem_cons_self ..)), bnd_ret]
    have e1 : ixAt (P ++ t :: T) (P.length : Int) = t := by
      unfold ixAt; rw [e]; simp
    have e2 : (P ++ t :: T).set ((ixN (P ++ t :: T).length (P.length : Int)).getD 0) (ixAt (P ++ t :: T) (P.length : Int) + c * m) = (P ++ [t + c * m]) ++ T := by
      rw [e1, e]; simp
    have ih := add_loop hf r T (P ++ [t + c * m]) (by simpa using h) fun x hx => hm x (List.mem_cons_of_mem _ hx)
    have e3 : ((P ++ [t + c * m]).length : Int) = (P.length : Int) + 1 := by simp
    rw [e3] at ih
    show forW f ((P ++ t :: T).set ((ixN (P ++ t :: T).length (P.length : Int)).getD 0) (ixAt (P ++ t :: T) (P.length : Int) + c * m)) (enumF ((P.length : Int) + 1) r) = _
    rw [e2, ih]
    simp [zadd]
end Dc
namespace Dc
open PySem PySem.Spec L2
theorem flat_slice {α : Type} {size : Nat} : ∀ (rows : List (List α)) (i : Nat) (h : i < rows.length), (∀ r ∈ rows, r.length = size) → (rows.flatten.drop (i * size)).take size = rows[i]
  | [], _, h, _ => by simp at h
  | r :: rs, 0, _, hr => by
    have := hr r (List.mem_cons_self ..)
    rw [Nat.zero_mul, List.drop_zero, List.flatten_cons, List.take_append_of_le_length (by omega), List.take_of_length_le (by omega), List.getElem_cons_zero]
  | r :: rs, i + 1, h, hr => by
    have hl := hr r (List.mem_cons_self ..)
    have e : (i + 1) * size = r.length + i * size := by rw [hl, Nat.add_mul]; omega
    rw [List.flatten_cons, e, List.drop_append, List.drop_eq_nil_of_le (by omega), List.nil_append, Nat.add_sub_cancel_left, flat_slice rs i (by simpa using h) fun x hx => hr x (List.mem_cons_of_mem _ hx), List.getElem_cons_succ]
theorem flat_len {α : Type} {size : Nat} : ∀ (rows : List (List α)), (∀ r ∈ rows, r.length = size) → rows.flatten.length = rows.length * size
  | [], _ => by simp
  | r :: rs, h => by
    rw [List.flatten_cons, List.length_append, flat_len rs fun x hx => h x (List.mem_cons_of_mem _ hx), h r (List.mem_cons_self ..), List.length_cons, Nat.add_mul]; omega
/-- a line over a common denominator -/
def over_ (F : Int) (l : List Fr) : List Int := l.map fun x => x.1 * Int.fdiv F x.2
theorem numbers_of_eq {l : List Int} {b : Int} (h : b ≠ 0) (hb : b.natAbs < 2 ^ 9000) : w_numbers_of (l, b, ()) = ret (l.map fun t => ofQ (Rat.divInt t b)) := by
  unfold w_numbers_of wb_numbers_of
  simp only [bnd_ret, bnd_assoc, fnR_bnd, fnR_ret]
  rw [mapW_eq (g := fun t => ofQ (Rat.divInt t b)) fun z _ => lowest_eq h hb, bnd_ret]
theorem natpow_cast (n : Nat) : ((2 : Int) ^ n) = ((2 ^ n : Nat) : Int) := by simp
theorem pow_mono {a n m : Nat} (h : a < 2 ^ n) (hnm : n ≤ m) : a < 2 ^ m := Nat.lt_of_lt_of_le h (Nat.pow_le_pow_right (by decide) hnm)
theorem sz_low {a b : Int} {n : Nat} (h : b ≠ 0) (ha : a.natAbs < 2 ^ n) (hb : b.natAbs < 2 ^ n) : Sz n (ofQ (Rat.divInt a b)) := by
  have := low_le (a := a) h
  exact ⟨by omega, by omega⟩
def toF (D t : Int) : Fr := ofQ (Rat.divInt t D)
end Dc
namespace Dc
open PySem PySem.Spec L2
theorem rng_loop {σ α β γ δ : Type} {R : σ → γ} {f : γ → Int → W (Fl γ γ β)} {g : σ → α → σ} {I : Nat → σ → Prop} : ∀ (xs : List α) (k : Nat) (s : σ), I k s →
    (∀ (i : Nat) (h : i < xs.length) (s : σ), I (k + i) s → f (R s) ((k + i : Nat) : Int) = ret (.nx (R (g s xs[i]))) ∧ I (k + i + 1) (g s xs[i])) →
    forW (δ := δ) f (R s) (rangeF (k : Int) xs.length) = ret (.nx (R (xs.foldl g s))) ∧ I (k + xs.length) (xs.foldl g s)
  | [], k, s, h0, _ => ⟨rfl, h0⟩
  | x :: r, k, s, h0, h => by
    obtain ⟨e, i⟩ := h 0 (by simp) s h0
    rw [show k + 0 = k by omega] at e
    have ih := rng_loop (δ := δ) (R := R) (f := f) (g := g) (I := I) r (k + 1) (g s x) i fun i hi s hs => by
      have := h (i + 1) (by simp; omega) s (by rw [show k + (i + 1) = k + 1 + i by omega]; exact hs)
      rw [show k + (i + 1) = k + 1 + i by omega] at this
      simpa using this
    rw [show k + (x :: r).length = k + 1 + r.length by simp; omega]
    refine ⟨?_, ih.2⟩
    show bnd (f (R s) (k : Int)) _ = _
    rw [e, bnd_ret]
    have e2 : ((k : Int) + 1) = ((k + 1 : Nat) : Int) := by simp
    show forW f (R (g s x)) (rangeF ((k : Int) + 1) r.length) = _
    rw [e2]
    exact ih.1
theorem ix_nat {α : Type} [Inhabited α] {l : List α} {i : Nat} (h : i < l.length) : ixOk l (i : Int) = true ∧ ixAt l (i : Int) = l[i] := by
  have e : ixN l.length (i : Int) = some i := by rw [ixN_of (by omega) (by omega)]; simp
  refine ⟨by unfold ixOk; rw [e]; rfl, ?_⟩
  unfold ixAt
  rw [e, Option.getD_some, List.getD_eq_getElem?_getD, List.getElem?_eq_getElem h]
  rfl
/-- totals, step by step -/
def stp (c : Int) (T r : List Int) : List Int := if c ≠ 0 then zadd c T r else T
def inn (a : Int) (b : List Int) (T : List Int) (P : List (List Int)) : List Int := (b.zip P).foldl (fun T z => stp (a * z.1) T z.2) T
def tot (a b : List Int) (P : List (List (List Int))) (T : List Int) : List Int := (a.zip P).foldl (fun T z => inn z.1 b T z.2) T
theorem stp_len {c : Int} {T r : List Int} (h : r.length = T.length) : (stp c T r).length = T.length := by
  unfold stp
  split
  · exact zadd_len h
  · rfl
/-- n lists of n lists of n -/
structure Cub {α : Type} (n : Nat) (P : List (List (List α))) : Prop where
  len : P.length = n
  row : ∀ r ∈ P, r.length = n
  lin : ∀ r ∈ P, ∀ l ∈ r, l.length = n
theorem rngOk_n {n : Nat} (h : n ≤ 1000000) : rngOk 0 (n : Int) = true := by simp [rngOk]; omega
theorem flat_at {α : Type} {n : Nat} : ∀ (P : List (List α)) (i j : Nat) (hi : i < P.length) (hj : j < P[i].length), (∀ r ∈ P, r.length = n) → ∃ h : i * n + j < P.flatten.length, P.flatten[i * n + j] = P[i][j]
  | [], _, _, hi, _, _ => by simp at hi
  | r :: t, 0, j, hi, hj, hr => by
    have hj' : j < r.length := hj
    refine ⟨by rw [List.flatten_cons, List.length_append]; omega, ?_⟩
    simp only [Nat.zero_mul, Nat.zero_add, List.flatten_cons]
    rw [List.getElem_append_left hj']
    rfl
  | r :: t, i + 1, j, hi, hj, hr => by
    have hl := hr r (List.mem_cons_self ..)
    obtain ⟨h, e⟩ := flat_at t i j (by simpa using hi) (by simpa using hj) fun q hq => hr q (List.mem_cons_of_mem _ hq)
    have e2 : (i + 1) * n + j = r.length + (i * n + j) := by rw [hl, Nat.add_mul]; omega
    refine ⟨by rw [List.flatten_cons, List.length_append]; omega, ?_⟩
    simp only [e2, List.flatten_cons]
    rw [List.getElem_append_right (by omega)]
    simp only [Nat.add_sub_cancel_left]
    exact e
theorem pwc_loop {n : Nat} {a b : List Int} {P : List (List (List Int))} (hn : n ≤ 1000) (ha : a.length = n) (hb : b.length = n) (hP : Cub n P) (ba : ∀ u ∈ a, u.natAbs < 2 ^ 4000) (bb : ∀ u ∈ b, u.natAbs < 2 ^ 4000) (bP : ∀ r ∈ P, ∀ l ∈ r, ∀ c ∈ l, c.natAbs < 2 ^ 8000) {f : List Int → Int → W (Fl (List Int) (List Int) (List Fr))}
    (hf : ∀ s y, f s y = grd (rngOk 0 (n : Int)) (bnd (forW (fun s2 y2 => grd (ixOk a y) (grd (ixOk b y2) (grd (mulOk (ixAt a y) (ixAt b y2)) (bnd (ite (!decide (ixAt a y * ixAt b y2 = 0)) (grd (mulOk y (n : Int)) (grd (ixOk P.flatten (y * (n : Int) + y2)) (bnd (forW (fun s3 y3 => grd (ixOk s3 y3.1) (grd (mulOk (ixAt a y * ixAt b y2) y3.2) (ret (Fl.nx (s3.set ((ixN s3.length y3.1).getD 0) (ixAt s3 y3.1 + ixAt a y * ixAt b y2 * y3.2)))))) s2 (enumF 0 (ixAt P.flatten (y * (n : Int) + y2)))) (sq fun s => ret (Fl.nx s))))) (ret (Fl.nx s2))) (sq fun s => ret (Fl.nx s)))))) s (rangeF 0 (n : Int).toNat)) (sq fun s => ret (Fl.nx s)))) :
    forW (δ := Empty) f (List.replicate n 0) (rangeF 0 (n : Int).toNat) = ret (.nx (tot a b P (List.replicate n 0))) ∧ (tot a b P (List.replicate n 0)).length = n := by
  have lz : (a.zip P).length = n := by rw [List.length_zip, ha, hP.len]; omega
  have key := rng_loop (δ := Empty) (R := fun T => T) (f := f) (g := fun T (z : Int × List (List Int)) => inn z.1 b T z.2) (I := fun _ T => T.length = n) (a.zip P) 0 (List.replicate n 0) (List.length_replicate ..) fun i hi T hT => ?_
  · rw [lz] at key
    exact key
  · rw [Nat.zero_add]
    rw [lz] at hi
    have hia : i < a.length := by omega
    have hiP : i < P.length := by rw [hP.len]; exact hi
    have lb : (b.zip P[i]).length = n := by rw [List.length_zip, hb, hP.row _ (List.getElem_mem hiP)]; omega
    rw [List.getElem_zip, hf, grd_ok (rngOk_n (by omega))]
    have k2 := rng_loop (δ := List Int) (R := fun T => T) (g := fun T (z : Int × List Int) => stp (a[i] * z.1) T z.2) (I := fun _ T => T.length = n) (f := fun s2 y2 => grd (ixOk a (i : Int)) (grd (ixOk b y2) (grd (mulOk (ixAt a (i : Int)) (ixAt b y2)) (bnd (ite (!decide (ixAt a (i : Int) * ixAt b y2 = 0)) (grd (mulOk (i : Int) (n : Int)) (grd (ixOk P.flatten ((i : Int) * (n : Int) + y2)) (bnd (forW (fun s3 y3 => grd (ixOk s3 y3.1) (grd (mulOk (ixAt a (i : Int) * ixAt b y2) y3.2) (ret (Fl.nx (s3.set ((ixN s3.length y3.1).getD 0) (ixAt s3 y3.1 + ixAt a (i : Int) * ixAt b y2 * y3.2)))))) s2 (enumF 0 (ixAt P.flatten ((i : Int) * (n : Int) + y2)))) (sq fun s => ret (Fl.nx s))))) (ret (Fl.nx s2))) (sq fun s => ret (Fl.nx s)))))) (β := List Fr)
      (b.zip P[i]) 0 T hT fun j hj T2 hT2 => ?_
    · rw [lb] at k2
      refine ⟨?_, k2.2⟩
      have e := k2.1
      refine (congrArg (fun z => bnd z _) e).trans ?_
      rfl
    · rw [Nat.zero_add]
      rw [lb] at hj
      have hjb : j < b.length := by omega
      have hjP : j < P[i].length := by rw [hP.row _ (List.getElem_mem hiP)]; exact hj
      have hl := hP.lin _ (List.getElem_mem hiP) _ (List.getElem_mem hjP)
      obtain ⟨hf1, hf2⟩ := flat_at (n := n) P i j hiP hjP hP.row
      have ea := ix_nat hia
      have eb := ix_nat hjb
      have ep := ix_nat hf1
      have en : ((i : Int) * (n : Int) + (j : Int)) = ((i * n + j : Nat) : Int) := by simp
      rw [List.getElem_zip]
      refine ⟨?_, ?_⟩
      · rw [grd_ok ea.1, grd_ok eb.1, ea.2, eb.2, grd_ok (mulOk_of (ba _ (List.getElem_mem hia)) (bb _ (List.getElem_mem hjb))), en, ep.2, hf2]
        by_cases q : a[i] * b[j] = 0
        · rw [ite_no (by simp [q]), bnd_ret, sq_nx]
          show _ = ret (Fl.nx (stp (a[i] * b[j]) T2 P[i][j]))
          rw [stp, if_neg (by simp [q])]
        · rw [ite_ok (by simp [q]), grd_ok (mulOk_of (n := 64) (m := 64) (by omega) (by omega)), grd_ok ep.1]
          have al := add_loop (f := fun s3 y3 => grd (ixOk s3 y3.1) (grd (mulOk (a[i] * b[j]) y3.2) (ret (Fl.nx (s3.set ((ixN s3.length y3.1).getD 0) (ixAt s3 y3.1 + a[i] * b[j] * y3.2)))))) (c := a[i] * b[j]) (fun _ _ => rfl) P[i][j] T2 [] (by rw [hl, hT2]) fun m hm =>
            mulOk_of (n := 8000) (m := 8000) (by rw [Int.natAbs_mul]; exact mul_lt_pow (n := 4000) (m := 4000) (ba _ (List.getElem_mem hia)) (bb _ (List.getElem_mem hjb))) (bP _ (List.getElem_mem hiP) _ (List.getElem_mem hjP) m hm)
          refine (congrArg (fun z => bnd (bnd z _) _) al).trans ?_
          show ret (Fl.nx (zadd (a[i] * b[j]) T2 P[i][j])) = ret (Fl.nx (stp (a[i] * b[j]) T2 P[i][j]))
          rw [stp, if_pos q]
      · show (stp (a[i] * b[j]) T2 P[i][j]).length = n
        rw [stp_len (by rw [hl, hT2]), hT2]
end Dc
/-! D1: determinants of whole rows (vectors by places), by the first place. -/
namespace Dc
abbrev Vec := Nat → Int
def Lx : List Vec → Nat → (List Vec → Int) → Int
  | [], _, _ => 0
  | r :: rs, p, F => r p * F rs - Lx rs p (fun t => F (r :: t))
def det : List Nat → List Vec → Int
  | [], _ => 1
  | p :: ps, rs => Lx rs p (det ps)
theorem Lx_lin {a b : Int} {p : Nat} : ∀ {rs : List Vec} {F G : List Vec → Int}, Lx rs p (fun t => a * F t + b * G t) = a * Lx rs p F + b * Lx rs p G
  | [], F, G => by show (0 : Int) = a * 0 + b * 0; simp
  | r :: rs, F, G => by
    show r p * (a * F rs + b * G rs) - Lx rs p (fun t => a * F (r :: t) + b * G (r :: t)) = a * (r p * F rs - Lx rs p fun t => F (r :: t)) + b * (r p * G rs - Lx rs p fun t => G (r :: t))
    rw [Lx_lin (rs := rs) (F := fun t => F (r :: t)) (G := fun t => G (r :: t))]
    grind
theorem Lx_mul {a : Int} {p : Nat} {rs : List Vec} {F : List Vec → Int} : Lx rs p (fun t => a * F t) = a * Lx rs p F := by
  have := Lx_lin (a := a) (b := 0) (p := p) (rs := rs) (F := F) (G := F)
  simp only [Int.zero_mul, Int.add_zero] at this
  exact this
theorem Lx_swap {p q : Nat} : ∀ {rs : List Vec} {G : List Vec → Int}, Lx rs p (fun t => Lx t q G) = - Lx rs q (fun t => Lx t p G)
  | [], G => by show (0 : Int) = -0; rfl
  | r :: rs, G => by
    show r p * Lx rs q G - Lx rs p (fun t => r q * G t - Lx t q (fun u => G (r :: u))) = -(r q * Lx rs p G - Lx rs q (fun t => r p * G t - Lx t p (fun u => G (r :: u))))
    have e1 := Lx_lin (a := r q) (b := -1) (p := p) (rs := rs) (F := G) (G := fun t => Lx t q (fun u => G (r :: u)))
    have e2 := Lx_lin (a := r p) (b := -1) (p := q) (rs := rs) (F := G) (G := fun t => Lx t p (fun u => G (r :: u)))
    have e3 := Lx_swap (p := p) (q := q) (rs := rs) (G := fun u => G (r :: u))
    have f1 : (fun t => r q * G t - Lx t q (fun u => G (r :: u))) = fun t => r q * G t + -1 * Lx t q (fun u => G (r :: u)) := by funext t; omega
    have f2 : (fun t => r p * G t - Lx t p (fun u => G (r :: u))) = fun t => r p * G t + -1 * Lx t p (fun u => G (r :: u)) := by funext t; omega
    rw [f1, f2, e1, e2, e3]
    grind
theorem det_swap {p q : Nat} {ps : List Nat} {rs : List Vec} : det (p :: q :: ps) rs = - det (q :: p :: ps) rs := Lx_swap
theorem Lx_zero {p : Nat} : ∀ {rs : List Vec} {F : List Vec → Int}, (∀ t, F t = 0) → Lx rs p F = 0
  | [], _, _ => rfl
  | r :: rs, F, h => by
    show r p * F rs - Lx rs p (fun t => F (r :: t)) = 0
    rw [h, Lx_zero fun t => h _]
    simp
theorem det_two {p : Nat} : ∀ {ps : List Nat} {rs : List Vec}, p ∈ ps → det (p :: ps) rs = 0
  | q :: ps, rs, h => by
    rw [det_swap]
    by_cases e : p = q
    · subst e
      have : det (p :: p :: ps) rs = - det (p :: p :: ps) rs := det_swap
      omega
    · have h2 : p ∈ ps := (List.mem_cons.mp h).resolve_left e
      have : det (q :: p :: ps) rs = 0 := Lx_zero fun t => det_two h2
      omega
theorem det_move {p : Nat} : ∀ (xs ys : List Nat), ∃ s : Int, (s = 1 ∨ s = -1) ∧ ∀ rs : List Vec, det (xs ++ p :: ys) rs = s * det (p :: (xs ++ ys)) rs
  | [], ys => ⟨1, .inl rfl, fun rs => by rw [Int.one_mul]; rfl⟩
  | x :: xs, ys => by
    obtain ⟨s, hs, h⟩ := det_move (p := p) xs ys
    refine ⟨-s, by omega, fun rs => ?_⟩
    show Lx rs x (det (xs ++ p :: ys)) = _
    rw [show det (xs ++ p :: ys) = fun t => s * det (p :: (xs ++ ys)) t from funext h, Lx_mul]
    show s * det (x :: p :: (xs ++ ys)) rs = _
    rw [det_swap]
    show _ = -s * det (p :: x :: (xs ++ ys)) rs
    rw [Int.mul_neg, Int.neg_mul]
theorem Lx_bd {p B C : Nat} : ∀ {rs : List Vec} {F : List Vec → Int}, (∀ r ∈ rs, (r p).natAbs ≤ B) → (∀ t : List Vec, t.length ≤ rs.length → (∀ r ∈ t, r ∈ rs) → (F t).natAbs ≤ C) → (Lx rs p F).natAbs ≤ rs.length * (B * C)
  | [], _, _, _ => by show (0 : Int).natAbs ≤ _; simp
  | r :: rs, F, hb, hF => by
    show (r p * F rs - Lx rs p (fun t => F (r :: t))).natAbs ≤ _
    have h1 : (r p * F rs).natAbs ≤ B * C := by
      rw [Int.natAbs_mul]
      exact Nat.mul_le_mul (hb r List.mem_cons_self) (hF rs (by simp) fun x hx => List.mem_cons_of_mem _ hx)
    have h2 := Lx_bd (p := p) (B := B) (C := C) (rs := rs) (F := fun t => F (r :: t)) (fun x hx => hb x (List.mem_cons_of_mem _ hx)) fun t hl ht => hF _ (by simp; omega) fun x hx => by
      rcases List.mem_cons.mp hx with e | e
      · rw [e]; exact List.mem_cons_self
      · exact List.mem_cons_of_mem _ (ht x e)
    have h3 := Int.natAbs_sub_le (r p * F rs) (Lx rs p (fun t => F (r :: t)))
    rw [List.length_cons, Nat.add_mul, Nat.one_mul]
    omega
theorem det_bd {B N : Nat} : ∀ {ps : List Nat} {rs : List Vec}, rs.length ≤ N → (∀ r ∈ rs, ∀ j, (r j).natAbs ≤ B) → (det ps rs).natAbs ≤ (N * B) ^ ps.length
  | [], _, _, _ => by show (1 : Int).natAbs ≤ _; simp
  | p :: ps, rs, hl, hb => by
    have h := Lx_bd (p := p) (B := B) (C := (N * B) ^ ps.length) (rs := rs) (F := det ps) (fun r hr => hb r hr p) fun t ht hm => det_bd (by omega) fun r hr => hb r (hm r hr)
    refine Nat.le_trans h ?_
    rw [List.length_cons, Nat.pow_succ', Nat.mul_assoc]
    exact Nat.mul_le_mul_right _ hl
/-! ### combinations -/
def Cb : List Vec → Vec → Prop
  | [], v => ∀ j, v j = 0
  | r :: rs, v => ∃ (c : Int) (u : Vec), Cb rs u ∧ ∀ j, v j = c * r j + u j
theorem Cb.ext : ∀ {rs : List Vec} {u v : Vec}, Cb rs u → (∀ j, u j = v j) → Cb rs v
  | [], _, _, h, e => fun j => by rw [← e]; exact h j
  | _ :: _, _, _, ⟨c, u, h, q⟩, e => ⟨c, u, h, fun j => by rw [← e]; exact q j⟩
theorem Cb.zero : ∀ {rs : List Vec}, Cb rs (fun _ => 0)
  | [] => fun _ => rfl
  | r :: rs => ⟨0, fun _ => 0, Cb.zero, fun j => by simp⟩
theorem Cb.lin {a b : Int} : ∀ {rs : List Vec} {u v : Vec}, Cb rs u → Cb rs v → Cb rs (fun j => a * u j + b * v j)
  | [], u, v, h, k => fun j => by show a * u j + b * v j = 0; rw [h j, k j]; simp
  | r :: rs, u, v, ⟨c, x, h, q⟩, ⟨d, y, k, z⟩ => ⟨a * c + b * d, fun j => a * x j + b * y j, h.lin k, fun j => by
    show a * u j + b * v j = _
    rw [q j, z j]
    grind⟩
theorem Cb.mul {a : Int} {rs : List Vec} {u : Vec} (h : Cb rs u) : Cb rs (fun j => a * u j) := (h.lin (a := a) (b := 0) h).ext fun j => by simp
theorem Cb.up {r : Vec} {rs : List Vec} {u : Vec} (h : Cb rs u) : Cb (r :: rs) u := ⟨0, u, h, fun j => by simp⟩
theorem Cb.mem : ∀ {rs : List Vec} {r : Vec}, r ∈ rs → Cb rs r
  | a :: rs, r, h => by
    rcases List.mem_cons.mp h with e | e
    · subst e
      exact ⟨1, fun _ => 0, Cb.zero, fun j => by simp⟩
    · exact (Cb.mem e).up
theorem Cb.trans : ∀ {rs ss : List Vec} {u : Vec}, (∀ r ∈ rs, Cb ss r) → Cb rs u → Cb ss u
  | [], ss, u, _, h => Cb.zero.ext fun j => (h j).symm
  | r :: rs, ss, u, hs, ⟨c, x, h, q⟩ => ((hs r List.mem_cons_self).lin (a := c) (b := 1) (Cb.trans (fun y hy => hs y (List.mem_cons_of_mem _ hy)) h)).ext fun j => by rw [q j]; simp
theorem Lx_cb : ∀ {rs : List Vec} {F : List Vec → Int}, Cb rs (fun j => Lx rs j F)
  | [], _ => fun _ => rfl
  | r :: rs, F => ⟨F rs, fun j => -1 * Lx rs j (fun t => F (r :: t)), (Lx_cb (rs := rs) (F := fun t => F (r :: t))).mul, fun j => by
    show r j * F rs - Lx rs j (fun t => F (r :: t)) = _
    grind⟩
/-- the vector that is 0 at the places P -/
def Nv (P : List Nat) (A : List Vec) (x : Vec) : Vec := fun j => det (j :: P) (x :: A)
theorem Nv_cb {P : List Nat} {A : List Vec} {x : Vec} : ∃ u, Cb A u ∧ ∀ j, Nv P A x j = det P A * x j + u j := ⟨fun j => -1 * Lx A j (fun t => det P (x :: t)), Lx_cb.mul, fun j => by
  show x j * det P A - Lx A j (fun t => det P (x :: t)) = _
  grind⟩
theorem Nv_zero {P : List Nat} {A : List Vec} {x : Vec} {p : Nat} (h : p ∈ P) : Nv P A x p = 0 := det_two h
/-- no combination but noughts is 0 at all of P -/
def NS (A : List Vec) (P : List Nat) : Prop := ∀ u, Cb A u → (∀ p ∈ P, u p = 0) → ∀ j, u j = 0
theorem NS.nil : NS [] [] := fun _ h _ => h
theorem ns_par {A : List Vec} {P : List Nat} (h : NS A P) {x v u : Vec} {e s : Int} (hu : Cb A u) (he : ∀ j, e * v j = s * x j + u j) (h0 : ∀ p ∈ P, v p = 0) (j : Nat) : e * det P A * v j = s * Nv P A x j := by
  obtain ⟨w, hw, ew⟩ := Nv_cb (P := P) (A := A) (x := x)
  have z := h (fun j => det P A * u j + (-s) * w j) (hu.lin hw) (fun p hp => by
    have e1 := he p
    have e2 := ew p
    rw [h0 p hp, Int.mul_zero] at e1
    rw [Nv_zero hp] at e2
    grind) j
  have e1 := he j
  have e2 := ew j
  grind
theorem NS.step {A : List Vec} {P : List Nat} (h : NS A P) (d : det P A ≠ 0) {x : Vec} {q : Nat} (hq : Nv P A x q ≠ 0) : NS (x :: A) (q :: P) := fun v ⟨c, u, hu, e⟩ h0 j => by
  have k := ns_par h (x := x) (v := v) (e := 1) (s := c) hu (fun j => by rw [Int.one_mul]; exact e j) fun p hp => h0 p (List.mem_cons_of_mem _ hp)
  have kq := k q
  rw [h0 q List.mem_cons_self, Int.mul_zero] at kq
  have c0 : c = 0 := by
    rcases Int.mul_eq_zero.mp kq.symm with z | z
    · exact z
    · exact absurd z hq
  have kj := k j
  rw [c0, Int.zero_mul, Int.one_mul] at kj
  rcases Int.mul_eq_zero.mp kj with z | z
  · exact absurd z d
  · exact z
/-- one vector for each place -/
theorem cof {A : List Vec} {P : List Nat} {p : Nat} {B N : Nat} (hp : p ∈ P) (hn : P.Nodup) (hl : A.length ≤ N) (hb : ∀ r ∈ A, ∀ j, (r j).natAbs ≤ B) : ∃ M : Vec, Cb A M ∧ M p = det P A ∧ (∀ q ∈ P, q ≠ p → M q = 0) ∧ ∀ j, (M j).natAbs ≤ (N * B) ^ P.length := by
  obtain ⟨xs, ys, rfl⟩ := List.append_of_mem hp
  obtain ⟨s, hs, h⟩ := det_move (p := p) xs ys
  refine ⟨fun j => s * det (j :: (xs ++ ys)) A, Lx_cb.mul, (h A).symm, fun q hq hne => ?_, fun j => ?_⟩
  · have : q ∈ xs ++ ys := by
      rcases List.mem_append.mp hq with z | z
      · exact List.mem_append_left _ z
      · rcases List.mem_cons.mp z with z | z
        · exact absurd z hne
        · exact List.mem_append_right _ z
    show s * _ = 0
    rw [det_two this, Int.mul_zero]
  · have b := det_bd (B := B) (N := N) (ps := j :: (xs ++ ys)) (rs := A) hl hb
    have e : (j :: (xs ++ ys)).length = (xs ++ p :: ys).length := by simp; omega
    rw [e] at b
    show (s * det (j :: (xs ++ ys)) A).natAbs ≤ _
    rw [Int.natAbs_mul]
    have : s.natAbs = 1 := by omega
    rw [this, Nat.one_mul]
    exact b
/-! ### spans, up to multiples -/
def Sp (rs : List Vec) (v : Vec) : Prop := ∃ e : Int, e ≠ 0 ∧ Cb rs (fun j => e * v j)
theorem Cb.sp {rs : List Vec} {v : Vec} (h : Cb rs v) : Sp rs v := ⟨1, by decide, h.ext fun j => by simp⟩
theorem Sp.lin {a b : Int} {rs : List Vec} {u v : Vec} (h : Sp rs u) (k : Sp rs v) : Sp rs (fun j => a * u j + b * v j) := by
  obtain ⟨e, e0, h⟩ := h
  obtain ⟨f, f0, k⟩ := k
  refine ⟨e * f, Int.mul_ne_zero e0 f0, (h.lin (a := f * a) (b := e * b) k).ext fun j => ?_⟩
  grind
theorem Sp.of_mul {c : Int} {rs : List Vec} {u v : Vec} (h : Sp rs u) (hc : c ≠ 0) (e : ∀ j, c * v j = u j) : Sp rs v := by
  obtain ⟨f, f0, h⟩ := h
  exact ⟨f * c, Int.mul_ne_zero f0 hc, h.ext fun j => by rw [Int.mul_assoc, e]⟩
theorem Sp.ext {rs : List Vec} {u v : Vec} (h : Sp rs u) (e : ∀ j, u j = v j) : Sp rs v := h.of_mul (c := 1) (by decide) fun j => by rw [Int.one_mul, e]
theorem Sp.mul {a : Int} {rs : List Vec} {u : Vec} (h : Sp rs u) : Sp rs (fun j => a * u j) := (h.lin (a := a) (b := 0) h).ext fun j => by simp
theorem Sp.zero {rs : List Vec} : Sp rs (fun _ => 0) := Cb.zero.sp
theorem cb_sp : ∀ {rs ss : List Vec} {u : Vec}, (∀ r ∈ rs, Sp ss r) → Cb rs u → Sp ss u
  | [], ss, u, _, h => Sp.zero.ext fun j => (h j).symm
  | r :: rs, ss, u, hs, ⟨c, x, h, q⟩ => ((hs r List.mem_cons_self).lin (a := c) (b := 1) (cb_sp (fun y hy => hs y (List.mem_cons_of_mem _ hy)) h)).ext fun j => by rw [q j]; simp
theorem Sp.trans {rs ss : List Vec} {u : Vec} (hs : ∀ r ∈ rs, Sp ss r) (h : Sp rs u) : Sp ss u := by
  obtain ⟨e, e0, h⟩ := h
  exact (cb_sp hs h).of_mul e0 fun j => rfl
/-! ### the only form -/
structure RF (n X : Nat) (rows : List Vec) (P : List Nat) (D : Int) (M : Nat → Vec) : Prop where
  srt : P.Pairwise (· < ·)
  lt : ∀ p ∈ P, p < n
  d0 : D ≠ 0
  db : D.natAbs ≤ X
  sp : ∀ p ∈ P, Sp rows (M p)
  bd : ∀ p ∈ P, ∀ j, (M p j).natAbs ≤ X
  one : ∀ p ∈ P, M p p = D
  off : ∀ p ∈ P, ∀ q ∈ P, q ≠ p → M p q = 0
  low : ∀ p ∈ P, ∀ j, j < p → M p j = 0
  full : ∀ u, Sp rows u → (∀ p ∈ P, u p = 0) → ∀ j, u j = 0
theorem red_by {P : List Nat} {D : Int} {M : Nat → Vec} (d0 : D ≠ 0) (one : ∀ p ∈ P, M p p = D) (off : ∀ p ∈ P, ∀ q ∈ P, q ≠ p → M p q = 0) {rows : List Vec} (sp : ∀ p ∈ P, Sp rows (M p)) {x : Vec} (hx : Sp rows x) :
    ∀ (Q : List Nat), (∀ q ∈ Q, q ∈ P) → Q.Nodup → ∃ (c : Int) (y : Vec), c ≠ 0 ∧ Sp rows y ∧ (∀ q ∈ Q, y q = 0) ∧ (∀ q ∈ P, q ∉ Q → y q = c * x q) ∧ ∀ j, (∀ q ∈ Q, x q = 0 ∨ M q j = 0) → y j = c * x j
  | [], _, _ => ⟨1, x, by decide, hx, by simp, fun q _ _ => by rw [Int.one_mul], fun j _ => by rw [Int.one_mul]⟩
  | q :: Q, hq, hn => by
    obtain ⟨hn1, hn2⟩ := List.nodup_cons.mp hn
    obtain ⟨c, y, c0, hy, h1, h2, h3⟩ := red_by d0 one off sp hx Q (fun z hz => hq z (List.mem_cons_of_mem _ hz)) hn2
    have qP := hq q List.mem_cons_self
    have yq := h2 q qP hn1
    refine ⟨D * c, fun j => D * y j + (-(y q)) * M q j, Int.mul_ne_zero d0 c0, hy.lin (sp q qP), fun z hz => ?_, fun z hz hnz => ?_, fun j hj => ?_⟩
    · show D * y z + (-(y q)) * M q z = 0
      rcases List.mem_cons.mp hz with e | e
      · rw [e, one q qP]; grind
      · rw [h1 z e, off q qP z (hq z hz) (fun w => hn1 (w ▸ e))]; grind
    · have h4 : z ≠ q := fun w => hnz (by rw [w]; exact List.mem_cons_self)
      show D * y z + (-(y q)) * M q z = D * c * x z
      rw [h2 z hz (fun w => hnz (List.mem_cons_of_mem _ w)), off q qP z hz h4]; grind
    · show D * y j + (-(y q)) * M q j = D * c * x j
      rw [h3 j fun z hz => hj z (List.mem_cons_of_mem _ hz), yq]
      rcases hj q List.mem_cons_self with e | e
      · rw [e]; grind
      · rw [e]; grind
theorem rf_sub {n X X' : Nat} {rows rows' : List Vec} {P P' : List Nat} {D D' : Int} {M M' : Nat → Vec} (h : RF n X rows P D M) (h' : RF n X' rows' P' D' M') (s1 : ∀ r ∈ rows, Sp rows' r) {p : Nat} (hp : p ∈ P) : p ∈ P' := by
  refine Decidable.byContradiction fun hn => ?_
  have hx : Sp rows' (M p) := (h.sp p hp).trans s1
  obtain ⟨c, y, c0, hy, h1, _, h3⟩ := red_by h'.d0 h'.one h'.off h'.sp hx P' (fun _ z => z) (h'.srt.imp fun h => Nat.ne_of_lt h)
  have y0 := h'.full y hy h1 p
  rw [h3 p fun q hq => ?_, h.one p hp] at y0
  · rcases Int.mul_eq_zero.mp y0 with z | z
    · exact c0 z
    · exact h.d0 z
  · rcases Nat.lt_or_ge q p with z | z
    · exact .inl (h.low p hp q z)
    · exact .inr (h'.low q hq p (by
        have : q ≠ p := fun w => hn (w ▸ hq)
        omega))
theorem srt_eq : ∀ {l m : List Nat}, l.Pairwise (· < ·) → m.Pairwise (· < ·) → (∀ x, x ∈ l ↔ x ∈ m) → l = m
  | [], [], _, _, _ => rfl
  | [], b :: m, _, _, h => by have := (h b).mpr List.mem_cons_self; cases this
  | a :: l, [], _, _, h => by have := (h a).mp List.mem_cons_self; cases this
  | a :: l, b :: m, h1, h2, h => by
    obtain ⟨a1, a2⟩ := List.pairwise_cons.mp h1
    obtain ⟨b1, b2⟩ := List.pairwise_cons.mp h2
    have e : a = b := by
      rcases List.mem_cons.mp ((h a).mp List.mem_cons_self) with z | z
      · exact z
      · rcases List.mem_cons.mp ((h b).mpr List.mem_cons_self) with y | y
        · exact y.symm
        · have := a1 b y; have := b1 a z; omega
    subst e
    rw [srt_eq a2 b2 fun x => ⟨fun hx => ?_, fun hx => ?_⟩]
    · rcases List.mem_cons.mp ((h x).mp (List.mem_cons_of_mem _ hx)) with z | z
      · have := a1 x hx; omega
      · exact z
    · rcases List.mem_cons.mp ((h x).mpr (List.mem_cons_of_mem _ hx)) with z | z
      · have := b1 x hx; omega
      · exact z
theorem rf_eq {n X X' : Nat} {rows rows' : List Vec} {P P' : List Nat} {D D' : Int} {M M' : Nat → Vec} (h : RF n X rows P D M) (h' : RF n X' rows' P' D' M') (s1 : ∀ r ∈ rows, Sp rows' r) (s2 : ∀ r ∈ rows', Sp rows r) : P = P' ∧ ∀ p ∈ P, ∀ j, D' * M p j = D * M' p j := by
  have e : P = P' := srt_eq h.srt h'.srt fun x => ⟨rf_sub h h' s1, rf_sub h' h s2⟩
  subst e
  refine ⟨rfl, fun p hp j => ?_⟩
  have z := h.full (fun j => D' * M p j + (-D) * M' p j) ((h.sp p hp).lin ((h'.sp p hp).trans s2)) (fun q hq => ?_) j
  · have z : D' * M p j + (-D) * M' p j = 0 := z
    grind
  · show D' * M p q + (-D) * M' p q = 0
    by_cases e : q = p
    · rw [e, h.one p hp, h'.one p hp]; grind
    · rw [h.off p hp q hq e, h'.off p hp q hq e]; grind
end Dc
namespace Dc
open PySem PySem.Spec L2
/-! ### divided -/
def gcdL (s : Int) (xs : List Int) : Int := xs.foldl (fun s y => ((Nat.gcd s.natAbs y.natAbs : Nat) : Int)) s
theorem gcdL_dvd : ∀ (xs : List Int) (s : Int), gcdL s xs ∣ s ∧ ∀ x ∈ xs, gcdL s xs ∣ x
  | [], s => ⟨Int.dvd_refl _, fun _ h => by cases h⟩
  | y :: r, s => by
    obtain ⟨h1, h2⟩ := gcdL_dvd r ((Nat.gcd s.natAbs y.natAbs : Nat) : Int)
    have g1 : ((Nat.gcd s.natAbs y.natAbs : Nat) : Int) ∣ s := Int.natAbs_dvd_natAbs.mp (by rw [Int.natAbs_natCast]; exact Nat.gcd_dvd_left ..)
    have g2 : ((Nat.gcd s.natAbs y.natAbs : Nat) : Int) ∣ y := Int.natAbs_dvd_natAbs.mp (by rw [Int.natAbs_natCast]; exact Nat.gcd_dvd_right ..)
    refine ⟨Int.dvd_trans h1 g1, fun x hx => ?_⟩
    rcases List.mem_cons.mp hx with e | e
    · rw [e]; exact Int.dvd_trans h1 g2
    · exact h2 x e
theorem gcdL_max : ∀ (xs : List Int) (s b : Int), b ∣ s → (∀ x ∈ xs, b ∣ x) → b ∣ gcdL s xs
  | [], s, b, h, _ => h
  | y :: r, s, b, h, hx => gcdL_max r ((Nat.gcd s.natAbs y.natAbs : Nat) : Int) b (Int.natAbs_dvd_natAbs.mp (by rw [Int.natAbs_natCast]; exact Nat.dvd_gcd (Int.natAbs_dvd_natAbs.mpr h) (Int.natAbs_dvd_natAbs.mpr (hx y List.mem_cons_self)))) fun x hx' => hx x (List.mem_cons_of_mem _ hx')
/-- nothing divides all of it -/
def Prim (v : Vec) : Prop := ∀ b : Int, (∀ j, b ∣ v j) → b.natAbs = 1 ∨ ∀ j, v j = 0
theorem prim_le {v w : Vec} {a b : Int} (hp : Prim v) (ha : a ≠ 0) (e : ∀ j, a * v j = b * w j) (j : Nat) : (v j).natAbs ≤ (w j).natAbs := by
  have e2 : ∀ j, a.natAbs * (v j).natAbs = b.natAbs * (w j).natAbs := fun j => by rw [← Int.natAbs_mul, ← Int.natAbs_mul, e j]
  have gp : 0 < Nat.gcd a.natAbs b.natAbs := Nat.gcd_pos_of_pos_left _ (by omega)
  obtain ⟨x, hx⟩ := Nat.gcd_dvd_left a.natAbs b.natAbs
  obtain ⟨y, hy⟩ := Nat.gcd_dvd_right a.natAbs b.natAbs
  have cop : Nat.Coprime x y := by
    have := Nat.gcd_mul_left (Nat.gcd a.natAbs b.natAbs) x y
    rw [← hx, ← hy] at this
    exact Nat.eq_of_mul_eq_mul_left gp (by rw [Nat.mul_one]; exact this.symm)
  generalize Nat.gcd a.natAbs b.natAbs = g at *
  have e3 : ∀ j, x * (v j).natAbs = y * (w j).natAbs := fun j => by
    have := e2 j
    rw [hx, hy, Nat.mul_assoc, Nat.mul_assoc] at this
    exact Nat.eq_of_mul_eq_mul_left gp this
  have dv : ∀ j, (y : Int) ∣ v j := fun j => Int.natAbs_dvd_natAbs.mp (by
    rw [Int.natAbs_natCast]
    exact Nat.Coprime.dvd_of_dvd_mul_left cop.symm ⟨(w j).natAbs, e3 j⟩)
  rcases hp y dv with z | z
  · rw [Int.natAbs_natCast] at z
    have := e3 j
    rw [z, Nat.one_mul] at this
    rw [← this]
    refine Nat.le_mul_of_pos_left _ (Nat.pos_of_ne_zero fun h => ?_)
    rw [h, Nat.mul_zero] at hx
    omega
  · rw [z j]; simp
abbrev at0 (xs : List Int) (i : Nat) : Int := xs.getD i 0
theorem at0_get {xs : List Int} {i : Nat} (h : i < xs.length) : at0 xs i = xs[i] := by
  unfold at0
  rw [List.getD_eq_getElem?_getD, List.getElem?_eq_getElem h]
  rfl
theorem at0_out {xs : List Int} {i : Nat} (h : xs.length ≤ i) : at0 xs i = 0 := by
  unfold at0
  rw [List.getD_eq_getElem?_getD, List.getElem?_eq_none h]
  rfl
theorem at0_mem {xs : List Int} {i : Nat} : at0 xs i ∈ xs ∨ at0 xs i = 0 := by
  by_cases h : i < xs.length
  · rw [at0_get h]; exact .inl (List.getElem_mem h)
  · exact .inr (at0_out (by omega))
theorem at0_dvd {xs : List Int} {b : Int} (h : ∀ j, b ∣ at0 xs j) : ∀ x ∈ xs, b ∣ x := fun x hx => by
  obtain ⟨i, hi, rfl⟩ := List.getElem_of_mem hx
  rw [← at0_get hi]
  exact h i
theorem div_loop {x0 : List Int} {f : Int → Int → W (Fl Int Int (List Int))} (hf : ∀ s y, f s y = bnd (ite (decide (((Nat.gcd s.natAbs y.natAbs : Nat) : Int) = 1)) (ret (Fl.rt x0)) (ret (Fl.nx ()))) (sq fun (_ : Unit) => ret (Fl.nx ((Nat.gcd s.natAbs y.natAbs : Nat) : Int)))) : ∀ (xs : List Int) (s : Int), (forW (δ := Empty) f s xs = ret (.rt x0) ∧ ∀ b : Int, b ∣ s → (∀ x ∈ xs, b ∣ x) → b.natAbs = 1) ∨ forW (δ := Empty) f s xs = ret (.nx (gcdL s xs))
  | [], s => .inr rfl
  | y :: r, s => by
    by_cases q : ((Nat.gcd s.natAbs y.natAbs : Nat) : Int) = 1
    · refine .inl ⟨?_, fun b h hx => ?_⟩
      · show bnd (f s y) _ = _
        rw [hf, ite_ok (decide_eq_true q)]
        rfl
      · have := Nat.dvd_gcd (Int.natAbs_dvd_natAbs.mpr h) (Int.natAbs_dvd_natAbs.mpr (hx y List.mem_cons_self))
        rw [show Nat.gcd s.natAbs y.natAbs = 1 by omega] at this
        exact Nat.dvd_one.mp this
    · have e : forW (δ := Empty) f s (y :: r) = forW (δ := Empty) f ((Nat.gcd s.natAbs y.natAbs : Nat) : Int) r := by
        show bnd (f s y) _ = _
        rw [hf, ite_no (decide_eq_false q)]
        rfl
      rw [e]
      rcases div_loop hf r ((Nat.gcd s.natAbs y.natAbs : Nat) : Int) with ⟨z, k⟩ | z
      · refine .inl ⟨z, fun b h hx => k b (Int.natAbs_dvd_natAbs.mp (by rw [Int.natAbs_natCast]; exact Nat.dvd_gcd (Int.natAbs_dvd_natAbs.mpr h) (Int.natAbs_dvd_natAbs.mpr (hx y List.mem_cons_self)))) fun x hx' => hx x (List.mem_cons_of_mem _ hx')⟩
      · exact .inr z
theorem divided_eq {xs : List Int} (hb : ∀ x ∈ xs, x.natAbs < 2 ^ 8000) : ∃ ys, w_divided (xs, ()) = ret ys ∧ Prim (at0 ys) ∧ ∃ g : Int, 0 < g ∧ xs = ys.map (g * ·) := by
  have one : xs = xs.map ((1 : Int) * ·) := by
    conv => lhs; rw [← List.map_id xs]
    exact List.map_congr_left fun x _ => (Int.one_mul x).symm
  unfold w_divided wb_divided
  simp only [bnd_ret, bnd_assoc, bnd_grd, grd_true, fnR_bnd, fnR_grd, fnR_ret]
  rcases div_loop (x0 := xs) (f := fun s y => bnd (ite (decide (((Nat.gcd s.natAbs y.natAbs : Nat) : Int) = 1)) (ret (Fl.rt xs)) (ret (Fl.nx ()))) (sq fun (_ : Unit) => ret (Fl.nx ((Nat.gcd s.natAbs y.natAbs : Nat) : Int)))) (fun _ _ => rfl) xs 0 with ⟨e, k⟩ | e
  · refine ⟨xs, ?_, fun b hb => .inl (k b (Int.dvd_zero b) (at0_dvd hb)), 1, by decide, one⟩
    exact (congrArg (fun z => bnd z _) e).trans rfl
  · obtain ⟨_, d⟩ := gcdL_dvd xs 0
    by_cases q : 0 < gcdL 0 xs
    · have ge : xs = (xs.map fun x => Int.fdiv x (gcdL 0 xs)).map (gcdL 0 xs * ·) := by
        rw [List.map_map]
        conv => lhs; rw [← List.map_id xs]
        refine List.map_congr_left fun x hx => ?_
        show x = gcdL 0 xs * Int.fdiv x (gcdL 0 xs)
        rw [Int.fdiv_eq_ediv_of_nonneg _ (by omega), Int.mul_ediv_cancel' (d x hx)]
      refine ⟨xs.map fun x => Int.fdiv x (gcdL 0 xs), ?_, fun b hb => .inl ?_, gcdL 0 xs, q, ge⟩
      · refine (congrArg (fun z => bnd z _) e).trans ?_
        simp only [bnd_ret, sq_nx, fnR_bnd]
        rw [ite_ok (decide_eq_true q), mapW_eq (g := fun x => Int.fdiv x (gcdL 0 xs)) fun x hx => ?_]
        · rfl
        · by_cases hz : ∃ y ∈ xs, y ≠ 0
          · obtain ⟨y, hy, h0⟩ := hz
            have le := Nat.le_of_dvd (by omega) (Int.natAbs_dvd_natAbs.mpr (d y hy))
            rw [grd_ok (fdivOk_of (by omega) (Nat.lt_of_le_of_lt le (pow_mono (hb y hy) (by decide))))]
          · exfalso
            have z : gcdL 0 xs = 0 := by
              have : ∀ (l : List Int), (∀ y ∈ l, y = 0) → gcdL 0 l = 0 := fun l hl => by
                induction l with
                | nil => rfl
                | cons a r ih =>
                  have e0 := hl a List.mem_cons_self
                  subst e0
                  exact ih fun y hy => hl y (List.mem_cons_of_mem _ hy)
              exact this xs fun y hy => Decidable.byContradiction fun h => hz ⟨y, hy, h⟩
            omega
      · have h2 := gcdL_max xs 0 (gcdL 0 xs * b) (Int.dvd_zero _) fun x hx => by
          have h3 := at0_dvd hb _ (List.mem_map.mpr ⟨x, hx, rfl⟩)
          obtain ⟨c, hc⟩ := h3
          refine ⟨c, ?_⟩
          rw [Int.mul_assoc, ← hc, Int.fdiv_eq_ediv_of_nonneg _ (by omega), Int.mul_ediv_cancel' (d x hx)]
        have h3 := Int.natAbs_dvd_natAbs.mpr h2
        rw [Int.natAbs_mul] at h3
        have h4 := Nat.le_of_dvd (by omega) h3
        have h5 : b.natAbs ≠ 0 := fun z => by
          rw [z, Nat.mul_zero, Nat.zero_dvd] at h3
          omega
        have h6 : (gcdL 0 xs).natAbs * b.natAbs ≤ (gcdL 0 xs).natAbs * 1 := by omega
        have := Nat.le_of_mul_le_mul_left h6 (by omega)
        omega
    · have all0 : ∀ j, at0 xs j = 0 := fun j => by
        rcases at0_mem (xs := xs) (i := j) with z | z
        · have h1 := d _ z
          have h2 : gcdL 0 xs = 0 := by
            have nn : ∀ (l : List Int) (s : Int), 0 ≤ s → 0 ≤ gcdL s l := fun l => by
              induction l with
              | nil => exact fun s h => h
              | cons a r ih => exact fun s _ => ih _ (Int.natCast_nonneg _)
            have := nn xs 0 (by decide)
            omega
          rw [h2] at h1
          exact Int.zero_dvd.mp h1
        · exact z
      refine ⟨xs, ?_, fun b _ => .inr all0, 1, by decide, one⟩
      refine (congrArg (fun z => bnd z _) e).trans ?_
      simp only [bnd_ret, sq_nx, fnR_bnd]
      rw [ite_no (decide_eq_false q)]
      rfl
/-! ### cleared -/
structure Clr (line head ys : List Int) (p : Nat) (A B : Nat) : Prop where
  len : ys.length = line.length
  pr : Prim (at0 ys)
  eq : ∃ g sc sh : Int, 0 < g ∧ sc ≠ 0 ∧ ∀ i, g * at0 ys i = sc * at0 line i - sh * at0 head i
  zero : at0 ys p = 0
  bd : ∀ i, (at0 ys i).natAbs ≤ 2 * (A * B)
theorem cleared_eq {line head : List Int} {p A B : Nat} (hl : head.length = line.length) (hp : p < line.length) (h0 : at0 head p ≠ 0) (ha : ∀ i, (at0 line i).natAbs ≤ A) (hb : ∀ i, (at0 head i).natAbs ≤ B) (hA : A ≤ 2 ^ 3900) (hB : B ≤ 2 ^ 3900) : ∃ ys, w_cleared (line, head, (p : Int), ()) = ret ys ∧ Clr line head ys p A B := by
  have hp2 : p < head.length := by rw [hl]; exact hp
  have e1 := ix_nat hp
  have e2 := ix_nat hp2
  have v1 : ixAt line (p : Int) = at0 line p := by rw [e1.2, at0_get hp]
  have v2 : ixAt head (p : Int) = at0 head p := by rw [e2.2, at0_get hp2]
  generalize hx : at0 line p = x at v1
  generalize hy : at0 head p = y at v2 h0
  have bx : x.natAbs ≤ A := by rw [← hx]; exact ha p
  have byy : y.natAbs ≤ B := by rw [← hy]; exact hb p
  have cp : 0 < Nat.gcd x.natAbs y.natAbs := Nat.gcd_pos_of_pos_right _ (by omega)
  generalize hc : Nat.gcd x.natAbs y.natAbs = c at cp
  have dx : (c : Int) ∣ x := Int.natAbs_dvd_natAbs.mp (by rw [Int.natAbs_natCast, ← hc]; exact Nat.gcd_dvd_left ..)
  have dy : (c : Int) ∣ y := Int.natAbs_dvd_natAbs.mp (by rw [Int.natAbs_natCast, ← hc]; exact Nat.gcd_dvd_right ..)
  obtain ⟨u, hu⟩ := dx
  obtain ⟨v, hv⟩ := dy
  have fu : Int.fdiv x (c : Int) = u := by rw [Int.fdiv_eq_ediv_of_nonneg _ (by omega), hu, Int.mul_ediv_cancel_left _ (by omega)]
  have fv : Int.fdiv y (c : Int) = v := by rw [Int.fdiv_eq_ediv_of_nonneg _ (by omega), hv, Int.mul_ediv_cancel_left _ (by omega)]
  have v0 : v ≠ 0 := fun z => h0 (by rw [hv, z, Int.mul_zero])
  have bu : u.natAbs ≤ A := by
    have : u.natAbs ≤ x.natAbs := by rw [hu, Int.natAbs_mul, Int.natAbs_natCast]; exact Nat.le_mul_of_pos_left _ cp
    omega
  have bv : v.natAbs ≤ B := by
    have : v.natAbs ≤ y.natAbs := by rw [hv, Int.natAbs_mul, Int.natAbs_natCast]; exact Nat.le_mul_of_pos_left _ cp
    omega
  have cb : c ≤ 2 ^ 3900 := by
    have : c ≤ y.natAbs := by rw [← hc]; exact Nat.gcd_le_right _ (by omega)
    omega
  have p39 : (2 : Nat) ^ 3900 < 2 ^ 3901 := Nat.pow_lt_pow_right (by decide) (by decide)
  have fo : ∀ z : Int, fdivOk z (c : Int) = true := fun z => fdivOk_of (by omega) (by rw [Int.natAbs_natCast]; exact pow_mono (Nat.lt_of_le_of_lt cb p39) (by decide))
  have bd1 : ∀ i, (v * at0 line i - u * at0 head i).natAbs ≤ 2 * (A * B) := fun i => by
    have h1 : (v * at0 line i).natAbs ≤ A * B := by rw [Int.natAbs_mul, Nat.mul_comm]; exact Nat.mul_le_mul (ha i) bv
    have h2 : (u * at0 head i).natAbs ≤ A * B := by rw [Int.natAbs_mul]; exact Nat.mul_le_mul bu (hb i)
    have := Int.natAbs_sub_le (v * at0 line i) (u * at0 head i)
    omega
  have ab : 2 * (A * B) < 2 ^ 8000 := by
    have h1 : A * B ≤ 2 ^ 3900 * 2 ^ 3900 := Nat.mul_le_mul hA hB
    rw [← Nat.pow_add] at h1
    have h2 : 2 * 2 ^ (3900 + 3900) < 2 ^ 8000 := by
      rw [← Nat.pow_succ']
      exact Nat.pow_lt_pow_right (by decide) (by decide)
    omega
  have zl : (line.zip head).length = line.length := by rw [List.length_zip]; omega
  have gz : ∀ i, at0 ((line.zip head).map fun z => v * z.1 - u * z.2) i = v * at0 line i - u * at0 head i := fun i => by
    by_cases hi : i < line.length
    · rw [at0_get (by rw [List.length_map, zl]; exact hi), List.getElem_map, List.getElem_zip, at0_get hi, at0_get (by omega)]
    · rw [at0_out (by rw [List.length_map, zl]; omega), at0_out (by omega), at0_out (by omega), Int.mul_zero, Int.mul_zero]
      rfl
  obtain ⟨ys, w, pr, g, gp, ge⟩ := divided_eq (xs := (line.zip head).map fun z => v * z.1 - u * z.2) fun q hq => by
    obtain ⟨i, hi, rfl⟩ := List.getElem_of_mem hq
    rw [← at0_get hi, gz]
    exact Nat.lt_of_le_of_lt (bd1 i) ab
  have ly : ys.length = line.length := by
    have := congrArg List.length ge
    rw [List.length_map, List.length_map, zl] at this
    exact this.symm
  have ey : ∀ i, g * at0 ys i = v * at0 line i - u * at0 head i := fun i => by
    rw [← gz, ge]
    by_cases hi : i < ys.length
    · rw [at0_get hi, at0_get (by rw [List.length_map]; exact hi), List.getElem_map]
    · rw [at0_out (by omega), at0_out (by rw [List.length_map]; omega), Int.mul_zero]
  refine ⟨ys, ?_, ly, pr, ⟨g, v, u, gp, v0, ey⟩, ?_, fun i => ?_⟩
  · unfold w_cleared wb_cleared
    simp only [bnd_ret, bnd_assoc, bnd_grd, grd_true, fnR_bnd, fnR_grd, fnR_ret, e1.1, e2.1, v1, v2, hc, fo, fu, fv]
    rw [mapW_eq (g := fun z => v * z.1 - u * z.2) fun z hz => ?_, bnd_ret, w, bnd_ret]
    have b1 : z.1.natAbs ≤ A := by
      obtain ⟨i, hi, e⟩ := List.getElem_of_mem (List.of_mem_zip (show (z.1, z.2) ∈ line.zip head from hz)).1
      rw [← e, ← at0_get hi]
      exact ha i
    have b2 : z.2.natAbs ≤ B := by
      obtain ⟨i, hi, e⟩ := List.getElem_of_mem (List.of_mem_zip (show (z.1, z.2) ∈ line.zip head from hz)).2
      rw [← e, ← at0_get hi]
      exact hb i
    rw [grd_ok (mulOk_of (n := 3901) (m := 3901) (by omega) (by omega)), grd_ok (mulOk_of (n := 3901) (m := 3901) (by omega) (by omega))]
  · have e := ey p
    rw [hx, hy, hu, hv] at e
    have z : g * at0 ys p = 0 := by
      rw [e, show v * ((c : Int) * u) = u * ((c : Int) * v) by rw [Int.mul_left_comm, Int.mul_left_comm u, Int.mul_comm v u]]
      omega
    rcases Int.mul_eq_zero.mp z with q | q
    · omega
    · exact q
  · have e := bd1 i
    rw [← ey, Int.natAbs_mul] at e
    exact Nat.le_trans (Nat.le_mul_of_pos_left _ (by omega)) e
end Dc
/-! D3: heads by their places; the plain law of clearing. -/
namespace Dc
def Al (k : Nat → Bool) (o : Nat → Vec) : Nat → List Vec
  | 0 => []
  | t + 1 => if k t then o t :: Al k o t else Al k o t
def Pl (k : Nat → Bool) : Nat → List Nat
  | 0 => []
  | t + 1 => if k t then t :: Pl k t else Pl k t
theorem mem_Al {k : Nat → Bool} {o : Nat → Vec} : ∀ {t : Nat} {r : Vec}, r ∈ Al k o t ↔ ∃ q, q < t ∧ k q = true ∧ r = o q
  | 0, r => ⟨(fun h => by cases h), (fun ⟨q, h, _⟩ => absurd h (Nat.not_lt_zero q))⟩
  | t + 1, r => by
    unfold Al
    cases e : k t with
    | true =>
      simp only [if_true, List.mem_cons, mem_Al (t := t)]
      constructor
      · rintro (h | ⟨q, h1, h2, h3⟩)
        · exact ⟨t, by omega, e, h⟩
        · exact ⟨q, by omega, h2, h3⟩
      · rintro ⟨q, h1, h2, h3⟩
        by_cases z : q = t
        · left; rw [h3, z]
        · right; exact ⟨q, by omega, h2, h3⟩
    | false =>
      simp only [Bool.false_eq_true, if_false, mem_Al (t := t)]
      constructor
      · rintro ⟨q, h1, h2, h3⟩
        exact ⟨q, by omega, h2, h3⟩
      · rintro ⟨q, h1, h2, h3⟩
        refine ⟨q, ?_, h2, h3⟩
        have : q ≠ t := fun z => by rw [z, e] at h2; cases h2
        omega
theorem mem_Pl {k : Nat → Bool} : ∀ {t q : Nat}, q ∈ Pl k t ↔ q < t ∧ k q = true
  | 0, r => ⟨(fun h => by cases h), (fun h => absurd h.1 (Nat.not_lt_zero r))⟩
  | t + 1, q => by
    unfold Pl
    cases e : k t with
    | true =>
      simp only [if_true, List.mem_cons, mem_Pl (t := t)]
      constructor
      · rintro (h | ⟨h1, h2⟩)
        · rw [h]; exact ⟨by omega, e⟩
        · exact ⟨by omega, h2⟩
      · rintro ⟨h1, h2⟩
        by_cases z : q = t
        · left; exact z
        · right; exact ⟨by omega, h2⟩
    | false =>
      simp only [Bool.false_eq_true, if_false, mem_Pl (t := t)]
      constructor
      · rintro ⟨h1, h2⟩
        exact ⟨by omega, h2⟩
      · rintro ⟨h1, h2⟩
        have : q ≠ t := fun z => by rw [z, e] at h2; cases h2
        exact ⟨by omega, h2⟩
theorem Al_len {k : Nat → Bool} {o : Nat → Vec} : ∀ {t : Nat}, (Al k o t).length = (Pl k t).length
  | 0 => rfl
  | t + 1 => by
    unfold Al Pl
    cases k t with
    | true => simp only [if_true, List.length_cons]; rw [Al_len]
    | false => simp only [Bool.false_eq_true, if_false]; exact Al_len
theorem Pl_len {k : Nat → Bool} : ∀ {t : Nat}, (Pl k t).length ≤ t
  | 0 => Nat.le_refl _
  | t + 1 => by
    have := Pl_len (k := k) (t := t)
    unfold Pl
    cases k t with
    | true => simp only [if_true, List.length_cons]; omega
    | false => simp only [Bool.false_eq_true, if_false]; omega
theorem Pl_srt {k : Nat → Bool} : ∀ {t : Nat}, (Pl k t).Pairwise (· > ·)
  | 0 => .nil
  | t + 1 => by
    unfold Pl
    cases k t with
    | true =>
      simp only [if_true]
      exact List.pairwise_cons.mpr ⟨fun q hq => (mem_Pl.mp hq).1, Pl_srt⟩
    | false => simp only [Bool.false_eq_true, if_false]; exact Pl_srt
theorem Pl_nodup {k : Nat → Bool} {t : Nat} : (Pl k t).Nodup := Pl_srt.imp fun h => by
  have : _ > _ := h
  omega
theorem Al_mono {k k' : Nat → Bool} {o o' : Nat → Vec} {t t' : Nat} (ht : t ≤ t') (h : ∀ q, q < t → k q = true → k' q = true ∧ o' q = o q) {u : Vec} (hu : Cb (Al k o t) u) : Cb (Al k' o' t') u :=
  hu.trans fun r hr => by
    obtain ⟨q, h1, h2, h3⟩ := mem_Al.mp hr
    obtain ⟨h4, h5⟩ := h q h1 h2
    exact Cb.mem (mem_Al.mpr ⟨q, by omega, h4, by rw [h5, h3]⟩)
/-- heads: at their places, out of the rows -/
structure Ech (n : Nat) (rows : List Vec) (k : Nat → Bool) (o h : Nat → Vec) : Prop where
  lt : ∀ p, k p = true → p < n
  org : ∀ p, k p = true → o p ∈ rows
  low : ∀ p, k p = true → ∀ j, j < p → h p j = 0
  nz : ∀ p, k p = true → h p p ≠ 0
  rel : ∀ p, k p = true → ∃ (e s : Int) (u : Vec), e ≠ 0 ∧ s ≠ 0 ∧ Cb (Al k o p) u ∧ ∀ j, e * h p j = s * o p j + u j
  pr : ∀ p, k p = true → Prim (h p)
theorem ech_ns {n : Nat} {rows : List Vec} {k : Nat → Bool} {o h : Nat → Vec} (E : Ech n rows k o h) : ∀ t, NS (Al k o t) (Pl k t) ∧ det (Pl k t) (Al k o t) ≠ 0
  | 0 => ⟨NS.nil, by show (1 : Int) ≠ 0; decide⟩
  | t + 1 => by
    obtain ⟨h1, h2⟩ := ech_ns E t
    unfold Al Pl
    cases e : k t with
    | false => simp only [Bool.false_eq_true, if_false]; exact ⟨h1, h2⟩
    | true =>
      simp only [if_true]
      obtain ⟨a, s, u, a0, s0, hu, he⟩ := E.rel t e
      have q := ns_par h1 hu he (fun p hp => E.low t e p (mem_Pl.mp hp).1) t
      have nz : Nv (Pl k t) (Al k o t) (o t) t ≠ 0 := fun z => by
        rw [z, Int.mul_zero] at q
        rcases Int.mul_eq_zero.mp q with y | y
        · rcases Int.mul_eq_zero.mp y with x | x
          · exact a0 x
          · exact h2 x
        · exact E.nz t e y
      exact ⟨NS.step h1 h2 nz, nz⟩
theorem ech_bd {n B X t : Nat} {rows : List Vec} {k : Nat → Bool} {o h : Nat → Vec} (E : Ech n rows k o h) (hB : ∀ r ∈ rows, ∀ j, (r j).natAbs ≤ B) (hX : ∀ i, i ≤ n → (n * B) ^ i ≤ X) (ht : t < n) {v x u : Vec} {e s : Int} (e0 : e ≠ 0) (hx : x ∈ rows) (hu : Cb (Al k o t) u) (he : ∀ j, e * v j = s * x j + u j) (h0 : ∀ q, q < t → k q = true → v q = 0) (hp : Prim v) (j : Nat) : (v j).natAbs ≤ X := by
  obtain ⟨h1, h2⟩ := ech_ns E t
  have q := ns_par h1 hu he fun p hp => h0 p (mem_Pl.mp hp).1 (mem_Pl.mp hp).2
  have b := prim_le hp (Int.mul_ne_zero e0 h2) q j
  have l := Pl_len (k := k) (t := t)
  have d := det_bd (B := B) (N := n) (ps := j :: Pl k t) (rs := x :: Al k o t) (by rw [List.length_cons, Al_len]; omega) fun r hr => by
    rcases List.mem_cons.mp hr with y | y
    · rw [y]; exact hB x hx
    · obtain ⟨p, _, y2, y3⟩ := mem_Al.mp y
      rw [y3]; exact hB _ (E.org p y2)
  exact Nat.le_trans b (Nat.le_trans d (hX _ (by rw [List.length_cons]; omega)))
theorem ech_hbd {n B X : Nat} {rows : List Vec} {k : Nat → Bool} {o h : Nat → Vec} (E : Ech n rows k o h) (hB : ∀ r ∈ rows, ∀ j, (r j).natAbs ≤ B) (hX : ∀ i, i ≤ n → (n * B) ^ i ≤ X) {p : Nat} (hp : k p = true) (j : Nat) : (h p j).natAbs ≤ X := by
  obtain ⟨a, s, u, a0, s0, hu, he⟩ := E.rel p hp
  exact ech_bd E hB hX (E.lt p hp) a0 (E.org p hp) hu he (fun q hq _ => E.low p hp q hq) (E.pr p hp) j
/-- a head more -/
theorem ech_put {n t : Nat} {rows rows' : List Vec} {k : Nat → Bool} {o h : Nat → Vec} (E : Ech n rows k o h) (ht : t < n) (kt : k t = false) {x v u : Vec} {e s : Int} (e0 : e ≠ 0) (s0 : s ≠ 0) (hr : ∀ r ∈ rows, r ∈ rows') (hx : x ∈ rows') (hu : Cb (Al k o t) u) (he : ∀ j, e * v j = s * x j + u j) (hl : ∀ j, j < t → v j = 0) (hn : v t ≠ 0) (hp : Prim v)
    {k' : Nat → Bool} {h' : Nat → Vec} (hk : ∀ q, k' q = (decide (q = t) || k q)) (hh : ∀ q, h' q = if q = t then v else h q) : Ech n rows' k' (fun q => if q = t then x else o q) h' := by
  have old : ∀ {q}, k' q = true → q ≠ t → k q = true := fun {q} hq z => by
    rw [hk, decide_eq_false z, Bool.false_or] at hq
    exact hq
  have up : ∀ {p : Nat} {w : Vec}, Cb (Al k o p) w → Cb (Al k' (fun q => if q = t then x else o q) p) w := fun {p w} hw => Al_mono (Nat.le_refl _) (fun q _ z => by
    have : q ≠ t := fun y => by rw [y, kt] at z; cases z
    exact ⟨by rw [hk, z, Bool.or_true], if_neg this⟩) hw
  refine ⟨fun p z => ?_, fun p z => ?_, fun p z j hj => ?_, fun p z => ?_, fun p z => ?_, fun p z => ?_⟩ <;> by_cases y : p = t
  · omega
  · exact E.lt p (old z y)
  · simp only [if_pos y]; exact hx
  · simp only [if_neg y]; exact hr _ (E.org p (old z y))
  · rw [hh, if_pos y]; exact hl j (by omega)
  · rw [hh, if_neg y]; exact E.low p (old z y) j hj
  · rw [hh, if_pos y, y]; exact hn
  · rw [hh, if_neg y]; exact E.nz p (old z y)
  · simp only [hh, if_pos y]; subst y; exact ⟨e, s, u, e0, s0, up hu, he⟩
  · obtain ⟨a, b, w, a0, b0, hw, hq⟩ := E.rel p (old z y)
    simp only [hh, if_neg y]
    exact ⟨a, b, w, a0, b0, up hw, hq⟩
  · rw [hh, if_pos y]; exact hp
  · rw [hh, if_neg y]; exact E.pr p (old z y)
/-! ### the second walk: what the heads become -/
def Wv (D : Int) (h M : Nat → Vec) : List Nat → Nat → Vec
  | [], p => fun j => D * h p j
  | q :: G, p => if p < q then fun j => Wv D h M G p j - h p q * M q j else Wv D h M G p
section
variable {D : Int} {h M : Nat → Vec} {P : List Nat}
theorem Wv_at (one : ∀ p ∈ P, M p p = D) (off : ∀ p ∈ P, ∀ q ∈ P, q ≠ p → M p q = 0) {p : Nat} : ∀ {G : List Nat}, (∀ q ∈ G, q ∈ P) → G.Nodup → ∀ z ∈ P, Wv D h M G p z = if z ∈ G ∧ p < z then 0 else D * h p z
  | [], _, _, z, _ => by simp [Wv]
  | q :: G, hG, hn, z, hz => by
    obtain ⟨n1, n2⟩ := List.nodup_cons.mp hn
    have ih := Wv_at one off (p := p) (G := G) (fun x hx => hG x (List.mem_cons_of_mem _ hx)) n2 z hz
    have qP := hG q List.mem_cons_self
    unfold Wv
    by_cases c : p < q
    · rw [if_pos c]
      show Wv D h M G p z - h p q * M q z = _
      rw [ih]
      by_cases e : z = q
      · subst e
        rw [one z qP, if_neg (fun y => n1 y.1), if_pos ⟨List.mem_cons_self, c⟩]
        grind
      · rw [off q qP z hz e]
        have : (z ∈ q :: G ∧ p < z) ↔ (z ∈ G ∧ p < z) := by simp [e]
        simp only [this]
        grind
    · rw [if_neg c, ih]
      have : (z ∈ q :: G ∧ p < z) ↔ (z ∈ G ∧ p < z) := by
        constructor
        · rintro ⟨a, b⟩
          rcases List.mem_cons.mp a with y | y
          · omega
          · exact ⟨y, b⟩
        · rintro ⟨a, b⟩
          exact ⟨List.mem_cons_of_mem _ a, b⟩
      simp only [this]
theorem Wv_bd {X : Nat} {p : Nat} (hD : D.natAbs ≤ X) (hh : ∀ j, (h p j).natAbs ≤ X) (hM : ∀ q ∈ P, ∀ j, (M q j).natAbs ≤ X) : ∀ {G : List Nat}, (∀ q ∈ G, q ∈ P) → ∀ j, (Wv D h M G p j).natAbs ≤ (G.length + 1) * (X * X)
  | [], _, j => by
    show (D * h p j).natAbs ≤ _
    rw [Int.natAbs_mul]
    have := Nat.mul_le_mul hD (hh j)
    simpa using this
  | q :: G, hG, j => by
    have ih := Wv_bd hD hh hM (G := G) (fun x hx => hG x (List.mem_cons_of_mem _ hx)) j
    have e : (q :: G).length + 1 = (G.length + 1) + 1 := rfl
    rw [e, Nat.add_mul (G.length + 1) 1, Nat.one_mul]
    unfold Wv
    by_cases c : p < q
    · rw [if_pos c]
      show (Wv D h M G p j - h p q * M q j).natAbs ≤ _
      have h1 := Int.natAbs_sub_le (Wv D h M G p j) (h p q * M q j)
      have h2 : (h p q * M q j).natAbs ≤ X * X := by
        rw [Int.natAbs_mul]
        exact Nat.mul_le_mul (hh q) (hM q (hG q List.mem_cons_self) j)
      omega
    · rw [if_neg c]; omega
theorem Wv_sp {rows : List Vec} {p : Nat} (hp : Sp rows (h p)) (hM : ∀ q ∈ P, Sp rows (M q)) : ∀ {G : List Nat}, (∀ q ∈ G, q ∈ P) → Sp rows (Wv D h M G p)
  | [], _ => hp.mul
  | q :: G, hG => by
    have ih := Wv_sp hp hM (G := G) fun x hx => hG x (List.mem_cons_of_mem _ hx)
    unfold Wv
    by_cases c : p < q
    · rw [if_pos c]
      exact (ih.lin (a := 1) (b := -(h p q)) (hM q (hG q List.mem_cons_self))).ext fun j => by grind
    · rw [if_neg c]; exact ih
end
/-- alike but for a factor -/
def Par (v w : Vec) : Prop := ∃ e s : Int, e ≠ 0 ∧ s ≠ 0 ∧ ∀ j, e * v j = s * w j
theorem Par.ext {v w w' : Vec} (h : Par v w) (e : ∀ j, w j = w' j) : Par v w' := by
  obtain ⟨a, b, a0, b0, q⟩ := h
  exact ⟨a, b, a0, b0, fun j => by rw [q, e]⟩
theorem Par.mulr {v w w' : Vec} {c : Int} (h : Par v w) (c0 : c ≠ 0) (e : ∀ j, w j = c * w' j) : Par v w' := by
  obtain ⟨a, b, a0, b0, q⟩ := h
  exact ⟨a, b * c, a0, Int.mul_ne_zero b0 c0, fun j => by rw [q, e, Int.mul_assoc]⟩
theorem Par.le {v w : Vec} (h : Par v w) (hp : Prim v) (j : Nat) : (v j).natAbs ≤ (w j).natAbs := by
  obtain ⟨a, b, a0, b0, q⟩ := h
  exact prim_le hp a0 q j
theorem Par.zero {v w : Vec} (h : Par v w) {j : Nat} : v j = 0 ↔ w j = 0 := by
  obtain ⟨a, b, a0, b0, q⟩ := h
  have := q j
  constructor
  · intro z
    rw [z, Int.mul_zero] at this
    exact (Int.mul_eq_zero.mp this.symm).resolve_left b0
  · intro z
    rw [z, Int.mul_zero] at this
    exact (Int.mul_eq_zero.mp this).resolve_left a0
/-- one clearing -/
theorem par_step {v y v' w m : Vec} {q : Nat} {D c : Int} {g sc sh : Int} (h1 : Par v w) (h2 : Par y m) (mq : m q = D) (wq : w q = D * c) (d0 : D ≠ 0) (g0 : g ≠ 0) (s0 : sc ≠ 0) (e : ∀ j, g * v' j = sc * v j - sh * y j) (z : v' q = 0) : Par v' (fun j => w j - c * m j) := by
  obtain ⟨a, b, a0, b0, p1⟩ := h1
  obtain ⟨a2, b2, a20, b20, p2⟩ := h2
  have yq : y q ≠ 0 := fun x => by
    have := p2 q
    rw [x, mq, Int.mul_zero] at this
    rcases Int.mul_eq_zero.mp this.symm with k | k
    · exact b20 k
    · exact d0 k
  refine ⟨g * a * a2 * y q, sc * b * b2 * D, Int.mul_ne_zero (Int.mul_ne_zero (Int.mul_ne_zero g0 a0) a20) yq, Int.mul_ne_zero (Int.mul_ne_zero (Int.mul_ne_zero s0 b0) b20) d0, fun j => ?_⟩
  have eq := e q
  rw [z, Int.mul_zero] at eq
  have ej := e j
  have k1 := p1 j
  have k2 := p2 j
  have l1 := p1 q
  have l2 := p2 q
  rw [wq] at l1
  rw [mq] at l2
  have t1 : g * a * a2 * y q * v' j = a * a2 * y q * (sc * v j - sh * y j) := by rw [← ej]; grind
  have t2 : a * a2 * y q * (sc * v j - sh * y j) = sc * (a2 * y q) * (a * v j) - a * (sh * y q) * (a2 * y j) := by grind
  have t3 : sh * y q = sc * v q := by omega
  rw [t1, t2, t3, k1, k2, l2]
  have t4 : a * (sc * v q) = sc * (b * (D * c)) := by rw [← l1]; grind
  rw [t4]
  grind
end Dc
/-! D4: the first walk of reduced. -/
namespace Dc
open PySem PySem.Spec L2
/-! ### dicts -/
section
variable {α : Type}
theorem dIn_mem {d : List (Int × α)} {k : Int} : dInK d k = true ↔ k ∈ d.map (·.1) := by
  unfold dInK
  rw [List.any_eq_true]
  constructor
  · rintro ⟨x, h1, h2⟩
    have := of_decide_eq_true h2
    exact List.mem_map.mpr ⟨x, h1, this⟩
  · intro h
    obtain ⟨x, h1, h2⟩ := List.mem_map.mp h
    exact ⟨x, h1, decide_eq_true h2⟩
theorem dkeys_put {d : List (Int × α)} {k : Int} {v : α} : (dPut d k v).map (·.1) = if dInK d k then d.map (·.1) else d.map (·.1) ++ [k] := by
  unfold dPut
  by_cases h : dInK d k = true
  · rw [if_pos h, if_pos h, List.map_map]
    refine List.map_congr_left fun x _ => ?_
    show (if x.1 = k then (x.1, v) else x).1 = x.1
    split <;> rfl
  · rw [if_neg h, if_neg h, List.map_append]
    rfl
theorem dIn_put {d : List (Int × α)} {k j : Int} {v : α} : dInK (dPut d k v) j = (decide (j = k) || dInK d j) := by
  have h : dInK (dPut d k v) j = true ↔ (j = k ∨ dInK d j = true) := by
    rw [dIn_mem, dkeys_put]
    by_cases c : dInK d k = true
    · rw [if_pos c, dIn_mem]
      constructor
      · exact .inr
      · rintro (e | e)
        · rw [e]; exact dIn_mem.mp c
        · exact e
    · rw [if_neg c, List.mem_append, dIn_mem, List.mem_singleton]
      exact Or.comm
  cases e : dInK (dPut d k v) j with
  | true =>
    rcases h.mp e with q | q
    · rw [decide_eq_true q]; rfl
    · rw [q, Bool.or_true]
  | false =>
    have n1 : ¬ j = k := fun z => by rw [h.mpr (.inl z)] at e; cases e
    have n2 : dInK d j = false := by
      cases f : dInK d j with
      | false => rfl
      | true => rw [h.mpr (.inr f)] at e; cases e
    rw [decide_eq_false n1, n2]; rfl
theorem dlen_put {d : List (Int × α)} {k : Int} {v : α} : (dPut d k v).length = if dInK d k then d.length else d.length + 1 := by
  have := congrArg List.length (dkeys_put (d := d) (k := k) (v := v))
  rw [List.length_map] at this
  rw [this]
  split <;> simp
theorem dAt_cons [Inhabited α] {q : Int × α} {d : List (Int × α)} {k : Int} : dAt (q :: d) k = if q.1 = k then q.2 else dAt d k := by
  unfold dAt
  by_cases e : q.1 = k
  · rw [if_pos e, List.find?_cons_of_pos (by simpa using e)]; rfl
  · rw [if_neg e, List.find?_cons_of_neg (by simpa using e)]
theorem dAt_put [Inhabited α] {k j : Int} {v : α} : ∀ {d : List (Int × α)}, dAt (dPut d k v) j = if j = k then v else dAt d j := by
  intro d
  unfold dPut
  by_cases h : dInK d k = true
  · rw [if_pos h]
    induction d with
    | nil => cases h
    | cons q d ih =>
      rw [List.map_cons, dAt_cons, dAt_cons]
      by_cases e : q.1 = k
      · simp only [if_pos e]
        by_cases c : j = k
        · rw [if_pos (by omega), if_pos c]
        · rw [if_neg (by omega), if_neg c, if_neg (by omega)]
          have same : ∀ (l : List (Int × α)), dAt (l.map fun kv => if kv.1 = k then (kv.1, v) else kv) j = dAt l j := fun l => by
            induction l with
            | nil => rfl
            | cons z l ih2 =>
              rw [List.map_cons, dAt_cons, dAt_cons, ih2]
              by_cases f : z.1 = k
              · rw [if_pos f, if_neg (by show ¬ z.1 = j; omega), if_neg (by omega)]
              · rw [if_neg f]
          exact same d
      · simp only [if_neg e]
        have h2 : dInK d k = true := by
          unfold dInK at h ⊢
          rw [List.any_cons, decide_eq_false e, Bool.false_or] at h
          exact h
        rw [ih h2]
        by_cases c : j = k
        · rw [if_pos c, if_neg (by omega), if_pos c]
        · rw [if_neg c, if_neg c]
  · rw [if_neg h]
    induction d with
    | nil =>
      show dAt [(k, v)] j = _
      rw [dAt_cons]
      by_cases c : j = k
      · rw [if_pos c.symm, if_pos c]
      · rw [if_neg (fun z => c z.symm), if_neg c]
    | cons q d ih =>
      unfold dInK at h
      rw [List.any_cons, Bool.or_eq_true, not_or] at h
      have e : ¬ q.1 = k := by simpa using h.1
      rw [List.cons_append, dAt_cons, dAt_cons, ih h.2]
      by_cases c : j = k
      · rw [if_pos c, if_neg (by omega), if_pos c]
      · rw [if_neg c, if_neg c]
end
theorem Tr.rngB {σ β δ : Type} {m : Nat} {f : σ → Int → W (Fl σ σ β)} {R : Nat → σ → Prop} {Q : σ → Prop} : ∀ (n k : Nat) (s : σ), R k s → (∀ i, i < n → ∀ s, R (k + i) s → Tr m (f s ((k + i : Nat) : Int)) (fun fl => (∃ s', fl = .nx s' ∧ R (k + i + 1) s') ∨ ∃ s', fl = .bk s' ∧ Q s')) → Tr (n * m) (forW (δ := δ) f s (rangeF (k : Int) n)) (fun fl => ∃ s', fl = .nx s' ∧ (R (k + n) s' ∨ Q s'))
  | 0, k, s, h, _ => Tr.ret ⟨s, rfl, .inl h⟩
  | n + 1, k, s, h, hf => by
    have e : (n + 1) * m = m + n * m := by rw [Nat.add_mul]; omega
    rw [e]
    have h0 := hf 0 (by omega) s h
    rw [show k + 0 = k by omega] at h0
    refine Tr.bnd h0 fun fl hfl => ?_
    rcases hfl with ⟨s', rfl, h'⟩ | ⟨s', rfl, h'⟩
    · have ih := Tr.rngB (δ := δ) (f := f) (R := R) (Q := Q) n (k + 1) s' h' fun i hi s hs => by
        have := hf (i + 1) (by omega) s (by rw [show k + (i + 1) = k + 1 + i by omega]; exact hs)
        rw [show k + (i + 1) = k + 1 + i by omega] at this
        exact this
      rw [show k + 1 + n = k + (n + 1) by omega] at ih
      have e2 : ((k : Int) + 1) = ((k + 1 : Nat) : Int) := by simp
      show Tr (n * m) (forW f s' (rangeF ((k : Int) + 1) n)) _
      rw [e2]
      exact ih
    · exact (Tr.ret ⟨s', rfl, .inr h'⟩ : Tr 0 _ _).up (Nat.zero_le _)
/-- with what was done so far -/
theorem Tr.forP {α γ β δ : Type} {m : Nat} {f : γ → α → W (Fl γ γ β)} {R : List α → γ → Prop} : ∀ (xs pre : List α) (s : γ), R pre s → (∀ (a b : List α) (x : α), pre ++ xs = a ++ x :: b → ∀ s, R a s → Tr m (f s x) (fun fl => ∃ s', fl = .nx s' ∧ R (a ++ [x]) s')) → Tr (xs.length * m) (forW (δ := δ) f s xs) (fun fl => ∃ s', fl = .nx s' ∧ R (pre ++ xs) s')
  | [], pre, s, h, _ => Tr.ret ⟨s, rfl, by rw [List.append_nil]; exact h⟩
  | x :: xs, pre, s, h, hf => by
    have e : (x :: xs).length * m = m + xs.length * m := by rw [List.length_cons, Nat.add_mul]; omega
    rw [e]
    refine Tr.bnd (hf pre xs x rfl s h) fun fl hfl => ?_
    obtain ⟨s', rfl, h'⟩ := hfl
    have ih := Tr.forP (δ := δ) (f := f) (R := R) xs (pre ++ [x]) s' h' fun a b y hy => hf a b y (by rw [← hy]; simp)
    have e3 : pre ++ [x] ++ xs = pre ++ x :: xs := by simp
    rw [e3] at ih
    exact ih
theorem ix0 {l : List Int} {i : Nat} (h : i < l.length) : ixOk l (i : Int) = true ∧ ixAt l (i : Int) = at0 l i := by
  obtain ⟨a, b⟩ := ix_nat h
  exact ⟨a, by rw [b, at0_get h]⟩
/-! ### rows that come in -/
abbrev rowV (r : List Fr) : Vec := at0 (intsL r)
structure Rin (n B : Nat) (r : List Fr) : Prop where
  len : r.length = n
  red : ∀ x ∈ r, Red x
  sz : ∀ x ∈ r, Sz 4000 x
  lcm : lcmL r < 2 ^ 13000
  bd : ∀ j, (rowV r j).natAbs ≤ B
theorem ints_len {r : List Fr} : (intsL r).length = r.length := by rw [intsL, List.length_map]
abbrev Dic := List (Int × List Int)
def kd (d : Dic) (p : Nat) : Bool := dInK d (p : Int)
def hd (d : Dic) (p : Nat) : Vec := at0 (dAt d (p : Int))
structure DIn (n : Nat) (rows done : List Vec) (d : Dic) : Prop where
  keys : ∀ x ∈ d.map (·.1), ∃ p : Nat, x = (p : Int)
  nd : (d.map (·.1)).Nodup
  len : ∀ p : Nat, kd d p = true → (dAt d (p : Int)).length = n
  few : d.length ≤ done.length
  ech : ∃ o, Ech n rows (kd d) o (hd d) ∧ ∀ r ∈ done, Sp (Al (kd d) o n) r
theorem kd_put {d : Dic} {t : Nat} {v : List Int} (q : Nat) : kd (dPut d (t : Int) v) q = (decide (q = t) || kd d q) := by
  unfold kd
  rw [dIn_put]
  congr 1
  by_cases h : q = t
  · rw [decide_eq_true h, decide_eq_true (by rw [h])]
  · rw [decide_eq_false h, decide_eq_false (by omega)]
theorem hd_put {d : Dic} {t : Nat} {v : List Int} (q : Nat) : hd (dPut d (t : Int) v) q = if q = t then at0 v else hd d q := by
  unfold hd
  rw [dAt_put]
  by_cases h : q = t
  · rw [if_pos h, if_pos (by rw [h])]
  · rw [if_neg h, if_neg (by omega)]
theorem kd_nil {p : Nat} (h : kd [] p = true) : False := by cases h
theorem DIn.nil {n : Nat} {rows : List Vec} : DIn n rows [] [] where
  keys := fun x h => by simp at h
  nd := .nil
  len := fun p h => (kd_nil h).elim
  few := Nat.le_refl _
  ech := ⟨fun _ _ => 0, ⟨fun p h => (kd_nil h).elim, fun p h => (kd_nil h).elim, fun p h => (kd_nil h).elim, fun p h => (kd_nil h).elim, fun p h => (kd_nil h).elim, fun p h => (kd_nil h).elim⟩, fun r h => absurd h (by simp)⟩
/-- a head more in the dict -/
theorem DIn.put {n t : Nat} {rows done : List Vec} {d : Dic} {v : List Int} {x u : Vec} {o : Nat → Vec} {e s : Int} (G : DIn n rows done d) (E : Ech n rows (kd d) o (hd d)) (cov : ∀ r ∈ done, Sp (Al (kd d) o n) r) (ht : t < n) (kt : kd d t = false) (hv : v.length = n) (e0 : e ≠ 0) (s0 : s ≠ 0) (hx : x ∈ rows) (hu : Cb (Al (kd d) o t) u) (he : ∀ j, e * at0 v j = s * x j + u j) (hl : ∀ j, j < t → at0 v j = 0) (hn : at0 v t ≠ 0) (hp : Prim (at0 v)) : DIn n rows (done ++ [x]) (dPut d (t : Int) v) := by
  have E2 := ech_put E ht kt e0 s0 (fun r z => z) hx hu he hl hn hp (kd_put (d := d) (v := v)) (hd_put (d := d) (v := v))
  have kt' : dInK d (t : Int) = false := kt
  refine ⟨fun y hy => ?_, ?_, fun p hp => ?_, ?_, _, E2, fun r hr => ?_⟩
  · rw [dkeys_put, kt'] at hy
    simp only [Bool.false_eq_true, if_false] at hy
    rcases List.mem_append.mp hy with z | z
    · exact G.keys y z
    · exact ⟨t, List.mem_singleton.mp z⟩
  · rw [dkeys_put, kt']
    simp only [Bool.false_eq_true, if_false]
    refine List.nodup_append.mpr ⟨G.nd, by simp, fun a ha b hb => ?_⟩
    rw [List.mem_singleton] at hb
    intro z
    rw [z, hb] at ha
    have := dIn_mem.mpr ha
    rw [kt'] at this
    cases this
  · rw [dAt_put]
    by_cases z : p = t
    · rw [if_pos (by rw [z])]; exact hv
    · rw [if_neg (by omega)]
      rw [kd_put, decide_eq_false z, Bool.false_or] at hp
      exact G.len p hp
  · rw [dlen_put, kt', List.length_append]
    have := G.few
    simp
    omega
  · have up : ∀ r, r ∈ Al (kd d) o n → Sp (Al (kd (dPut d (t : Int) v)) (fun q => if q = t then x else o q) n) r := fun r hr => (Al_mono (Nat.le_refl _) (fun q _ z => by
      have : q ≠ t := fun y => by rw [y, kt] at z; cases z
      exact ⟨by rw [kd_put, z, Bool.or_true], if_neg this⟩) (Cb.mem hr)).sp
    rcases List.mem_append.mp hr with z | z
    · exact (cov r z).trans up
    · rw [List.mem_singleton] at z
      subst z
      exact (Cb.mem (mem_Al.mpr ⟨t, ht, by rw [kd_put, decide_eq_true rfl]; rfl, by rw [if_pos rfl]⟩)).sp
end Dc
/-! D5: the first walk of reduced, at the program. -/
namespace Dc
open PySem PySem.Spec L2
structure Lim (n B X : Nat) (rows : List Vec) : Prop where
  hB : ∀ r ∈ rows, ∀ j, (r j).natAbs ≤ B
  hX : ∀ i, i ≤ n → (n * B) ^ i ≤ X
  bx : B ≤ X
  xx : (n + 2) * (X * X) ≤ 2 ^ 3900
theorem Lim.x {n B X : Nat} {rows : List Vec} (L : Lim n B X rows) : X ≤ 2 ^ 3900 := by
  have h := L.xx
  rcases Nat.eq_zero_or_pos X with z | z
  · rw [z]; exact Nat.zero_le _
  · have : X ≤ (n + 2) * (X * X) := by
      have h1 : X ≤ X * X := Nat.le_mul_of_pos_left _ z
      have h2 : X * X ≤ (n + 2) * (X * X) := Nat.le_mul_of_pos_left _ (by omega)
      omega
    omega
/-- the row on its way -/
structure Way (n t : Nat) (d : Dic) (o : Nat → Vec) (x : Vec) (X : Nat) (v : List Int) : Prop where
  len : v.length = n
  low : ∀ j, j < t → at0 v j = 0
  rel : ∃ (e s : Int) (u : Vec), e ≠ 0 ∧ s ≠ 0 ∧ Cb (Al (kd d) o t) u ∧ ∀ j, e * at0 v j = s * x j + u j
  bd : (∀ j, (at0 v j).natAbs ≤ X) ∨ Prim (at0 v)
section
variable {n B X : Nat} {rows done : List Vec} {d : Dic} {o : Nat → Vec} {x : Vec}
theorem Way.le {t : Nat} {v : List Int} (w : Way n t d o x X v) (L : Lim n B X rows) (E : Ech n rows (kd d) o (hd d)) (hx : x ∈ rows) (ht : t < n) (j : Nat) : (at0 v j).natAbs ≤ X := by
  rcases w.bd with h | h
  · exact h j
  · obtain ⟨e, s, u, e0, s0, hu, he⟩ := w.rel
    exact ech_bd E L.hB L.hX ht e0 hx hu he (fun q hq _ => w.low q hq) h j
theorem map_at0 {g : Int} {ys xs : List Int} (h : xs = ys.map (g * ·)) (j : Nat) : at0 xs j = g * at0 ys j := by
  subst h
  by_cases hj : j < ys.length
  · rw [at0_get (by rw [List.length_map]; exact hj), List.getElem_map, at0_get hj]
  · rw [at0_out (by rw [List.length_map]; omega), at0_out (by omega), Int.mul_zero]
theorem row_tr {β δ : Type} {f : (List Int × Dic) → Int → W (Fl (List Int × Dic) (List Int × Dic) β)}
    (hf : ∀ s y, f s y = grd (ixOk s.1 y) (bnd (ite (!decide (ixAt s.1 y = 0)) (bnd (ite (!dInK s.2 y) (bnd (w_divided (s.1, ())) fun z => grd (decide (s.2.length < 16777216)) (ret (Fl.bk (s.1, dPut s.2 y z)))) (ret (Fl.nx ()))) (sq fun (_ : Unit) => grd (dInK s.2 y) (bnd (w_cleared (s.1, dAt s.2 y, y, ())) fun v => ret (Fl.nx (v, s.2))))) (ret (Fl.nx s))) (sq fun s => ret (Fl.nx s))))
    (L : Lim n B X rows) (G : DIn n rows done d) (hd1 : done.length < 10000000) (hx : x ∈ rows) {v0 : List Int} (h0 : v0.length = n) (hv : ∀ j, at0 v0 j = x j) :
    Tr 0 (forW (δ := δ) f (v0, d) (rangeF 0 n)) (fun fl => ∃ s', fl = .nx s' ∧ DIn n rows (done ++ [x]) s'.2) := by
  obtain ⟨o, E, cov⟩ := G.ech
  have few := G.few
  have t1 := Tr.rngB (δ := δ) (m := 0) (f := f) (R := fun t s => s.2 = d ∧ Way n t d o x X s.1) (Q := fun s => DIn n rows (done ++ [x]) s.2) n 0 (v0, d) ⟨rfl, h0, fun j hj => absurd hj (Nat.not_lt_zero j), ⟨1, 1, fun _ => 0, by decide, by decide, Cb.zero, fun j => by show 1 * at0 v0 j = 1 * x j + 0; rw [hv]; simp⟩, .inl fun j => by show (at0 v0 j).natAbs ≤ X; rw [hv]; exact Nat.le_trans (L.hB x hx j) L.bx⟩ (fun t ht s hs => by
    obtain ⟨v, d'⟩ := s
    obtain ⟨rfl, w⟩ := hs
    rw [Nat.zero_add] at w
    simp only [Nat.zero_add]
    have w : Way n t d' o x X v := w
    have ix := ix0 (l := v) (i := t) (by rw [w.len]; exact ht)
    rw [hf]
    refine Tr.grd ix.1 ?_
    simp only [ix.2]
    by_cases z : at0 v t = 0
    · rw [ite_no (by rw [z]; rfl), bnd_ret, sq_nx]
      refine Tr.ret (.inl ⟨_, rfl, rfl, w.len, fun j hj => ?_, ?_, w.bd⟩)
      · by_cases y : j = t
        · rw [y]; exact z
        · exact w.low j (by omega)
      · obtain ⟨e, s, u, e0, s0, hu, he⟩ := w.rel
        exact ⟨e, s, u, e0, s0, Al_mono (by omega) (fun q _ h => ⟨h, rfl⟩) hu, he⟩
    · rw [ite_ok (by rw [decide_eq_false z]; rfl), bnd_assoc]
      have bv := w.le L E hx ht
      cases c : dInK d' (t : Int) with
      | false =>
        rw [show (!false) = true from rfl, ite_ok rfl]
        obtain ⟨ys, e1, pr, g, g0, ge⟩ := divided_eq (xs := v) fun a ha => by
          obtain ⟨i, hi, rfl⟩ := List.getElem_of_mem ha
          rw [← at0_get hi]
          exact pow_mono (n := 3901) (Nat.lt_of_le_of_lt (Nat.le_trans (bv i) L.x) (Nat.pow_lt_pow_right (by decide) (by decide))) (by decide)
        rw [e1, bnd_ret, grd_ok (decide_eq_true (Nat.lt_of_le_of_lt (show d'.length ≤ done.length from few) (by omega))), bnd_ret]
        have gy := map_at0 ge
        have gz : ∀ j, at0 v j = 0 ↔ at0 ys j = 0 := fun j => by
          rw [gy]
          constructor
          · intro h
            rcases Int.mul_eq_zero.mp h with q | q
            · omega
            · exact q
          · intro h; rw [h, Int.mul_zero]
        refine Tr.ret (.inr ⟨_, rfl, ?_⟩)
        obtain ⟨e, s, u, e0, s0, hu, he⟩ := w.rel
        refine G.put E cov ht c ?_ (e := e * g) (s := s) (u := u) (Int.mul_ne_zero e0 (by omega)) s0 hx hu (fun j => by rw [Int.mul_assoc, ← gy, he]) (fun j hj => (gz j).mp (w.low j hj)) (fun h => z ((gz t).mpr h)) pr
        have := congrArg List.length ge
        rw [List.length_map, w.len] at this
        exact this.symm
      | true =>
        have hk : kd d' t = true := c
        rw [show (!true) = false from rfl, ite_no rfl, bnd_ret, sq_nx, grd_true, bnd_assoc]
        obtain ⟨ys, e1, cl⟩ := cleared_eq (line := v) (head := dAt d' (t : Int)) (p := t) (A := X) (B := X) (by rw [G.len t hk, w.len]) (by rw [w.len]; exact ht) (E.nz t hk) bv (fun i => ech_hbd E L.hB L.hX hk i) L.x L.x
        rw [e1, bnd_ret]
        refine Tr.ret (.inl ⟨_, rfl, rfl, ?_⟩)
        obtain ⟨g, sc, sh, g0, sc0, eq⟩ := cl.eq
        have hl := E.low t hk
        refine ⟨by show ys.length = n; rw [cl.len, w.len], fun j hj => ?_, ?_, .inr cl.pr⟩
        · by_cases y : j = t
          · rw [y]; exact cl.zero
          · have e2 := eq j
            rw [w.low j (by omega), show at0 (dAt d' (t : Int)) j = 0 from hl j (by omega)] at e2
            have e3 : g * at0 ys j = 0 := by rw [e2]; simp
            rcases Int.mul_eq_zero.mp e3 with q | q
            · omega
            · exact q
        · obtain ⟨e, s, u, e0, s0, hu, he⟩ := w.rel
          obtain ⟨a, b, y, a0, b0, hy, hq⟩ := E.rel t hk
          refine ⟨e * a * g, sc * a * s, fun j => -(sh * e * b) * o t j + (sc * a * u j + (-(sh * e)) * y j), Int.mul_ne_zero (Int.mul_ne_zero e0 a0) (by omega), Int.mul_ne_zero (Int.mul_ne_zero sc0 a0) s0, ?_, fun j => ?_⟩
          · unfold Al
            rw [if_pos hk]
            exact ⟨_, _, hu.lin hy, fun j => rfl⟩
          · have e2 := eq j
            have e3 := he j
            have e4 : a * at0 (dAt d' (t : Int)) j = b * o t j + y j := hq j
            show e * a * g * at0 ys j = _
            have e5 : e * a * g * at0 ys j = e * a * (g * at0 ys j) := by grind
            rw [e5, e2]
            have e6 : e * a * (sc * at0 v j - sh * at0 (dAt d' (t : Int)) j) = sc * a * (e * at0 v j) - sh * e * (a * at0 (dAt d' (t : Int)) j) := by grind
            rw [e6, e3, e4]
            grind)
  refine (t1.up (by simp)).cons fun fl hfl => ?_
  obtain ⟨s', rfl, h⟩ := hfl
  refine ⟨s', rfl, ?_⟩
  rcases h with ⟨e, w⟩ | h
  · rw [Nat.zero_add] at w
    rw [e]
    refine ⟨G.keys, G.nd, G.len, by rw [List.length_append]; omega, o, E, fun r hr => ?_⟩
    rcases List.mem_append.mp hr with z | z
    · exact cov r z
    · rw [List.mem_singleton] at z
      subst z
      obtain ⟨e1, s, u, e0, s0, hu, he⟩ := w.rel
      refine ⟨s, s0, (hu.mul (a := -1)).ext fun j => ?_⟩
      have := he j
      have v0 : at0 s'.1 j = 0 := by
        by_cases y : j < n
        · exact w.low j y
        · exact at0_out (by rw [w.len]; omega)
      rw [v0, Int.mul_zero] at this
      omega
  · exact h
end
end Dc
/-! D6: the second walk of reduced; what reduced tells. -/
namespace Dc
open PySem PySem.Spec L2
def fvec (n : Nat) (f : Nat → Rat) : List Fr := (List.range n).map fun k => ofQ (f k)
theorem fvec_len {n : Nat} {f : Nat → Rat} : (fvec n f).length = n := by rw [fvec, List.length_map, List.length_range]
theorem fvec_get {n k : Nat} {f : Nat → Rat} (h : k < (fvec n f).length) : (fvec n f)[k] = ofQ (f k) := by simp only [fvec, List.getElem_map, List.getElem_range]
/-- the rows of the only form -/
def form (n : Nat) (P : List Nat) (D : Int) (M : Nat → Vec) : List (List Fr) := P.map fun p => fvec n fun j => Rat.divInt (M p j) D
theorem srtI_eq : ∀ {l m : List Int}, l.Pairwise (· < ·) → m.Pairwise (· < ·) → (∀ x, x ∈ l ↔ x ∈ m) → l = m
  | [], [], _, _, _ => rfl
  | [], b :: m, _, _, h => by have := (h b).mpr List.mem_cons_self; cases this
  | a :: l, [], _, _, h => by have := (h a).mp List.mem_cons_self; cases this
  | a :: l, b :: m, h1, h2, h => by
    obtain ⟨a1, a2⟩ := List.pairwise_cons.mp h1
    obtain ⟨b1, b2⟩ := List.pairwise_cons.mp h2
    have e : a = b := by
      rcases List.mem_cons.mp ((h a).mp List.mem_cons_self) with z | z
      · exact z
      · rcases List.mem_cons.mp ((h b).mpr List.mem_cons_self) with y | y
        · exact y.symm
        · have := a1 b y; have := b1 a z; omega
    subst e
    rw [srtI_eq a2 b2 fun x => ⟨fun hx => ?_, fun hx => ?_⟩]
    · rcases List.mem_cons.mp ((h x).mp (List.mem_cons_of_mem _ hx)) with z | z
      · have := a1 x hx; omega
      · exact z
    · rcases List.mem_cons.mp ((h x).mpr (List.mem_cons_of_mem _ hx)) with z | z
      · have := b1 x hx; omega
      · exact z
theorem firsts_eq {n : Nat} {rows done : List Vec} {d : Dic} (G : DIn n rows done d) {o : Nat → Vec} (E : Ech n rows (kd d) o (hd d)) : sortI (d.map (·.1)) = (Pl (kd d) n).reverse.map (fun p : Nat => (p : Int)) := by
  refine srtI_eq ?_ ?_ fun x => ?_
  · have h1 := sortI_sorted (d.map (·.1))
    have h2 : (sortI (d.map (·.1))).Nodup := (sortI_perm _).nodup_iff.mpr G.nd
    refine (h1.and h2).imp fun {a b} h => ?_
    have := h.1
    have := h.2
    omega
  · rw [List.pairwise_map, List.pairwise_reverse]
    exact Pl_srt.imp fun h => by have : _ > _ := h; omega
  · rw [(sortI_perm _).mem_iff]
    constructor
    · intro h
      obtain ⟨p, rfl⟩ := G.keys x h
      have hk : kd d p = true := dIn_mem.mpr h
      exact List.mem_map.mpr ⟨p, List.mem_reverse.mpr (mem_Pl.mpr ⟨E.lt p hk, hk⟩), rfl⟩
    · intro h
      obtain ⟨p, hp, rfl⟩ := List.mem_map.mp h
      exact dIn_mem.mp (mem_Pl.mp (List.mem_reverse.mp hp)).2
/-- the dict in the second walk -/
structure I2 (n : Nat) (d0 : Dic) (W : Nat → Vec) (d : Dic) : Prop where
  keys : d.map (·.1) = d0.map (·.1)
  len : ∀ p, kd d0 p = true → (dAt d (p : Int)).length = n
  low : ∀ p, kd d0 p = true → ∀ j, j < p → hd d p j = 0
  pr : ∀ p, kd d0 p = true → Prim (hd d p)
  par : ∀ p, kd d0 p = true → Par (hd d p) (W p)
theorem I2.kdE {n : Nat} {d0 d : Dic} {W : Nat → Vec} (I : I2 n d0 W d) (p : Nat) : kd d p = kd d0 p := by
  have h : kd d p = true ↔ kd d0 p = true := by
    unfold kd
    rw [dIn_mem, dIn_mem, I.keys]
  cases e : kd d p with
  | true => rw [h.mp e]
  | false =>
    cases f : kd d0 p with
    | false => rfl
    | true => rw [h.mpr f] at e; cases e
theorem I2.cong {n : Nat} {d0 d : Dic} {W W' : Nat → Vec} (I : I2 n d0 W d) (h : ∀ p, kd d0 p = true → ∀ j, W p j = W' p j) : I2 n d0 W' d := ⟨I.keys, I.len, I.low, I.pr, fun p hp => (I.par p hp).ext (h p hp)⟩
theorem I2.put {n : Nat} {d0 d : Dic} {W : Nat → Vec} (I : I2 n d0 W d) {f : Nat} {ys : List Int} {w : Vec} (hf : kd d0 f = true) (hl : ys.length = n) (h0 : ∀ j, j < f → at0 ys j = 0) (hp : Prim (at0 ys)) (hw : Par (at0 ys) w) : I2 n d0 (fun p => if p = f then w else W p) (dPut d (f : Int) ys) := by
  have kf : dInK d (f : Int) = true := by have := I.kdE f; rw [hf] at this; exact this
  refine ⟨by rw [dkeys_put, if_pos kf]; exact I.keys, fun p hp => ?_, fun p hp j hj => ?_, fun p hp => ?_, fun p hp => ?_⟩
  · rw [dAt_put]
    by_cases z : p = f
    · rw [if_pos (by rw [z])]; exact hl
    · rw [if_neg (by omega)]; exact I.len p hp
  · rw [hd_put]
    by_cases z : p = f
    · rw [if_pos z]; exact h0 j (by omega)
    · rw [if_neg z]; exact I.low p hp j hj
  · rw [hd_put]
    by_cases z : p = f
    · rw [if_pos z]; assumption
    · rw [if_neg z]; exact I.pr p hp
  · rw [hd_put]
    by_cases z : p = f
    · simp only [if_pos z]; exact hw
    · simp only [if_neg z]; exact I.par p hp
theorem ns_full {A : List Vec} {P : List Nat} (h : NS A P) {u : Vec} (hu : Sp A u) (h0 : ∀ p ∈ P, u p = 0) (j : Nat) : u j = 0 := by
  obtain ⟨e, e0, k⟩ := hu
  have := h _ k (fun p hp => by show e * u p = 0; rw [h0 p hp, Int.mul_zero]) j
  exact (Int.mul_eq_zero.mp this).resolve_left e0
/-- all that the second walk rests on -/
structure S2 (n B X : Nat) (rows : List Vec) (d0 : Dic) (o : Nat → Vec) (D : Int) (M : Nat → Vec) : Prop where
  L : Lim n B X rows
  G : DIn n rows rows d0
  E : Ech n rows (kd d0) o (hd d0)
  cov : ∀ r ∈ rows, Sp (Al (kd d0) o n) r
  dz : D ≠ 0
  db : D.natAbs ≤ X
  sp : ∀ p ∈ Pl (kd d0) n, Sp (Al (kd d0) o n) (M p)
  bd : ∀ p ∈ Pl (kd d0) n, ∀ j, (M p j).natAbs ≤ X
  one : ∀ p ∈ Pl (kd d0) n, M p p = D
  off : ∀ p ∈ Pl (kd d0) n, ∀ q ∈ Pl (kd d0) n, q ≠ p → M p q = 0
theorem S2.mk' {n B X : Nat} {rows : List Vec} {d : Dic} (L : Lim n B X rows) (G : DIn n rows rows d) : ∃ o D M, S2 n B X rows d o D M := by
  obtain ⟨o, E, cov⟩ := G.ech
  obtain ⟨ns, dn⟩ := ech_ns E n
  have lA : (Al (kd d) o n).length ≤ n := by rw [Al_len]; exact Pl_len
  have bA : ∀ r ∈ Al (kd d) o n, ∀ j, (r j).natAbs ≤ B := fun r hr => by
    obtain ⟨p, _, h2, h3⟩ := mem_Al.mp hr
    rw [h3]; exact L.hB _ (E.org p h2)
  have hx : (n * B) ^ (Pl (kd d) n).length ≤ X := L.hX _ Pl_len
  have c : ∀ p, ∃ Mp : Vec, p ∈ Pl (kd d) n → Cb (Al (kd d) o n) Mp ∧ Mp p = det (Pl (kd d) n) (Al (kd d) o n) ∧ (∀ q ∈ Pl (kd d) n, q ≠ p → Mp q = 0) ∧ ∀ j, (Mp j).natAbs ≤ X := fun p => by
    by_cases hp : p ∈ Pl (kd d) n
    · obtain ⟨Mp, h1, h2, h3, h4⟩ := cof hp Pl_nodup lA bA
      exact ⟨Mp, fun _ => ⟨h1, h2, h3, fun j => Nat.le_trans (h4 j) hx⟩⟩
    · exact ⟨fun _ => 0, fun h => absurd h hp⟩
  obtain ⟨M, hM⟩ := Classical.axiomOfChoice c
  exact ⟨o, det (Pl (kd d) n) (Al (kd d) o n), M, L, G, E, cov, dn, Nat.le_trans (det_bd lA bA) hx, fun p hp => (hM p hp).1.sp, fun p hp => (hM p hp).2.2.2, fun p hp => (hM p hp).2.1, fun p hp => (hM p hp).2.2.1⟩
section
variable {n B X : Nat} {rows : List Vec} {d0 : Dic} {o : Nat → Vec} {D : Int} {M : Nat → Vec}
theorem S2.mem (S : S2 n B X rows d0 o D M) {p : Nat} : p ∈ Pl (kd d0) n ↔ kd d0 p = true := ⟨fun h => (mem_Pl.mp h).2, fun h => mem_Pl.mpr ⟨S.E.lt p h, h⟩⟩
theorem S2.hsp (S : S2 n B X rows d0 o D M) {p : Nat} (hp : kd d0 p = true) : Sp (Al (kd d0) o n) (hd d0 p) := by
  obtain ⟨e, s, u, e0, _, hu, he⟩ := S.E.rel p hp
  have lt := S.E.lt p hp
  refine ⟨e, e0, ((Cb.mem (mem_Al.mpr ⟨p, lt, hp, rfl⟩)).lin (a := s) (b := 1) (Al_mono (k := kd d0) (o := o) (Nat.le_of_lt lt) (fun q _ h => ⟨h, rfl⟩) hu)).ext fun j => ?_⟩
  rw [he]; simp
theorem S2.done (S : S2 n B X rows d0 o D M) {G : List Nat} (hG : ∀ q ∈ G, q ∈ Pl (kd d0) n) (hn : G.Nodup) {p : Nat} (hp : kd d0 p = true) (hall : ∀ q, kd d0 q = true → p < q → q ∈ G) (j : Nat) : Wv D (hd d0) M G p j = hd d0 p p * M p j := by
  have pP := S.mem.mpr hp
  have z := ns_full (ech_ns S.E n).1 (u := fun j => 1 * Wv D (hd d0) M G p j + (-(hd d0 p p)) * M p j) ((Wv_sp (S.hsp hp) S.sp hG).lin (S.sp p pP)) (fun q hq => by
    show 1 * Wv D (hd d0) M G p q + (-(hd d0 p p)) * M p q = 0
    rw [Wv_at S.one S.off hG hn q hq]
    by_cases e : q = p
    · subst e
      rw [if_neg (fun h => Nat.lt_irrefl _ h.2), S.one q hq]; grind
    · rw [S.off p pP q hq e]
      by_cases c : p < q
      · rw [if_pos ⟨hall q (S.mem.mp hq) c, c⟩]; grind
      · rw [if_neg (fun h => c h.2), S.E.low p hp q (by omega)]; grind) j
  have z : 1 * Wv D (hd d0) M G p j + (-(hd d0 p p)) * M p j = 0 := z
  grind
theorem S2.wb (S : S2 n B X rows d0 o D M) {G : List Nat} (hG : ∀ q ∈ G, q ∈ Pl (kd d0) n) (hn : G.length ≤ n) {p : Nat} (hp : kd d0 p = true) (j : Nat) : (Wv D (hd d0) M G p j).natAbs ≤ 2 ^ 3900 := by
  have h := Wv_bd (D := D) (h := hd d0) (M := M) (p := p) S.db (ech_hbd S.E S.L.hB S.L.hX hp) S.bd hG j
  have h2 : (G.length + 1) * (X * X) ≤ (n + 2) * (X * X) := Nat.mul_le_mul_right _ (by omega)
  have := S.L.xx
  omega
theorem Wv_lt {h : Nat → Vec} {G : List Nat} {p q j : Nat} (c : p < q) : Wv D h M (q :: G) p j = Wv D h M G p j - h p q * M q j := by rw [Wv, if_pos c]
theorem Wv_ge {h : Nat → Vec} {G : List Nat} {p q j : Nat} (c : ¬ p < q) : Wv D h M (q :: G) p j = Wv D h M G p j := by rw [Wv, if_neg c]
/-- all lesser heads are cleared by one -/
theorem in_tr {β δ : Type} {q : Nat} {f : Dic → Int → W (Fl Dic Dic β)}
    (hf : ∀ s y, f s y = bnd (bnd (ite (decide (y < (q : Int))) (grd (dInK s y) (grd (ixOk (dAt s y) (q : Int)) (ret (!decide (ixAt (dAt s y) (q : Int) = 0))))) (ret false)) fun b => ite b (grd (dInK s y) (grd (dInK s (q : Int)) (bnd (w_cleared (dAt s y, dAt s (q : Int), (q : Int), ())) fun z => grd (decide (s.length < 16777216)) (ret (Fl.nx (dPut s y z)))))) (ret (Fl.nx s))) (sq fun s => ret (Fl.nx s)))
    (S : S2 n B X rows d0 o D M) (hr : rows.length < 64) {G : List Nat} (hG : ∀ z ∈ G, z ∈ Pl (kd d0) n) (hn : G.Nodup) (hl : G.length ≤ n) (hq : kd d0 q = true) (qG : q ∉ G) (hall : ∀ z, kd d0 z = true → q < z → z ∈ G) {d : Dic} (I : I2 n d0 (Wv D (hd d0) M G) d) :
    Tr 0 (forW (δ := δ) f d ((Pl (kd d0) n).reverse.map (fun p : Nat => (p : Int)))) (fun fl => ∃ s', fl = .nx s' ∧ I2 n d0 (Wv D (hd d0) M (q :: G)) s') := by
  have t := Tr.forP (δ := δ) (m := 0) (f := f) (R := fun (pre : List Int) s => ∃ l : List Nat, pre = l.map (fun p : Nat => (p : Int)) ∧ I2 n d0 (fun p => if p ∈ l then Wv D (hd d0) M (q :: G) p else Wv D (hd d0) M G p) s) ((Pl (kd d0) n).reverse.map (fun p : Nat => (p : Int))) [] d ⟨[], rfl, I.cong fun p _ j => by simp⟩ (fun a b x hx s hs => by
    obtain ⟨l, rfl, J⟩ := hs
    rw [List.nil_append] at hx
    obtain ⟨l1, l2, e1, e2, e3⟩ := List.map_eq_append_iff.mp hx
    obtain ⟨g, l3, e4, rfl, e5⟩ := List.map_eq_cons_iff.mp e3
    have el : l1 = l := by
      have inj : ∀ (u v : List Nat), u.map (fun p : Nat => (p : Int)) = v.map (fun p : Nat => (p : Int)) → u = v := fun u => by
        induction u with
        | nil => intro v h; cases v with | nil => rfl | cons _ _ => simp at h
        | cons x u ih =>
          intro v h
          cases v with
          | nil => simp at h
          | cons y v =>
            simp only [List.map_cons, List.cons.injEq] at h
            rw [ih v h.2, show x = y by omega]
      exact inj _ _ e2
    subst el
    have nd : (l1 ++ g :: l3).Nodup := by
      rw [← e4, ← e1]
      exact (List.reverse_perm _).nodup_iff.mpr Pl_nodup
    have gl : g ∉ l1 := fun z => (List.nodup_append.mp nd).2.2 g z g List.mem_cons_self rfl
    have kg : kd d0 g = true := (mem_Pl.mp (List.mem_reverse.mp (by rw [e1, e4]; simp))).2
    have kq := hq
    have jg := J.kdE g
    have jq := J.kdE q
    rw [kg] at jg
    rw [hq] at jq
    have jg' : dInK s (g : Int) = true := jg
    have jq' : dInK s (q : Int) = true := jq
    have lg := J.len g kg
    have lq := J.len q hq
    have qn := S.E.lt q hq
    have ix := ix0 (l := dAt s (g : Int)) (i := q) (by rw [lg]; exact qn)
    have pg := J.par g kg
    simp only [if_neg gl] at pg
    -- the next state
    have nxt : ∀ {s' : Dic} {w : Vec}, I2 n d0 (fun p => if p = g then w else if p ∈ l1 then Wv D (hd d0) M (q :: G) p else Wv D (hd d0) M G p) s' → (∀ j, w j = Wv D (hd d0) M (q :: G) g j) → ∃ l : List Nat, l1.map (fun p : Nat => (p : Int)) ++ [(g : Int)] = l.map (fun p : Nat => (p : Int)) ∧ I2 n d0 (fun p => if p ∈ l then Wv D (hd d0) M (q :: G) p else Wv D (hd d0) M G p) s' := fun {s' w} K hw => ⟨l1 ++ [g], by simp, K.cong fun p _ j => by
      by_cases z : p = g
      · subst z
        rw [if_pos rfl, if_pos (by simp), hw]
      · rw [if_neg z]
        have : p ∈ l1 ++ [g] ↔ p ∈ l1 := by simp [z]
        simp only [this]⟩
    have stay : (∀ j, Wv D (hd d0) M G g j = Wv D (hd d0) M (q :: G) g j) → ∃ l : List Nat, l1.map (fun p : Nat => (p : Int)) ++ [(g : Int)] = l.map (fun p : Nat => (p : Int)) ∧ I2 n d0 (fun p => if p ∈ l then Wv D (hd d0) M (q :: G) p else Wv D (hd d0) M G p) s := fun h => nxt (w := Wv D (hd d0) M G g) (J.cong fun p _ j => by
      by_cases z : p = g
      · subst z; simp only [if_neg gl, if_pos]
      · rw [if_neg z]) h
    rw [hf]
    by_cases c : g < q
    · have wq := Wv_at (D := D) (h := hd d0) (p := g) S.one S.off hG hn q (S.mem.mpr hq)
      rw [if_neg (fun h => qG h.1)] at wq
      rw [ite_ok (decide_eq_true (by omega)), grd_ok jg', grd_ok ix.1, bnd_ret, ix.2]
      by_cases z : at0 (dAt s (g : Int)) q = 0
      · rw [ite_no (by rw [z]; rfl), bnd_ret, sq_nx]
        refine Tr.ret ⟨_, rfl, stay fun j => ?_⟩
        have w0 := pg.zero.mp z
        rw [wq] at w0
        have h0 := (Int.mul_eq_zero.mp w0).resolve_left S.dz
        rw [Wv_lt c, h0]; simp
      · rw [ite_ok (by rw [decide_eq_false z]; rfl), grd_ok jg', grd_ok jq', bnd_assoc]
        have pq := J.par q hq
        have pq2 : Par (hd s q) (Wv D (hd d0) M G q) := by
          by_cases y : q ∈ l1
          · simp only [if_pos y] at pq
            refine pq.ext fun j => ?_
            rw [Wv_ge (Nat.lt_irrefl q)]
          · simp only [if_neg y] at pq
            exact pq
        have pq3 : Par (hd s q) (M q) := pq2.mulr (c := hd d0 q q) (S.E.nz q hq) fun j => S.done hG hn hq hall j
        have nz : at0 (dAt s (q : Int)) q ≠ 0 := fun y => S.dz (by
          have := pq3.zero.mp y
          rw [S.one q (S.mem.mpr hq)] at this
          exact this)
        obtain ⟨ys, e6, cl⟩ := cleared_eq (line := dAt s (g : Int)) (head := dAt s (q : Int)) (p := q) (A := 2 ^ 3900) (B := 2 ^ 3900) (by rw [lg, lq]) (by rw [lg]; exact qn) nz (fun i => Nat.le_trans (pg.le (J.pr g kg) i) (S.wb hG hl kg i)) (fun i => Nat.le_trans (pq2.le (J.pr q hq) i) (S.wb hG hl hq i)) (Nat.le_refl _) (Nat.le_refl _)
        have fw : s.length < 16777216 := by
          have h1 := congrArg List.length J.keys
          rw [List.length_map, List.length_map] at h1
          have := S.G.few
          omega
        rw [e6, bnd_ret, grd_ok (decide_eq_true fw), bnd_ret, sq_nx]
        obtain ⟨gg, sc, sh, g0, sc0, eq⟩ := cl.eq
        have P1 := par_step pg pq3 (S.one q (S.mem.mpr hq)) wq S.dz (show gg ≠ 0 by omega) sc0 eq cl.zero
        refine Tr.ret ⟨_, rfl, nxt (J.put kg (by rw [cl.len, lg]) (fun j hj => ?_) cl.pr P1) fun j => ?_⟩
        · have e7 := eq j
          rw [show at0 (dAt s (g : Int)) j = 0 from J.low g kg j hj, show at0 (dAt s (q : Int)) j = 0 from J.low q hq j (by omega)] at e7
          have e8 : gg * at0 ys j = 0 := by rw [e7]; simp
          exact (Int.mul_eq_zero.mp e8).resolve_left (by omega)
        · rw [Wv_lt c]
    · rw [ite_no (decide_eq_false (by omega)), bnd_ret, ite_no rfl, bnd_ret, sq_nx]
      refine Tr.ret ⟨_, rfl, stay fun j => ?_⟩
      rw [Wv_ge c])
  refine (t.up (by simp)).cons fun fl hfl => ?_
  obtain ⟨s', rfl, l, e, J⟩ := hfl
  refine ⟨s', rfl, J.cong fun p hp j => ?_⟩
  rw [List.nil_append] at e
  rw [if_pos]
  have : (p : Int) ∈ l.map (fun p : Nat => (p : Int)) := by
    rw [← e]
    exact List.mem_map.mpr ⟨p, List.mem_reverse.mpr (S.mem.mpr hp), rfl⟩
  obtain ⟨p', h1, h2⟩ := List.mem_map.mp this
  rw [← show p' = p by omega]
  exact h1
end
end Dc
/-! D7: what reduced tells. -/
namespace Dc
open PySem PySem.Spec L2
theorem form_row {n : Nat} {l : List Int} {p : Nat} {D : Int} {M : Vec} (hl : l.length = n) (hp : p < n) (h : Par (at0 l) M) (d0 : D ≠ 0) (mp : M p = D) : (l.map fun t => ofQ (Rat.divInt t (at0 l p))) = fvec n fun j => Rat.divInt (M j) D := by
  obtain ⟨e, s, e0, s0, q⟩ := h
  refine List.ext_getElem (by rw [List.length_map, fvec_len, hl]) fun k h1 h2 => ?_
  rw [fvec_get, List.getElem_map]
  have hk : k < l.length := by rw [List.length_map] at h1; exact h1
  rw [← at0_get hk]
  have q1 := q k
  have q2 := q p
  rw [mp] at q2
  congr 1
  rw [← Rat.divInt_mul_left (a := e) (show e ≠ 0 from e0), q1, q2, Rat.divInt_mul_left s0]
theorem reduced_tr {n B X : Nat} {xs : List (List Fr)} (h : ∀ r ∈ xs, Rin n B r) (L : Lim n B X (xs.map rowV)) (hl : xs.length < 64) (hn : n ≤ 1000000) : Tr 0 (w_reduced (xs, ())) (fun F => ∃ P D M, RF n X (xs.map rowV) P D M ∧ F = form n P D M) := by
  unfold w_reduced wb_reduced
  simp only [bnd_ret, bnd_assoc, bnd_grd, grd_true, fnR_bnd, fnR_ite, fnR_grd, fnR_ret, sq_nx, sq_rt]
  refine Tr.then (n := 0) 0 (S := fun fl => ∃ d, fl = .nx d ∧ DIn n (xs.map rowV) (xs.map rowV) d) ?_ fun fl hfl => ?_
  · refine ((Tr.forP (m := 0) (R := fun pre d => DIn n (xs.map rowV) (pre.map rowV) d) xs [] [] DIn.nil fun a b r hx d G => ?_).up (by simp)).cons fun fl hfl => by
      obtain ⟨d, e, G⟩ := hfl
      exact ⟨d, e, by rw [List.nil_append] at G; exact G⟩
    rw [List.nil_append] at hx
    have hr : r ∈ xs := by rw [hx]; simp
    have R := h r hr
    have il : (intsL r).length = n := by rw [ints_len, R.len]
    have few : (a.map rowV).length < 10000000 := by
      have := congrArg List.length hx
      simp at this
      rw [List.length_map]; omega
    rw [integers_of_eq R.red R.sz R.lcm, bnd_ret, il, grd_ok (rngOk_n hn), Int.toNat_natCast]
    refine Tr.then (n := 0) 0 (row_tr (fun s y => ?_) L G few (List.mem_map.mpr ⟨r, hr, rfl⟩) il fun j => rfl) fun fl hfl => ?_
    · simp only [bnd_ret, bnd_assoc, bnd_grd]
    · obtain ⟨s', rfl, G2⟩ := hfl
      rw [sq_nx]
      exact Tr.ret ⟨_, rfl, by rw [List.map_append]; exact G2⟩
  · obtain ⟨d0, rfl, G⟩ := hfl
    obtain ⟨o, D, M, S⟩ := S2.mk' L G
    have rl : (xs.map rowV).length < 64 := by rw [List.length_map]; exact hl
    have dl : d0.length < 64 := by have := G.few; omega
    rw [sq_nx]
    rw [fnR_grd, grd_ok (decide_eq_true dl), firsts_eq G S.E, ← List.map_reverse, List.reverse_reverse]
    rw [fnR_bnd]
    refine Tr.then (n := 0) 0 (S := fun fl => ∃ d, fl = .nx d ∧ ∃ Q : List Nat, (∀ z ∈ Q, z ∈ Pl (kd d0) n) ∧ Q.Nodup ∧ (∀ z ∈ Pl (kd d0) n, z ∈ Q) ∧ I2 n d0 (Wv D (hd d0) M Q) d) ?_ fun fl hfl => ?_
    · refine ((Tr.forP (m := 0) (R := fun (pre : List Int) d => ∃ l l2 : List Nat, pre = l.map (fun p : Nat => (p : Int)) ∧ l ++ l2 = Pl (kd d0) n ∧ I2 n d0 (Wv D (hd d0) M l.reverse) d) ((Pl (kd d0) n).map (fun p : Nat => (p : Int))) [] d0 ⟨[], Pl (kd d0) n, rfl, rfl, rfl, G.len, S.E.low, S.E.pr, fun p hp => ⟨D, 1, S.dz, by decide, fun j => by show D * hd d0 p j = 1 * (D * hd d0 p j); omega⟩⟩ fun a b y hx d J => ?_).up (by simp)).cons fun fl hfl => ?_
      · obtain ⟨l, l2, rfl, e1, I⟩ := J
        rw [List.nil_append, ← e1, List.map_append] at hx
        have hx := List.append_cancel_left hx
        obtain ⟨q, l3, rfl, rfl, e2⟩ := List.map_eq_cons_iff.mp hx
        have sd := Pl_srt (k := kd d0) (t := n)
        have nd := Pl_nodup (k := kd d0) (t := n)
        rw [← e1] at sd nd
        obtain ⟨s1, s2, s3⟩ := List.pairwise_append.mp sd
        obtain ⟨n1, n2, n3⟩ := List.nodup_append.mp nd
        have qP : q ∈ Pl (kd d0) n := by rw [← e1]; simp
        have hq := S.mem.mp qP
        refine Tr.then (n := 0) 0 (in_tr (q := q) (fun s y => ?_) S rl (G := l.reverse) (fun z hz => by rw [← e1]; exact List.mem_append_left _ (List.mem_reverse.mp hz)) ((List.reverse_perm _).nodup_iff.mpr n1) (by
          rw [List.length_reverse]
          have := Pl_len (k := kd d0) (t := n)
          rw [← e1, List.length_append] at this
          omega) hq (fun z => n3 q (List.mem_reverse.mp z) q List.mem_cons_self rfl) (fun z hz hlt => by
          have zP := S.mem.mpr hz
          rw [← e1] at zP
          rcases List.mem_append.mp zP with y | y
          · exact List.mem_reverse.mpr y
          · rcases List.mem_cons.mp y with w | w
            · omega
            · have := (List.pairwise_cons.mp s2).1 z w
              omega) I) fun fl hfl => ?_
        · rfl
        · obtain ⟨s', rfl, I'⟩ := hfl
          rw [sq_nx]
          exact Tr.ret ⟨_, rfl, l ++ [q], l3, by simp, by rw [← e1]; simp, by rw [List.reverse_append]; exact I'⟩
      · obtain ⟨d, rfl, l, l2, e1, e2, I⟩ := hfl
        refine ⟨d, rfl, l.reverse, ?_⟩
        have e3 : l = Pl (kd d0) n := by
          rw [List.nil_append] at e1
          have := congrArg List.length e1
          rw [List.length_map, List.length_map, ← e2, List.length_append] at this
          have : l2 = [] := List.length_eq_zero_iff.mp (by omega)
          rw [← e2, this, List.append_nil]
        subst e3
        exact ⟨fun z hz => List.mem_reverse.mp hz, (List.reverse_perm _).nodup_iff.mpr Pl_nodup, fun z hz => List.mem_reverse.mpr hz, I⟩
    · obtain ⟨d, rfl, Q, q1, q2, q3, I⟩ := hfl
      have par : ∀ p, kd d0 p = true → Par (hd d p) (M p) := fun p hp => (I.par p hp).mulr (c := hd d0 p p) (S.E.nz p hp) fun j => S.done q1 q2 hp (fun q hq _ => q3 q (S.mem.mpr hq)) j
      have ql : Q.length ≤ n := by
        have e : Q.Perm (Pl (kd d0) n) := (List.perm_ext_iff_of_nodup q2 Pl_nodup).mpr fun z => ⟨q1 z, q3 z⟩
        rw [e.length_eq]
        exact Pl_len
      rw [sq_nx, fnR_bnd, mapW_eq (g := fun y : Int => fvec n fun j => Rat.divInt (M y.toNat j) D) fun y hy => ?_, bnd_ret]
      · refine Tr.ret ⟨(Pl (kd d0) n).reverse, D, M, ⟨?_, ?_, S.dz, S.db, ?_, ?_, ?_, ?_, ?_, ?_⟩, ?_⟩
        · rw [List.pairwise_reverse]; exact Pl_srt
        · intro p hp; exact (mem_Pl.mp (List.mem_reverse.mp hp)).1
        · intro p hp
          exact (S.sp p (List.mem_reverse.mp hp)).trans fun r hr => by
            obtain ⟨z, _, h2, h3⟩ := mem_Al.mp hr
            rw [h3]
            exact (Cb.mem (S.E.org z h2)).sp
        · intro p hp; exact S.bd p (List.mem_reverse.mp hp)
        · intro p hp; exact S.one p (List.mem_reverse.mp hp)
        · intro p hp q hq; exact S.off p (List.mem_reverse.mp hp) q (List.mem_reverse.mp hq)
        · intro p hp j hj
          have hk := S.mem.mp (List.mem_reverse.mp hp)
          exact (par p hk).zero.mp (I.low p hk j hj)
        · intro u hu h0
          exact ns_full (ech_ns S.E n).1 (hu.trans S.cov) fun p hp => h0 p (List.mem_reverse.mpr hp)
        · show List.map _ (List.map _ _) = _
          rw [List.map_map]
          exact List.map_congr_left fun p _ => rfl
      · obtain ⟨p, hp, rfl⟩ := List.mem_map.mp hy
        have hk := S.mem.mp (List.mem_reverse.mp hp)
        have kp : dInK d (p : Int) = true := (I.kdE p).trans hk
        have pn := S.E.lt p hk
        have ix := ix0 (l := dAt d (p : Int)) (i := p) (by rw [I.len p hk]; exact pn)
        have nz : at0 (dAt d (p : Int)) p ≠ 0 := fun z => S.dz (by
          have := (par p hk).zero.mp z
          rw [S.one p (S.mem.mpr hk)] at this
          exact this)
        have sm : (at0 (dAt d (p : Int)) p).natAbs ≤ 2 ^ 3900 := Nat.le_trans ((I.par p hk).le (I.pr p hk) p) (S.wb q1 ql hk p)
        rw [grd_ok kp, grd_ok kp, grd_ok ix.1, ix.2, numbers_of_eq nz (Nat.lt_of_le_of_lt sm (Nat.pow_lt_pow_right (by decide) (by decide))), form_row (I.len p hk) pn (par p hk) S.dz (S.one p (S.mem.mpr hk)), Int.toNat_natCast]
end Dc
/-! D8: the law's own form: what one step does. -/
namespace Dc
open PySem PySem.Spec L2
theorem Tr.any {β : Type} {n : Nat} {k : Addr → W β} {T : β → Prop} (h : ∀ a, Tr n (k a) T) : Tr n (Dc.bnd anyW k) T := fun Φ Ψ c hc kk a => h a Φ Ψ c hc kk
theorem filW_eq {α : Type} {t : α → W Bool} {b : α → Bool} : ∀ {xs : List α}, (∀ x ∈ xs, t x = Dc.ret (b x)) → filW t (fun y => Dc.ret y) xs = Dc.ret (xs.filter b)
  | [], _ => rfl
  | x :: r, h => by
    show bnd (t x) _ = _
    have ih := filW_eq (xs := r) fun z hz => h z (List.mem_cons_of_mem _ hz)
    rw [h x List.mem_cons_self, bnd_ret, ih, bnd_ret, bnd_ret]
    cases e : b x with
    | true => rw [ite_true, List.filter_cons_of_pos e]
    | false => rw [ite_false, List.filter_cons_of_neg (by rw [e]; decide)]
theorem eqv_nil {α : Type} {to : α → PyData} (l : List α) : PyData.eqv (PyData.list (l.map to)) (PyData.list (([] : List α).map to)) = l.isEmpty := by
  cases l with
  | nil => rfl
  | cons _ _ => rfl
theorem sz_mul {a b : Nat} {x y : Fr} (hx : x.2 ≠ 0) (hy : y.2 ≠ 0) (sx : Sz a x) (sy : Sz b y) : Sz (a + b) (ofQ (toQ x * toQ y)) := by
  rw [← toQ_mul]
  exact sz_low (Int.mul_ne_zero hx hy) (by rw [Int.natAbs_mul]; exact mul_lt_pow sx.1 sy.1) (by rw [Int.natAbs_mul]; exact mul_lt_pow sx.2 sy.2)
theorem Sz.up {a b : Nat} {x : Fr} (h : Sz a x) (hab : a ≤ b) : Sz b x := ⟨pow_mono h.1 hab, pow_mono h.2 hab⟩
theorem ofQ_ne (q : Rat) : (ofQ q).2 ≠ 0 := red_ne (red_ofQ q)
theorem ofQ_zero {q : Rat} : (ofQ q).1 = 0 ↔ q = 0 := by
  show q.num = 0 ↔ _
  exact Rat.num_eq_zero
theorem law_minus_eq {n : Nat} {f g : Nat → Rat} {s : Rat} (hf : ∀ j, j < n → Sz 1950 (ofQ (f j))) (hg : ∀ j, j < n → Sz 1950 (ofQ (g j))) (hs : Sz 1950 (ofQ s)) : w_law_minus (fvec n f, ofQ s, fvec n g, ()) = ret (fvec n fun j => f j - s * g j) := by
  unfold w_law_minus wb_law_minus
  simp only [bnd_ret, bnd_assoc, bnd_grd, bnd_ifr, grd_true, fnR_bnd, fnR_ite, fnR_grd, fnR_ret, sq_nx, sq_rt]
  by_cases z : s = 0
  · rw [ite_ok (decide_eq_true (ofQ_zero.mpr z))]
    congr 1
    unfold fvec
    refine List.map_congr_left fun j _ => ?_
    rw [z]
    congr 1
    grind
  · rw [ite_no (decide_eq_false fun h => z (ofQ_zero.mp h)), mapW_eq (g := fun y : Fr × Fr => ofQ (toQ y.1 - s * toQ y.2)) fun y hy => ?_, bnd_ret]
    · congr 1
      refine List.ext_getElem (by rw [List.length_map, List.length_zip, fvec_len, fvec_len, fvec_len]; omega) fun k h1 h2 => ?_
      rw [fvec_get, List.getElem_map, List.getElem_zip, fvec_get, fvec_get, toQ_ofQ, toQ_ofQ]
    · obtain ⟨k, hk, rfl⟩ := List.getElem_of_mem hy
      rw [List.getElem_zip, fvec_get, fvec_get]
      rw [List.length_zip, fvec_len, fvec_len] at hk
      have kn : k < n := by omega
      rw [toQ_ofQ, toQ_ofQ]
      by_cases c : g k = 0
      · rw [ite_ok (decide_eq_true (ofQ_zero.mpr c)), c]
        congr 2
        grind
      · have sn : Sz 1950 (-(ofQ s).1, (ofQ s).2) := ⟨by show (-(ofQ s).1).natAbs < _; rw [Int.natAbs_neg]; exact hs.1, hs.2⟩
        have m := sz_mul (x := (-(ofQ s).1, (ofQ s).2)) (y := ofQ (g k)) (ofQ_ne s) (ofQ_ne _) sn (hg k kn)
        rw [ite_no (decide_eq_false fun h => c (ofQ_zero.mp h))]
        show bnd (w_law_mul ((-(ofQ s).1, (ofQ s).2), ofQ (g k), ())) (fun x => w_law_add (ofQ (f k), x, ())) = _
        rw [law_mul_eq (x := (-(ofQ s).1, (ofQ s).2)) (y := ofQ (g k)) (ofQ_ne s) (ofQ_ne _) (sn.up (by decide)) ((hg k kn).up (by decide)), bnd_ret, law_add_eq (ofQ_ne _) (ofQ_ne _) ((hf k kn).up (by decide)) (m.up (by decide)), toQ_ofQ, toQ_ofQ, toQ_neg, toQ_ofQ, toQ_ofQ]
        congr 2
        grind
abbrev frow (n : Nat) (V : Vec) (D : Int) : List Fr := fvec n fun j => Rat.divInt (V j) D
/-! ### one step -/
section
variable {A : List Vec} {Q : List Nat} {x : Vec} {t : Nat}
theorem step_left (h : NS A Q) (d : det Q A ≠ 0) (ht : Nv Q A x t ≠ 0) (y : Vec) (j : Nat) : det Q A * Nv (t :: Q) (x :: A) y j = Nv Q A y j * Nv Q A x t - Nv Q A y t * Nv Q A x j := by
  obtain ⟨w', hw', e'⟩ := Nv_cb (P := t :: Q) (A := x :: A) (x := y)
  obtain ⟨w, hw, e⟩ := Nv_cb (P := Q) (A := A) (x := y)
  obtain ⟨v, hv, ex⟩ := Nv_cb (P := Q) (A := A) (x := x)
  have dt : det (t :: Q) (x :: A) = Nv Q A x t := rfl
  have nx : Cb (x :: A) (Nv Q A x) := ⟨det Q A, v, hv, ex⟩
  have z := NS.step h d ht (fun j => 1 * (det Q A * w' j + (-(Nv Q A x t)) * w j) + Nv Q A y t * Nv Q A x j) (((hw'.lin hw.up).lin (a := 1) (b := Nv Q A y t) nx)) (fun p hp => by
    have e1 := e' p
    have e2 := e p
    rw [Nv_zero hp, dt] at e1
    show 1 * (det Q A * w' p + (-(Nv Q A x t)) * w p) + Nv Q A y t * Nv Q A x p = 0
    rcases List.mem_cons.mp hp with q | q
    · subst q
      grind
    · rw [Nv_zero q] at e2
      rw [Nv_zero q]
      grind) j
  have z : 1 * (det Q A * w' j + (-(Nv Q A x t)) * w j) + Nv Q A y t * Nv Q A x j = 0 := z
  have e1 := e' j
  have e2 := e j
  rw [dt] at e1
  grind
theorem step_found (h : NS A Q) (d : det Q A ≠ 0) (ht : Nv Q A x t ≠ 0) {m m' : Vec} {q : Nat} (hq : q ∈ Q) (hm : Cb A m) (hm' : Cb (x :: A) m') (m1 : m q = det Q A) (m0 : ∀ p ∈ Q, p ≠ q → m p = 0) (n1 : m' q = Nv Q A x t) (n0 : ∀ p ∈ t :: Q, p ≠ q → m' p = 0) (tq : t ≠ q) (j : Nat) : det Q A * m' j = m j * Nv Q A x t - m t * Nv Q A x j := by
  obtain ⟨v, hv, ex⟩ := Nv_cb (P := Q) (A := A) (x := x)
  have nx : Cb (x :: A) (Nv Q A x) := ⟨det Q A, v, hv, ex⟩
  have z := NS.step h d ht (fun j => 1 * (det Q A * m' j + (-(Nv Q A x t)) * m j) + m t * Nv Q A x j) (((hm'.lin hm.up).lin (a := 1) (b := m t) nx)) (fun p hp => by
    show 1 * (det Q A * m' p + (-(Nv Q A x t)) * m p) + m t * Nv Q A x p = 0
    rcases List.mem_cons.mp hp with y | y
    · subst y
      rw [n0 p hp tq]
      grind
    · rw [Nv_zero y]
      by_cases c : p = q
      · subst c
        rw [n1, m1]; grind
      · rw [n0 p hp c, m0 p y c]; grind) j
  have z : 1 * (det Q A * m' j + (-(Nv Q A x t)) * m j) + m t * Nv Q A x j = 0 := z
  grind
end
theorem cb_out {j : Nat} : ∀ {rs : List Vec} {u : Vec}, (∀ r ∈ rs, r j = 0) → Cb rs u → u j = 0
  | [], _, _, h => h j
  | r :: rs, u, hr, ⟨c, v, h, e⟩ => by
    rw [e, hr r List.mem_cons_self, cb_out (fun x hx => hr x (List.mem_cons_of_mem _ hx)) h]
    simp
theorem srt_len : ∀ {Q : List Nat} {t : Nat}, Q.Pairwise (· > ·) → (∀ q ∈ Q, q < t) → Q.length ≤ t
  | [], _, _, _ => Nat.zero_le _
  | q :: Q, t, h, hl => by
    obtain ⟨h1, h2⟩ := List.pairwise_cons.mp h
    have := srt_len h2 (t := q) fun z hz => h1 z hz
    have := hl q List.mem_cons_self
    rw [List.length_cons]
    omega
/-! ### fractions of minors -/
theorem q_left {D c d a b x y : Int} (D0 : D ≠ 0) (c0 : c ≠ 0) (d0 : d ≠ 0) (h : D * y = a * d - b * x) : Rat.divInt a (D * c) - Rat.divInt b (D * c) * Rat.divInt x d = Rat.divInt y (d * c) := by
  simp only [Rat.divInt_eq_div]
  have h2 : (D : Rat) * (y : Rat) = (a : Rat) * (d : Rat) - (b : Rat) * (x : Rat) := by exact_mod_cast h
  have D1 : (D : Rat) ≠ 0 := by exact_mod_cast D0
  have c1 : (c : Rat) ≠ 0 := by exact_mod_cast c0
  have d1 : (d : Rat) ≠ 0 := by exact_mod_cast d0
  rw [Rat.intCast_mul, Rat.intCast_mul]
  grind
theorem q_head {E a b : Int} (E0 : E ≠ 0) (b0 : b ≠ 0) : (Rat.divInt b E)⁻¹ * Rat.divInt a E = Rat.divInt a b := by
  simp only [Rat.divInt_eq_div]
  have E1 : (E : Rat) ≠ 0 := by exact_mod_cast E0
  have b1 : (b : Rat) ≠ 0 := by exact_mod_cast b0
  grind
end Dc
/-! D9: the law's own form, at the law. -/
namespace Dc
open PySem PySem.Spec L2
structure LF (n X : Nat) (rows : List (List Fr)) (t : Nat) (A : List Vec) (Q : List Nat) (ys : List (List Fr)) (M : Nat → Vec) (left found : List (List Fr)) : Prop where
  sub : ∀ y ∈ ys, y ∈ rows
  asub : ∀ a ∈ A, ∃ r ∈ rows, a = rowV r
  cov : ∀ r ∈ rows, r ∈ ys ∨ rowV r ∈ A
  few : ys.length ≤ rows.length
  len : A.length = Q.length
  srt : Q.Pairwise (· > ·)
  lt : ∀ q ∈ Q, q < t
  ns : NS A Q
  dz : det Q A ≠ 0
  zero : ∀ y ∈ ys, ∀ j, j < t → Nv Q A (rowV y) j = 0
  sp : ∀ q ∈ Q, Cb A (M q)
  one : ∀ q ∈ Q, M q q = det Q A
  off : ∀ q ∈ Q, ∀ p ∈ Q, p ≠ q → M q p = 0
  bd : ∀ q ∈ Q, ∀ j, (M q j).natAbs ≤ X
  low : ∀ q ∈ Q, ∀ j, j < q → M q j = 0
  eleft : left = ys.map fun r => frow n (Nv Q A (rowV r)) (det Q A * lcmL r)
  efound : found = Q.reverse.map fun q => frow n (M q) (det Q A)
theorem frow_self {n : Nat} {r : List Fr} (hl : r.length = n) (hr : ∀ x ∈ r, Red x) : r = frow n (rowV r) (lcmL r) := by
  refine List.ext_getElem (by rw [fvec_len, hl]) fun k h1 h2 => ?_
  rw [fvec_get]
  have hx : r[k] ∈ r := List.getElem_mem h1
  have e : at0 (intsL r) k = r[k].1 * Int.fdiv (lcmL r) r[k].2 := by
    rw [at0_get (by rw [ints_len]; exact h1)]
    simp only [intsL, List.getElem_map]
  show _ = ofQ (Rat.divInt (at0 (intsL r) k) (lcmL r))
  rw [e, over (hr _ hx).1 (lcmL_pos hr) (lcmL_dvd hr hx), ofQ_toQ (hr _ hx)]
theorem fvec_ix {n k : Nat} {f : Nat → Rat} (h : k < n) : ixOk (fvec n f) (k : Int) = true ∧ ixAt (fvec n f) (k : Int) = ofQ (f k) := by
  have hk : k < (fvec n f).length := by rw [fvec_len]; exact h
  obtain ⟨a, b⟩ := ix_nat hk
  exact ⟨a, by rw [b, fvec_get]⟩
theorem fvec_cong {n : Nat} {f g : Nat → Rat} (h : ∀ j, j < n → f j = g j) : fvec n f = fvec n g := List.map_congr_left fun j hj => by rw [h j (List.mem_range.mp hj)]
theorem sz_div {a b : Int} {k : Nat} (hb : b ≠ 0) (h1 : a.natAbs < 2 ^ k) (h2 : b.natAbs < 2 ^ k) : Sz k (ofQ (Rat.divInt a b)) := sz_low hb h1 h2
theorem divInt_ne {a b : Int} (ha : a ≠ 0) (hb : b ≠ 0) : Rat.divInt a b ≠ 0 := fun h => by
  have e : Rat.divInt a b = Rat.divInt 0 1 := by rw [h]; rfl
  have := (Rat.divInt_eq_divInt_iff hb (by decide)).mp e
  simp at this
  exact ha this
structure Lim2 (n B X : Nat) (rows : List (List Fr)) : Prop where
  L : Lim n B X (rows.map rowV)
  rin : ∀ r ∈ rows, Rin n B r
  lb : ∀ r ∈ rows, (lcmL r).natAbs ≤ B
  xb : X * B < 2 ^ 1950
  b1 : 1 ≤ B
section
variable {n B X : Nat} {rows : List (List Fr)} {t : Nat} {A : List Vec} {Q : List Nat} {ys : List (List Fr)} {M : Nat → Vec} {left found : List (List Fr)}
theorem LF.bA (F : LF n X rows t A Q ys M left found) (L : Lim2 n B X rows) : ∀ r ∈ A, ∀ j, (r j).natAbs ≤ B := fun a ha j => by
  obtain ⟨r, hr, rfl⟩ := F.asub a ha
  exact (L.rin r hr).bd j
theorem LF.ql (F : LF n X rows t A Q ys M left found) : Q.length ≤ t := srt_len F.srt F.lt
theorem LF.nb (F : LF n X rows t A Q ys M left found) (L : Lim2 n B X rows) (ht : t < n) {y : List Fr} (hy : y ∈ rows) (j : Nat) : (Nv Q A (rowV y) j).natAbs ≤ X := by
  have q := F.ql
  have l := F.len
  refine Nat.le_trans (det_bd (B := B) (N := n) (ps := j :: Q) (rs := rowV y :: A) (by rw [List.length_cons]; omega) fun r hr => ?_) (L.L.hX _ (by rw [List.length_cons]; omega))
  rcases List.mem_cons.mp hr with z | z
  · rw [z]; exact (L.rin y hy).bd
  · exact F.bA L r z
theorem LF.db (F : LF n X rows t A Q ys M left found) (L : Lim2 n B X rows) (ht : t ≤ n) : (det Q A).natAbs ≤ X := by
  have q := F.ql
  have l := F.len
  exact Nat.le_trans (det_bd (B := B) (N := n) (by omega) (F.bA L)) (L.L.hX _ (by omega))
theorem Lim2.x (L : Lim2 n B X rows) : X < 2 ^ 1950 := Nat.lt_of_le_of_lt (Nat.le_mul_of_pos_right X (by have := L.b1; omega)) L.xb
/-- nothing to be done at this place -/
theorem LF.skip (F : LF n X rows t A Q ys M left found) (h : ∀ y ∈ ys, Nv Q A (rowV y) t = 0) : LF n X rows (t + 1) A Q ys M left found := by
  have z : ∀ y ∈ ys, ∀ j, j < t + 1 → Nv Q A (rowV y) j = 0 := fun y hy j hj => by
    by_cases c : j = t
    · rw [c]; exact h y hy
    · exact F.zero y hy j (by omega)
  exact { F with lt := fun q hq => Nat.lt_succ_of_lt (F.lt q hq), zero := z }
/-- a head more -/
theorem LF.take (F : LF n X rows t A Q ys M left found) (L : Lim2 n B X rows) (ht : t < n) {i : Nat} (hi : i < ys.length) (nz : Nv Q A (rowV ys[i]) t ≠ 0) : ∃ M', LF n X rows (t + 1) (rowV ys[i] :: A) (t :: Q) (ys.eraseIdx i) M' ((ys.eraseIdx i).map fun r => frow n (Nv (t :: Q) (rowV ys[i] :: A) (rowV r)) (det (t :: Q) (rowV ys[i] :: A) * lcmL r)) ((t :: Q).reverse.map fun q => frow n (M' q) (det (t :: Q) (rowV ys[i] :: A))) ∧
    (∀ q ∈ Q, ∀ j, det Q A * M' q j = M q j * Nv Q A (rowV ys[i]) t - M q t * Nv Q A (rowV ys[i]) j) ∧ ∀ j, M' t j = Nv Q A (rowV ys[i]) j := by
  have xr := F.sub _ (List.getElem_mem hi)
  have tQ : t ∉ Q := fun h => Nat.lt_irrefl _ (F.lt t h)
  have srt' : (t :: Q).Pairwise (· > ·) := List.pairwise_cons.mpr ⟨F.lt, F.srt⟩
  have nd : (t :: Q).Nodup := srt'.imp fun h => by have : _ > _ := h; omega
  have ql := F.ql
  have len' : (rowV ys[i] :: A).length = (t :: Q).length := by rw [List.length_cons, List.length_cons, F.len]
  have bA' : ∀ r ∈ rowV ys[i] :: A, ∀ j, (r j).natAbs ≤ B := fun r hr => by
    rcases List.mem_cons.mp hr with z | z
    · rw [z]; exact (L.rin _ xr).bd
    · exact F.bA L r z
  have lN : (rowV ys[i] :: A).length ≤ n := by rw [len', List.length_cons]; omega
  have c : ∀ p, ∃ Mp : Vec, p ∈ t :: Q → Cb (rowV ys[i] :: A) Mp ∧ Mp p = det (t :: Q) (rowV ys[i] :: A) ∧ (∀ q ∈ t :: Q, q ≠ p → Mp q = 0) ∧ (∀ j, (Mp j).natAbs ≤ X) ∧ (p = t → ∀ j, Mp j = Nv Q A (rowV ys[i]) j) := fun p => by
    by_cases e : p = t
    · subst e
      refine ⟨Nv Q A (rowV ys[i]), fun _ => ⟨?_, rfl, fun q hq hne => ?_, F.nb L ht xr, fun _ _ => rfl⟩⟩
      · obtain ⟨u, hu, eu⟩ := Nv_cb (P := Q) (A := A) (x := rowV ys[i])
        exact ⟨_, u, hu, eu⟩
      · exact Nv_zero ((List.mem_cons.mp hq).resolve_left hne)
    · by_cases hp : p ∈ t :: Q
      · obtain ⟨Mp, h1, h2, h3, h4⟩ := cof hp nd lN bA'
        exact ⟨Mp, fun _ => ⟨h1, h2, h3, fun j => Nat.le_trans (h4 j) (L.L.hX _ (by rw [List.length_cons]; omega)), fun z => absurd z e⟩⟩
      · exact ⟨fun _ => 0, fun h => absurd h hp⟩
  obtain ⟨M', hM⟩ := Classical.axiomOfChoice c
  have key : ∀ q ∈ Q, ∀ j, det Q A * M' q j = M q j * Nv Q A (rowV ys[i]) t - M q t * Nv Q A (rowV ys[i]) j := fun q hq j => by
    obtain ⟨h1, h2, h3, _, _⟩ := hM q (List.mem_cons_of_mem _ hq)
    exact step_found F.ns F.dz nz hq (F.sp q hq) h1 (F.one q hq) (fun p hp hne => F.off q hq p hp hne) h2 (fun p hp hne => h3 p hp hne) (fun e => tQ (e ▸ hq)) j
  have mt : ∀ j, M' t j = Nv Q A (rowV ys[i]) j := (hM t List.mem_cons_self).2.2.2.2 rfl
  refine ⟨M', ⟨fun y hy => F.sub y (List.mem_of_mem_eraseIdx hy), fun a ha => ?_, fun r hr => ?_, ?_, len', srt', fun q hq => ?_, NS.step F.ns F.dz nz, nz, fun y hy j hj => ?_, fun q hq => (hM q hq).1, fun q hq => (hM q hq).2.1, fun q hq p hp hne => (hM q hq).2.2.1 p hp hne, fun q hq => (hM q hq).2.2.2.1, fun q hq j hj => ?_, rfl, rfl⟩, key, mt⟩
  · rcases List.mem_cons.mp ha with z | z
    · exact ⟨_, xr, z⟩
    · exact F.asub a z
  · rcases F.cov r hr with z | z
    · obtain ⟨k, hk, e⟩ := List.getElem_of_mem z
      by_cases ki : k = i
      · subst ki
        exact .inr (by rw [e]; exact List.mem_cons_self)
      · exact .inl (List.mem_eraseIdx_iff_getElem.mpr ⟨k, hk, ki, e⟩)
    · exact .inr (List.mem_cons_of_mem _ z)
  · rw [List.length_eraseIdx]
    have := F.few
    split <;> omega
  · rcases List.mem_cons.mp hq with z | z
    · omega
    · have := F.lt q z; omega
  · have s := step_left F.ns F.dz nz (rowV y) j
    have hy' := List.mem_of_mem_eraseIdx hy
    have e1 : Nv Q A (rowV y) j * Nv Q A (rowV ys[i]) t - Nv Q A (rowV y) t * Nv Q A (rowV ys[i]) j = 0 := by
      by_cases c : j = t
      · rw [c]; grind
      · rw [F.zero y hy' j (by omega), F.zero _ (List.getElem_mem hi) j (by omega)]; simp
    rw [e1] at s
    exact (Int.mul_eq_zero.mp s).resolve_left F.dz
  · rcases List.mem_cons.mp hq with z | z
    · subst z
      rw [mt]
      exact F.zero _ (List.getElem_mem hi) j hj
    · have k := key q z j
      rw [F.low q z j hj, F.zero _ (List.getElem_mem hi) j (by have := F.lt q z; omega)] at k
      have k : det Q A * M' q j = 0 := by rw [k]; simp
      exact (Int.mul_eq_zero.mp k).resolve_left F.dz
/-- all places done -/
theorem LF.rf (F : LF n X rows n A Q ys M left found) (L : Lim2 n B X rows) : RF n X (rows.map rowV) Q.reverse (det Q A) M ∧ found = form n Q.reverse (det Q A) M := by
  have mem : ∀ {q}, q ∈ Q.reverse → q ∈ Q := fun h => List.mem_reverse.mp h
  have Asp : ∀ a ∈ A, Sp (rows.map rowV) a := fun a ha => by
    obtain ⟨r, hr, rfl⟩ := F.asub a ha
    exact (Cb.mem (List.mem_map.mpr ⟨r, hr, rfl⟩)).sp
  have out : ∀ r ∈ rows, ∀ j, n ≤ j → rowV r j = 0 := fun r hr j hj => at0_out (by rw [ints_len, (L.rin r hr).len]; exact hj)
  have cov : ∀ v ∈ rows.map rowV, Sp A v := fun v hv => by
    obtain ⟨r, hr, rfl⟩ := List.mem_map.mp hv
    rcases F.cov r hr with z | z
    · obtain ⟨w, hw, e⟩ := Nv_cb (P := Q) (A := A) (x := rowV r)
      refine ⟨det Q A, F.dz, (hw.mul (a := -1)).ext fun j => ?_⟩
      have := e j
      have n0 : Nv Q A (rowV r) j = 0 := by
        by_cases c : j < n
        · exact F.zero r z j c
        · have wj : w j = 0 := cb_out (fun a ha => by
            obtain ⟨r', hr', rfl⟩ := F.asub a ha
            exact out r' hr' j (by omega)) hw
          rw [this, wj, out r hr j (by omega)]; simp
      rw [n0] at this
      omega
    · exact (Cb.mem z).sp
  refine ⟨⟨by rw [List.pairwise_reverse]; exact F.srt, fun p hp => F.lt p (mem hp), F.dz, F.db L (Nat.le_refl _), fun p hp => (cb_sp Asp (F.sp p (mem hp))), fun p hp => F.bd p (mem hp), fun p hp => F.one p (mem hp), fun p hp q hq => F.off p (mem hp) q (mem hq), fun p hp => F.low p (mem hp), fun u hu h0 => ns_full F.ns (hu.trans cov) fun p hp => h0 p (List.mem_reverse.mpr hp)⟩, F.efound⟩
end
end Dc
/-! D10: the law's own form. -/
namespace Dc
open PySem PySem.Spec L2
theorem eraseIdx_map' {α β : Type} {f : α → β} : ∀ (l : List α) (i : Nat), (l.map f).eraseIdx i = (l.eraseIdx i).map f
  | [], _ => rfl
  | _ :: _, 0 => rfl
  | x :: l, i + 1 => by
    show f x :: (l.map f).eraseIdx i = f x :: (l.eraseIdx i).map f
    rw [eraseIdx_map' l i]
theorem mapW_map {α β γ : Type} {f : β → W γ} {g : α → β} {h : α → γ} : ∀ {l : List α}, (∀ x ∈ l, f (g x) = ret (h x)) → mapW f (l.map g) = ret (l.map h)
  | [], _ => rfl
  | x :: l, hx => by
    show bnd (f (g x)) _ = _
    rw [hx x List.mem_cons_self, bnd_ret]
    have ih := mapW_map (l := l) fun y hy => hx y (List.mem_cons_of_mem _ hy)
    show bnd (mapW f (l.map g)) _ = _
    rw [ih, bnd_ret]
    rfl
theorem q_found {D d a b x y : Int} (D0 : D ≠ 0) (d0 : d ≠ 0) (h : D * y = a * d - b * x) : Rat.divInt a D - Rat.divInt b D * Rat.divInt x d = Rat.divInt y d := by
  have := q_left (c := 1) D0 (by decide) d0 h
  rw [Int.mul_one, Int.mul_one] at this
  exact this
theorem inv_div (q : Rat) : Rat.divInt (ofQ q).2 (ofQ q).1 = q⁻¹ := (Rat.inv_def q).symm
section
variable {n B X : Nat} {rows : List (List Fr)} {t : Nat} {A : List Vec} {Q : List Nat} {ys : List (List Fr)} {M : Nat → Vec} {left found : List (List Fr)}
theorem LF.at_ (F : LF n X rows t A Q ys M left found) {i : Nat} (hi : i < ys.length) : ixOk left (i : Int) = true ∧ ixAt left (i : Int) = frow n (Nv Q A (rowV ys[i])) (det Q A * lcmL ys[i]) := by
  have hl : i < left.length := by rw [F.eleft, List.length_map]; exact hi
  obtain ⟨a, b⟩ := ix_nat hl
  refine ⟨a, ?_⟩
  rw [b]
  simp only [F.eleft, List.getElem_map]
theorem LF.en (F : LF n X rows t A Q ys M left found) (L : Lim2 n B X rows) {y : List Fr} (hy : y ∈ rows) : det Q A * lcmL y ≠ 0 := Int.mul_ne_zero F.dz (by have := lcmL_pos (L.rin y hy).red; omega)
theorem LF.eb (F : LF n X rows t A Q ys M left found) (L : Lim2 n B X rows) (ht : t ≤ n) {y : List Fr} (hy : y ∈ rows) : (det Q A * lcmL y).natAbs < 2 ^ 1950 := by
  rw [Int.natAbs_mul]
  exact Nat.lt_of_le_of_lt (Nat.mul_le_mul (F.db L ht) (L.lb y hy)) L.xb
theorem LF.sz (F : LF n X rows t A Q ys M left found) (L : Lim2 n B X rows) (ht : t < n) {y : List Fr} (hy : y ∈ rows) (j : Nat) : Sz 1950 (ofQ (Rat.divInt (Nv Q A (rowV y) j) (det Q A * lcmL y))) := sz_div (F.en L hy) (Nat.lt_of_le_of_lt (F.nb L ht hy j) L.x) (F.eb L (Nat.le_of_lt ht) hy)
theorem spot_iff (F : LF n X rows t A Q ys M left found) (L : Lim2 n B X rows) (ht : t < n) {i : Nat} (hi : i < ys.length) : (!decide ((ixAt (ixAt left (i : Int)) (t : Int)).1 = 0)) = !decide (Nv Q A (rowV ys[i]) t = 0) := by
  rw [(F.at_ hi).2, (fvec_ix ht).2]
  congr 1
  have yr := F.sub _ (List.getElem_mem hi)
  have e : (ofQ (Rat.divInt (Nv Q A (rowV ys[i]) t) (det Q A * lcmL ys[i]))).1 = 0 ↔ Nv Q A (rowV ys[i]) t = 0 := by
    rw [ofQ_zero]
    constructor
    · intro h
      exact Decidable.byContradiction fun z => divInt_ne z (F.en L yr) h
    · intro h; rw [h]; exact Rat.zero_divInt _
  by_cases c : Nv Q A (rowV ys[i]) t = 0
  · rw [decide_eq_true c, decide_eq_true (e.mpr c)]
  · rw [decide_eq_false c, decide_eq_false fun z => c (e.mp z)]
end
theorem law_form_tr {n B X : Nat} {rows : List (List Fr)} (L : Lim2 n B X rows) (hr : rows.length ≤ 1000000) (hn : n ≤ 1000000) : Tr 0 (w_law_form (rows, (n : Int), ())) (fun F => ∃ P D M, RF n X (rows.map rowV) P D M ∧ F = form n P D M) := by
  unfold w_law_form wb_law_form
  simp only [bnd_ret, bnd_assoc, bnd_grd, grd_true, fnR_bnd, fnR_ite, fnR_grd, fnR_ret, sq_nx, sq_rt, mapW_ret]
  refine Tr.any fun a => ?_
  rw [grd_ok (rngOk_n hn), Int.toNat_natCast]
  refine Tr.then (n := 0) 0 ((Tr.rngB (m := 0) (R := fun t s => ∃ A Q ys M, LF n X rows t A Q ys M s.1.1 s.2) (Q := fun _ => False) n 0 _ ⟨[], [], rows, fun _ _ => 0, fun y h => h, fun a h => absurd h (by simp), fun r h => .inl h, Nat.le_refl _, rfl, .nil, fun q h => absurd h (by simp), NS.nil, by show (1 : Int) ≠ 0; decide, fun y _ j h => absurd h (Nat.not_lt_zero j), fun q h => absurd h (by simp), fun q h => absurd h (by simp), fun q h => absurd h (by simp), fun q h => absurd h (by simp), fun q h => absurd h (by simp), ?_, rfl⟩ fun t ht s hs => ?_).up (by simp)) fun fl hfl => ?_
  · show rows = _
    conv => lhs; rw [← List.map_id rows]
    refine List.map_congr_left fun r hr => ?_
    have e := frow_self (L.rin r hr).len (L.rin r hr).red
    show r = frow n (Nv [] [] (rowV r)) (det [] [] * lcmL r)
    have e2 : Nv [] [] (rowV r) = rowV r := by
      funext j
      show rowV r j * 1 - 0 = _
      omega
    rw [e2]
    show r = frow n (rowV r) (1 * lcmL r)
    rw [Int.one_mul]
    exact e
  · obtain ⟨A, Q, ys, M, F⟩ := hs
    rw [Nat.zero_add] at F
    simp only [Nat.zero_add]
    obtain ⟨⟨left, a⟩, found⟩ := s
    have F : LF n X rows t A Q ys M left found := F
    have ll : left.length = ys.length := by rw [F.eleft, List.length_map]
    have fw := F.few
    rw [ll, grd_ok (rngOk_n (by omega)), Int.toNat_natCast]
    rw [filW_eq (b := fun k : Int => !decide ((ixAt (ixAt left k) (t : Int)).1 = 0)) fun k hk => ?_, bnd_ret, eqv_nil]
    · cases hsp : (rangeF 0 ys.length).filter (fun k : Int => !decide ((ixAt (ixAt left k) (t : Int)).1 = 0)) with
      | nil =>
        rw [show ((!([] : List Int).isEmpty) = false) from rfl, ite_no rfl, bnd_assoc]
        refine Tr.any fun a1 => ?_
        rw [bnd_ret, sq_nx]
        refine Tr.any fun a2 => Tr.ret (.inl ⟨_, rfl, A, Q, ys, M, F.skip fun y hy => ?_⟩)
        obtain ⟨i, hi, rfl⟩ := List.getElem_of_mem hy
        have := List.filter_eq_nil_iff.mp hsp (i : Int) (by
          have hr : i < (rangeF 0 ys.length).length := by rw [rangeF_len]; exact hi
          have e := rangeF_get 0 ys.length i _ (List.getElem?_eq_getElem hr)
          rw [Int.zero_add] at e
          rw [← e.1]
          exact List.getElem_mem hr)
        rw [spot_iff F L ht hi] at this
        simpa using this
      | cons k r =>
        have hk : k ∈ (rangeF 0 ys.length).filter (fun k : Int => !decide ((ixAt (ixAt left k) (t : Int)).1 = 0)) := by rw [hsp]; exact List.mem_cons_self
        obtain ⟨hk1, hk2⟩ := List.mem_filter.mp hk
        have hk3 := rangeF_mem hk1
        obtain ⟨i, rfl⟩ := Int.eq_ofNat_of_zero_le hk3.1
        have hi : i < ys.length := by omega
        rw [spot_iff F L ht hi] at hk2
        have nz : Nv Q A (rowV ys[i]) t ≠ 0 := by simpa using hk2
        have yr := F.sub _ (List.getElem_mem hi)
        have i0 := ix_nat (l := ((i : Int)) :: r) (i := 0) (by simp)
        have i1 := F.at_ hi
        have i2 := fvec_ix (n := n) (k := t) (f := fun j => Rat.divInt (Nv Q A (rowV ys[i]) j) (det Q A * lcmL ys[i])) ht
        have i3 : (ixN ys.length (i : Int)).getD 0 = i := by rw [ixN_of (by omega) (by omega)]; simp
        have h0 := divInt_ne nz (F.en L yr)
        have hs := F.sz L ht yr t
        obtain ⟨M', F', kf, km⟩ := F.take L ht hi nz
        have pok : popAtOk left (i : Int) = true := by
          unfold popAtOk
          rw [i1.1, decide_eq_true (by omega), decide_eq_true (by omega)]
          rfl
        have i00 : ixAt ((i : Int) :: r) 0 = (i : Int) := by have := i0.2; simpa using this
        have i01 : ixOk ((i : Int) :: r) 0 = true := by have := i0.1; simpa using this
        rw [show (!((i : Int) :: r).isEmpty) = true from rfl, ite_ok rfl]
        dsimp only
        rw [grd_ok i01, i00, grd_ok pok, i1.2, grd_ok i2.1, grd_ok i2.1, i2.2, law_low_eq (fun z => h0 (ofQ_zero.mp z)) (pow_mono hs.1 (by decide)), inv_div, bnd_ret]
        have b0 : (ofQ (Rat.divInt (Nv Q A (rowV ys[i]) t) (det Q A * lcmL ys[i]))).1 ≠ 0 := fun z => h0 (ofQ_zero.mp z)
        have sinv : Sz 1950 (ofQ (Rat.divInt (Nv Q A (rowV ys[i]) t) (det Q A * lcmL ys[i]))⁻¹) := by
          rw [← inv_div]
          exact sz_low b0 hs.2 hs.1
        have e1 : mapW (fun y904 => w_law_mul (ofQ (Rat.divInt (Nv Q A (rowV ys[i]) t) (det Q A * lcmL ys[i]))⁻¹, y904, ())) (frow n (Nv Q A (rowV ys[i])) (det Q A * lcmL ys[i])) = ret (frow n (Nv Q A (rowV ys[i])) (Nv Q A (rowV ys[i]) t)) := mapW_map (g := fun k => ofQ (Rat.divInt (Nv Q A (rowV ys[i]) k) (det Q A * lcmL ys[i]))) fun j _ => by
          rw [law_mul_eq (ofQ_ne _) (ofQ_ne _) (sinv.up (by decide)) ((F.sz L ht yr j).up (by decide)), toQ_ofQ, toQ_ofQ, q_head (F.en L yr) nz]
        have xs := L.x
        have sd : ∀ j, Sz 1950 (ofQ (Rat.divInt (Nv Q A (rowV ys[i]) j) (Nv Q A (rowV ys[i]) t))) := fun j => sz_div nz (Nat.lt_of_le_of_lt (F.nb L ht yr j) xs) (Nat.lt_of_le_of_lt (F.nb L ht yr t) xs)
        have e2 : mapW (fun y911 => grd (ixOk y911 (t : Int)) (w_law_minus (y911, ixAt y911 (t : Int), frow n (Nv Q A (rowV ys[i])) (Nv Q A (rowV ys[i]) t), ()))) (left.eraseIdx i) = ret ((ys.eraseIdx i).map fun r => frow n (Nv (t :: Q) (rowV ys[i] :: A) (rowV r)) (det (t :: Q) (rowV ys[i] :: A) * lcmL r)) := by
          rw [F.eleft, eraseIdx_map']
          refine mapW_map fun y hy => ?_
          have yr' := F.sub _ (List.mem_of_mem_eraseIdx hy)
          have i4 := fvec_ix (n := n) (k := t) (f := fun j => Rat.divInt (Nv Q A (rowV y) j) (det Q A * lcmL y)) ht
          rw [grd_ok i4.1, i4.2, law_minus_eq (fun j _ => F.sz L ht yr' j) (fun j _ => sd j) (F.sz L ht yr' t)]
          congr 1
          exact fvec_cong fun j _ => q_left F.dz (by have := lcmL_pos (L.rin y yr').red; omega) nz (step_left F.ns F.dz nz (rowV y) j)
        have e3 : mapW (fun y911 => grd (ixOk y911 (t : Int)) (w_law_minus (y911, ixAt y911 (t : Int), frow n (Nv Q A (rowV ys[i])) (Nv Q A (rowV ys[i]) t), ()))) found = ret (Q.reverse.map fun q => frow n (M' q) (det (t :: Q) (rowV ys[i] :: A))) := by
          rw [F.efound]
          refine mapW_map fun q hq => ?_
          have hq := List.mem_reverse.mp hq
          have i4 := fvec_ix (n := n) (k := t) (f := fun j => Rat.divInt (M q j) (det Q A)) ht
          have sq : ∀ j, Sz 1950 (ofQ (Rat.divInt (M q j) (det Q A))) := fun j => sz_div F.dz (Nat.lt_of_le_of_lt (F.bd q hq j) xs) (Nat.lt_of_le_of_lt (F.db L (Nat.le_of_lt ht)) xs)
          rw [grd_ok i4.1, i4.2, law_minus_eq (fun j _ => sq j) (fun j _ => sd j) (sq t)]
          congr 1
          exact fvec_cong fun j _ => q_found F.dz nz (kf q hq j)
        have ql := F.ql
        rw [e1, bnd_ret, i3, e2, bnd_ret, e3, bnd_ret, grd_ok (decide_eq_true (by rw [List.length_map, List.length_reverse]; simp; omega)), bnd_assoc]
        refine Tr.any fun a1 => ?_
        rw [bnd_ret, sq_nx]
        refine Tr.any fun a2 => Tr.ret (.inl ⟨_, rfl, rowV ys[i] :: A, t :: Q, ys.eraseIdx i, M', ?_⟩)
        have e4 : (Q.reverse.map fun q => frow n (M' q) (det (t :: Q) (rowV ys[i] :: A))) ++ [frow n (Nv Q A (rowV ys[i])) (Nv Q A (rowV ys[i]) t)] = (t :: Q).reverse.map fun q => frow n (M' q) (det (t :: Q) (rowV ys[i] :: A)) := by
          rw [List.reverse_cons, List.map_append, List.map_singleton, show M' t = Nv Q A (rowV ys[i]) from funext km]
          rfl
        show LF n X rows (t + 1) _ _ _ M' _ _
        rw [e4]
        exact F'
    · have hk3 := rangeF_mem hk
      obtain ⟨i, rfl⟩ := Int.eq_ofNat_of_zero_le hk3.1
      have hi : i < ys.length := by omega
      rw [grd_ok (F.at_ hi).1, (F.at_ hi).2, grd_ok (fvec_ix ht).1]
  · obtain ⟨s', rfl, h | h⟩ := hfl
    · obtain ⟨A, Q, ys, M, F⟩ := h
      rw [Nat.zero_add] at F
      obtain ⟨h1, h2⟩ := F.rf L
      rw [sq_nx]
      exact Tr.ret ⟨_, _, _, h1, h2⟩
    · exact h.elim
end Dc
/-! D11: reduced on rows of a form: the form itself. -/
namespace Dc
open PySem PySem.Spec L2
theorem lcmL_least : ∀ (l : List Fr) (s M : Int), s ∣ M → (∀ x ∈ l, x.2 ∣ M) → l.foldl (fun s x => ((Nat.lcm s.natAbs x.2.natAbs : Nat) : Int)) s ∣ M
  | [], s, M, h, _ => h
  | x :: r, s, M, h, hx => lcmL_least r ((Nat.lcm s.natAbs x.2.natAbs : Nat) : Int) M (Int.natAbs_dvd_natAbs.mp (by rw [Int.natAbs_natCast]; exact Nat.lcm_dvd (Int.natAbs_dvd_natAbs.mpr h) (Int.natAbs_dvd_natAbs.mpr (hx x List.mem_cons_self)))) fun y hy => hx y (List.mem_cons_of_mem _ hy)
theorem lcmL_dvd_of {l : List Fr} {M : Int} (h : ∀ x ∈ l, x.2 ∣ M) : lcmL l ∣ M := lcmL_least l 1 M (Int.one_dvd _) h
theorem fvec_red {n : Nat} {f : Nat → Rat} : ∀ z ∈ fvec n f, Red z := fun z hz => by
  obtain ⟨k, _, rfl⟩ := List.mem_map.mp hz
  exact red_ofQ _
theorem rowV_get {r : List Fr} {k : Nat} (h : k < r.length) : rowV r k = r[k].1 * Int.fdiv (lcmL r) r[k].2 := by
  show at0 (intsL r) k = _
  rw [at0_get (by rw [ints_len]; exact h)]
  simp only [intsL, List.getElem_map]
/-- the integers of a row, and its fractions -/
theorem rowV_frow {n : Nat} {V : Vec} {D : Int} (hD : D ≠ 0) {j : Nat} (hj : j < n) : rowV (frow n V D) j * D = V j * lcmL (frow n V D) := by
  have hl : (frow n V D).length = n := fvec_len
  have e : (frow n V D)[j]? = (frow n (rowV (frow n V D)) (lcmL (frow n V D)))[j]? := congrArg (fun r : List Fr => r[j]?) (frow_self (n := n) hl fvec_red)
  rw [List.getElem?_eq_getElem (by rw [hl]; exact hj), List.getElem?_eq_getElem (by rw [fvec_len]; exact hj), fvec_get, fvec_get] at e
  have e := ofQ_inj (Option.some.inj e)
  have lp := lcmL_pos (l := frow n V D) fvec_red
  have := (Rat.divInt_eq_divInt_iff hD (by omega)).mp e
  omega
theorem prim_row {r : List Fr} (hr : ∀ x ∈ r, Red x) {p : Nat} (hp : p < r.length) (h1 : r[p] = (1, 1)) : Prim (rowV r) := fun b hb => .inl (by
  have lp := lcmL_pos hr
  have e := hb p
  rw [rowV_get hp, h1] at e
  have e1 : (1 : Int) * Int.fdiv (lcmL r) 1 = lcmL r := by rw [Int.fdiv_eq_ediv_of_nonneg _ (by decide)]; simp
  change b ∣ (1 : Int) * Int.fdiv (lcmL r) 1 at e
  rw [e1] at e
  obtain ⟨L', hL⟩ := e
  have b0 : b ≠ 0 := fun z => by rw [z, Int.zero_mul] at hL; omega
  have d : lcmL r ∣ L' := lcmL_dvd_of fun x hx => by
    obtain ⟨k, hk, rfl⟩ := List.getElem_of_mem hx
    obtain ⟨c, hc⟩ := hb k
    rw [rowV_get hk] at hc
    have rk := hr _ (List.getElem_mem hk)
    obtain ⟨m, hm⟩ := lcmL_dvd hr (List.getElem_mem hk)
    have pos := rk.1
    have e2 : Int.fdiv (lcmL r) r[k].2 = m := by rw [Int.fdiv_eq_ediv_of_nonneg _ (by omega), hm, Int.mul_ediv_cancel_left _ (by omega)]
    rw [e2] at hc
    have e3 : r[k].1 * L' = r[k].2 * c := by
      have : b * (r[k].1 * L') = b * (r[k].2 * c) := by
        have t1 : b * (r[k].1 * L') = r[k].1 * (b * L') := by grind
        rw [t1, ← hL, hm]
        have t2 : r[k].1 * (r[k].2 * m) = r[k].2 * (r[k].1 * m) := by grind
        rw [t2, hc]; grind
      exact Int.eq_of_mul_eq_mul_left b0 this
    refine Int.natAbs_dvd_natAbs.mp ?_
    have : r[k].2.natAbs ∣ r[k].1.natAbs * L'.natAbs := by rw [← Int.natAbs_mul, e3, Int.natAbs_mul]; exact Nat.dvd_mul_right _ _
    exact Nat.Coprime.dvd_of_dvd_mul_left (Nat.Coprime.symm rk.2) this
  obtain ⟨c, hc⟩ := d
  rw [hc] at hL
  have : lcmL r * 1 = lcmL r * (b * c) := by
    have t : lcmL r * (b * c) = b * (lcmL r * c) := by grind
    rw [t, ← hL]; omega
  have : (1 : Int) = b * c := Int.eq_of_mul_eq_mul_left (by omega) this
  have := congrArg Int.natAbs this
  rw [Int.natAbs_mul] at this
  exact Nat.eq_one_of_mul_eq_one_right this.symm)
/-- a form with rows that are 0 beyond n -/
structure RFn (n X : Nat) (rows : List Vec) (P : List Nat) (D : Int) (M : Nat → Vec) : Prop where
  R : RF n X rows P D M
  out : ∀ p ∈ P, ∀ j, n ≤ j → M p j = 0
theorem sp_out {rows : List Vec} {u : Vec} {j : Nat} (h : Sp rows u) (ho : ∀ r ∈ rows, r j = 0) : u j = 0 := by
  obtain ⟨e, e0, k⟩ := h
  exact (Int.mul_eq_zero.mp (cb_out ho k)).resolve_left e0
theorem RF.n {n X B : Nat} {rows : List (List Fr)} {P : List Nat} {D : Int} {M : Nat → Vec} (R : RF n X (rows.map rowV) P D M) (h : ∀ r ∈ rows, r.length = n) : RFn n X (rows.map rowV) P D M := ⟨R, fun p hp j hj => sp_out (R.sp p hp) fun v hv => by
  obtain ⟨r, hr, rfl⟩ := List.mem_map.mp hv
  exact at0_out (by rw [ints_len, h r hr]; exact hj)⟩
section
variable {n X : Nat} {rows : List Vec} {P : List Nat} {D : Int} {M : Nat → Vec}
abbrev gv (n : Nat) (D : Int) (M : Nat → Vec) (p : Nat) : List Int := intsL (frow n (M p) D)
theorem gv_len {p : Nat} : (gv n D M p).length = n := by rw [ints_len, fvec_len]
theorem RFn.par (R : RFn n X rows P D M) {p : Nat} (hp : p ∈ P) : Par (at0 (gv n D M p)) (M p) := ⟨D, lcmL (frow n (M p) D), R.R.d0, by have := lcmL_pos (l := frow n (M p) D) fvec_red; omega, fun j => by
  by_cases hj : j < n
  · have := rowV_frow (V := M p) R.R.d0 hj
    show D * rowV (frow n (M p) D) j = _
    rw [Int.mul_comm, this, Int.mul_comm]
  · rw [at0_out (by rw [gv_len]; omega), R.out p hp j (by omega)]; simp⟩
theorem RFn.at_one (R : RFn n X rows P D M) {p : Nat} (hp : p ∈ P) : (frow n (M p) D)[p]'(by rw [fvec_len]; exact R.R.lt p hp) = (1, 1) := by
  rw [fvec_get, R.R.one p hp, Rat.divInt_self' R.R.d0]
  rfl
theorem RFn.prim (R : RFn n X rows P D M) {p : Nat} (hp : p ∈ P) : Prim (at0 (gv n D M p)) := prim_row fvec_red (by rw [fvec_len]; exact R.R.lt p hp) (R.at_one hp)
theorem RFn.bd (R : RFn n X rows P D M) {p : Nat} (hp : p ∈ P) (j : Nat) : (at0 (gv n D M p) j).natAbs ≤ X := Nat.le_trans ((R.par hp).le (R.prim hp) j) (R.R.bd p hp j)
theorem RFn.lcm (R : RFn n X rows P D M) {p : Nat} (hp : p ∈ P) : lcmL (frow n (M p) D) ≤ X := by
  have h := R.bd hp p
  have e : at0 (gv n D M p) p = lcmL (frow n (M p) D) := by
    show rowV (frow n (M p) D) p = _
    rw [rowV_get (by rw [fvec_len]; exact R.R.lt p hp), R.at_one hp]
    show (1 : Int) * Int.fdiv _ 1 = _
    rw [Int.fdiv_eq_ediv_of_nonneg _ (by decide)]; simp
  rw [e] at h
  omega
theorem RFn.rin (R : RFn n X rows P D M) (hX : X < 2 ^ 3900) {p : Nat} (hp : p ∈ P) : Rin n X (frow n (M p) D) := ⟨fvec_len, fvec_red, fun x hx => by
  obtain ⟨k, hk, rfl⟩ := List.getElem_of_mem hx
  rw [fvec_get]
  exact sz_div R.R.d0 (pow_mono (Nat.lt_of_le_of_lt (R.R.bd p hp k) hX) (by decide)) (pow_mono (Nat.lt_of_le_of_lt R.R.db hX) (by decide)), by
  have h := R.lcm hp
  have h2 : ((2 : Int) ^ 13000) = ((2 ^ 13000 : Nat) : Int) := by simp
  have h3 : X < 2 ^ 13000 := pow_mono hX (by decide)
  rw [h2]
  omega, R.bd hp⟩
end
end Dc
/-! D12: reduced on rows of a form, at the program. -/
namespace Dc
open PySem PySem.Spec L2
theorem divided_prim {xs : List Int} (hb : ∀ x ∈ xs, x.natAbs < 2 ^ 8000) (hp : Prim (at0 xs)) {p : Nat} (h0 : at0 xs p ≠ 0) : w_divided (xs, ()) = ret xs := by
  obtain ⟨ys, e, _, g, g0, ge⟩ := divided_eq hb
  have g1 : g.natAbs = 1 := by
    rcases hp g (fun j => ⟨at0 ys j, map_at0 ge j⟩) with z | z
    · exact z
    · exact absurd (z p) h0
  have g2 : g = 1 := by omega
  have : ys = xs := by
    rw [ge, g2]
    conv => lhs; rw [← List.map_id ys]
    exact List.map_congr_left fun x _ => (Int.one_mul x).symm
  rw [e, this]
theorem cleared_self {xs : List Int} {p X : Nat} (hp : p < xs.length) (h0 : at0 xs p ≠ 0) (hb : ∀ i, (at0 xs i).natAbs ≤ X) (hX : X ≤ 2 ^ 3900) : ∃ ys, w_cleared (xs, xs, (p : Int), ()) = ret ys ∧ ys.length = xs.length ∧ ∀ j, at0 ys j = 0 := by
  obtain ⟨ys, e, c⟩ := cleared_eq (line := xs) (head := xs) rfl hp h0 hb hb hX hX
  obtain ⟨g, sc, sh, g0, _, eq⟩ := c.eq
  refine ⟨ys, e, c.len, fun j => ?_⟩
  have e1 := eq p
  have e2 := eq j
  rw [c.zero, Int.mul_zero] at e1
  have e3 : (sc - sh) * at0 xs p = 0 := by rw [Int.sub_mul]; exact e1.symm
  have e4 : sc - sh = 0 := (Int.mul_eq_zero.mp e3).resolve_right h0
  have e5 : g * at0 ys j = 0 := by
    rw [e2, ← Int.sub_mul, e4, Int.zero_mul]
  exact (Int.mul_eq_zero.mp e5).resolve_left (by omega)
structure DG (n : Nat) (P : List Nat) (D : Int) (M : Nat → Vec) (pre : List (List Fr)) (d : Dic) : Prop where
  keys : ∀ x ∈ d.map (·.1), ∃ p ∈ P, x = ((p : Nat) : Int)
  nd : (d.map (·.1)).Nodup
  val : ∀ p ∈ P, kd d p = true → dAt d (p : Int) = gv n D M p
  has : ∀ p ∈ P, frow n (M p) D ∈ pre → kd d p = true
  few : d.length ≤ pre.length
section
variable {n X : Nat} {rows : List Vec} {P : List Nat} {D : Int} {M : Nat → Vec}
theorem RFn.inj (R : RFn n X rows P D M) {p q : Nat} (hp : p ∈ P) (hq : q ∈ P) (h : frow n (M p) D = frow n (M q) D) : p = q := by
  refine Decidable.byContradiction fun hne => ?_
  have e1 := R.at_one hp
  have pn := R.R.lt p hp
  have e : (frow n (M q) D)[p]'(by rw [fvec_len]; exact pn) = (1, 1) := by
    rw [← e1]
    congr 1
    exact h.symm
  rw [fvec_get, R.R.off q hq p hp hne, Rat.zero_divInt] at e
  cases e
theorem form_row_tr {β δ : Type} {f : (List Int × Dic) → Int → W (Fl (List Int × Dic) (List Int × Dic) β)}
    (hf : ∀ s y, f s y = grd (ixOk s.1 y) (bnd (ite (!decide (ixAt s.1 y = 0)) (bnd (ite (!dInK s.2 y) (bnd (w_divided (s.1, ())) fun z => grd (decide (s.2.length < 16777216)) (ret (Fl.bk (s.1, dPut s.2 y z)))) (ret (Fl.nx ()))) (sq fun (_ : Unit) => grd (dInK s.2 y) (bnd (w_cleared (s.1, dAt s.2 y, y, ())) fun v => ret (Fl.nx (v, s.2))))) (ret (Fl.nx s))) (sq fun s => ret (Fl.nx s))))
    (R : RFn n X rows P D M) (hX : X < 2 ^ 3900) {pre : List (List Fr)} (hl : pre.length < 10000000) {d : Dic} (G : DG n P D M pre d) {p : Nat} (hp : p ∈ P) :
    Tr 0 (forW (δ := δ) f (gv n D M p, d) (rangeF 0 n)) (fun fl => ∃ s', fl = .nx s' ∧ DG n P D M (pre ++ [frow n (M p) D]) s'.2) := by
  have pn := R.R.lt p hp
  have par := R.par hp
  have gz : ∀ j, at0 (gv n D M p) j = 0 ↔ M p j = 0 := fun j => par.zero
  have g0 : at0 (gv n D M p) p ≠ 0 := fun z => R.R.d0 (by have := (gz p).mp z; rw [R.R.one p hp] at this; exact this)
  have few := G.few
  have t1 := Tr.rngB (δ := δ) (m := 0) (f := f) (R := fun t s => s.2 = d ∧ ((t ≤ p ∧ s.1 = gv n D M p) ∨ (p < t ∧ kd d p = true ∧ s.1.length = n ∧ ∀ j, at0 s.1 j = 0))) (Q := fun s => DG n P D M (pre ++ [frow n (M p) D]) s.2) n 0 (gv n D M p, d) ⟨rfl, .inl ⟨Nat.zero_le _, rfl⟩⟩ (fun t ht s hs => by
    obtain ⟨v, d'⟩ := s
    obtain ⟨rfl, w⟩ := hs
    rw [Nat.zero_add] at w
    simp only [Nat.zero_add]
    rw [hf]
    rcases w with ⟨tp, rfl⟩ | ⟨tp, kp, vl, vz⟩
    · have ix := ix0 (l := gv n D M p) (i := t) (by rw [gv_len]; exact ht)
      refine Tr.grd ix.1 ?_
      simp only [ix.2]
      by_cases e : t = p
      · subst e
        rw [ite_ok (by rw [decide_eq_false g0]; rfl), bnd_assoc]
        cases c : dInK d' (t : Int) with
        | false =>
          rw [show (!false) = true from rfl, ite_ok rfl, divided_prim (fun a ha => by
            obtain ⟨i, hi, rfl⟩ := List.getElem_of_mem ha
            rw [← at0_get hi]
            exact pow_mono (n := 3900) (Nat.lt_of_le_of_lt (R.bd hp i) hX) (by decide)) (R.prim hp) g0, bnd_ret, grd_ok (decide_eq_true (Nat.lt_of_le_of_lt (show d'.length ≤ pre.length from few) (by omega))), bnd_ret]
          have c' : kd d' t = false := c
          refine Tr.ret (.inr ⟨_, rfl, fun x hx => ?_, ?_, fun q hq hk => ?_, fun q hq hm => ?_, ?_⟩)
          · have hx : x ∈ (dPut d' (t : Int) (gv n D M t)).map (·.1) := hx
            rw [dkeys_put, c] at hx
            simp only [Bool.false_eq_true, if_false] at hx
            rcases List.mem_append.mp hx with z | z
            · exact G.keys x z
            · exact ⟨t, hp, List.mem_singleton.mp z⟩
          · show ((dPut d' (t : Int) (gv n D M t)).map (·.1)).Nodup
            rw [dkeys_put, c]
            simp only [Bool.false_eq_true, if_false]
            refine List.nodup_append.mpr ⟨G.nd, by simp, fun a ha b hb => ?_⟩
            rw [List.mem_singleton] at hb
            intro z
            rw [z, hb] at ha
            have := dIn_mem.mpr ha
            rw [c] at this
            cases this
          · show dAt (dPut d' (t : Int) (gv n D M t)) (q : Int) = _
            rw [dAt_put]
            by_cases z : q = t
            · rw [if_pos (by rw [z]), z]
            · rw [if_neg (by omega)]
              have hk : kd (dPut d' (t : Int) (gv n D M t)) q = true := hk
              rw [kd_put, decide_eq_false z, Bool.false_or] at hk
              exact G.val q hq hk
          · show kd (dPut d' (t : Int) (gv n D M t)) q = true
            rw [kd_put]
            rcases List.mem_append.mp hm with z | z
            · rw [G.has q hq z, Bool.or_true]
            · rw [List.mem_singleton] at z
              rw [decide_eq_true (R.inj hq hp z)]; rfl
          · show (dPut d' (t : Int) (gv n D M t)).length ≤ _
            rw [dlen_put, c, List.length_append]
            simp
            exact few
        | true =>
          have hk : kd d' t = true := c
          obtain ⟨ys, e1, yl, yz⟩ := cleared_self (xs := gv n D M t) (p := t) (X := X) (by rw [gv_len]; exact pn) g0 (R.bd hp) (Nat.le_of_lt hX)
          rw [show (!true) = false from rfl, ite_no rfl, bnd_ret, sq_nx, grd_true, G.val t hp hk, e1, bnd_ret, bnd_ret]
          exact Tr.ret (.inl ⟨_, rfl, rfl, .inr ⟨by omega, hk, by rw [yl, gv_len], yz⟩⟩)
      · have z : at0 (gv n D M p) t = 0 := (gz t).mpr (R.R.low p hp t (by omega))
        rw [ite_no (by rw [z]; rfl), bnd_ret, sq_nx]
        exact Tr.ret (.inl ⟨_, rfl, rfl, .inl ⟨by omega, rfl⟩⟩)
    · have ix := ix0 (l := v) (i := t) (by rw [vl]; exact ht)
      refine Tr.grd ix.1 ?_
      simp only [ix.2]
      rw [ite_no (by rw [vz t]; rfl), bnd_ret, sq_nx]
      exact Tr.ret (.inl ⟨_, rfl, rfl, .inr ⟨by omega, kp, vl, vz⟩⟩))
  refine (t1.up (by simp)).cons fun fl hfl => ?_
  obtain ⟨s', rfl, h⟩ := hfl
  refine ⟨s', rfl, ?_⟩
  rcases h with ⟨e, w⟩ | h
  · rcases w with ⟨w, _⟩ | ⟨_, kp, _⟩
    · omega
    · rw [e]
      refine ⟨G.keys, G.nd, G.val, fun q hq hm => ?_, by rw [List.length_append]; omega⟩
      rcases List.mem_append.mp hm with z | z
      · exact G.has q hq z
      · rw [List.mem_singleton] at z
        rw [R.inj hq hp z]; exact kp
  · exact h
/-- rows of a form, all of them, in any order, again and again -/
theorem reduced_form {xs : List (List Fr)} (R : RFn n X rows P D M) (hX : X < 2 ^ 3900) (h1 : ∀ r ∈ xs, ∃ p ∈ P, r = frow n (M p) D) (h2 : ∀ p ∈ P, frow n (M p) D ∈ xs) (hl : xs.length < 64) (hn : n ≤ 1000000) : Tr 0 (w_reduced (xs, ())) (fun F => F = form n P D M) := by
  unfold w_reduced wb_reduced
  simp only [bnd_ret, bnd_assoc, bnd_grd, grd_true, fnR_bnd, fnR_ite, fnR_grd, fnR_ret, sq_nx, sq_rt]
  refine Tr.then (n := 0) 0 (S := fun fl => ∃ d, fl = .nx d ∧ DG n P D M xs d) ?_ fun fl hfl => ?_
  · refine ((Tr.forP (m := 0) (R := fun pre d => DG n P D M pre d) xs [] [] ⟨fun x h => absurd h (by simp), .nil, fun p _ h => (kd_nil h).elim, fun p _ h => absurd h (by simp), Nat.le_refl _⟩ fun a b r hx d G => ?_).up (by simp)).cons fun fl hfl => by
      obtain ⟨d, e, G⟩ := hfl
      exact ⟨d, e, by rw [List.nil_append] at G; exact G⟩
    rw [List.nil_append] at hx
    have hr : r ∈ xs := by rw [hx]; simp
    obtain ⟨p, hp, rfl⟩ := h1 r hr
    have Rr := R.rin hX hp
    have few : a.length < 10000000 := by
      have := congrArg List.length hx
      simp at this
      omega
    rw [integers_of_eq Rr.red Rr.sz Rr.lcm, bnd_ret]
    have il : (gv n D M p).length = n := gv_len
    rw [show (intsL (frow n (M p) D)).length = n from il, grd_ok (rngOk_n hn), Int.toNat_natCast]
    refine Tr.then (n := 0) 0 (form_row_tr (fun s y => rfl) R hX few G hp) fun fl hfl => ?_
    obtain ⟨s', rfl, G2⟩ := hfl
    rw [sq_nx]
    exact Tr.ret ⟨_, rfl, G2⟩
  · obtain ⟨d, rfl, G⟩ := hfl
    have dl : d.length < 64 := by have := G.few; omega
    have all : ∀ p ∈ P, kd d p = true := fun p hp => G.has p hp (h2 p hp)
    have fe : sortI (d.map (·.1)) = P.map (fun p : Nat => (p : Int)) := by
      refine srtI_eq ?_ ?_ fun x => ?_
      · have q1 := sortI_sorted (d.map (·.1))
        have q2 : (sortI (d.map (·.1))).Nodup := (sortI_perm _).nodup_iff.mpr G.nd
        refine (q1.and q2).imp fun {a b} h => ?_
        have := h.1
        have := h.2
        omega
      · rw [List.pairwise_map]
        exact R.R.srt.imp fun h => by omega
      · rw [(sortI_perm _).mem_iff]
        constructor
        · intro h
          obtain ⟨p, hp, rfl⟩ := G.keys x h
          exact List.mem_map.mpr ⟨p, hp, rfl⟩
        · intro h
          obtain ⟨p, hp, rfl⟩ := List.mem_map.mp h
          exact dIn_mem.mp (all p hp)
    rw [sq_nx, fnR_grd, grd_ok (decide_eq_true dl), fe, fnR_bnd]
    have ixz : ∀ p ∈ P, ∀ q ∈ P, ixOk (dAt d (p : Int)) (q : Int) = true ∧ ixAt (dAt d (p : Int)) (q : Int) = at0 (gv n D M p) q := fun p hp q hq => by
      rw [G.val p hp (all p hp)]
      exact ix0 (by rw [gv_len]; exact R.R.lt q hq)
    refine Tr.then (n := 0) 0 (S := fun fl => fl = .nx d) ?_ fun fl hfl => ?_
    · refine ((Tr.forP (m := 0) (R := fun (pre : List Int) s => s = d) (P.map (fun p : Nat => (p : Int))).reverse [] d rfl fun a b y hx s hs => ?_).up (by simp)).cons fun fl hfl => by
        obtain ⟨s, rfl, rfl⟩ := hfl
        rfl
      subst hs
      have hy : y ∈ (P.map (fun p : Nat => (p : Int))).reverse := by
        rw [List.nil_append] at hx
        rw [hx]; simp
      obtain ⟨q, hq, rfl⟩ := List.mem_map.mp (List.mem_reverse.mp hy)
      refine Tr.then (n := 0) 0 (S := fun fl => fl = .nx s) ?_ fun fl hfl => by
        subst hfl
        rw [sq_nx]
        exact Tr.ret ⟨_, rfl, rfl⟩
      refine ((Tr.forP (m := 0) (R := fun (pre : List Int) s' => s' = s) (P.map (fun p : Nat => (p : Int))) [] s rfl fun a b y hx s' hs => ?_).up (by simp)).cons fun fl hfl => by
        obtain ⟨s', rfl, rfl⟩ := hfl
        rfl
      subst hs
      have hy : y ∈ P.map (fun p : Nat => (p : Int)) := by
        rw [List.nil_append] at hx
        rw [hx]; simp
      obtain ⟨p, hp, rfl⟩ := List.mem_map.mp hy
      have kp : dInK s' (p : Int) = true := all p hp
      by_cases c : p < q
      · have z : at0 (gv n D M p) q = 0 := (R.par hp).zero.mpr (R.R.off p hp q hq (by omega))
        rw [ite_ok (decide_eq_true (by omega)), grd_ok kp, grd_ok (ixz p hp q hq).1, (ixz p hp q hq).2, bnd_ret, ite_no (by rw [z]; rfl), bnd_ret, sq_nx]
        exact Tr.ret ⟨_, rfl, rfl⟩
      · rw [ite_no (decide_eq_false (by omega)), bnd_ret, ite_no rfl, bnd_ret, sq_nx]
        exact Tr.ret ⟨_, rfl, rfl⟩
    · subst hfl
      rw [sq_nx, fnR_bnd, mapW_map (h := fun p => frow n (M p) D) fun p hp => ?_, bnd_ret]
      · exact Tr.ret rfl
      · have kp : dInK d (p : Int) = true := all p hp
        have nz : at0 (gv n D M p) p ≠ 0 := fun z => R.R.d0 (by have := (R.par hp).zero.mp z; rw [R.R.one p hp] at this; exact this)
        rw [grd_ok kp, grd_ok kp, grd_ok (ixz p hp p hp).1, (ixz p hp p hp).2, numbers_of_eq nz (pow_mono (Nat.lt_of_le_of_lt (R.bd hp p) hX) (by decide)), G.val p hp kp, form_row gv_len (R.R.lt p hp) (R.par hp) R.R.d0 (R.R.one p hp)]
end
end Dc
/-! D13: what the law asks of a form. -/
namespace Dc
open PySem PySem.Spec L2
theorem rangeF_split : ∀ (a : Nat) (lo : Int) (b : Nat), rangeF lo (a + b) = rangeF lo a ++ rangeF (lo + a) b
  | 0, lo, b => by simp [rangeF]
  | a + 1, lo, b => by
    rw [show a + 1 + b = (a + b) + 1 by omega]
    show lo :: rangeF (lo + 1) (a + b) = lo :: (rangeF (lo + 1) a ++ rangeF (lo + ((a + 1 : Nat) : Int)) b)
    rw [rangeF_split a (lo + 1) b, show lo + 1 + (a : Int) = lo + ((a + 1 : Nat) : Int) by omega]
theorem filter_first {n p : Nat} {b : Int → Bool} (hp : p < n) (h0 : ∀ k : Nat, k < p → b (k : Int) = false) (h1 : b (p : Int) = true) : ∃ r, (rangeF 0 n).filter b = (p : Int) :: r := by
  have e : n = p + ((n - p - 1) + 1) := by omega
  rw [e, rangeF_split, List.filter_append]
  have e1 : (rangeF 0 p).filter b = [] := List.filter_eq_nil_iff.mpr fun k hk => by
    have hk := rangeF_mem hk
    obtain ⟨i, rfl⟩ := Int.eq_ofNat_of_zero_le hk.1
    rw [h0 i (by omega)]
    decide
  rw [e1, List.nil_append, Int.zero_add]
  refine ⟨(rangeF ((p : Int) + 1) (n - p - 1)).filter b, ?_⟩
  show List.filter b ((p : Int) :: rangeF ((p : Int) + 1) (n - p - 1)) = _
  rw [List.filter_cons_of_pos h1]
section
variable {n X : Nat} {rows : List Vec} {P : List Nat} {D : Int} {M : Nat → Vec}
theorem num_iff {V : Vec} {k : Nat} (hD : D ≠ 0) (hk : k < n) : (ixAt (frow n V D) (k : Int)).1 = 0 ↔ V k = 0 := by
  rw [(fvec_ix hk).2, ofQ_zero]
  constructor
  · intro h
    exact Decidable.byContradiction fun z => divInt_ne z hD h
  · intro h; rw [h]; exact Rat.zero_divInt _
theorem full_eq (R : RFn n X rows P D M) {p : Nat} (hp : p ∈ P) : ∃ r, filW (fun k => grd (ixOk (frow n (M p) D) k) (ret (!decide ((ixAt (frow n (M p) D) k).1 = 0)))) (fun y => ret y) (rangeF 0 n) = ret ((p : Int) :: r) := by
  have h : ∀ k ∈ rangeF 0 n, grd (ixOk (frow n (M p) D) k) (ret (!decide ((ixAt (frow n (M p) D) k).1 = 0))) = ret (!decide ((ixAt (frow n (M p) D) k).1 = 0)) := fun k hk => by
    have hk := rangeF_mem hk
    obtain ⟨i, rfl⟩ := Int.eq_ofNat_of_zero_le hk.1
    rw [grd_ok (fvec_ix (by omega)).1]
  rw [filW_eq h]
  obtain ⟨r, e⟩ := filter_first (n := n) (p := p) (b := fun k : Int => !decide ((ixAt (frow n (M p) D) k).1 = 0)) (R.R.lt p hp) (fun k hk => by
    have := (num_iff (V := M p) R.R.d0 (show k < n by have := R.R.lt p hp; omega)).mpr (R.R.low p hp k hk)
    simp only [this]
    rfl) (by
    have : ¬ (ixAt (frow n (M p) D) (p : Int)).1 = 0 := fun z => by
      have := (num_iff (V := M p) R.R.d0 (R.R.lt p hp)).mp z
      rw [R.R.one p hp] at this
      exact R.R.d0 this
    simp only [decide_eq_false this]
    rfl)
  exact ⟨r, by rw [e]⟩
theorem row_one (R : RFn n X rows P D M) {p : Nat} (hp : p ∈ P) : ixOk (frow n (M p) D) (p : Int) = true ∧ ixAt (frow n (M p) D) (p : Int) = (1, 1) := by
  have h := fvec_ix (n := n) (f := fun j => Rat.divInt (M p j) D) (R.R.lt p hp)
  refine ⟨h.1, ?_⟩
  rw [h.2, R.R.one p hp, Rat.divInt_self' R.R.d0]
  rfl
theorem filter_one {P : List Nat} (hn : P.Nodup) {p : Nat} (hp : p ∈ P) : (P.filter fun q => decide (q = p)) = [p] := by
  induction P with
  | nil => cases hp
  | cons x P ih =>
    obtain ⟨h1, h2⟩ := List.nodup_cons.mp hn
    by_cases e : x = p
    · subst e
      rw [List.filter_cons_of_pos (by simp)]
      congr 1
      exact List.filter_eq_nil_iff.mpr fun q hq => by
        have : q ≠ x := fun z => h1 (z ▸ hq)
        simp [this]
    · rw [List.filter_cons_of_neg (by simp [e])]
      exact ih h2 ((List.mem_cons.mp hp).resolve_left (fun z => e z.symm))
theorem RFn.nodup (R : RFn n X rows P D M) : P.Nodup := R.R.srt.imp fun h => Nat.ne_of_lt h
theorem RFn.plen (R : RFn n X rows P D M) : P.length ≤ n := by
  have h := srt_len (Q := P.reverse) (t := n) (by rw [List.pairwise_reverse]; exact R.R.srt) fun q hq => R.R.lt q (List.mem_reverse.mp hq)
  rw [List.length_reverse] at h
  exact h
theorem ix_last {l : List Int} {x : Int} : ixOk (l ++ [x]) (-1) = true ∧ ixAt (l ++ [x]) (-1) = x := by
  have e : ixN (l ++ [x]).length (-1) = some l.length := by
    unfold ixN
    rw [List.length_append]
    simp
    omega
  constructor
  · unfold ixOk; rw [e]; rfl
  · unfold ixAt; rw [e]; simp
theorem law_shaped_tr (R : RFn n X rows P D M) (hn : n ≤ 1000000) : Tr 0 (w_law_shaped (form n P D M, (n : Int), ())) (fun r => r = true) := by
  unfold w_law_shaped wb_law_shaped
  simp only [bnd_ret, bnd_assoc, bnd_grd, grd_true, fnR_bnd, fnR_ite, fnR_grd, fnR_ret, sq_nx, sq_rt]
  have pl := R.plen
  refine Tr.then (n := 0) 0 (S := fun fl => fl = .nx (P.map fun p : Nat => (p : Int))) ?_ fun fl hfl => ?_
  · refine ((Tr.forP (m := 0) (R := fun (pre : List (List Fr)) s => ∃ l l2, l ++ l2 = P ∧ pre = l.map (fun p => frow n (M p) D) ∧ s = l.map fun p : Nat => (p : Int)) (form n P D M) [] [] ⟨[], P, rfl, rfl, rfl⟩ fun a b y hx s hs => ?_).up (by simp)).cons fun fl hfl => ?_
    · obtain ⟨l, l2, e1, rfl, rfl⟩ := hs
      rw [List.nil_append, form, ← e1, List.map_append] at hx
      have hx := List.append_cancel_left hx
      obtain ⟨q, l3, rfl, rfl, e2⟩ := List.map_eq_cons_iff.mp hx
      have hq : q ∈ P := by rw [← e1]; simp
      obtain ⟨r, e3⟩ := full_eq R hq
      have i0 := ix_nat (l := (q : Int) :: r) (i := 0) (by simp)
      have i01 : ixOk ((q : Int) :: r) 0 = true := by have := i0.1; simpa using this
      have i02 : ixAt ((q : Int) :: r) 0 = (q : Int) := by have := i0.2; simpa using this
      have o := row_one R hq
      have ll : l.length ≤ P.length := by rw [← e1]; simp
      rw [grd_ok (rngOk_n hn), Int.toNat_natCast]
      change Tr 0 (bnd (filW (fun k => grd (ixOk (frow n (M q) D) k) (ret (!decide ((ixAt (frow n (M q) D) k).1 = 0)))) (fun y => ret y) (rangeF 0 n)) _) _
      rw [e3, bnd_ret, eqv_nil, show (((q : Int) :: r).isEmpty) = false from rfl, ite_no rfl, grd_ok i01, i02]
      change Tr 0 (bnd (bnd (grd (ixOk (frow n (M q) D) (q : Int)) _) _) _) _
      rw [grd_ok o.1]
      have o2 : ixAt (fvec n fun j => Rat.divInt (M q j) D) (q : Int) = (1, 1) := o.2
      have ev : PyData.eqv (PyData.tuple [PyData.int (1, 1).1, PyData.int ((1, 1) : Int × Int).2]) (PyData.tuple [PyData.int 1, PyData.int 1]) = true := eqv_pair (1, 1)
      rw [o2, ev, show (!true) = false from rfl, ite_no rfl, eqv_nil]
      have hc : ite (!(l.map fun p : Nat => (p : Int)).isEmpty) (grd (ixOk ((q : Int) :: r) 0) (grd (ixOk (l.map fun p : Nat => (p : Int)) (-1)) (ret (decide ((q : Int) ≤ ixAt (l.map fun p : Nat => (p : Int)) (-1)))))) (ret false) = ret false := by
        rcases List.eq_nil_or_concat l with e | ⟨l', x, e⟩
        · subst e
          rfl
        · rw [List.concat_eq_append] at e
          subst e
          rw [List.map_append, List.map_singleton, ite_ok (by simp), grd_ok i01, grd_ok ix_last.1, ix_last.2]
          have srt := R.R.srt
          rw [← e1] at srt
          have := (List.pairwise_append.mp srt).2.2 x (by simp) q List.mem_cons_self
          rw [decide_eq_false (by omega)]
      rw [hc]
      change Tr 0 (bnd (bnd (ret false) (fun b => ret b)) _) _
      rw [bnd_ret]
      rw [bnd_ret, ite_no rfl, bnd_ret, sq_nx, grd_ok i01, grd_ok (decide_eq_true (by rw [List.length_map]; omega))]
      exact Tr.ret ⟨_, rfl, l ++ [q], l3, by rw [← e1]; simp, by simp, by simp⟩
    · obtain ⟨s, rfl, l, l2, e1, e2, rfl⟩ := hfl
      congr 2
      rw [List.nil_append, form] at e2
      have := congrArg List.length e2
      rw [List.length_map, List.length_map, ← e1, List.length_append] at this
      have : l2 = [] := List.length_eq_zero_iff.mp (by omega)
      rw [← e1, this, List.append_nil]
  · subst hfl
    rw [sq_nx, fnR_bnd]
    refine Tr.then (n := 0) 0 (S := fun fl => ∃ u, fl = .nx u) ?_ fun fl hfl => by
      obtain ⟨u, rfl⟩ := hfl
      rw [sq_nx]
      exact Tr.ret rfl
    refine ((Tr.forP (m := 0) (R := fun (_ : List Int) (_ : Unit) => True) (P.map fun p : Nat => (p : Int)) [] () trivial fun a b y hx s hs => ?_).up (by simp)).cons fun fl hfl => by
      obtain ⟨s, rfl, _⟩ := hfl
      exact ⟨s, rfl⟩
    have hy : y ∈ P.map fun p : Nat => (p : Int) := by
      rw [List.nil_append] at hx
      rw [hx]; simp
    obtain ⟨p, hp, rfl⟩ := List.mem_map.mp hy
    rw [filW_eq (b := fun r : List Fr => !decide ((ixAt r (p : Int)).1 = 0)) fun r hr => ?_, bnd_ret]
    · have e : (form n P D M).filter (fun r : List Fr => !decide ((ixAt r (p : Int)).1 = 0)) = [frow n (M p) D] := by
        rw [form, List.filter_map, show List.filter ((fun r : List Fr => !decide ((ixAt r (p : Int)).1 = 0)) ∘ fun q => frow n (M q) D) P = [p] from ?_]
        · rfl
        · rw [← filter_one R.nodup hp]
          refine List.filter_congr fun q hq => ?_
          show (!decide ((ixAt (frow n (M q) D) (p : Int)).1 = 0)) = decide (q = p)
          have h := num_iff (V := M q) R.R.d0 (R.R.lt p hp)
          by_cases c : q = p
          · subst c
            rw [decide_eq_true rfl, decide_eq_false fun z => by
              have := h.mp z
              rw [R.R.one q hq] at this
              exact R.R.d0 this]
            rfl
          · rw [decide_eq_false c, decide_eq_true (h.mpr (R.R.off q hq p hp fun z => c z.symm))]
            rfl
      rw [e]
      exact Tr.ret ⟨(), rfl, trivial⟩
    · obtain ⟨q, hq, rfl⟩ := List.mem_map.mp hr
      rw [grd_ok (fvec_ix (R.R.lt p hp)).1]
/-! ### a row is made of the form -/
def Hv (D : Int) (y : Vec) (M : Nat → Vec) : List Nat → Vec
  | [] => fun j => D * y j
  | q :: G => fun j => Hv D y M G j - y q * M q j
theorem Hv_at (R : RFn n X rows P D M) {y : Vec} : ∀ {G : List Nat}, (∀ q ∈ G, q ∈ P) → G.Nodup → ∀ z ∈ P, Hv D y M G z = if z ∈ G then 0 else D * y z
  | [], _, _, z, _ => by simp [Hv]
  | q :: G, hG, hn, z, hz => by
    obtain ⟨n1, n2⟩ := List.nodup_cons.mp hn
    have ih := Hv_at R (y := y) (G := G) (fun x hx => hG x (List.mem_cons_of_mem _ hx)) n2 z hz
    have qP := hG q List.mem_cons_self
    show Hv D y M G z - y q * M q z = _
    rw [ih]
    by_cases e : z = q
    · subst e
      rw [R.R.one z qP, if_neg n1, if_pos List.mem_cons_self]
      grind
    · rw [R.R.off q qP z hz e]
      have : (z ∈ q :: G) ↔ z ∈ G := by simp [e]
      simp only [this]
      grind
theorem Hv_bd (R : RFn n X rows P D M) {y : Vec} {B : Nat} (hy : ∀ j, (y j).natAbs ≤ B) : ∀ {G : List Nat}, (∀ q ∈ G, q ∈ P) → ∀ j, (Hv D y M G j).natAbs ≤ (G.length + 1) * (X * B)
  | [], _, j => by
    show (D * y j).natAbs ≤ _
    rw [Int.natAbs_mul]
    have := Nat.mul_le_mul R.R.db (hy j)
    simpa using this
  | q :: G, hG, j => by
    have ih := Hv_bd R hy (G := G) (fun x hx => hG x (List.mem_cons_of_mem _ hx)) j
    show (Hv D y M G j - y q * M q j).natAbs ≤ _
    have h1 := Int.natAbs_sub_le (Hv D y M G j) (y q * M q j)
    have h2 : (y q * M q j).natAbs ≤ X * B := by
      rw [Int.natAbs_mul, Nat.mul_comm X B]
      exact Nat.mul_le_mul (hy q) (R.R.bd q (hG q List.mem_cons_self) j)
    have e : (q :: G).length + 1 = (G.length + 1) + 1 := rfl
    rw [e, Nat.add_mul (G.length + 1) 1, Nat.one_mul]
    omega
theorem Hv_sp (R : RFn n X rows P D M) {y : Vec} (hy : Sp rows y) : ∀ {G : List Nat}, (∀ q ∈ G, q ∈ P) → Sp rows (Hv D y M G)
  | [], _ => hy.mul
  | q :: G, hG => ((Hv_sp R hy (G := G) fun x hx => hG x (List.mem_cons_of_mem _ hx)).lin (a := 1) (b := -(y q)) (R.R.sp q (hG q List.mem_cons_self))).ext fun j => by
    show _ = Hv D y M G j - y q * M q j
    grind
theorem Hv_end (R : RFn n X rows P D M) {y : Vec} (hy : Sp rows y) {G : List Nat} (hG : ∀ q ∈ G, q ∈ P) (hn : G.Nodup) (hall : ∀ q ∈ P, q ∈ G) (j : Nat) : Hv D y M G j = 0 :=
  R.R.full _ (Hv_sp R hy hG) (fun p hp => by rw [Hv_at R hG hn p hp, if_pos (hall p hp)]) j
theorem q_holds {D c h y m : Int} (D0 : D ≠ 0) (c0 : c ≠ 0) : Rat.divInt h (D * c) - Rat.divInt (D * y) (D * c) * Rat.divInt m D = Rat.divInt (h - y * m) (D * c) := by
  simp only [Rat.divInt_eq_div]
  have D1 : (D : Rat) ≠ 0 := by exact_mod_cast D0
  have c1 : (c : Rat) ≠ 0 := by exact_mod_cast c0
  rw [Rat.intCast_sub, Rat.intCast_mul, Rat.intCast_mul, Rat.intCast_mul]
  grind
theorem zip_maps {α β γ : Type} {f : α → β} {g : α → γ} : ∀ l : List α, (l.map f).zip (l.map g) = l.map fun x => (f x, g x)
  | [] => rfl
  | x :: l => by
    show (f x, g x) :: (l.map f).zip (l.map g) = (f x, g x) :: _
    rw [zip_maps l]
theorem law_holds_tr (R : RFn n X rows P D M) {r : List Fr} {B : Nat} (hr : Rin n B r) (hb : (lcmL r).natAbs ≤ B) (hsp : Sp rows (rowV r)) (hxb : (n + 2) * (X * B) < 2 ^ 1950) (b1 : 1 ≤ B) : Tr 0 (w_law_holds (form n P D M, P.map (fun p : Nat => (p : Int)), r, ())) (fun b => b = true) := by
  have pl := R.plen
  have xl : X < 2 ^ 1950 := by
    have h1 : X ≤ X * B := Nat.le_mul_of_pos_right X (by omega)
    have h2 : X * B ≤ (n + 2) * (X * B) := Nat.le_mul_of_pos_left _ (by omega)
    omega
  have lp := lcmL_pos hr.red
  have dl : (D * lcmL r).natAbs < 2 ^ 1950 := by
    rw [Int.natAbs_mul]
    have h1 := Nat.mul_le_mul R.R.db hb
    have h2 : X * B ≤ (n + 2) * (X * B) := Nat.le_mul_of_pos_left _ (by omega)
    omega
  have dn : D * lcmL r ≠ 0 := Int.mul_ne_zero R.R.d0 (by omega)
  unfold w_law_holds wb_law_holds
  simp only [bnd_ret, bnd_assoc, bnd_grd, grd_true, fnR_bnd, fnR_ite, fnR_grd, fnR_ret, sq_nx, sq_rt]
  have z := zip_maps (f := fun p : Nat => (p : Int)) (g := fun p => frow n (M p) D) P
  change Tr 0 (bnd (forW _ r ((P.map fun p : Nat => (p : Int)).zip (P.map fun p => frow n (M p) D))) _) _
  rw [z]
  refine Tr.then (n := 0) 0 (S := fun fl => ∃ G : List Nat, fl = .nx (frow n (Hv D (rowV r) M G) (D * lcmL r)) ∧ (∀ q ∈ G, q ∈ P) ∧ G.Nodup ∧ ∀ q ∈ P, q ∈ G) ?_ fun fl hfl => ?_
  · refine ((Tr.forP (m := 0) (R := fun (pre : List (Int × List Fr)) s => ∃ l l2 : List Nat, l ++ l2 = P ∧ pre = l.map (fun p : Nat => ((p : Int), frow n (M p) D)) ∧ s = frow n (Hv D (rowV r) M l.reverse) (D * lcmL r)) (P.map fun p : Nat => ((p : Int), frow n (M p) D)) [] r ⟨[], P, rfl, rfl, ?_⟩ fun a b y hx s hs => ?_).up (by simp)).cons fun fl hfl => ?_
    · refine (frow_self hr.len hr.red).trans (fvec_cong fun j _ => ?_)
      show _ = Rat.divInt (D * rowV r j) (D * lcmL r)
      rw [Rat.divInt_mul_left R.R.d0]
    · obtain ⟨l, l2, e1, rfl, rfl⟩ := hs
      rw [List.nil_append, ← e1, List.map_append] at hx
      have hx := List.append_cancel_left hx
      obtain ⟨q, l3, rfl, rfl, e2⟩ := List.map_eq_cons_iff.mp hx
      have hq : q ∈ P := by rw [← e1]; simp
      have lP : ∀ z ∈ l.reverse, z ∈ P := fun z hz => by rw [← e1]; exact List.mem_append_left _ (List.mem_reverse.mp hz)
      have nd := R.nodup
      rw [← e1] at nd
      obtain ⟨n1, n2, n3⟩ := List.nodup_append.mp nd
      have qn := R.R.lt q hq
      have ix := fvec_ix (n := n) (k := q) (f := fun j => Rat.divInt (Hv D (rowV r) M l.reverse j) (D * lcmL r)) qn
      have hv : Hv D (rowV r) M l.reverse q = D * rowV r q := by
        rw [Hv_at R lP ((List.reverse_perm _).nodup_iff.mpr n1) q hq, if_neg fun h => n3 q (List.mem_reverse.mp h) q List.mem_cons_self rfl]
      have sh : ∀ j, Sz 1950 (ofQ (Rat.divInt (Hv D (rowV r) M l.reverse j) (D * lcmL r))) := fun j => sz_div dn (by
        have h1 := Hv_bd R hr.bd lP j
        have h2 : (l.reverse.length + 1) * (X * B) ≤ (n + 2) * (X * B) := Nat.mul_le_mul_right _ (by
          have : l.length ≤ P.length := by rw [← e1]; simp
          rw [List.length_reverse]; omega)
        omega) dl
      have sm : ∀ j, Sz 1950 (ofQ (Rat.divInt (M q j) D)) := fun j => sz_div R.R.d0 (Nat.lt_of_le_of_lt (R.R.bd q hq j) xl) (Nat.lt_of_le_of_lt R.R.db xl)
      show Tr 0 (grd (ixOk (frow n (Hv D (rowV r) M l.reverse) (D * lcmL r)) (q : Int)) (bnd (w_law_minus (frow n (Hv D (rowV r) M l.reverse) (D * lcmL r), ixAt (frow n (Hv D (rowV r) M l.reverse) (D * lcmL r)) (q : Int), frow n (M q) D, ())) _)) _
      rw [grd_ok ix.1, ix.2, law_minus_eq (fun j _ => sh j) (fun j _ => sm j) (sh q), bnd_ret]
      refine Tr.ret ⟨_, rfl, l ++ [q], l3, by rw [← e1]; simp, by simp, ?_⟩
      rw [List.reverse_append]
      refine fvec_cong fun j _ => ?_
      rw [hv, q_holds R.R.d0 (show lcmL r ≠ 0 by omega)]
      rfl
    · obtain ⟨s, rfl, l, l2, e1, e2, rfl⟩ := hfl
      rw [List.nil_append] at e2
      have := congrArg List.length e2
      rw [List.length_map, List.length_map, ← e1, List.length_append] at this
      have : l2 = [] := List.length_eq_zero_iff.mp (by omega)
      rw [this, List.append_nil] at e1
      subst e1
      exact ⟨_, rfl, fun q hq => List.mem_reverse.mp hq, (List.reverse_perm _).nodup_iff.mpr R.nodup, fun q hq => List.mem_reverse.mpr hq⟩
  · obtain ⟨G, rfl, g1, g2, g3⟩ := hfl
    rw [sq_nx, fnR_bnd, filW_eq (b := fun y : Fr => !decide (y.1 = 0)) fun y _ => rfl, bnd_ret]
    refine Tr.ret ?_
    have e : (frow n (Hv D (rowV r) M G) (D * lcmL r)).filter (fun y : Fr => !decide (y.1 = 0)) = [] := List.filter_eq_nil_iff.mpr fun y hy => by
      obtain ⟨k, hk, rfl⟩ := List.getElem_of_mem hy
      rw [fvec_get, Hv_end R hsp g1 g2 g3 k, Rat.zero_divInt]
      decide
    rw [e]
    rfl
end
end Dc
/-! R1: the rows that the law draws. -/
namespace Dc
open PySem PySem.Spec L2
/-- numbers of rows; g: great ones, few at a time; otherwise T is a common denominator -/
structure Nm (g : Bool) (T : Nat) (x : Fr) : Prop where
  red : Red x
  up : x.1.natAbs ≤ 9999
  gr : g = true → x.2.natAbs ≤ 9999
  dv : g = false → x.2 ∣ (T : Int)
structure Row (g : Bool) (T n : Nat) (r : List Fr) : Prop where
  len : r.length = n
  num : ∀ x ∈ r, Nm g T x
def TT : Nat := 2520 * 6 ^ 5
theorem Nm.mono {g : Bool} {T T' : Nat} {x : Fr} (h : Nm g T x) (d : T ∣ T') : Nm g T' x := ⟨h.red, h.up, h.gr, fun z => Int.dvd_trans (h.dv z) (Int.natCast_dvd_natCast.mpr d)⟩
theorem Row.mono {g : Bool} {T T' n : Nat} {r : List Fr} (h : Row g T n r) (d : T ∣ T') : Row g T' n r := ⟨h.len, fun x hx => (h.num x hx).mono d⟩
theorem Nm.dn {g : Bool} {T : Nat} {x : Fr} (h : Nm g T x) (hT : 0 < T) (hl : T ≤ 2 ^ 40) : x.2.natAbs ≤ 2 ^ 40 := by
  have p := h.red.1
  cases g with
  | true => have := h.gr rfl; omega
  | false =>
    have := Int.le_of_dvd (by omega) (h.dv rfl)
    omega
theorem Nm.sz {g : Bool} {T : Nat} {x : Fr} (h : Nm g T x) (hT : 0 < T) (hl : T ≤ 2 ^ 40) : Sz 64 x := by
  have := h.dn hT hl
  have := h.up
  exact ⟨by omega, by omega⟩
theorem nm_int {g : Bool} {T : Nat} {k : Int} (h : k.natAbs ≤ 9999) : Nm g T (k, 1) := ⟨red_int k, h, fun _ => by show (1 : Int).natAbs ≤ 9999; decide, fun _ => by show (1 : Int) ∣ _; exact Int.one_dvd _⟩
theorem dvd_2520 {b : Nat} (h : 1 ≤ b) (h9 : b ≤ 9) : b ∣ 2520 := by
  have : b = 1 ∨ b = 2 ∨ b = 3 ∨ b = 4 ∨ b = 5 ∨ b = 6 ∨ b = 7 ∨ b = 8 ∨ b = 9 := by omega
  rcases this with h | h | h | h | h | h | h | h | h <;> subst h <;> decide
theorem nm_num {g : Bool} {T : Nat} {x : Fr} (h : Num g x) (d : 2520 ∣ T) : Nm g T x := ⟨h.red, h.up, fun _ => h.dn, fun z => by
  have p := h.red.1
  have s := h.sm z
  refine Int.natAbs_dvd_natAbs.mp ?_
  rw [Int.natAbs_natCast]
  exact Nat.dvd_trans (dvd_2520 (by omega) s) d⟩
theorem den_dvd {a b : Int} (hb : 0 < b) : (ofQ (Rat.divInt a b)).2 ∣ b := by
  rw [← low_pos hb]
  have g : ((Nat.gcd a.natAbs b.natAbs : Nat) : Int) ∣ b := Int.natAbs_dvd_natAbs.mp (by rw [Int.natAbs_natCast]; exact Nat.gcd_dvd_right ..)
  obtain ⟨c, hc⟩ := g
  show b / ((Nat.gcd a.natAbs b.natAbs : Nat) : Int) ∣ b
  have gp : ((Nat.gcd a.natAbs b.natAbs : Nat) : Int) ≠ 0 := fun z => by rw [z, Int.zero_mul] at hc; omega
  generalize ((Nat.gcd a.natAbs b.natAbs : Nat) : Int) = g at *
  rw [hc, Int.mul_ediv_cancel_left _ gp]
  exact ⟨g, Int.mul_comm _ _⟩
theorem den_mul {x y : Fr} {S T : Int} (hx : Red x) (hy : Red y) (d1 : x.2 ∣ S) (d2 : y.2 ∣ T) : (ofQ (toQ x * toQ y)).2 ∣ S * T := by
  rw [← toQ_mul]
  have := hx.1
  have := hy.1
  exact Int.dvd_trans (den_dvd (Int.mul_pos (by omega) (by omega))) (Int.mul_dvd_mul d1 d2)
theorem den_add {x y : Fr} {T : Int} (hT : 0 < T) (hx : Red x) (hy : Red y) (d1 : x.2 ∣ T) (d2 : y.2 ∣ T) : (ofQ (toQ x + toQ y)).2 ∣ T := by
  rw [← over hx.1 hT d1, ← over hy.1 hT d2, divInt_add_same (by omega)]
  exact den_dvd hT
/-! ### bounds -/
def Bg (g : Bool) : Nat := if g then 2 ^ 94 else 2 ^ 38
theorem lcmL_le_pow : ∀ (l : List Fr) (s : Int), 0 < s → (∀ x ∈ l, 1 ≤ x.2 ∧ x.2.natAbs ≤ 9999) → (l.foldl (fun s x => ((Nat.lcm s.natAbs x.2.natAbs : Nat) : Int)) s).natAbs ≤ s.natAbs * 9999 ^ l.length
  | [], s, _, _ => by simp
  | x :: r, s, hs, h => by
    obtain ⟨x1, x2⟩ := h x List.mem_cons_self
    have lp := Nat.lcm_pos (m := s.natAbs) (n := x.2.natAbs) (by omega) (by omega)
    have ih := lcmL_le_pow r ((Nat.lcm s.natAbs x.2.natAbs : Nat) : Int) (by omega) fun y hy => h y (List.mem_cons_of_mem _ hy)
    have l1 : Nat.lcm s.natAbs x.2.natAbs ≤ s.natAbs * 9999 := by
      have h1 : Nat.lcm s.natAbs x.2.natAbs ≤ s.natAbs * x.2.natAbs := Nat.le_of_dvd (Nat.mul_pos (by omega) (by omega)) (Nat.lcm_dvd_mul ..)
      have h2 := Nat.mul_le_mul_left s.natAbs x2
      omega
    rw [Int.natAbs_natCast] at ih
    refine Nat.le_trans ih ?_
    rw [List.length_cons, Nat.pow_succ, Nat.mul_comm (9999 ^ r.length), ← Nat.mul_assoc]
    exact Nat.mul_le_mul_right _ l1
theorem Row.red {g : Bool} {T n : Nat} {r : List Fr} (h : Row g T n r) : ∀ x ∈ r, Red x := fun x hx => (h.num x hx).red
theorem Row.lcm {g : Bool} {T n : Nat} {r : List Fr} (h : Row g T n r) (hT : 0 < T) (hl : T ∣ TT) (hg : g = true → n ≤ 6) : (lcmL r).natAbs ≤ (if g then 2 ^ 80 else TT) := by
  cases g with
  | true =>
    have l := lcmL_le_pow r 1 (by decide) fun x hx => ⟨(h.num x hx).red.1, (h.num x hx).gr rfl⟩
    have n6 := hg rfl
    rw [h.len] at l
    have e : (1 : Int).natAbs = 1 := rfl
    rw [e, Nat.one_mul] at l
    refine Nat.le_trans l (Nat.le_trans (Nat.pow_le_pow_right (by decide) n6) ?_)
    decide
  | false =>
    have d : lcmL r ∣ (T : Int) := lcmL_dvd_of fun x hx => (h.num x hx).dv rfl
    have h1 := Int.le_of_dvd (by omega) d
    have h2 := Nat.le_of_dvd (by decide) hl
    have h3 := lcmL_pos h.red
    show (lcmL r).natAbs ≤ TT
    omega
theorem Row.rin {g : Bool} {T n : Nat} {r : List Fr} (h : Row g T n r) (hT : 0 < T) (hl : T ∣ TT) (hg : g = true → n ≤ 6) : Rin n (Bg g) r ∧ (lcmL r).natAbs ≤ Bg g := by
  have lc := h.lcm hT hl hg
  have T40 : T ≤ 2 ^ 40 := Nat.le_trans (Nat.le_of_dvd (by decide) hl) (by decide)
  have lp := lcmL_pos h.red
  have lB : 9999 * (if g then 2 ^ 80 else TT) ≤ Bg g := by
    cases g <;> decide
  have le : (lcmL r).natAbs ≤ 9999 * (if g then 2 ^ 80 else TT) := by omega
  refine ⟨⟨h.len, h.red, fun x hx => ((h.num x hx).sz hT T40).up (by decide), ?_, fun j => ?_⟩, Nat.le_trans le lB⟩
  · have e : ((2 : Int) ^ 13000) = ((2 ^ 13000 : Nat) : Int) := by simp
    have b : Bg g ≤ 2 ^ 94 := by cases g <;> decide
    have c : (2 : Nat) ^ 94 < 2 ^ 13000 := Nat.pow_lt_pow_right (by decide) (by decide)
    rw [e]
    omega
  · by_cases hj : j < r.length
    · rw [rowV_get hj]
      have nm := h.num _ (List.getElem_mem hj)
      have q := nm.red.1
      have h1 : (Int.fdiv (lcmL r) r[j].2).natAbs ≤ (lcmL r).natAbs := by
        rw [Int.fdiv_eq_ediv_of_nonneg _ (by omega)]
        exact Int.natAbs_ediv_le_natAbs _ _
      rw [Int.natAbs_mul]
      exact Nat.le_trans (Nat.mul_le_mul nm.up (Nat.le_trans h1 lc)) lB
    · show (at0 (intsL r) j).natAbs ≤ _
      rw [at0_out (by rw [ints_len]; omega)]
      exact Nat.zero_le _
abbrev XX : Nat := 2 ^ 1760
theorem lim_of {g : Bool} {n : Nat} {rows : List (List Fr)} (h : ∀ r ∈ rows, Row g TT n r) (hn : n ≤ 40) (hg : g = true → n ≤ 6) : Lim2 n (Bg g) XX rows := by
  have R : ∀ r ∈ rows, Rin n (Bg g) r ∧ (lcmL r).natAbs ≤ Bg g := fun r hr => (h r hr).rin (by decide) (Nat.dvd_refl _) hg
  have b94 : Bg g ≤ 2 ^ 94 := by cases g <;> decide
  have mul2 : ∀ (a b : Nat), (2 : Nat) ^ a * 2 ^ b = 2 ^ (a + b) := fun a b => (Nat.pow_add 2 a b).symm
  have XB : XX * Bg g ≤ 2 ^ 1854 := by
    have := Nat.mul_le_mul_left XX b94
    rw [mul2] at this
    exact this
  refine ⟨⟨fun v hv => ?_, fun i hi => ?_, ?_, ?_⟩, fun r hr => (R r hr).1, fun r hr => (R r hr).2, Nat.lt_of_le_of_lt XB (Nat.pow_lt_pow_right (by decide) (by decide)), by cases g <;> decide⟩
  · obtain ⟨r, hr, rfl⟩ := List.mem_map.mp hv
    exact (R r hr).1.bd
  · cases g with
    | true =>
      have n6 := hg rfl
      have h1 : n * Bg true ≤ 2 ^ 97 := by
        have h2 : n * Bg true ≤ 6 * Bg true := Nat.mul_le_mul_right _ n6
        have h3 : 6 * Bg true ≤ 2 ^ 97 := by decide
        omega
      refine Nat.le_trans (Nat.pow_le_pow_left h1 i) ?_
      rw [← Nat.pow_mul]
      exact Nat.pow_le_pow_right (by decide) (by omega)
    | false =>
      have h1 : n * Bg false ≤ 2 ^ 44 := by
        have h2 : n * Bg false ≤ 40 * Bg false := Nat.mul_le_mul_right _ hn
        have h3 : 40 * Bg false ≤ 2 ^ 44 := by decide
        omega
      refine Nat.le_trans (Nat.pow_le_pow_left h1 i) ?_
      rw [← Nat.pow_mul]
      exact Nat.pow_le_pow_right (by decide) (by omega)
  · exact Nat.le_trans b94 (Nat.pow_le_pow_right (by decide) (by decide))
  · have h1 : (n + 2) * (XX * XX) ≤ 2 ^ 6 * (XX * XX) := Nat.mul_le_mul_right _ (by omega)
    rw [mul2, mul2] at h1
    exact Nat.le_trans h1 (Nat.pow_le_pow_right (by decide) (by decide))
theorem lim_h {g : Bool} {n : Nat} (hn : n ≤ 40) : (n + 2) * (XX * Bg g) < 2 ^ 1950 := by
  have b94 : Bg g ≤ 2 ^ 94 := by cases g <;> decide
  have mul2 : ∀ (a b : Nat), (2 : Nat) ^ a * 2 ^ b = 2 ^ (a + b) := fun a b => (Nat.pow_add 2 a b).symm
  have XB : XX * Bg g ≤ 2 ^ 1854 := by
    have := Nat.mul_le_mul_left XX b94
    rw [mul2] at this
    exact this
  have h1 : (n + 2) * (XX * Bg g) ≤ 2 ^ 6 * 2 ^ 1854 := Nat.mul_le_mul (by omega) XB
  rw [mul2] at h1
  exact Nat.lt_of_le_of_lt h1 (Nat.pow_lt_pow_right (by decide) (by decide))
end Dc
/-! R2: what the law draws. -/
namespace Dc
open PySem PySem.Spec L2
theorem row_noughts {g : Bool} {T : Nat} (n : Nat) : Row g T n (List.replicate n (0, 1)) := ⟨List.length_replicate .., fun x hx => by rw [List.eq_of_mem_replicate hx]; exact nm_int (by decide)⟩
theorem row_set {g : Bool} {T n : Nat} {r : List Fr} (h : Row g T n r) {x : Fr} (hx : Nm g T x) (i : Nat) : Row g T n (r.set i x) := ⟨by rw [List.length_set]; exact h.len, fun y hy => by
  rcases List.mem_or_eq_of_mem_set hy with q | q
  · exact h.num y q
  · rw [q]; exact hx⟩
theorem set_tr {β δ : Type} {g : Bool} {T n m : Nat} (hn : 1 ≤ n) (hn2 : n ≤ 40) {w : W Fr} (hw : Tr m w (Nm g T)) {L N : Nat} {xs : List Int} (hl : xs.length ≤ L) (hN : L * (m + 1) ≤ N) :
    Tr N (forW (δ := δ) (β := β) (fun (s : List Fr) (_ : Int) => bnd w fun x => bnd (pickW (n : Int)) fun k => grd (ixOk s k) (ret (Fl.nx (s.set ((ixN s.length k).getD 0) x)))) (List.replicate n (0, 1)) xs) (fun fl => ∃ s', fl = .nx s' ∧ Row g T n s') :=
  Tr.forN (n := m + 1) (L := L) (Row g T n) (row_noughts n) (fun _ _ s hs => by
    refine Tr.bnd (a := m) (b := 1) hw fun x hx => ?_
    refine Tr.bnd (a := 1) (b := 0) (Tr.pick (by omega) (lsmall (by omega))) fun k hk => ?_
    have i1 := ix_in (l := s) hk.1 (by rw [hs.len]; exact hk.2)
    refine Tr.grd i1.1 (Tr.ret ⟨_, rfl, row_set hs hx _⟩)) hl hN
theorem law_line_tr {g : Bool} {T n : Nat} (d : 2520 ∣ T) (hn : 1 ≤ n) (hn2 : n ≤ 40) : Tr 60 (w_law_line ((n : Int), g, ())) (Row g T n) := by
  have num := fun (z : Int) => (law_number_tr g).cons fun x hx => nm_num (T := T) hx d
  have rl : (rangeF 0 n).length = n := rangeF_len ..
  unfold w_law_line wb_law_line
  simp only [bnd_ret, bnd_assoc, bnd_grd, bnd_ifr, grd_true, fnR_bnd, fnR_ite, fnR_grd, fnR_ret, sq_nx, sq_rt]
  rw [bnd_ite]
  refine Tr.ite (fun q => ?_) fun q => ?_
  · have q := of_decide_eq_true q
    rw [bnd_grd, grd_ok (rngOk_n (by omega)), Int.toNat_natCast, bnd_assoc]
    refine Tr.then 40 (Tr.mapN (n := 5) (L := 8) (fun z _ => num z) (by rw [rl]; omega)) fun ys hys => ?_
    rw [bnd_ret, sq_rt, fnR_ret]
    exact Tr.ret ⟨by rw [hys.1, rl], hys.2⟩
  · rw [bnd_ret, sq_nx, fnR_bnd]
    refine Tr.then 1 Tr.pick fun k hk => ?_
    rw [fnR_bnd, bnd_ite]
    refine Tr.ite (fun q => ?_) fun q => ?_
    · rw [bnd_grd, grd_ok (rngOk_n (by omega)), Int.toNat_natCast, bnd_assoc]
      refine Tr.then 40 (Tr.mapN (n := 1) (L := 40) (S := Nm g T) (fun z _ => ?_) (by rw [rl]; omega)) fun ys hys => ?_
      · refine Tr.bnd (a := 1) (b := 0) Tr.pick fun v hv => Tr.ret (nm_int (by omega))
      · rw [bnd_ret, sq_rt]
        change Tr _ (fnR (ret (Fl.rt ys))) _
        rw [fnR_ret]
        exact Tr.ret ⟨by rw [hys.1, rl], hys.2⟩
    · rw [bnd_ret, sq_nx, grd_ok (show repOk ([(0, 1)] : List Fr).length (n : Int) = true from repOk1 (by omega) (by omega)), fnR_bnd]
      refine Tr.then 1 Tr.pick fun v hv => ?_
      rw [fnR_grd, grd_ok (by simp [rngOk]; omega), Int.toNat_natCast, flat1, fnR_bnd]
      refine Tr.then 24 (set_tr (L := 4) hn hn2 (num 0) (by rw [rangeF_len]; omega) (by decide)) fun fl hfl => ?_
      obtain ⟨s', rfl, h⟩ := hfl
      rw [sq_nx, fnR_ret]
      exact Tr.ret h
theorem law_thin_tr {g : Bool} {T n : Nat} (hn : 1 ≤ n) (hn2 : n ≤ 40) : Tr 10 (w_law_thin ((n : Int), ())) (Row g T n) := by
  unfold w_law_thin wb_law_thin
  simp only [bnd_ret, bnd_assoc, bnd_grd, bnd_ifr, grd_true, fnR_bnd, fnR_ite, fnR_grd, fnR_ret, sq_nx, sq_rt]
  rw [grd_ok (show repOk ([(0, 1)] : List Fr).length (n : Int) = true from repOk1 (by omega) (by omega)), grd_ok (by decide), Int.toNat_natCast, flat1]
  refine Tr.then 4 (S := fun fl => ∃ s', fl = .nx s' ∧ Row g T n s') ?_ fun fl hfl => ?_
  · refine Tr.forN (n := 2) (L := 2) (Row g T n) (row_noughts n) (fun _ _ s hs => ?_) (by rw [rangeF_len]; decide)
    refine Tr.bnd (a := 1) (b := 1) Tr.pick fun x hx => ?_
    have i0 := ix_in (l := ([(1, 1), (-1, 1), (2, 1), (1, 1)] : List Fr)) hx.1 (by have : ([(1, 1), (-1, 1), (2, 1), (1, 1)] : List Fr).length = 4 := rfl; omega)
    refine Tr.grd i0.1 ?_
    have hm : Nm g T (ixAt ([(1, 1), (-1, 1), (2, 1), (1, 1)] : List Fr) x) := by
      have := i0.2
      generalize ixAt ([(1, 1), (-1, 1), (2, 1), (1, 1)] : List Fr) x = y at this
      simp only [List.mem_cons, List.not_mem_nil, or_false] at this
      rcases this with h | h | h | h <;> subst h <;> exact nm_int (by decide)
    refine Tr.bnd (a := 1) (b := 0) (Tr.pick (by omega) (lsmall (by omega))) fun k hk => ?_
    have i1 := ix_in (l := s) hk.1 (by rw [hs.len]; exact hk.2)
    exact Tr.grd i1.1 (Tr.ret ⟨_, rfl, row_set hs hm _⟩)
  · obtain ⟨s', rfl, h⟩ := hfl
    rw [sq_nx, fnR_ret]
    exact Tr.ret h
theorem law_shape_tr : Tr 4 (w_law_shape ()) (fun z => ∃ m n : Nat, z = ((m : Int), (n : Int)) ∧ m ≤ 36 ∧ 1 ≤ n ∧ n ≤ 40) := by
  unfold w_law_shape wb_law_shape
  simp only [bnd_ret, bnd_assoc, bnd_grd, bnd_ifr, grd_true, fnR_bnd, fnR_ite, fnR_grd, fnR_ret, sq_nx, sq_rt]
  have fin : ∀ {a b : Int}, 0 ≤ a → a ≤ 36 → 1 ≤ b → b ≤ 40 → ∃ m n : Nat, (a, b) = ((m : Int), (n : Int)) ∧ m ≤ 36 ∧ 1 ≤ n ∧ n ≤ 40 := fun {a b} h1 h2 h3 h4 => ⟨a.toNat, b.toNat, by rw [Int.toNat_of_nonneg h1, Int.toNat_of_nonneg (by omega)], by omega, by omega, by omega⟩
  refine Tr.then 1 Tr.pick fun k hk => ?_
  rw [bnd_ite]
  refine Tr.ite (fun q => ?_) fun q => ?_
  · rw [bnd_assoc]
    refine Tr.then 1 Tr.pick fun x hx => ?_
    rw [bnd_assoc]
    refine Tr.then 1 Tr.pick fun y hy => ?_
    rw [bnd_ret, sq_rt, fnR_ret]
    exact Tr.ret (fin (by omega) (by omega) (by omega) (by omega))
  rw [bnd_ret, sq_nx, fnR_bnd]
  refine Tr.then 1 Tr.pick fun v hv => ?_
  rw [fnR_bnd, bnd_ite]
  refine Tr.ite (fun q => ?_) fun q => ?_
  · rw [bnd_assoc]
    refine Tr.then 1 Tr.pick fun x hx => ?_
    rw [bnd_assoc]
    refine Tr.then 1 Tr.pick fun y hy => ?_
    rw [bnd_ret, sq_rt]
    change Tr _ (fnR (ret (Fl.rt (x, 1 + y)))) _
    rw [fnR_ret]
    exact Tr.ret (fin (by omega) (by omega) (by omega) (by omega))
  rw [bnd_ret, sq_nx, fnR_bnd, bnd_ite]
  refine Tr.ite (fun q => ?_) fun q => ?_
  · rw [bnd_assoc]
    refine Tr.then 1 Tr.pick fun x hx => ?_
    rw [bnd_assoc]
    refine Tr.then 1 Tr.pick fun y hy => ?_
    rw [bnd_ret, sq_rt]
    change Tr _ (fnR (ret (Fl.rt (x, 1 + y)))) _
    rw [fnR_ret]
    exact Tr.ret (fin (by omega) (by omega) (by omega) (by omega))
  rw [bnd_ret, sq_nx, fnR_bnd]
  refine Tr.then 1 Tr.pick fun x hx => ?_
  rw [fnR_bnd]
  refine Tr.then 1 Tr.pick fun y hy => ?_
  rw [fnR_ret]
  exact Tr.ret (fin (by omega) (by omega) (by omega) (by omega))
theorem law_fitting_eq (l : List Fr) : ∃ b, w_law_fitting (l, ()) = ret b ∧ (b = true → ∀ x ∈ l, x.1.natAbs ≤ 9999 ∧ x.2 ≤ 9999) := by
  unfold w_law_fitting wb_law_fitting
  simp only [bnd_ret, bnd_assoc, bnd_grd, bnd_ifr, grd_true, fnR_bnd, fnR_ite, fnR_grd, fnR_ret, sq_nx, sq_rt]
  rw [filW_eq (b := fun y : Fr => decide (9999 < if y.1 < 0 then -y.1 else y.1) || decide (9999 < y.2)) fun y _ => ?_, bnd_ret, eqv_nil]
  · refine ⟨_, rfl, fun h x hx => ?_⟩
    have h2 := List.filter_eq_nil_iff.mp (List.isEmpty_iff.mp h) x hx
    simp only [Bool.or_eq_true, decide_eq_true_eq, not_or] at h2
    refine ⟨?_, by omega⟩
    have := h2.1
    split at this <;> omega
  · cases h : decide (9999 < if y.1 < 0 then -y.1 else y.1) with
    | true => rfl
    | false => rfl
theorem fees {x : Int} (hx : 0 ≤ x ∧ x < 4) : ixOk ([(-1, 1), (2, 1), (1, 3), (-3, 2)] : List Fr) x = true ∧ Red (ixAt ([(-1, 1), (2, 1), (1, 3), (-3, 2)] : List Fr) x) ∧ Sz 64 (ixAt ([(-1, 1), (2, 1), (1, 3), (-3, 2)] : List Fr) x) ∧ (ixAt ([(-1, 1), (2, 1), (1, 3), (-3, 2)] : List Fr) x).2 ∣ 6 ∧ (ixAt ([(-1, 1), (2, 1), (1, 3), (-3, 2)] : List Fr) x).1 ≠ 0 := by
  have i0 := ix_in (l := ([(-1, 1), (2, 1), (1, 3), (-3, 2)] : List Fr)) hx.1 (by have : ([(-1, 1), (2, 1), (1, 3), (-3, 2)] : List Fr).length = 4 := rfl; omega)
  refine ⟨i0.1, ?_⟩
  have := i0.2
  generalize ixAt ([(-1, 1), (2, 1), (1, 3), (-3, 2)] : List Fr) x = y at this ⊢
  simp only [List.mem_cons, List.not_mem_nil, or_false] at this
  rcases this with h | h | h | h <;> subst h <;> exact ⟨⟨by decide, by decide⟩, ⟨by decide, by decide⟩, by decide, by decide⟩
/-- rows times a number, sums of rows -/
theorem mul_row {f : Fr} {r : List Fr} (hf : Red f) (sf : Sz 64 f) (hr : ∀ x ∈ r, Red x) (sr : ∀ x ∈ r, Sz 64 x) : mapW (fun y => w_law_mul (f, y, ())) r = ret (mulL f r) :=
  mapW_eq fun x hx => by rw [law_mul_eq (red_ne hf) (red_ne (hr x hx)) (sf.up (by decide)) ((sr x hx).up (by decide))]
theorem add_row {l m : List Fr} {a b : Nat} (ha : a ≤ 4000) (hb : b ≤ 4000) (hl : ∀ x ∈ l, Red x) (hm : ∀ x ∈ m, Red x) (sl : ∀ x ∈ l, Sz a x) (sm : ∀ x ∈ m, Sz b x) : mapW (fun y : Fr × Fr => w_law_add (y.1, y.2, ())) (l.zip m) = ret (addL l m) :=
  mapW_eq fun z hz => by
    have h1 := (List.of_mem_zip (show (z.1, z.2) ∈ l.zip m from hz)).1
    have h2 := (List.of_mem_zip (show (z.1, z.2) ∈ l.zip m from hz)).2
    rw [law_add_eq (red_ne (hl _ h1)) (red_ne (hm _ h2)) ((sl _ h1).up ha) ((sm _ h2).up hb)]
theorem mulL_red {f : Fr} {r : List Fr} : ∀ x ∈ mulL f r, Red x := fun x hx => by
  obtain ⟨y, _, rfl⟩ := List.mem_map.mp hx
  exact red_ofQ _
theorem addL_red {l m : List Fr} : ∀ x ∈ addL l m, Red x := fun x hx => by
  obtain ⟨y, _, rfl⟩ := List.mem_map.mp hx
  exact red_ofQ _
theorem mulL_dv {f : Fr} {r : List Fr} {T : Nat} (hf : Red f) (d : f.2 ∣ 6) (hr : ∀ x ∈ r, Red x ∧ x.2 ∣ (T : Int)) : ∀ x ∈ mulL f r, x.2 ∣ ((6 * T : Nat) : Int) := fun x hx => by
  obtain ⟨y, hy, rfl⟩ := List.mem_map.mp hx
  have := den_mul hf (hr y hy).1 d (hr y hy).2
  rw [Int.natCast_mul]
  exact this
theorem addL_dv {l m : List Fr} {T : Nat} (hT : 0 < T) (hl : ∀ x ∈ l, Red x ∧ x.2 ∣ (T : Int)) (hm : ∀ x ∈ m, Red x ∧ x.2 ∣ (T : Int)) : ∀ x ∈ addL l m, x.2 ∣ (T : Int) := fun x hx => by
  obtain ⟨z, hz, rfl⟩ := List.mem_map.mp hx
  have h1 := (List.of_mem_zip (show (z.1, z.2) ∈ l.zip m from hz)).1
  have h2 := (List.of_mem_zip (show (z.1, z.2) ∈ l.zip m from hz)).2
  exact den_add (by omega) (hl _ h1).1 (hm _ h2).1 (hl _ h1).2 (hm _ h2).2
theorem mulL_sz {f : Fr} {r : List Fr} (hf : Red f) (sf : Sz 64 f) (hr : ∀ x ∈ r, Red x) (sr : ∀ x ∈ r, Sz 64 x) : ∀ x ∈ mulL f r, Sz 128 x := fun x hx => by
  obtain ⟨y, hy, rfl⟩ := List.mem_map.mp hx
  exact sz_mul (red_ne hf) (red_ne (hr y hy)) sf (sr y hy)
theorem Row.fit {g : Bool} {T n : Nat} {r : List Fr} (hl : r.length = n) (hr : ∀ x ∈ r, Red x) (hd : g = false → ∀ x ∈ r, x.2 ∣ (T : Int)) (hf : ∀ x ∈ r, x.1.natAbs ≤ 9999 ∧ x.2 ≤ 9999) : Row g T n r := ⟨hl, fun x hx => ⟨hr x hx, (hf x hx).1, fun _ => by have := (hf x hx).2; have := (hr x hx).1; omega, fun z => hd z x hx⟩⟩
theorem law_dull_tr {g : Bool} {T n : Nat} {l : List (List Fr)} (hT : 0 < T) (h40 : 6 * T ≤ 2 ^ 40) (hn : 1 ≤ n) (hn2 : n ≤ 40) (hl : l.length ≤ 60) (h : ∀ r ∈ l, Row g T n r) : Tr 4 (w_law_dull (l, (n : Int), ())) (Row g (6 * T) n) := by
  have T40 : T ≤ 2 ^ 40 := by omega
  have d6 : T ∣ 6 * T := Nat.dvd_mul_left ..
  unfold w_law_dull wb_law_dull
  simp only [bnd_ret, bnd_assoc, bnd_grd, bnd_ifr, grd_true, fnR_bnd, fnR_ite, fnR_grd, fnR_ret, sq_nx, sq_rt, eqv_nil]
  refine Tr.then 1 Tr.pick fun k hk => ?_
  have nil : Tr 3 (fnR (bnd (ite true (grd (repOk [((0 : Int), (1 : Int))].length (n : Int)) (ret (Fl.rt (List.replicate (n : Int).toNat [((0 : Int), (1 : Int))]).flatten))) (ret (Fl.nx ()))) (sq fun (_ : Unit) => (stuck : W (Fl Empty Empty (List Fr)))))) (Row g (6 * T) n) := by
    rw [ite_true, grd_ok (show repOk ([(0, 1)] : List Fr).length (n : Int) = true from repOk1 (by omega) (by omega)), bnd_ret, sq_rt, fnR_ret, Int.toNat_natCast, flat1]
    exact Tr.ret (row_noughts n)
  have nought : ∀ K : Unit → W (Fl Empty Empty (List Fr)), Tr 3 (bnd (ret true) fun b => bnd (ite b (grd (repOk [((0 : Int), (1 : Int))].length (n : Int)) (ret (Fl.rt (List.replicate (n : Int).toNat [((0 : Int), (1 : Int))]).flatten))) (ret (Fl.nx ()))) fun x => fnR (sq K x)) (Row g (6 * T) n) := fun K => by
    rw [bnd_ret, ite_true, grd_ok (show repOk ([(0, 1)] : List Fr).length (n : Int) = true from repOk1 (by omega) (by omega)), bnd_ret, sq_rt, fnR_ret, Int.toNat_natCast, flat1]
    exact Tr.ret (row_noughts n)
  rw [bnd_ite]
  refine Tr.ite (fun q => nought _) fun q => ?_
  cases hle : l.isEmpty with
  | true => exact nought _
  | false =>
    have lp : 0 < l.length := by
      cases l with
      | nil => cases hle
      | cons _ _ => simp
    rw [bnd_ret, ite_false, bnd_ret, sq_nx, fnR_bnd]
    refine Tr.then 1 (Tr.pick (by omega) (lsmall (by omega))) fun a ha => ?_
    have ia := ix_in (l := l) ha.1 ha.2
    rw [grd_ok ia.1, fnR_bnd]
    refine Tr.then 1 (Tr.pick (by omega) (lsmall (by omega))) fun b hb => ?_
    have ib := ix_in (l := l) hb.1 hb.2
    rw [grd_ok ib.1, fnR_bnd]
    refine Tr.then 1 Tr.pick fun f hf => ?_
    obtain ⟨f1, f2, f3, f4, f5⟩ := fees hf
    rw [fnR_grd, grd_ok f1, fnR_bnd]
    generalize ixAt ([(-1, 1), (2, 1), (1, 3), (-3, 2)] : List Fr) f = fee at *
    have Ra := h _ ia.2
    have Rb := h _ ib.2
    generalize ixAt l a = ra at *
    generalize ixAt l b = rb at *
    have sa : ∀ x ∈ ra, Sz 64 x := fun x hx => (Ra.num x hx).sz hT T40
    have sb : ∀ x ∈ rb, Sz 64 x := fun x hx => (Rb.num x hx).sz hT T40
    have last : ∀ s : List Fr, s.length = n → (∀ x ∈ s, Red x) → (g = false → ∀ x ∈ s, x.2 ∣ ((6 * T : Nat) : Int)) → Tr 0 (bnd (w_law_fitting (s, ())) fun x => bnd (ite x (ret s) (ret ra)) fun t => fnR (ret (Fl.rt t))) (Row g (6 * T) n) := fun s s1 s2 s3 => by
      obtain ⟨c, e, hc⟩ := law_fitting_eq s
      rw [e, bnd_ret]
      cases c with
      | true =>
        rw [ite_true, bnd_ret, fnR_ret]
        exact Tr.ret (Row.fit s1 s2 s3 (hc rfl))
      | false =>
        rw [ite_false, bnd_ret, fnR_ret]
        exact Tr.ret (Ra.mono d6)
    have ml := mul_row f2 f3 Ra.red sa
    have mlen : (mulL fee ra).length = n := by rw [mulL, List.length_map, Ra.len]
    have mdv : g = false → ∀ x ∈ mulL fee ra, x.2 ∣ ((6 * T : Nat) : Int) := fun z => mulL_dv f2 f4 fun x hx => ⟨Ra.red x hx, (Ra.num x hx).dv z⟩
    by_cases k1 : 1 < k
    · rw [ite_ok (decide_eq_true k1), ml, bnd_ret, bnd_ret, sq_nx, fnR_bnd]
      by_cases k3 : k = 3
      · rw [ite_ok (decide_eq_true k3), add_row (a := 128) (b := 64) (by decide) (by decide) mulL_red Rb.red (mulL_sz f2 f3 Ra.red sa) sb, bnd_ret, bnd_ret, sq_nx]
        refine last _ (by rw [addL, List.length_map, List.length_zip, mlen, Rb.len]; omega) addL_red fun z => ?_
        exact addL_dv (by omega) (fun x hx => ⟨mulL_red x hx, mdv z x hx⟩) fun x hx => ⟨Rb.red x hx, ((Rb.num x hx).mono d6).dv z⟩
      · rw [ite_no (decide_eq_false k3), bnd_ret, sq_nx]
        exact last _ mlen mulL_red mdv
    · rw [ite_no (decide_eq_false k1), bnd_ret, sq_nx, fnR_bnd, ite_no (decide_eq_false (by omega)), bnd_ret, sq_nx]
      exact last _ Ra.len Ra.red fun z x hx => ((Ra.num x hx).mono d6).dv z
end Dc
/-! R3: the law's rows; the same rows turned. -/
namespace Dc
open PySem PySem.Spec L2
theorem mem_insAt {α : Type} {s : List α} {k : Int} {y x : α} (h : x ∈ insAt s k y) : x ∈ s ∨ x = y := by
  unfold insAt at h
  rcases List.mem_append.mp h with z | z
  · rcases List.mem_append.mp z with w | w
    · exact .inl (List.mem_of_mem_take w)
    · exact .inr (List.mem_singleton.mp w)
  · exact .inl (List.mem_of_mem_drop z)
theorem len_insAt {α : Type} {s : List α} {k : Int} {y : α} : (insAt s k y).length = s.length + 1 := by
  unfold insAt
  rw [List.length_append, List.length_append, List.length_take, List.length_drop, List.length_singleton]
  omega
theorem law_rows_tr : Tr 3000 (w_law_rows ()) (fun z => ∃ (n : Nat) (g : Bool), z.2 = (n : Int) ∧ 1 ≤ n ∧ n ≤ 40 ∧ z.1.length ≤ 40 ∧ (g = true → n ≤ 6) ∧ ∀ r ∈ z.1, Row g (2520 * 6 ^ 4) n r) := by
  unfold w_law_rows wb_law_rows
  simp only [bnd_ret, bnd_assoc, bnd_grd, bnd_ifr, grd_true, fnR_bnd, fnR_ite, fnR_grd, fnR_ret, sq_nx, sq_rt]
  refine Tr.then 4 law_shape_tr fun z hz => ?_
  obtain ⟨m, n, rfl, hm, hn, hn2⟩ := hz
  dsimp only
  rw [grd_ok (mulSmall (by omega) (by omega))]
  refine Tr.then 1 (S := fun b => b = true → m * n < 7) (Tr.ite (fun q => ?_) fun q => Tr.ret fun h => by cases h) fun great hgr => ?_
  · have q := of_decide_eq_true q
    refine Tr.bnd (a := 1) (b := 0) Tr.pick fun t ht => Tr.ret fun _ => ?_
    rw [← Int.natCast_mul] at q
    omega
  refine Tr.then 0 (S := fun _ => True) (Tr.ite (fun _ => Tr.ret trivial) fun _ => Tr.ret trivial) fun thin _ => ?_
  rw [grd_ok (rngOk_n (by omega)), Int.toNat_natCast]
  have rl : (rangeF 0 m).length = m := rangeF_len ..
  let g := great && decide (1 ≤ m)
  have hg : g = true → n ≤ 6 := fun h => by
    have h : (great && decide (1 ≤ m)) = true := h
    rw [Bool.and_eq_true, decide_eq_true_eq] at h
    have h1 := hgr h.1
    have h2 : 1 * n ≤ m * n := Nat.mul_le_mul_right n h.2
    omega
  refine Tr.then 2160 (S := fun ys => ys.length ≤ 36 ∧ ∀ r ∈ ys, Row g 2520 n r) ?_ fun l hl => ?_
  · refine (Tr.mapN (n := 60) (L := 36) (S := Row g 2520 n) (fun k hk => ?_) (by rw [rl]; exact hm)).cons fun ys h => ⟨by rw [h.1, rl]; exact hm, h.2⟩
    have hk := rangeF_mem hk
    have eg : g = great := by
      show (great && decide (1 ≤ m)) = great
      rw [decide_eq_true (by omega), Bool.and_true]
    refine Tr.ite (fun _ => (law_thin_tr hn hn2).up (by decide)) fun _ => ?_
    have t := law_line_tr (g := great) (T := 2520) (Nat.dvd_refl _) hn hn2
    rw [← eg] at t ⊢
    exact t
  refine Tr.then 0 (S := fun _ => True) (Tr.ite (fun _ => Tr.ret trivial) fun _ => Tr.ret trivial) fun isw _ => ?_
  refine Tr.then 0 (S := fun fl => ∃ s a, fl = .nx (s, a) ∧ s.length ≤ 36 ∧ ∀ r ∈ s, Row g 2520 n r) (Tr.ite (fun _ => ?_) fun _ => Tr.any fun a => Tr.ret ⟨_, _, rfl, hl.1, hl.2⟩) fun fl hfl => ?_
  · rw [mapW_eq (g := fun r : List Fr => r.map fun y => (y.1, (1 : Int))) fun r _ => mapW_eq fun _ _ => rfl, bnd_ret]
    refine Tr.any fun a => Tr.ret ⟨_, _, rfl, by rw [List.length_map]; exact hl.1, fun r hr => ?_⟩
    obtain ⟨r0, h0, rfl⟩ := List.mem_map.mp hr
    refine ⟨by rw [List.length_map]; exact (hl.2 r0 h0).len, fun x hx => ?_⟩
    obtain ⟨y, hy, rfl⟩ := List.mem_map.mp hx
    exact nm_int ((hl.2 r0 h0).num y hy).up
  · obtain ⟨s, a, rfl, s1, s2⟩ := hfl
    rw [sq_nx, fnR_bnd]
    refine Tr.then 1 Tr.pick fun k hk => ?_
    obtain ⟨j, rfl⟩ := Int.eq_ofNat_of_zero_le hk.1
    rw [fnR_grd, grd_ok (rngOk_n (by omega)), Int.toNat_natCast, fnR_bnd]
    refine Tr.then 20 (S := fun fl => ∃ s', fl = .nx s' ∧ s'.length ≤ 40 ∧ ∀ r ∈ s', Row g (2520 * 6 ^ 4) n r) ?_ fun fl hfl => ?_
    · refine ((Tr.rngB (m := 5) (R := fun i (s : List (List Fr)) => s.length ≤ 36 + i ∧ ∀ r ∈ s, Row g (2520 * 6 ^ i) n r) (Q := fun _ => False) j 0 s ⟨by omega, fun r hr => by rw [Nat.pow_zero, Nat.mul_one]; exact s2 r hr⟩ fun i hi s hs => ?_).up (by omega)).cons fun fl hfl => ?_
      · rw [Nat.zero_add] at hs ⊢
        have pw : 6 * (2520 * 6 ^ i) = 2520 * 6 ^ (i + 1) := by rw [Nat.pow_succ]; omega
        have i4 : 6 ^ (i + 1) ≤ 6 ^ 4 := Nat.pow_le_pow_right (by decide) (by omega)
        refine Tr.bnd (a := 1) (b := 4) (Tr.pick (by omega) (lsmall (by omega))) fun x hx => ?_
        refine Tr.bnd (a := 4) (b := 0) (law_dull_tr (g := g) (T := 2520 * 6 ^ i) (Nat.mul_pos (by decide) (Nat.pow_pos (by decide))) (by rw [pw]; omega) hn hn2 (by omega) hs.2) fun r hr => ?_
        rw [pw] at hr
        have ne : (!r.isEmpty) = true := by
          cases r with
          | nil => have := hr.len; simp at this; omega
          | cons _ _ => rfl
        rw [grd_ok ne, grd_ok (by simp [insOk]; omega)]
        refine Tr.ret (.inl ⟨_, rfl, by rw [len_insAt]; omega, fun q hq => ?_⟩)
        rcases mem_insAt hq with z | z
        · exact (hs.2 q z).mono (by rw [← pw]; exact Nat.dvd_mul_left ..)
        · rw [z]; exact hr
      · obtain ⟨s', rfl, h | h⟩ := hfl
        · rw [Nat.zero_add] at h
          refine ⟨s', rfl, by omega, fun r hr => (h.2 r hr).mono (Nat.mul_dvd_mul_left _ (Nat.pow_dvd_pow _ (by omega)))⟩
        · exact h.elim
    · obtain ⟨s', rfl, h1, h2⟩ := hfl
      rw [sq_nx, fnR_ret]
      exact Tr.ret ⟨n, g, rfl, hn, hn2, h1, hg, h2⟩
/-! ### rows and their spans -/
def atq (r : List Fr) (j : Nat) : Rat := toQ (r.getD j (0, 1))
theorem atq_in {r : List Fr} {j : Nat} (h : j < r.length) : atq r j = toQ r[j] := by
  unfold atq
  rw [List.getD_eq_getElem?_getD, List.getElem?_eq_getElem h]
  rfl
theorem atq_out {r : List Fr} {j : Nat} (h : r.length ≤ j) : atq r j = 0 := by
  unfold atq
  rw [List.getD_eq_getElem?_getD, List.getElem?_eq_none h]
  exact Rat.zero_divInt _
theorem rowV_q {r : List Fr} (hr : ∀ x ∈ r, Red x) (j : Nat) : ((rowV r j : Int) : Rat) = ((lcmL r : Int) : Rat) * atq r j := by
  by_cases h : j < r.length
  · have hx := List.getElem_mem h
    have lp := lcmL_pos hr
    have e := over (hr _ hx).1 lp (lcmL_dvd hr hx)
    rw [← rowV_get h] at e
    rw [atq_in h, ← e, Rat.divInt_eq_div]
    have l0 : ((lcmL r : Int) : Rat) ≠ 0 := fun z => by
      have : lcmL r = 0 := by exact_mod_cast z
      omega
    grind
  · rw [atq_out (by omega), show rowV r j = 0 from at0_out (by rw [ints_len]; omega)]
    simp
theorem atq_add {l m : List Fr} (h : l.length = m.length) (j : Nat) : atq (addL l m) j = atq l j + atq m j := by
  have hl : (addL l m).length = l.length := by rw [addL, List.length_map, List.length_zip]; omega
  by_cases c : j < l.length
  · rw [atq_in (by omega), atq_in c, atq_in (by omega)]
    simp only [addL, List.getElem_map, List.getElem_zip, toQ_ofQ]
  · rw [atq_out (by omega), atq_out (by omega), atq_out (by omega)]
    grind
theorem atq_mul {f : Fr} {l : List Fr} (j : Nat) : atq (mulL f l) j = toQ f * atq l j := by
  have hl : (mulL f l).length = l.length := by rw [mulL, List.length_map]
  by_cases c : j < l.length
  · rw [atq_in (by omega), atq_in c]
    simp only [mulL, List.getElem_map, toQ_ofQ]
  · rw [atq_out (by omega), atq_out (by omega)]
    grind
theorem add_int {l m : List Fr} (h : l.length = m.length) (hl : ∀ x ∈ l, Red x) (hm : ∀ x ∈ m, Red x) (j : Nat) : lcmL l * lcmL m * rowV (addL l m) j = lcmL (addL l m) * lcmL m * rowV l j + lcmL (addL l m) * lcmL l * rowV m j := by
  have e1 := rowV_q hl j
  have e2 := rowV_q hm j
  have e3 := rowV_q (addL_red (l := l) (m := m)) j
  rw [atq_add h] at e3
  have : ((lcmL l * lcmL m * rowV (addL l m) j : Int) : Rat) = ((lcmL (addL l m) * lcmL m * rowV l j + lcmL (addL l m) * lcmL l * rowV m j : Int) : Rat) := by
    simp only [Rat.intCast_mul, Rat.intCast_add]
    rw [e1, e2, e3]
    grind
  exact_mod_cast this
theorem mul_int' {f : Fr} {l : List Fr} (hf : f.2 ≠ 0) (hl : ∀ x ∈ l, Red x) (j : Nat) : f.2 * lcmL l * rowV (mulL f l) j = lcmL (mulL f l) * f.1 * rowV l j := by
  have e1 := rowV_q hl j
  have e3 := rowV_q (mulL_red (f := f) (r := l)) j
  rw [atq_mul, toQ, Rat.divInt_eq_div] at e3
  have f0 : ((f.2 : Int) : Rat) ≠ 0 := fun z => hf (by exact_mod_cast z)
  have : ((f.2 * lcmL l * rowV (mulL f l) j : Int) : Rat) = ((lcmL (mulL f l) * f.1 * rowV l j : Int) : Rat) := by
    simp only [Rat.intCast_mul]
    rw [e1, e3]
    grind
  exact_mod_cast this
/-- the same span -/
def SpE (F G : List (List Fr)) : Prop := (∀ r ∈ G, Sp (F.map rowV) (rowV r)) ∧ ∀ r ∈ F, Sp (G.map rowV) (rowV r)
theorem sp_mem {F : List (List Fr)} {r : List Fr} (h : r ∈ F) : Sp (F.map rowV) (rowV r) := (Cb.mem (List.mem_map.mpr ⟨r, h, rfl⟩)).sp
theorem SpE.refl {F : List (List Fr)} : SpE F F := ⟨fun r h => sp_mem h, fun r h => sp_mem h⟩
theorem SpE.trans {F G H : List (List Fr)} (h : SpE F G) (k : SpE G H) : SpE F H := ⟨fun r hr => (k.1 r hr).trans fun v hv => by
  obtain ⟨q, hq, rfl⟩ := List.mem_map.mp hv
  exact h.1 q hq, fun r hr => (h.2 r hr).trans fun v hv => by
  obtain ⟨q, hq, rfl⟩ := List.mem_map.mp hv
  exact k.2 q hq⟩
theorem SpE.of_mem {F G : List (List Fr)} (h : ∀ r, r ∈ F ↔ r ∈ G) : SpE F G := ⟨fun r hr => sp_mem ((h r).mpr hr), fun r hr => sp_mem ((h r).mp hr)⟩
theorem SpE.set {s : List (List Fr)} {i : Nat} (hi : i < s.length) {y : List Fr} (h1 : Sp (s.map rowV) (rowV y)) (h2 : Sp ((s.set i y).map rowV) (rowV s[i])) : SpE s (s.set i y) := by
  refine ⟨fun r hr => ?_, fun r hr => ?_⟩
  · rcases List.mem_or_eq_of_mem_set hr with z | z
    · exact sp_mem z
    · rw [z]; exact h1
  · obtain ⟨k, hk, rfl⟩ := List.getElem_of_mem hr
    by_cases c : k = i
    · subst c; exact h2
    · refine sp_mem ?_
      have e : (s.set i y)[k]'(by rw [List.length_set]; exact hk) = s[k] := by rw [List.getElem_set_ne (by omega)]
      rw [← e]
      exact List.getElem_mem _
theorem set_self {s : List (List Fr)} {i : Nat} (hi : i < s.length) {y : List Fr} : y ∈ s.set i y := by
  have e : (s.set i y)[i]'(by rw [List.length_set]; exact hi) = y := List.getElem_set_self _
  have h := List.getElem_mem (l := s.set i y) (n := i) (by rw [List.length_set]; exact hi)
  rw [e] at h
  exact h
end Dc
/-! R4: the same rows turned. -/
namespace Dc
open PySem PySem.Spec L2
structure TS_ (g : Bool) (T n : Nat) (l s : List (List Fr)) : Prop where
  len : s.length = l.length
  row : ∀ r ∈ s, Row g T n r
  sp : SpE l s
theorem TS_.set {g : Bool} {T T' n : Nat} {l s : List (List Fr)} (h : TS_ g T n l s) (d : T ∣ T') {i : Nat} (hi : i < s.length) {y : List Fr} (hy : Row g T' n y) (k : SpE s (s.set i y)) : TS_ g T' n l (s.set i y) := ⟨by rw [List.length_set]; exact h.len, fun r hr => by
  rcases List.mem_or_eq_of_mem_set hr with z | z
  · exact (h.row r z).mono d
  · rw [z]; exact hy, h.sp.trans k⟩
theorem spe_add {g : Bool} {T n : Nat} {s : List (List Fr)} (hs : ∀ r ∈ s, Row g T n r) {i j : Nat} (hi : i < s.length) (hj : j < s.length) (hij : j ≠ i) : SpE s (s.set i (addL s[i] s[j])) := by
  have Ri := hs _ (List.getElem_mem hi)
  have Rj := hs _ (List.getElem_mem hj)
  have e := add_int (l := s[i]) (m := s[j]) (by rw [Ri.len, Rj.len]) Ri.red Rj.red
  have li := lcmL_pos Ri.red
  have lj := lcmL_pos Rj.red
  have ln := lcmL_pos (l := addL s[i] s[j]) addL_red
  refine SpE.set hi (((sp_mem (List.getElem_mem hi)).lin (sp_mem (List.getElem_mem hj))).of_mul (c := lcmL s[i] * lcmL s[j]) (Int.mul_ne_zero (by omega) (by omega)) e) ?_
  have hj' : s[j] ∈ s.set i (addL s[i] s[j]) := by
    have q : (s.set i (addL s[i] s[j]))[j]'(by rw [List.length_set]; exact hj) = s[j] := by rw [List.getElem_set_ne (by omega)]
    have h := List.getElem_mem (l := s.set i (addL s[i] s[j])) (n := j) (by rw [List.length_set]; exact hj)
    rw [q] at h
    exact h
  refine ((sp_mem (set_self hi)).lin (a := lcmL s[i] * lcmL s[j]) (b := -(lcmL (addL s[i] s[j]) * lcmL s[i])) (sp_mem hj')).of_mul (c := lcmL (addL s[i] s[j]) * lcmL s[j]) (Int.mul_ne_zero (by omega) (by omega)) fun k => ?_
  have := e k
  grind
theorem spe_mul {g : Bool} {T n : Nat} {s : List (List Fr)} (hs : ∀ r ∈ s, Row g T n r) {i : Nat} (hi : i < s.length) {f : Fr} (h2 : f.2 ≠ 0) (h1 : f.1 ≠ 0) : SpE s (s.set i (mulL f s[i])) := by
  have Ri := hs _ (List.getElem_mem hi)
  have e := mul_int' (f := f) (l := s[i]) h2 Ri.red
  have li := lcmL_pos Ri.red
  have ln := lcmL_pos (l := mulL f s[i]) mulL_red
  refine SpE.set hi ((sp_mem (List.getElem_mem hi)).mul.of_mul (c := f.2 * lcmL s[i]) (Int.mul_ne_zero h2 (by omega)) e) ?_
  exact (sp_mem (set_self hi)).mul.of_mul (c := lcmL (mulL f s[i]) * f.1) (Int.mul_ne_zero (by omega) h1) fun k => (e k).symm
theorem law_turned_tr {g : Bool} {T n : Nat} {l : List (List Fr)} (hT : 0 < T) (h40 : 6 * T ≤ 2 ^ 40) (hl : l.length ≤ 60) (h : ∀ r ∈ l, Row g T n r) : Tr 10 (w_law_turned (l, ())) (fun F => F.length = l.length ∧ (∀ r ∈ F, Row g (6 * T) n r) ∧ SpE l F) := by
  have T40 : T ≤ 2 ^ 40 := by omega
  have d6 : T ∣ 6 * T := Nat.dvd_mul_left ..
  unfold w_law_turned wb_law_turned
  simp only [bnd_ret, bnd_assoc, bnd_grd, bnd_ifr, grd_true, fnR_bnd, fnR_ite, fnR_grd, fnR_ret, sq_nx, sq_rt, mapW_ret, eqv_nil]
  rw [grd_ok (by decide)]
  refine Tr.then 6 (S := fun fl => ∃ s, fl = .nx s ∧ TS_ g T n l s) ?_ fun fl hfl => ?_
  · refine Tr.forN (n := 2) (L := 3) (TS_ g T n l) ⟨rfl, h, SpE.refl⟩ (fun z _ s hs => ?_) (by rw [rangeF_len]; decide)
    rw [bnd_ite]
    refine Tr.ite (fun q => ?_) fun q => ?_
    · have q := of_decide_eq_true q
      have sl := hs.len
      rw [bnd_assoc]
      refine Tr.bnd (a := 1) (b := 1) (Tr.pick (by omega) (lsmall (by omega))) fun a ha => ?_
      rw [bnd_assoc]
      refine Tr.bnd (a := 1) (b := 0) (Tr.pick (by omega) (lsmall (by omega))) fun x hx => ?_
      obtain ⟨i, rfl⟩ := Int.eq_ofNat_of_zero_le ha.1
      have hi : i < s.length := by omega
      have m0 : 0 ≤ ((i : Int) + 1 + x) % (s.length : Int) := Int.emod_nonneg _ (by omega)
      have m1 : ((i : Int) + 1 + x) % (s.length : Int) < (s.length : Int) := Int.emod_lt_of_pos _ (by omega)
      have mne : ((i : Int) + 1 + x) % (s.length : Int) ≠ (i : Int) := fun z => by
        by_cases c : (i : Int) + 1 + x < (s.length : Int)
        · rw [Int.emod_eq_of_lt (by omega) c] at z; omega
        · have e : (i : Int) + 1 + x = ((i : Int) + 1 + x - (s.length : Int)) + (s.length : Int) := by omega
          rw [e, Int.add_emod_right, Int.emod_eq_of_lt (by omega) (by omega)] at z
          omega
      have mok : modOk ((i : Int) + 1 + x) (s.length : Int) = true := by
        simp only [modOk, decide_eq_true_eq]
        omega
      rw [bnd_grd, grd_ok mok, bnd_grd]
      generalize ((i : Int) + 1 + x) % (s.length : Int) = to at *
      obtain ⟨j, rfl⟩ := Int.eq_ofNat_of_zero_le m0
      have hj : j < s.length := by omega
      have ii := ix_nat hi
      have ij := ix_nat hj
      have Ri := hs.row _ (List.getElem_mem hi)
      have Rj := hs.row _ (List.getElem_mem hj)
      have e1 : (ixN s.length (i : Int)).getD 0 = i := by rw [ixN_of (by omega) (by omega)]; simp
      rw [grd_ok ii.1, bnd_grd, grd_ok ij.1, ii.2, ij.2, add_row (a := 64) (b := 64) (by decide) (by decide) Ri.red Rj.red (fun x hx => (Ri.num x hx).sz hT T40) (fun x hx => (Rj.num x hx).sz hT T40), bnd_ret]
      obtain ⟨c, e, hc⟩ := law_fitting_eq (addL s[i] s[j])
      rw [e, bnd_ret]
      cases c with
      | true =>
        rw [ite_true, e1, grd_ok ii.1, bnd_ret, sq_nx]
        change Tr 0 (bnd (ret (Fl.nx (s.set i (addL s[i] s[j])))) _) _
        rw [bnd_ret, sq_nx]
        refine Tr.ret ⟨_, rfl, hs.set (Nat.dvd_refl _) hi (Row.fit (by rw [addL, List.length_map, List.length_zip, Ri.len, Rj.len]; omega) addL_red (fun z => addL_dv hT (fun x hx => ⟨Ri.red x hx, (Ri.num x hx).dv z⟩) fun x hx => ⟨Rj.red x hx, (Rj.num x hx).dv z⟩) (hc rfl)) (spe_add hs.row hi hj (by omega))⟩
      | false =>
        rw [ite_false, bnd_ret, sq_nx]
        change Tr 0 (bnd (ret (Fl.nx s)) _) _
        rw [bnd_ret, sq_nx]
        exact Tr.ret ⟨_, rfl, hs⟩
    · rw [bnd_ret, sq_nx]
      exact (Tr.ret ⟨_, rfl, hs⟩ : Tr 0 _ _).up (by decide)
  · obtain ⟨s, rfl, hs⟩ := hfl
    have sl := hs.len
    rw [sq_nx, fnR_bnd]
    refine Tr.then 1 Tr.pick fun f hf => ?_
    obtain ⟨f1, f2, f3, f4, f5⟩ := fees hf
    rw [fnR_grd, grd_ok f1, fnR_bnd]
    generalize ixAt ([(-1, 1), (2, 1), (1, 3), (-3, 2)] : List Fr) f = fee at *
    have ne : ∀ (hz : 0 < s.length), ixOk s 0 = true ∧ ixAt s 0 = s[0] ∧ (ixN s.length 0).getD 0 = 0 := fun hz => by
      have := ix_nat hz
      refine ⟨by have := this.1; simpa using this, by have := this.2; simpa using this, ?_⟩
      rw [ixN_of (by decide) (by omega)]; rfl
    refine Tr.then 0 (S := fun b : Bool => b = true → 0 < s.length ∧ ∀ hz : 0 < s.length, ∀ x ∈ mulL fee s[0], x.1.natAbs ≤ 9999 ∧ x.2 ≤ 9999) (Tr.ite (fun q => ?_) fun q => Tr.ret fun z => by cases z) fun b hb => ?_
    · have hz : 0 < s.length := by
        cases s with
        | nil => cases q
        | cons _ _ => simp
      obtain ⟨n1, n2, n3⟩ := ne hz
      have R0 := hs.row _ (List.getElem_mem hz)
      rw [grd_ok n1, n2, mul_row f2 f3 R0.red (fun x hx => (R0.num x hx).sz hT T40), bnd_ret]
      obtain ⟨c, e, hc⟩ := law_fitting_eq (mulL fee s[0])
      rw [e]
      exact Tr.ret fun z => ⟨hz, fun _ => hc z⟩
    rw [fnR_bnd]
    refine Tr.then 0 (S := fun fl => ∃ s', fl = .nx s' ∧ TS_ g (6 * T) n l s') (Tr.ite (fun q => ?_) fun q => Tr.ret ⟨_, rfl, hs.len, fun r hr => (hs.row r hr).mono d6, hs.sp⟩) fun fl hfl => ?_
    · obtain ⟨hz, hc⟩ := hb q
      obtain ⟨n1, n2, n3⟩ := ne hz
      have R0 := hs.row _ (List.getElem_mem hz)
      rw [grd_ok n1, n2, mul_row f2 f3 R0.red (fun x hx => (R0.num x hx).sz hT T40), bnd_ret, grd_ok n1, n3]
      exact Tr.ret ⟨_, rfl, hs.set d6 hz (Row.fit (by rw [mulL, List.length_map, R0.len]) mulL_red (fun z => mulL_dv f2 f4 fun x hx => ⟨R0.red x hx, (R0.num x hx).dv z⟩) (hc hz)) (spe_mul hs.row hz (red_ne f2) f5)⟩
    · obtain ⟨s', rfl, hs'⟩ := hfl
      have sl' := hs'.len
      rw [sq_nx, fnR_bnd]
      refine Tr.then 1 (Tr.pick (by omega) (lsmall (by omega))) fun v hv => ?_
      obtain ⟨c, rfl⟩ := Int.eq_ofNat_of_zero_le hv.1
      have hc : c ≤ s'.length := by omega
      rw [HT.sIx_nat, HT.sIx_nat, HT.sIx_none, HT.sIx_none, Nat.min_eq_left hc, List.drop_zero, Nat.sub_zero, List.take_of_length_le (l := s'.drop c) (by rw [List.length_drop]; omega)]
      rw [fnR_grd, grd_ok (decide_eq_true (by rw [List.length_reverse, List.length_drop, List.length_take]; omega)), fnR_ret]
      have mem : ∀ r, r ∈ s' ↔ r ∈ s'.drop c ++ (s'.take c).reverse := fun r => by
        rw [List.mem_append, List.mem_reverse, or_comm, ← List.mem_append, List.take_append_drop]
      exact Tr.ret ⟨by rw [List.length_append, List.length_reverse, List.length_drop, List.length_take]; omega, fun r hr => hs'.row r ((mem r).mpr hr), hs'.sp.trans (SpE.of_mem mem)⟩
/-! ### span -/
theorem check_rows_eq {rows : List (List Fr)} {n : Nat} (h : ∀ r ∈ rows, r.length = n ∧ ∀ x ∈ r, Red x) : w_check_rows (rows, (n : Int), ()) = ret () := by
  unfold w_check_rows wb_check_rows
  simp only [bnd_ret, bnd_assoc, bnd_grd, grd_true, sq_nx, fnU_bnd]
  rw [forW_eq (g := fun _ _ => ()) (fun x hx s => by rw [check_numbers_eq (h x hx).2, bnd_ret]), bnd_ret, sq_nx, fnU_bnd, forW_eq (g := fun _ _ => ()) (fun x hx s => by
    rw [(h x hx).1, ite_no (by simp), bnd_ret, sq_nx]), bnd_ret]
  rfl
theorem span_tr {rows : List (List Fr)} {n m : Nat} {S : List (List Fr) → Prop} (h : ∀ r ∈ rows, r.length = n ∧ ∀ x ∈ r, Red x) (k : Tr m (w_reduced (rows, ())) S) : Tr m (w_span (rows, (n : Int), ())) S := by
  unfold w_span wb_span
  simp only [bnd_ret, bnd_assoc, bnd_grd, grd_true, fnR_bnd, fnR_ret]
  rw [check_rows_eq h, bnd_ret]
  exact (Tr.bnd (b := 0) k fun x hx => Tr.ret hx).up (Nat.le_refl _)
end Dc
/-! R5: the law. -/
namespace Dc
open PySem PySem.Spec L2
theorem nott : (!true) = false := rfl
def Few {α : Type} (l : List α) : Prop := l.length ≤ 1000000
theorem dok_line {n : Nat} {l : List Fr} (h : Few l) : dOk (n + 2) (D.lst (l.map fun z => D.tup [D.int z.1, D.int z.2])) := ⟨by rw [List.length_map]; exact Nat.le_trans h (by decide), fun d hd => by
  obtain ⟨x, _, rfl⟩ := List.mem_map.mp hd
  exact ⟨by show 2 ≤ 16777216; decide, fun d hd => by
    simp only [List.mem_cons, List.not_mem_nil, or_false] at hd
    rcases hd with rfl | rfl <;> cases n <;> exact True.intro⟩⟩
theorem dok_rows {n : Nat} {r : List (List Fr)} (h : Few r) (h2 : ∀ l ∈ r, Few l) : dOk (n + 3) (D.lst (r.map fun z => D.lst (z.map fun z => D.tup [D.int z.1, D.int z.2]))) := ⟨by rw [List.length_map]; exact Nat.le_trans h (by decide), fun d hd => by
  obtain ⟨x, hx, rfl⟩ := List.mem_map.mp hd
  exact dok_line (h2 x hx)⟩
theorem alike_r {r : List (List Fr)} (h : Few r) (h2 : ∀ l ∈ r, Few l) : w_law_alike 6 (D.lst (r.map fun z => D.lst (z.map fun z => D.tup [D.int z.1, D.int z.2])), D.lst (r.map fun z => D.lst (z.map fun z => D.tup [D.int z.1, D.int z.2])), ()) = ret true := alike_self 5 _ (dok_rows h h2)
theorem Tr.fil0 {α β : Type} {t : α → W Bool} {f : α → W β} : ∀ {xs : List α}, (∀ x ∈ xs, Tr 0 (t x) (fun b => b = false)) → Tr 0 (filW t f xs) (fun r => r = [])
  | [], _ => Tr.ret rfl
  | x :: r, h => by
    refine Tr.bnd (a := 0) (b := 0) (h x List.mem_cons_self) fun b hb => ?_
    subst hb
    rw [ite_false]
    exact Tr.fil0 fun z hz => h z (List.mem_cons_of_mem _ hz)
theorem Tr.eqB' {α β : Type} {n : Nat} {m : W α} {x : α} {k : α → W β} {T : β → Prop} (h : m = Dc.ret x) (h2 : Tr n (k x) T) : Tr n (Dc.bnd m k) T := by
  rw [h, bnd_ret]
  exact h2
theorem form_eq {n : Nat} {P : List Nat} {D D' : Int} {M M' : Nat → Vec} (h : D ≠ 0) (h' : D' ≠ 0) (e : ∀ p ∈ P, ∀ j, D' * M p j = D * M' p j) : form n P D M = form n P D' M' :=
  List.map_congr_left fun p hp => fvec_cong fun j _ => (Rat.divInt_eq_divInt_iff h h').mpr (by have := e p hp j; grind)
theorem form_few {n : Nat} {P : List Nat} {D : Int} {M : Nat → Vec} (hp : P.length ≤ 1000000) (hn : n ≤ 1000000) : Few (form n P D M) ∧ ∀ l ∈ form n P D M, Few l := ⟨by unfold Few; rw [form, List.length_map]; exact hp, fun l hl => by
  obtain ⟨p, _, rfl⟩ := List.mem_map.mp hl
  unfold Few
  rw [fvec_len]; exact hn⟩
theorem span_new {g : Bool} {n : Nat} {l : List (List Fr)} (hn : n ≤ 40) (hg : g = true → n ≤ 6) (hl : l.length < 64) (h : ∀ r ∈ l, Row g TT n r) : Tr 0 (w_span (l, (n : Int), ())) (fun F => ∃ P D M, RFn n XX (l.map rowV) P D M ∧ F = form n P D M) := by
  have lim := lim_of h hn hg
  refine span_tr (fun r hr => ⟨(h r hr).len, (h r hr).red⟩) ((reduced_tr lim.rin lim.L hl (by omega)).cons fun F hF => ?_)
  obtain ⟨P, D, M, R, e⟩ := hF
  exact ⟨P, D, M, R.n (B := 0) fun r hr => (h r hr).len, e⟩
theorem span_old {n : Nat} {rows : List Vec} {P : List Nat} {D : Int} {M : Nat → Vec} {xs : List (List Fr)} (R : RFn n XX rows P D M) (hn : n ≤ 40) (hl : xs.length < 64) (h : ∀ r, r ∈ xs ↔ r ∈ form n P D M) : Tr 0 (w_span (xs, (n : Int), ())) (fun F => F = form n P D M) := by
  have h1 : ∀ r ∈ xs, ∃ p ∈ P, r = frow n (M p) D := fun r hr => by
    obtain ⟨p, hp, e⟩ := List.mem_map.mp ((h r).mp hr)
    exact ⟨p, hp, e.symm⟩
  refine span_tr (fun r hr => ?_) (reduced_form R (Nat.pow_lt_pow_right (by decide) (by decide)) h1 (fun p hp => (h _).mpr (List.mem_map.mpr ⟨p, hp, rfl⟩)) hl (by omega))
  obtain ⟨p, _, rfl⟩ := h1 r hr
  exact ⟨fvec_len, fvec_red⟩
theorem law_tr (ns : List Int) : Tr 7000 (w_law (ns, ())) (fun r => r = true) := by
  unfold w_law wb_law
  simp only [bnd_ret, bnd_assoc, bnd_grd, bnd_ifr, grd_true, fnR_bnd, fnR_ite, fnR_grd, fnR_ret, sq_nx, sq_rt]
  rw [grd_ok (by decide)]
  refine Tr.then 6020 (S := fun fl => ∃ s, fl = .nx s ∧ True) (Tr.forN (n := 3010) (L := 2) (fun _ => True) trivial (fun z _ s _ => ?_) (by rw [rangeF_len]; decide)) fun fl hfl => ?_
  · refine Tr.then 3000 law_rows_tr fun lw hlw => ?_
    obtain ⟨l, w⟩ := lw
    obtain ⟨n, g, e, n1, n40, l40, hg, hr⟩ := hlw
    have e : w = (n : Int) := e
    subst e
    have hr : ∀ r ∈ l, Row g (2520 * 6 ^ 4) n r := hr
    have l40 : l.length ≤ 40 := l40
    have rT : ∀ r ∈ l, Row g TT n r := fun r h => (hr r h).mono (by decide)
    have lim := lim_of rT n40 hg
    dsimp only
    rw [mapW_ret, bnd_ret]
    refine Tr.then 0 (span_new n40 hg (by omega) rT) fun told ht => ?_
    obtain ⟨P, D, M, R, rfl⟩ := ht
    refine Tr.then 0 (law_form_tr lim (by omega) (by omega)) fun due hd => ?_
    obtain ⟨P', D', M', R', rfl⟩ := hd
    obtain ⟨rfl, eM⟩ := rf_eq R.R R' (fun r h => (Cb.mem h).sp) (fun r h => (Cb.mem h).sp)
    rw [← form_eq (n := n) R.R.d0 R'.d0 eM]
    have pl := R.plen
    obtain ⟨f1, f2⟩ := form_few (D := D) (M := M) (show P.length ≤ 1000000 by omega) (show n ≤ 1000000 by omega)
    rw [alike_r f1 f2, bnd_ret, nott, ite_false, eqv_rows, nott, ite_false, bnd_assoc]
    refine Tr.then 0 (law_shaped_tr R (by omega)) fun b hb => ?_
    subst hb
    rw [bnd_ret, nott, ite_false]
    have st : mapW (fun y1208 => grd (rngOk 0 (n : Int)) (bnd (filW (fun y1212 => grd (ixOk y1208 y1212) (ret !decide ((ixAt y1208 y1212).1 = 0))) (fun y1212 => ret y1212) (rangeF 0 (n : Int).toNat)) fun t1219 => grd (ixOk t1219 0) (ret (ixAt t1219 0)))) (form n P D M) = ret (P.map fun p : Nat => (p : Int)) := mapW_map fun p hp => by
      obtain ⟨r, e⟩ := full_eq R hp
      have i0 := ix_nat (l := (p : Int) :: r) (i := 0) (by simp)
      have i01 : ixOk ((p : Int) :: r) 0 = true := by have := i0.1; simpa using this
      have i02 : ixAt ((p : Int) :: r) 0 = (p : Int) := by have := i0.2; simpa using this
      rw [grd_ok (rngOk_n (by omega)), Int.toNat_natCast]
      rw [e, bnd_ret, grd_ok i01, i02]
    rw [st, bnd_ret]
    refine Tr.then 0 (Tr.fil0 fun r hr' => ?_) fun bad hbad => ?_
    · refine Tr.bnd (a := 0) (b := 0) (law_holds_tr R (lim.rin r hr') (lim.lb r hr') (sp_mem hr') (lim_h n40) lim.b1) fun b hb => Tr.ret (by rw [hb]; rfl)
    subst hbad
    rw [eqv_nil, show (!([] : List (List Fr)).isEmpty) = false from rfl, ite_false]
    refine Tr.then 10 (law_turned_tr (T := 2520 * 6 ^ 4) (by decide) (by decide) (by omega) hr) fun F hF => ?_
    obtain ⟨F1, F2, F3⟩ := hF
    refine Tr.then 0 (span_new (l := F) n40 hg (by omega) fun r h => (F2 r h).mono (by decide)) fun told2 ht => ?_
    obtain ⟨P2, D2, M2, R2, rfl⟩ := ht
    obtain ⟨rfl, eM2⟩ := rf_eq R.R R2.R (fun v hv => by
      obtain ⟨r, h, rfl⟩ := List.mem_map.mp hv
      exact F3.2 r h) (fun v hv => by
      obtain ⟨r, h, rfl⟩ := List.mem_map.mp hv
      exact F3.1 r h)
    rw [← form_eq (n := n) R.R.d0 R2.R.d0 eM2, alike_r f1 f2, bnd_ret, nott, ite_false]
    have fl : (form n P D M).length = P.length := by rw [form, List.length_map]
    refine Tr.then 0 (S := fun xs => xs.length < 64 ∧ ∀ r, r ∈ xs ↔ r ∈ form n P D M) (Tr.ite (fun q => ?_) fun q => Tr.ret ⟨by rw [List.length_reverse, fl]; omega, fun r => List.mem_reverse⟩) fun xs hxs => ?_
    · have q := of_decide_eq_true q
      rw [grd_ok (decide_eq_true (by rw [List.length_reverse, fl]; omega))]
      refine Tr.ret ⟨by rw [List.length_append, List.length_reverse]; omega, fun r => by rw [List.mem_append, List.mem_reverse, or_self]⟩
    · refine Tr.then 0 (span_old R n40 (by rw [fl]; omega) fun r => Iff.rfl) fun t3 h3 => ?_
      subst h3
      rw [alike_r f1 f2, bnd_ret, nott, ite_false, bnd_assoc]
      refine Tr.then 0 (span_old R n40 hxs.1 hxs.2) fun t4 h4 => ?_
      subst h4
      rw [bnd_assoc, alike_r f1 f2, bnd_ret, bnd_ret, nott, ite_false]
      exact Tr.ret ⟨(), rfl, trivial⟩
  · obtain ⟨s, rfl, _⟩ := hfl
    rw [sq_nx, fnR_bnd]
    refine Tr.then 1 Tr.pick fun k hk => ?_
    obtain ⟨i, rfl⟩ := Int.eq_ofNat_of_zero_le hk.1
    rw [fnR_bnd, show (1 : Int) + (i : Int) = ((1 + i : Nat) : Int) by simp]
    refine Tr.then 0 (span_new (g := false) (n := 1 + i) (l := []) (by omega) (fun h => by cases h) (by decide) fun r h => by cases h) fun F hF => ?_
    obtain ⟨P, D, M, R, rfl⟩ := hF
    have P0 : P = [] := by
      cases P with
      | nil => rfl
      | cons p P =>
        exfalso
        obtain ⟨e, e0, k⟩ := R.R.sp p List.mem_cons_self
        have k : e * M p p = 0 := k p
        rw [R.R.one p List.mem_cons_self] at k
        exact R.R.d0 ((Int.mul_eq_zero.mp k).resolve_left e0)
    subst P0
    have a := alike_r (r := []) (by unfold Few; decide) (fun l h => by cases h)
    rw [fnR_bnd]
    refine Tr.eqB' a ?_
    rw [fnR_ret]
    exact Tr.ret rfl
theorem law_true (ns : List Int) (_ : ns.length ≤ 63) : w_law (ns, ()) (fun r _ => r = true) noX 0 := law_tr ns _ _ 0 (Nat.le_trans (show 0 + 7000 ≤ 2 ^ 17 by decide) (Nat.pow_le_pow_right (by decide) (by decide))) fun r _ _ h => h
end Dc
open PySem PySem.W PyProof.Rows
set_option maxHeartbeats 0 in
theorem PySem.Challenge.cw_toldproducts_k03_whole_the_only_form_holds : PySem.Challenge.rw_toldproducts_k03_whole_the_only_form.Holds := by
  w_on; o_law; k_head; (case hw => w_witness2)
  k_fill
  refine L2.walk_of (l := PySem.Challenge.rw_toldproducts_k03_whole_the_only_form) (n := 63) (k := 8) (x := Str.ofString "_law_script") (CX := fun _ => L2.CX0) (sp := fun w => Dc.spLaw _) rfl (by decide) rfl ⟨rfl, by decide, by decide⟩ (fun w h Y => PySem.W.kIn_of Y) ?F (fun _ _ a ns hl _ hS => ⟨a, ns, rfl, hS, hl, fun _ => rfl⟩) (fun _ _ _ _ _ h => h)
  case F =>
    intro w mg fa h KX G hmg
    refine' Dc.all_mk KX G hmg ?a0 ?l0 ?c0 ?k0 ?a1 ?l1 ?c1 ?k1 ?a2 ?l2 ?c2 ?k2 ?a3 ?l3 ?c3 ?k3 ?a4 ?l4 ?c4 ?k4 ?a5 ?l5 ?c5 ?k5 ?a6 ?l6 ?c6 ?k6 ?a7 ?l7 ?c7 ?k7 ?a8 ?l8 ?c8 ?k8 ?a9 ?l9 ?c9 ?k9 ?a10 ?l10 ?c10 ?k10 ?a11 ?l11 ?c11 ?k11 ?a12 ?l12 ?c12 ?k12 ?a13 ?l13 ?c13 ?k13 ?a14 ?l14 ?c14 ?k14 ?a15 ?l15 ?c15 ?k15 ?a16 ?l16 ?c16 ?k16 ?a17 ?l17 ?c17 ?k17 ?a18 ?l18 ?c18 ?k18 ?a19 ?l19 ?c19 ?k19 ?a20 ?l20 ?c20 ?k20 ?a21 ?l21 ?c21 ?k21 ?a22 ?l22 ?c22 ?k22 ?a23 ?l23 ?c23 ?k23 ?a24 ?l24 ?c24 ?k24 ?a25 ?l25 ?c25 ?k25 ?a26 ?l26 ?c26 ?k26 ?a27 ?l27 ?c27 ?k27 ?a28 ?l28 ?c28 ?k28 ?z_abs ?z_bool ?z_enumerate ?z_int ?z_isinstance ?z_len ?z_list ?z_range ?z_sorted ?z_tuple ?z_zip ?g_gcd ?g_lcm Dc.law_true
    (case a0 => k_is)
    (case l0 => k_is)
    (case c0 => k_is)
    (case k0 => k_is)
    (case a1 => k_is)
    (case l1 => k_is)
    (case c1 => k_is)
    (case k1 => k_is)
    (case a2 => k_is)
    (case l2 => k_is)
    (case c2 => k_is)
    (case k2 => k_is)
    (case a3 => k_is)
    (case l3 => k_is)
    (case c3 => k_is)
    (case k3 => k_is)
    (case a4 => k_is)
    (case l4 => k_is)
    (case c4 => k_is)
    (case k4 => k_is)
    (case a5 => k_is)
    (case l5 => k_is)
    (case c5 => k_is)
    (case k5 => k_is)
    (case a6 => k_is)
    (case l6 => k_is)
    (case c6 => k_is)
    (case k6 => k_is)
    (case a7 => k_is)
    (case l7 => k_is)
    (case c7 => k_is)
    (case k7 => k_is)
    (case a8 => k_is)
    (case l8 => k_is)
    (case c8 => k_is)
    (case k8 => k_is)
    (case a9 => k_is)
    (case l9 => k_is)
    (case c9 => k_is)
    (case k9 => k_is)
    (case a10 => k_is)
    (case l10 => k_is)
    (case c10 => k_is)
    (case k10 => k_is)
    (case a11 => k_is)
    (case l11 => k_is)
    (case c11 => k_is)
    (case k11 => k_is)
    (case a12 => k_is)
    (case l12 => k_is)
    (case c12 => k_is)
    (case k12 => k_is)
    (case a13 => k_is)
    (case l13 => k_is)
    (case c13 => k_is)
    (case k13 => k_is)
    (case a14 => k_is)
    (case l14 => k_is)
    (case c14 => k_is)
    (case k14 => k_is)
    (case a15 => k_is)
    (case l15 => k_is)
    (case c15 => k_is)
    (case k15 => k_is)
    (case a16 => k_is)
    (case l16 => k_is)
    (case c16 => k_is)
    (case k16 => k_is)
    (case a17 => k_is)
    (case l17 => k_is)
    (case c17 => k_is)
    (case k17 => k_is)
    (case a18 => k_is)
    (case l18 => k_is)
    (case c18 => k_is)
    (case k18 => k_is)
    (case a19 => k_is)
    (case l19 => k_is)
    (case c19 => k_is)
    (case k19 => k_is)
    (case a20 => k_is)
    (case l20 => k_is)
    (case c20 => k_is)
    (case k20 => k_is)
    (case a21 => k_is)
    (case l21 => k_is)
    (case c21 => k_is)
    (case k21 => k_is)
    (case a22 => k_is)
    (case l22 => k_is)
    (case c22 => k_is)
    (case k22 => k_is)
    (case a23 => k_is)
    (case l23 => k_is)
    (case c23 => k_is)
    (case k23 => k_is)
    (case a24 => k_is)
    (case l24 => k_is)
    (case c24 => k_is)
    (case k24 => k_is)
    (case a25 => k_is)
    (case l25 => k_is)
    (case c25 => k_is)
    (case k25 => k_is)
    (case a26 => k_is)
    (case l26 => k_is)
    (case c26 => k_is)
    (case k26 => k_is)
    (case a27 => k_is)
    (case l27 => k_is)
    (case c27 => k_is)
    (case k27 => k_is)
    (case a28 => k_is)
    (case l28 => k_is)
    (case c28 => k_is)
    (case k28 => k_is)
    (case z_abs => k_is)
    (case z_bool => k_is)
    (case z_enumerate => k_is)
    (case z_int => k_is)
    (case z_isinstance => k_is)
    (case z_len => k_is)
    (case z_list => k_is)
    (case z_range => k_is)
    (case z_sorted => k_is)
    (case z_tuple => k_is)
    (case z_zip => k_is)
    (case g_gcd => k_is)
    (case g_lcm => k_is)
