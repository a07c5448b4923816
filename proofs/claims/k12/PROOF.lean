import PyProof.Rows.All
import HandS.ForMost
import HandS.Wide
import HandS.WideBits
import HandS.Gcd
import HandS.Flow
import HandS.IsInst
import HandS.Style
import HandS.Property
import HandS.Star
import HandS.Codes
import HandS.TryOnly
import HandS.OwnEq
import HandS.Conv
import HandS.IterVal
import PySem.Challenge.RW_toldproducts_k12_whole_over_another_basi
set_option Elab.async false
set_option linter.all false
set_option maxRecDepth 100000
/-! DcA: the judgements. A def of the program is told by a plain function into W, a small monad of wishes; encodings tell how values stand in the heap. -/
namespace Dc
open PySem PySem.Spec L2

/-! ### data as a whole -/
inductive D where
  | non | bl (b : Bool) | int (i : Int) | str (s : Str) | lst (ds : List D) | tup (ds : List D)

/-! ### the monad of wishes: c counts draws -/
structure Ex where
  cls : Nat
  val : D
abbrev WB := Nat → Prop
def W (α : Type) : Type := (α → WB) → (Ex → WB) → WB
def ret {α : Type} (x : α) : W α := fun Φ _ c => Φ x c
def bnd {α β : Type} (m : W α) (k : α → W β) : W β := fun Φ Ψ c => m (fun x c' => k x Φ Ψ c') Ψ c
def stuck {α : Type} : W α := fun _ _ _ => False
def raise {α : Type} (e : Ex) : W α := fun _ Ψ c => Ψ e c
def grd {α : Type} (b : Bool) (m : W α) : W α := fun Φ Ψ c => b = true ∧ m Φ Ψ c
def ite {α : Type} (b : Bool) (m n : W α) : W α := fun Φ Ψ c => if b = true then m Φ Ψ c else n Φ Ψ c
theorem bnd_ret {α β : Type} (x : α) (k : α → W β) : bnd (ret x) k = k x := (rfl)
theorem bnd_assoc {α β γ : Type} (m : W α) (k : α → W β) (l : β → W γ) : bnd (bnd m k) l = bnd m (fun x => bnd (k x) l) := (rfl)
theorem bnd_ret_r {α : Type} (m : W α) : bnd m ret = m := (rfl)
theorem bnd_stuck {α β : Type} (k : α → W β) : bnd stuck k = stuck := (rfl)
theorem bnd_grd {α β : Type} (b : Bool) (m : W α) (k : α → W β) : bnd (grd b m) k = grd b (bnd m k) := (rfl)
theorem grd_true {α : Type} (m : W α) : grd true m = m := by
  funext Φ Ψ c
  simp [grd]
theorem ite_true {α : Type} (m n : W α) : ite true m n = m := (rfl)
theorem ite_false {α : Type} (m n : W α) : ite false m n = n := by
  funext Φ Ψ c
  simp [ite]
theorem bnd_ite {α β : Type} (b : Bool) (m n : W α) (k : α → W β) : bnd (ite b m n) k = ite b (bnd m k) (bnd n k) := by
  funext Φ Ψ c
  cases b <;> simp [ite, bnd]
def noX : Ex → WB := fun _ _ => False

/-! ### encodings -/
abbrev AS := Addr → Prop
def Mv (O O' : AS) (H H' : Hp) : Prop := ∀ a o, ¬ O a → H a = some o → H' a = some o ∧ ¬ O' a
theorem Mv.refl {O : AS} {H : Hp} : Mv O O H H := fun _ _ h e => ⟨e, h⟩
theorem Mv.same {O : AS} {H H' : Hp} (s : Same H H') : Mv O O H H' := fun a o h e => ⟨s a o e, h⟩
theorem Mv.less {O O' : AS} {H : Hp} (h : ∀ a, O' a → O a) : Mv O O' H H := fun a _ n e => ⟨e, fun z => n (h a z)⟩
theorem Mv.trans {O O1 O2 : AS} {H H1 H2 : Hp} (x : Mv O O1 H H1) (y : Mv O1 O2 H1 H2) : Mv O O2 H H2 := fun a o n e =>
  let ⟨e1, n1⟩ := x a o n e
  y a o n1 e1
structure En (K : PySem.W.Frag) (α : Type) where
  r : AS → Hp → V → α → Prop
  mono : ∀ {O O' : AS} {H H' : Hp} {v : V} {x : α}, Mv O O' H H' → r O H v x → r O' H' v x
inductive F2 {α β : Type} (R : α → β → Prop) : List α → List β → Prop where
  | nil : F2 R [] []
  | cons {a b l m} : R a b → F2 R l m → F2 R (a :: l) (b :: m)
section
variable {α β : Type} {R S : α → β → Prop} {l : List α} {m : List β}
theorem F2.imp (h : F2 R l m) (f : ∀ a b, R a b → S a b) : F2 S l m := by
  induction h with
  | nil => exact .nil
  | cons r _ ih => exact .cons (f _ _ r) ih
theorem F2.length (h : F2 R l m) : l.length = m.length := by
  induction h with
  | nil => rfl
  | cons _ _ ih => simp [ih]
theorem F2.get (h : F2 R l m) : ∀ {i : Nat} {b : β}, m[i]? = some b → ∃ a, l[i]? = some a ∧ R a b := by
  induction h with
  | nil => intro i b e; simp at e
  | cons r _ ih =>
    intro i b e
    cases i with
    | zero => simp at e; subst e; exact ⟨_, by simp, r⟩
    | succ i => simpa using ih (by simpa using e)
theorem F2.get' (h : F2 R l m) : ∀ {i : Nat} {a : α}, l[i]? = some a → ∃ b, m[i]? = some b ∧ R a b := by
  induction h with
  | nil => intro i b e; simp at e
  | cons r _ ih =>
    intro i b e
    cases i with
    | zero => simp at e; subst e; exact ⟨_, by simp, r⟩
    | succ i => simpa using ih (by simpa using e)
theorem F2.append {l2 : List α} {m2 : List β} (h : F2 R l m) (h2 : F2 R l2 m2) : F2 R (l ++ l2) (m ++ m2) := by
  induction h with
  | nil => exact h2
  | cons r _ ih => exact .cons r ih
theorem F2.set (h : F2 R l m) : ∀ (i : Nat) {a : α} {b : β}, R a b → F2 R (l.set i a) (m.set i b) := by
  induction h with
  | nil => intro i a b _; exact .nil
  | cons r t ih =>
    intro i a b q
    cases i with
    | zero => exact .cons q t
    | succ i => exact .cons r (ih i q)
theorem F2.drop (h : F2 R l m) : ∀ (i : Nat), F2 R (l.drop i) (m.drop i) := by
  induction h with
  | nil => intro i; simp; exact .nil
  | cons r t ih =>
    intro i
    cases i with
    | zero => exact .cons r t
    | succ i => simpa using ih i
theorem F2.take (h : F2 R l m) : ∀ (i : Nat), F2 R (l.take i) (m.take i) := by
  induction h with
  | nil => intro i; simp; exact .nil
  | cons r t ih =>
    intro i
    cases i with
    | zero => simp; exact .nil
    | succ i => simpa using F2.cons r (ih i)
theorem F2.rep {a : α} {b : β} (r : R a b) : ∀ n : Nat, F2 R (List.replicate n a) (List.replicate n b)
  | 0 => .nil
  | n + 1 => .cons r (F2.rep r n)
theorem F2.rev (h : F2 R l m) : F2 R l.reverse m.reverse := by
  induction h with
  | nil => exact .nil
  | cons r _ ih => simpa using ih.append (.cons r .nil)
theorem F2.dropLast (h : F2 R l m) : F2 R l.dropLast m.dropLast := by
  rw [List.dropLast_eq_take, List.dropLast_eq_take, h.length]
  exact h.take _
theorem F2.eraseIdx (h : F2 R l m) : ∀ (i : Nat), F2 R (l.eraseIdx i) (m.eraseIdx i) := by
  induction h with
  | nil => intro i; simp; exact .nil
  | cons r t ih =>
    intro i
    cases i with
    | zero => simpa using t
    | succ i => simpa using F2.cons r (ih i)
end
section
variable {K : PySem.W.Frag} {α β γ : Type}
def kTup (K : PySem.W.Frag) (a : Addr) (xs : List V) : Prop :=
  ∃ (o : Obj) (its : Array Value) (n : Nat), K.lookup a = some o ∧ o.cls = .type "tuple" ∧ o.data = .seq its n ∧ its.size ≤ sizeLine ∧ Vals xs its.toList
def TupAt (K : PySem.W.Frag) (O : AS) (H : Hp) (a : Addr) (xs : List V) : Prop := (¬ O a ∧ Rd H a (.tup xs)) ∨ kTup K a xs
def LstAt (O : AS) (H : Hp) (a : Addr) (xs : List V) : Prop := ¬ O a ∧ H a = some (.lst xs)
def kLst (K : PySem.W.Frag) (a : Addr) (xs : List V) : Prop :=
  ∃ (o : Obj) (its : Array Value) (n : Nat), K.lookup a = some o ∧ o.cls = .type "list" ∧ o.dict = none ∧ o.data = .seq its n ∧ its.size ≤ sizeLine ∧ Vals xs its.toList
def LstR (K : PySem.W.Frag) (O : AS) (H : Hp) (a : Addr) (xs : List V) : Prop := (¬ O a ∧ Rd H a (.lst xs)) ∨ kLst K a xs
theorem Rd.mv {O O' : AS} {H H' : Hp} {a : Addr} {u : HO} (m : Mv O O' H H') (n : ¬ O a) (h : Rd H a u) : Rd H' a u ∧ ¬ O' a := by
  rcases h with h | ⟨o, h⟩
  · exact ⟨.inl (m _ _ n h).1, (m _ _ n h).2⟩
  · exact ⟨.inr ⟨o, (m _ _ n h).1⟩, (m _ _ n h).2⟩
theorem TupAt.mv {O O' : AS} {H H' : Hp} {a : Addr} {xs : List V} (m : Mv O O' H H') (h : TupAt K O H a xs) : TupAt K O' H' a xs := by
  rcases h with ⟨n, h⟩ | h
  · exact .inl ⟨(Rd.mv m n h).2, (Rd.mv m n h).1⟩
  · exact .inr h
theorem LstAt.mv {O O' : AS} {H H' : Hp} {a : Addr} {xs : List V} (m : Mv O O' H H') (h : LstAt O H a xs) : LstAt O' H' a xs := ⟨(m _ _ h.1 h.2).2, (m _ _ h.1 h.2).1⟩
theorem LstR.mv {O O' : AS} {H H' : Hp} {a : Addr} {xs : List V} (m : Mv O O' H H') (h : LstR K O H a xs) : LstR K O' H' a xs := by
  rcases h with ⟨n, h⟩ | h
  · exact .inl ⟨(Rd.mv m n h).2, (Rd.mv m n h).1⟩
  · exact .inr h
theorem LstAt.r {O : AS} {H : Hp} {a : Addr} {xs : List V} (h : LstAt O H a xs) : LstR K O H a xs := .inl ⟨h.1, .inl h.2⟩
theorem LstR.sq {O : AS} {H : Hp} {a : Addr} {xs : List V} (h : LstR K O H a xs) : SqL K H a xs := by
  rcases h with ⟨_, h⟩ | h
  · exact .inl h
  · exact .inr h
theorem SqL.r {H : Hp} {a : Addr} {xs : List V} (h : SqL K H a xs) : LstR K (fun _ => False) H a xs := by
  rcases h with h | h
  · exact .inl ⟨fun z => z, h⟩
  · exact .inr h
theorem TupAt.sq {O : AS} {H : Hp} {a : Addr} {xs : List V} (h : TupAt K O H a xs) : SqT K H a xs := by
  rcases h with ⟨_, h⟩ | h
  · exact .inl h
  · exact .inr h
theorem LstAt.sq {O : AS} {H : Hp} {a : Addr} {xs : List V} (h : LstAt O H a xs) : SqL K H a xs := .inl (.inl h.2)
def eI : En K Int := ⟨fun _ _ v x => v = .int x, fun _ h => h⟩
def eB : En K Bool := ⟨fun _ _ v x => v = .bl x, fun _ h => h⟩
def eS : En K Str := ⟨fun _ _ v x => v = .str x, fun _ h => h⟩
def eU : En K Unit := ⟨fun _ _ v _ => v = .non, fun _ h => h⟩
/-- a list that nobody writes at -/
def eL (e : En K α) : En K (List α) := ⟨fun O H v xs => ∃ a vs, v = .ref a ∧ LstAt O H a vs ∧ F2 (e.r O H) vs xs, fun m ⟨a, vs, e1, h, f⟩ => ⟨a, vs, e1, h.mv m, f.imp fun _ _ => e.mono m⟩⟩
/-- a list that is read alone (the script) -/
def eR (e : En K α) : En K (List α) := ⟨fun O H v xs => ∃ a vs, v = .ref a ∧ LstR K O H a vs ∧ F2 (e.r O H) vs xs, fun m ⟨a, vs, e1, h, f⟩ => ⟨a, vs, e1, h.mv m, f.imp fun _ _ => e.mono m⟩⟩
theorem eL_R {e : En K α} {O : AS} {H : Hp} {v : V} {xs : List α} (h : (eL e).r O H v xs) : (eR e).r O H v xs := by
  obtain ⟨a, vs, e1, l, f⟩ := h
  exact ⟨a, vs, e1, l.r, f⟩
/-- a tuple of two, three -/
def eP (e : En K α) (f : En K β) : En K (α × β) :=
  ⟨fun O H v x => ∃ a u w, v = .ref a ∧ TupAt K O H a [u, w] ∧ e.r O H u x.1 ∧ f.r O H w x.2, fun m ⟨a, u, w, e1, h, p, q⟩ => ⟨a, u, w, e1, h.mv m, e.mono m p, f.mono m q⟩⟩
def eP3 (e : En K α) (f : En K β) (g : En K γ) : En K (α × β × γ) :=
  ⟨fun O H v x => ∃ a u w z, v = .ref a ∧ TupAt K O H a [u, w, z] ∧ e.r O H u x.1 ∧ f.r O H w x.2.1 ∧ g.r O H z x.2.2, fun m ⟨a, u, w, z, e1, h, p, q, s⟩ => ⟨a, u, w, z, e1, h.mv m, e.mono m p, f.mono m q, g.mono m s⟩⟩
/-- None, or a value that is not None -/
def eO (e : En K α) : En K (Option α) :=
  ⟨fun O H v x => match x with | none => v = .non | some y => e.r O H v y ∧ v ≠ .non, fun {O O' H H' v x} m h => by
    cases x with
    | none => exact h
    | some y => exact ⟨e.mono m h.1, h.2⟩⟩
/-- a number -/
abbrev eN : En K (Int × Int) := eP eI eI
end

mutual
def rD (K : PySem.W.Frag) (O : AS) (H : Hp) : V → D → Prop
  | v, .non => v = .non
  | v, .bl b => v = .bl b
  | v, .int i => v = .int i
  | v, .str s => v = .str s
  | v, .lst ds => ∃ a vs, v = .ref a ∧ LstAt O H a vs ∧ rDs K O H vs ds
  | v, .tup ds => ∃ a vs, v = .ref a ∧ TupAt K O H a vs ∧ rDs K O H vs ds
def rDs (K : PySem.W.Frag) (O : AS) (H : Hp) : List V → List D → Prop
  | vs, [] => vs = []
  | vs, d :: ds => ∃ v r, vs = v :: r ∧ rD K O H v d ∧ rDs K O H r ds
end
mutual
theorem rD.mono {K : PySem.W.Frag} {O O' : AS} {H H' : Hp} (m : Mv O O' H H') : ∀ {v : V} (d : D), rD K O H v d → rD K O' H' v d
  | _, .non, h => h
  | _, .bl _, h => h
  | _, .int _, h => h
  | _, .str _, h => h
  | _, .lst ds, h => by
    obtain ⟨a, vs, e, l, r⟩ := (by simpa only [rD] using h : ∃ a vs, _)
    simp only [rD]
    exact ⟨a, vs, e, l.mv m, rDs.mono m ds r⟩
  | _, .tup ds, h => by
    obtain ⟨a, vs, e, l, r⟩ := (by simpa only [rD] using h : ∃ a vs, _)
    simp only [rD]
    exact ⟨a, vs, e, l.mv m, rDs.mono m ds r⟩
theorem rDs.mono {K : PySem.W.Frag} {O O' : AS} {H H' : Hp} (m : Mv O O' H H') : ∀ {vs : List V} (ds : List D), rDs K O H vs ds → rDs K O' H' vs ds
  | _, [], h => h
  | _, d :: ds, h => by
    obtain ⟨v, r, e, p, q⟩ := (by simpa only [rDs] using h : ∃ v r, _)
    simp only [rDs]
    exact ⟨v, r, e, rD.mono m d p, rDs.mono m ds q⟩
end
def eD {K : PySem.W.Frag} : En K D := ⟨rD K, fun m h => rD.mono m _ h⟩

/-! ### owned things -/
structure On (K : PySem.W.Frag) (α : Type) where
  r : AS → Hp → Addr → α → Prop
  mono : ∀ {O O' : AS} {H H' : Hp} {a : Addr} {x : α}, Mv O O' H H' → H' a = H a → r O H a x → r O' H' a x
  dom : ∀ {O : AS} {H : Hp} {a : Addr} {x : α}, r O H a x → H a ≠ none
/-- a list of one's own -/
def oL {K : PySem.W.Frag} {α : Type} (e : En K α) : On K (List α) :=
  ⟨fun O H a xs => ∃ vs, H a = some (.lst vs) ∧ F2 (e.r O H) vs xs, fun m h ⟨vs, q, f⟩ => ⟨vs, h.trans q, f.imp fun _ _ => e.mono m⟩, fun ⟨vs, q, _⟩ z => by rw [q] at z; cases z⟩

/-! ### what a law's pool of draws is: two objects -/
structure PoolK where
  r : Hp → Addr → Addr → Nat → Prop
  keep : ∀ {H H' : Hp} {a b : Addr} {c : Nat}, H' a = H a → H' b = H b → r H a b c → r H' a b c
  dom : ∀ {H : Hp} {a b : Addr} {c : Nat}, r H a b c → H a ≠ none ∧ H b ≠ none
abbrev PP := Option (Addr × Addr)
def foot (pp : PP) (x : Addr) : Prop := match pp with | none => False | some (a, b) => x = a ∨ x = b
def PoolOk (PK : PoolK) (pp : PP) (H : Hp) (c : Nat) : Prop := match pp with | none => True | some (a, b) => PK.r H a b c

/-! ### the slots -/
inductive Sl (K : PySem.W.Frag) : Type 1 where
  | nil
  | sh {α : Type} (en : En K α) (x : α)
  | ow {α : Type} (a : Addr) (on : On K α) (x : α)
  | pl
section
variable {K : PySem.W.Frag}
def get : List (Sl K) → Nat → Sl K
  | [], _ => .nil
  | s :: _, 0 => s
  | _ :: r, n + 1 => get r n
def put : List (Sl K) → Nat → Sl K → List (Sl K)
  | [], _, _ => []
  | _ :: r, 0, e => e :: r
  | s :: r, n + 1, e => s :: put r n e
def own1 : Sl K → List Addr
  | .ow a _ _ => [a]
  | _ => []
def owns : List (Sl K) → List Addr
  | [] => []
  | s :: r => own1 s ++ owns r
def SlOk (A : AS) (pp : PP) (H : Hp) (σ : St) (i : Nat) : Sl K → Prop
  | .nil => True
  | .sh en x => ∃ v, σ[i]? = some (some v) ∧ en.r A H v x
  | .ow a on x => σ[i]? = some (some (.ref a)) ∧ on.r A H a x
  | .pl => ∃ a b, pp = some (a, b) ∧ σ[i]? = some (some (.ref a))
def Av (O : AS) (pp : PP) (ρ : List (Sl K)) : AS := fun a => O a ∨ foot pp a ∨ a ∈ owns ρ
structure Sat (PK : PoolK) (O : AS) (pp : PP) (ρ : List (Sl K)) (c : Nat) (σ : St) (H : Hp) : Prop where
  len : σ.length = ρ.length
  nd : (owns ρ).Nodup
  new : ∀ a ∈ owns ρ, ¬ O a ∧ ¬ foot pp a
  dom : ∀ a, O a → H a ≠ none
  pool : PoolOk PK pp H c
  slots : ∀ i, SlOk (Av O pp ρ) pp H σ i (get ρ i)
theorem get_put_self : ∀ {ρ : List (Sl K)} {i : Nat} {s : Sl K}, get (put ρ i s) i = s ∨ get (put ρ i s) i = .nil
  | [], i, s => .inr (by cases i <;> rfl)
  | _ :: r, 0, s => .inl rfl
  | _ :: r, i + 1, s => get_put_self (ρ := r)
theorem get_put_ne : ∀ {ρ : List (Sl K)} {i j : Nat} {s : Sl K}, j ≠ i → get (put ρ i s) j = get ρ j
  | [], i, j, s, h => rfl
  | x :: r, 0, 0, s, h => absurd rfl h
  | x :: r, 0, j + 1, s, h => rfl
  | x :: r, i + 1, 0, s, h => rfl
  | x :: r, i + 1, j + 1, s, h => get_put_ne (ρ := r) (fun e => h (by omega))
theorem mem_owns : ∀ {ρ : List (Sl K)} {a : Addr}, a ∈ owns ρ → ∃ i, ∃ (α : Type) (on : On K α) (x : α), get ρ i = .ow a on x
  | [], a, h => by cases h
  | s :: r, a, h => by
    rcases List.mem_append.mp h with h | h
    · cases s with
      | ow b on x =>
        have e : a = b := by simpa [own1] using h
        subst e
        exact ⟨0, _, on, x, rfl⟩
      | nil => cases h
      | sh _ _ => cases h
      | pl => cases h
    · obtain ⟨i, α, on, x, e⟩ := mem_owns h
      exact ⟨i + 1, α, on, x, e⟩
theorem owns_mem : ∀ {ρ : List (Sl K)} {i : Nat} {α : Type} {a : Addr} {on : On K α} {x : α}, get ρ i = .ow a on x → a ∈ owns ρ
  | [], i, α, a, on, x, h => by cases h
  | s :: r, 0, α, a, on, x, h => by
    have e : s = .ow a on x := h
    subst e
    exact List.mem_append.mpr (.inl (by simp [own1]))
  | s :: r, i + 1, α, a, on, x, h => List.mem_append.mpr (.inr (owns_mem (ρ := r) h))
/-- what is put is among what is owned then; all else was -/
theorem owns_put : ∀ {ρ : List (Sl K)} {i : Nat} {s : Sl K} {b : Addr}, b ∈ owns (put ρ i s) → b ∈ own1 s ∨ b ∈ owns ρ
  | [], i, s, b, h => .inr h
  | x :: r, 0, s, b, h => by
    rcases List.mem_append.mp h with h | h
    · exact .inl h
    · exact .inr (List.mem_append.mpr (.inr h))
  | x :: r, i + 1, s, b, h => by
    rcases List.mem_append.mp h with h | h
    · exact .inr (List.mem_append.mpr (.inl h))
    · rcases owns_put (ρ := r) h with h | h
      · exact .inl h
      · exact .inr (List.mem_append.mpr (.inr h))
theorem owns_put_nodup : ∀ {ρ : List (Sl K)} {i : Nat} {s : Sl K}, (owns ρ).Nodup → (own1 s).Nodup → (∀ b ∈ own1 s, b ∉ owns ρ) → (owns (put ρ i s)).Nodup
  | [], i, s, h, _, _ => h
  | x :: r, 0, s, h, h1, h2 => by
    have h : (own1 x ++ owns r).Nodup := h
    rw [List.nodup_append] at h
    show (own1 s ++ owns r).Nodup
    rw [List.nodup_append]
    refine ⟨h1, h.2.1, fun a ha b hb e => ?_⟩
    subst e
    exact h2 a ha (List.mem_append.mpr (.inr hb))
  | x :: r, i + 1, s, h, h1, h2 => by
    have h : (own1 x ++ owns r).Nodup := h
    rw [List.nodup_append] at h
    show (own1 x ++ owns (put r i s)).Nodup
    rw [List.nodup_append]
    refine ⟨h.1, owns_put_nodup h.2.1 h1 fun b hb hr => h2 b hb (List.mem_append.mpr (.inr hr)), fun a ha b hb e => ?_⟩
    subst e
    rcases owns_put hb with hb | hb
    · exact h2 a hb (List.mem_append.mpr (.inl ha))
    · exact h.2.2 a ha a hb rfl
theorem own1_nodup (s : Sl K) : (own1 s).Nodup := by
  cases s <;> simp [own1]
/-- an owned thing changed in place: nothing else is owned -/
theorem owns_same : ∀ {ρ : List (Sl K)} {i : Nat} {α β : Type} {a : Addr} {on : On K α} {x : α} {on' : On K β} {y : β}, get ρ i = .ow a on x → owns (put ρ i (.ow a on' y)) = owns ρ
  | [], i, α, β, a, on, x, on', y, h => by cases h
  | s :: r, 0, α, β, a, on, x, on', y, h => by
    have e : s = .ow a on x := h
    subst e
    rfl
  | s :: r, i + 1, α, β, a, on, x, on', y, h => by
    show own1 s ++ owns (put r i _) = own1 s ++ owns r
    rw [owns_same (ρ := r) h]
theorem owns_free : ∀ {ρ : List (Sl K)} {i : Nat} {s : Sl K}, own1 s = [] → own1 (get ρ i) = [] → owns (put ρ i s) = owns ρ
  | [], i, s, _, _ => rfl
  | x :: r, 0, s, h, h2 => by
    show own1 s ++ owns r = own1 x ++ owns r
    rw [h, show own1 x = [] from h2]
  | x :: r, i + 1, s, h, h2 => by
    show own1 x ++ owns (put r i s) = own1 x ++ owns r
    rw [owns_free (ρ := r) h h2]
/-- an address is owned at one slot alone -/
theorem owns_inj : ∀ {ρ : List (Sl K)} {i j : Nat} {α β : Type} {a : Addr} {on : On K α} {x : α} {on' : On K β} {y : β}, (owns ρ).Nodup → get ρ i = .ow a on x → get ρ j = .ow a on' y → i = j
  | [], i, j, α, β, a, on, x, on', y, _, h, _ => by cases h
  | s :: r, 0, 0, α, β, a, on, x, on', y, _, _, _ => rfl
  | s :: r, 0, j + 1, α, β, a, on, x, on', y, n, h, h' => by
    have n : (own1 s ++ owns r).Nodup := n
    rw [List.nodup_append] at n
    have e : s = .ow a on x := h
    exact absurd rfl (n.2.2 a (by rw [e]; simp [own1]) a (owns_mem (ρ := r) h'))
  | s :: r, i + 1, 0, α, β, a, on, x, on', y, n, h, h' => by
    have n : (own1 s ++ owns r).Nodup := n
    rw [List.nodup_append] at n
    have e : s = .ow a on' y := h'
    exact absurd rfl (n.2.2 a (by rw [e]; simp [own1]) a (owns_mem (ρ := r) h))
  | s :: r, i + 1, j + 1, α, β, a, on, x, on', y, n, h, h' => by
    have n : (own1 s ++ owns r).Nodup := n
    rw [List.nodup_append] at n
    rw [owns_inj (ρ := r) n.2.1 h h']
theorem get_len : ∀ {ρ : List (Sl K)} {i : Nat}, get ρ i ≠ .nil → i < ρ.length
  | [], i, h => absurd (by cases i <;> rfl) h
  | _ :: r, 0, h => by simp
  | _ :: r, i + 1, h => by
    have := get_len (ρ := r) (i := i) h
    simp; omega
end
end Dc
/-! DcB: readings from wishes; expressions. -/
namespace Dc
open PySem PySem.Spec L2
section
variable {K : PySem.W.Frag} {PK : PoolK} {pp : PP} {ρ : List (Sl K)} {O : AS} {c : Nat} {σ : St} {H H' : Hp} {α β γ : Type}
def Dom (A : AS) (H : Hp) : Prop := ∀ a, A a → H a ≠ none
def Chg (pp : PP) (H H' : Hp) : Prop := ∀ a o, H a = some o → ¬ foot pp a → H' a = some o
theorem Chg.of (s : Same H H') : Chg pp H H' := fun a o e _ => s a o e
theorem Chg.refl : Chg pp H H := fun _ _ e _ => e
theorem Chg.trans {H1 : Hp} (x : Chg pp H H1) (y : Chg pp H1 H') : Chg pp H H' := fun a o e n => y a o (x a o e n) n
theorem Chg.mv (x : Chg pp H H') : Mv (Av O pp ρ) (Av O pp ρ) H H' := fun a o n e => ⟨x a o e fun z => n (.inr (.inl z)), n⟩
theorem put_len : ∀ {ρ : List (Sl K)} {i : Nat} {s : Sl K}, (put ρ i s).length = ρ.length
  | [], _, _ => rfl
  | _ :: _, 0, _ => rfl
  | _ :: r, i + 1, s => by
    show (put r i s).length + 1 = r.length + 1
    rw [put_len]
theorem Sat.av (S : Sat PK O pp ρ c σ H) : Dom (Av O pp ρ) H := fun a h => by
  rcases h with h | h | h
  · exact S.dom a h
  · cases pp with
    | none => exact h.elim
    | some p =>
      obtain ⟨a1, b1⟩ := p
      have q : PK.r H a1 b1 c := S.pool
      rcases (show a = a1 ∨ a = b1 from h) with e | e
      · rw [e]; exact (PK.dom q).1
      · rw [e]; exact (PK.dom q).2
  · obtain ⟨i, α, on, x, e⟩ := mem_owns h
    have q := S.slots i
    rw [e] at q
    exact on.dom q.2
theorem same_at (s : Same H H') {a : Addr} (h : H a ≠ none) : H' a = H a := by
  cases e : H a with
  | none => exact absurd e h
  | some o => exact s a o e
theorem SlOk.mv {A A' : AS} {i : Nat} {s : Sl K} (m : Mv A A' H H') (h : SlOk A pp H σ i s) (ho : ∀ a ∈ own1 s, H' a = H a) : SlOk A' pp H' σ i s := by
  cases s with
  | nil => exact True.intro
  | sh en x =>
    obtain ⟨v, e, r⟩ := h
    exact ⟨v, e, en.mono m r⟩
  | ow a on x => exact ⟨h.1, on.mono m (ho a (by simp [own1])) h.2⟩
  | pl => exact h
theorem Sat.same (S : Sat PK O pp ρ c σ H) (s : Same H H') : Sat PK O pp ρ c σ H' := by
  refine ⟨S.len, S.nd, S.new, fun a h => ?_, ?_, fun i => ?_⟩
  · rw [same_at s (S.dom a h)]; exact S.dom a h
  · cases pp with
    | none => exact True.intro
    | some p =>
      obtain ⟨a, b⟩ := p
      have q : PK.r H a b c := S.pool
      exact PK.keep (same_at s (PK.dom q).1) (same_at s (PK.dom q).2) q
  · refine (S.slots i).mv (Mv.same s) fun a ha => ?_
    cases e : get ρ i with
    | ow b on x =>
      rw [e] at ha
      have ha : a = b := by simpa [own1] using ha
      subst ha
      have q := S.slots i
      rw [e] at q
      exact same_at s (on.dom q.2)
    | _ => rw [e] at ha; cases ha
/-- an expression's reading -/
def rdE (PK : PoolK) (pp : PP) (ρ : List (Sl K)) (w : W α) (en : En K α) : TE := fun σ H Q => ∃ O Φ c, Sat PK O pp ρ c σ H ∧ w Φ noX c ∧
  ∀ x v H' c', Φ x c' → Chg pp H H' → Sat PK O pp ρ c' σ H' → en.r (Av O pp ρ) H' v x → Q v H'
def rdT (PK : PoolK) (pp : PP) (ρ : List (Sl K)) (w : W Bool) : TT := fun σ H Q => ∃ O Φ c, Sat PK O pp ρ c σ H ∧ w Φ noX c ∧
  ∀ x H' c', Φ x c' → Chg pp H H' → Sat PK O pp ρ c' σ H' → Q x H'
/-- encodings of argument lists -/
structure EA (K : PySem.W.Frag) (α : Type) where
  r : PP → AS → Hp → List V → α → Prop
  ents : α → List (Sl K)
  mono : ∀ {pp : PP} {O O' : AS} {H H' : Hp} {v : List V} {x : α}, Mv O O' H H' → r pp O H v x → r pp O' H' v x
  len : Nat
  hlen : ∀ {pp : PP} {O : AS} {H : Hp} {v : List V} {x : α}, r pp O H v x → v.length = len
  elen : ∀ x, (ents x).length = len
  eown : ∀ x, owns (ents x) = []
  eok : ∀ {pp : PP} {O : AS} {H : Hp} {v : List V} {x : α} {tl : St} (i : Nat), r pp O H v x → SlOk O pp H (v.map some ++ tl) i (get (ents x) i)
theorem SlOk.sft {A : AS} {pp : PP} {H : Hp} {σ : St} {i : Nat} {y : Option V} {s : Sl K} (h : SlOk A pp H σ i s) : SlOk A pp H (y :: σ) (i + 1) s := by
  cases s <;> simpa [SlOk] using h
def aN : EA K Unit := ⟨fun _ _ _ vs _ => vs = [], fun _ => [], fun _ h => h, 0, fun h => by rw [h]; rfl, fun _ => rfl, fun _ => rfl, fun i _ => True.intro⟩
def aC (e : En K α) (a : EA K β) : EA K (α × β) := ⟨fun pp O H vs x => ∃ v r, vs = v :: r ∧ e.r O H v x.1 ∧ a.r pp O H r x.2, fun x => .sh e x.1 :: a.ents x.2, fun m ⟨v, r, e1, p, q⟩ => ⟨v, r, e1, e.mono m p, a.mono m q⟩, a.len + 1,
  fun ⟨v, r, e1, _, q⟩ => by rw [e1, List.length_cons, a.hlen q], fun x => by rw [List.length_cons, a.elen], fun x => a.eown x.2, fun i ⟨v, r, e1, p, q⟩ => by
    subst e1
    cases i with
    | zero => exact ⟨v, rfl, p⟩
    | succ i => exact (a.eok i q).sft⟩
/-- the pool, handed on -/
def aPl (a : EA K β) : EA K β := ⟨fun pp O H vs x => ∃ b d r, pp = some (b, d) ∧ vs = .ref b :: r ∧ a.r pp O H r x, fun x => .pl :: a.ents x, fun m ⟨b, d, r, e1, e2, q⟩ => ⟨b, d, r, e1, e2, a.mono m q⟩, a.len + 1,
  fun ⟨_, _, r, _, e1, q⟩ => by rw [e1, List.length_cons, a.hlen q], fun x => by rw [List.length_cons, a.elen], fun x => a.eown x, fun i ⟨b, d, r, e1, e2, q⟩ => by
    subst e2
    cases i with
    | zero => exact ⟨b, d, e1, rfl⟩
    | succ i => exact (a.eok i q).sft⟩
def rdA (PK : PoolK) (pp : PP) (ρ : List (Sl K)) (w : W α) (en : EA K α) : TA := fun σ H Q => ∃ O Φ c, Sat PK O pp ρ c σ H ∧ w Φ noX c ∧
  ∀ x v H' c', Φ x c' → Chg pp H H' → Sat PK O pp ρ c' σ H' → en.r pp (Av O pp ρ) H' v x → Q v H'
end
section
variable {X : Cx} {PK : PoolK} {pp : PP} {ρ : List (Sl X.K)} {α β γ δ : Type}
abbrev PX (X : Cx) (PK : PoolK) (pp : PP) (ρ : List (Sl X.K)) (e : Expr) (w : W α) (en : En X.K α) : Prop := PE X e (rdE PK pp ρ w en)
abbrev PTX (X : Cx) (PK : PoolK) (pp : PP) (ρ : List (Sl X.K)) (e : Expr) (w : W Bool) : Prop := PT X e (rdT PK pp ρ w)
abbrev PAX (X : Cx) (PK : PoolK) (pp : PP) (ρ : List (Sl X.K)) (es : List Expr) (w : W α) (en : EA X.K α) : Prop := PA X es (rdA PK pp ρ w en)
theorem _root_.L2.PE.weak {X : Cx} {e : Expr} {t t' : TE} (h : PE X e t) (f : ∀ σ H Q, t' σ H Q → t σ H Q) : PE X e t' := ⟨fun pins s σ H Q I q => h.run pins s σ H Q I (f σ H Q q)⟩
theorem _root_.L2.PT.weak {X : Cx} {e : Expr} {t t' : TT} (h : PT X e t) (f : ∀ σ H Q, t' σ H Q → t σ H Q) : PT X e t' := ⟨fun pins s σ H Q I q => h.run pins s σ H Q I (f σ H Q q)⟩
theorem _root_.L2.PA.weak {X : Cx} {e : List Expr} {t t' : TA} (h : PA X e t) (f : ∀ σ H Q, t' σ H Q → t σ H Q) : PA X e t' := ⟨fun pos pins s σ H Q I q => h.run pos pins s σ H Q I (f σ H Q q)⟩
variable {e a b : Expr} {pos : Pos}

/-! ### names, constants -/
theorem xv (i : Nat) {x : Str} {en : En X.K α} {y : α} (hg : get ρ i = .sh en y) (hN : X.N[i]? = some x := by rfl)
    (hv : Vis X.env.scope x := by first | exact Or.inl rfl | exact Or.inr (Or.inl rfl) | exact Or.inr (Or.inr rfl)) (hd : (x == ("__debug__" : Str)) = false := by decide) (hcd : (x == ("__classdict__" : Str)) = false := by decide) :
    PX X PK pp ρ (.Name x pos) (ret y) en := (pe_var hN hv hd hcd).weak fun σ H Q ⟨O, Φ, c, S, hw, k⟩ => by
  have q := S.slots i
  rw [hg] at q
  obtain ⟨v, e, r⟩ := q
  exact ⟨v, e, k y v H c hw .refl S r⟩
theorem xint {i : Int} {j} : PX X PK pp ρ (.Constant (.int i) j pos) (ret i) eI := pe_int.weak fun σ H Q ⟨O, Φ, c, S, hw, k⟩ => k i _ H c hw .refl S rfl
theorem xbl {i : Bool} {j} : PX X PK pp ρ (.Constant (.bool i) j pos) (ret i) eB := pe_bl.weak fun σ H Q ⟨O, Φ, c, S, hw, k⟩ => k i _ H c hw .refl S rfl
theorem xstr {i : Str} {j} : PX X PK pp ρ (.Constant (.str i) j pos) (ret i) eS := pe_str.weak fun σ H Q ⟨O, Φ, c, S, hw, k⟩ => k i _ H c hw .refl S rfl
theorem xnon {j} : PX X PK pp ρ (.Constant .none j pos) (ret ()) eU := pe_non.weak fun σ H Q ⟨O, Φ, c, S, hw, k⟩ => k () _ H c hw .refl S rfl
/-- a module's constant -/
theorem xglob {x : Str} {v : V} {u : Value} {en : En X.K α} {y : α} (hg : Gl X x) (hm : X.mg x = some u) (r : RelV v u) (he : ∀ O H, en.r O H v y) (hd : (x == ("__debug__" : Str)) = false := by decide) :
    PX X PK pp ρ (.Name x pos) (ret y) en := (pe_glob hg hm r hd).weak fun σ H Q ⟨O, Φ, c, S, hw, k⟩ => k y _ H c hw .refl S (he _ _)

/-! ### operators -/
/-- by values: pre, res -/
def OpW (X : Cx) (f : Value → Value → Sem Value) (e1 : En X.K α) (e2 : En X.K β) (e3 : En X.K γ) (pre : α → β → Bool) (res : α → β → γ) : Prop :=
  OpR X f fun x y H Q => ∃ A a b, Dom A H ∧ e1.r A H x a ∧ e2.r A H y b ∧ pre a b = true ∧ ∀ v H', Same H H' → e3.r A H' v (res a b) → Q v H'
/-- two expressions, one behind the other -/
theorem two {wa : W α} {wb : W β} {ea : En X.K α} {eb : En X.K β} {σ : St} {H : Hp} {Φ : γ → WB} {g : α → β → W γ} {O : AS} {c : Nat} {R : V → V → Hp → Prop} (S : Sat PK O pp ρ c σ H)
    (hw : bnd wa (fun x => bnd wb fun y => g x y) Φ noX c) (k : ∀ x y v u H' c', g x y Φ noX c' → Chg pp H H' → Sat PK O pp ρ c' σ H' → ea.r (Av O pp ρ) H' v x → eb.r (Av O pp ρ) H' u y → R v u H') :
    rdE PK pp ρ wa ea σ H fun v H1 => rdE PK pp ρ wb eb σ H1 fun u H2 => R v u H2 :=
  ⟨O, _, c, S, hw, fun x v H1 c1 p1 ch1 S1 r1 => ⟨O, _, c1, S1, p1, fun y u H2 c2 p2 ch2 S2 r2 => k x y v u H2 c2 p2 (ch1.trans ch2) S2 (ea.mono ch2.mv r1) r2⟩⟩
theorem xop {op : Operator} {wa : W α} {wb : W β} {e1 : En X.K α} {e2 : En X.K β} {e3 : En X.K γ} {pre : α → β → Bool} {res : α → β → γ} (ho : OpW X (binaryOp op) e1 e2 e3 pre res) (ha : PX X PK pp ρ a wa e1) (hb : PX X PK pp ρ b wb e2) :
    PX X PK pp ρ (.BinOp a op b pos) (bnd wa fun x => bnd wb fun y => grd (pre x y) (ret (res x y))) e3 := (pe_op ho ha hb).weak fun σ H Q ⟨O, Φ, c, S, hw, k⟩ =>
  two S hw fun x y v u H' c' p ch S' r1 r2 => ⟨_, x, y, S'.av, r1, r2, p.1, fun z H2 s r3 => k _ _ _ _ p.2 (ch.trans (.of s)) (S'.same s) r3⟩
theorem xop0 {op : Operator} {wa : W α} {wb : W β} {e1 : En X.K α} {e2 : En X.K β} {e3 : En X.K γ} {res : α → β → γ} (ho : OpW X (binaryOp op) e1 e2 e3 (fun _ _ => true) res) (ha : PX X PK pp ρ a wa e1) (hb : PX X PK pp ρ b wb e2) :
    PX X PK pp ρ (.BinOp a op b pos) (bnd wa fun x => bnd wb fun y => ret (res x y)) e3 := (pe_op ho ha hb).weak fun σ H Q ⟨O, Φ, c, S, hw, k⟩ =>
  two S hw fun x y v u H' c' p ch S' r1 r2 => ⟨_, x, y, S'.av, r1, r2, rfl, fun z H2 s r3 => k _ _ _ _ p (ch.trans (.of s)) (S'.same s) r3⟩
theorem xcmp {op : CmpOp} {wa : W α} {wb : W β} {e1 : En X.K α} {e2 : En X.K β} {e3 : En X.K γ} {res : α → β → γ} (ho : OpW X (compareOp op) e1 e2 e3 (fun _ _ => true) res) (ha : PX X PK pp ρ a wa e1) (hb : PX X PK pp ρ b wb e2) (hm : behindInMarks op b = false := by first | exact nomark _ | rfl) :
    PX X PK pp ρ (.Compare a [op] [b] pos) (bnd wa fun x => bnd wb fun y => ret (res x y)) e3 := (pe_cmpR ho ha hb hm).weak fun σ H Q ⟨O, Φ, c, S, hw, k⟩ =>
  two S hw fun x y v u H' c' p ch S' r1 r2 => ⟨_, x, y, S'.av, r1, r2, rfl, fun z H2 s r3 => k _ _ _ _ p (ch.trans (.of s)) (S'.same s) r3⟩
theorem tcmp {op : CmpOp} {wa : W α} {wb : W β} {e1 : En X.K α} {e2 : En X.K β} {res : α → β → Bool} (ho : OpW X (compareOp op) e1 e2 eB (fun _ _ => true) res) (ha : PX X PK pp ρ a wa e1) (hb : PX X PK pp ρ b wb e2) (hm : behindInMarks op b = false := by first | exact nomark _ | rfl) :
    PTX X PK pp ρ (.Compare a [op] [b] pos) (bnd wa fun x => bnd wb fun y => ret (res x y)) := (pt_cmpR ho ha hb hm).weak fun σ H Q ⟨O, Φ, c, S, hw, k⟩ =>
  two S hw fun x y v u H' c' p ch S' r1 r2 => ⟨_, x, y, S'.av, r1, r2, rfl, fun z H2 s r3 => ⟨_, r3, k _ _ _ p (ch.trans (.of s)) (S'.same s)⟩⟩
def UnW (X : Cx) (f : Value → Sem Value) (e1 : En X.K α) (e3 : En X.K γ) (res : α → γ) : Prop :=
  UnR X f fun x H Q => ∃ A a, Dom A H ∧ e1.r A H x a ∧ ∀ v H', Same H H' → e3.r A H' v (res a) → Q v H'
theorem xun {op : UnaryOp} {wa : W α} {e1 : En X.K α} {e3 : En X.K γ} {res : α → γ} (ho : UnW X (unaryOp op) e1 e3 res) (ha : PX X PK pp ρ a wa e1) :
    PX X PK pp ρ (.UnaryOp op a pos) (bnd wa fun x => ret (res x)) e3 := (pe_un ho ha).weak fun σ H Q ⟨O, Φ, c, S, hw, k⟩ =>
  ⟨O, _, c, S, hw, fun x v H' c' p ch S' r1 => ⟨_, x, S'.av, r1, fun z H2 s r3 => k _ _ _ _ p (ch.trans (.of s)) (S'.same s) r3⟩⟩

/-! the rules of ints -/
theorem opII {f : Value → Value → Sem Value} {g : Int → Int → Int} (h : OpR X f (rI0 fun i j => .int (g i j))) : OpW X f (eI : En X.K Int) eI eI (fun _ _ => true) g := by
  intro pins s σ H x y v u Q I rx ry ⟨A, i, j, _, r1, r2, _, k⟩
  exact h pins s σ H x y v u Q I rx ry ⟨i, j, r1, r2, k _ _ (.refl _) rfl⟩
theorem opIIc {f : Value → Value → Sem Value} {C : Int → Int → Prop} {g : Int → Int → Int} {pre : Int → Int → Bool} (h : OpR X f (rI C fun i j => .int (g i j))) (hp : ∀ i j, pre i j = true → C i j) : OpW X f (eI : En X.K Int) eI eI pre g := by
  intro pins s σ H x y v u Q I rx ry ⟨A, i, j, _, r1, r2, p, k⟩
  exact h pins s σ H x y v u Q I rx ry ⟨i, j, r1, r2, hp i j p, k _ _ (.refl _) rfl⟩
theorem opIB {f : Value → Value → Sem Value} {g : Int → Int → Bool} (h : OpR X f (rI0 fun i j => .bl (g i j))) : OpW X f (eI : En X.K Int) eI eB (fun _ _ => true) g := by
  intro pins s σ H x y v u Q I rx ry ⟨A, i, j, _, r1, r2, _, k⟩
  exact h pins s σ H x y v u Q I rx ry ⟨i, j, r1, r2, k _ _ (.refl _) rfl⟩
def mulOk (i j : Int) : Bool := decide (Builtin.Int.intBits i + Builtin.Int.intBits j ≤ 134217728)
def divOk (_ j : Int) : Bool := decide (0 < j) && decide (j.natAbs.log2 < 9000)
def ndivOk (_ j : Int) : Bool := decide (j < 0) && decide (j.natAbs.log2 < 9000)
def modOk (_ j : Int) : Bool := decide (0 < j)
def powOk (i j : Int) : Bool := decide (0 ≤ j) && decide ((Builtin.Int.intBits i : Int) * j ≤ 134217728)
theorem w_add : OpW X (binaryOp .Add) (eI : En X.K Int) eI eI (fun _ _ => true) (· + ·) := opII op_add
theorem w_sub : OpW X (binaryOp .Sub) (eI : En X.K Int) eI eI (fun _ _ => true) (· - ·) := opII op_sub
theorem w_mul : OpW X (binaryOp .Mult) (eI : En X.K Int) eI eI mulOk (· * ·) := opIIc op_mulX fun i j h => by
  have := of_decide_eq_true h
  show (Builtin.Int.intBits i : Int) + (Builtin.Int.intBits j : Int) ≤ 134217728
  omega
theorem w_mod : OpW X (binaryOp .Mod) (eI : En X.K Int) eI eI modOk (· % ·) := opIIc op_mod fun i j h => of_decide_eq_true h
theorem op_fdivA : OpR X (binaryOp .FloorDiv) (rI (fun _ j => j ≠ 0 ∧ j.natAbs.log2 < 9000) fun i j => .int (i.fdiv j)) := opI fun i j _ _ _ _ _ hc q =>
  PyProof.Rows.floordiv_int hc.1 q (.inl (PyProof.noPylong_of_log2 hc.2))
def fdivOk (_ j : Int) : Bool := decide (j ≠ 0) && decide (j.natAbs.log2 < 9000)
theorem w_fdiv : OpW X (binaryOp .FloorDiv) (eI : En X.K Int) eI eI fdivOk Int.fdiv := opIIc op_fdivA fun i j h => by
  simpa [fdivOk] using h
theorem op_powX : OpR X (binaryOp .Pow) (rI (fun i j => 0 ≤ j ∧ (Builtin.Int.intBits i : Int) * j ≤ 2 ^ 27) fun i j => .int (i ^ j.toNat)) := opI fun _ _ _ _ _ _ _ hc q => PyProof.Rows.pow_int hc.1 hc.2 q
theorem w_pow : OpW X (binaryOp .Pow) (eI : En X.K Int) eI eI powOk (fun i j => i ^ j.toNat) := opIIc op_powX fun i j h => by
  simp only [powOk, Bool.and_eq_true, decide_eq_true_eq] at h
  exact ⟨h.1, by have := h.2; omega⟩
theorem w_neg : UnW X (unaryOp .USub) (eI : En X.K Int) eI (fun i => -i) := by
  intro pins s σ H x v Q I rx ⟨A, i, _, r1, k⟩
  exact un_neg pins s σ H x v Q I rx ⟨i, r1, k _ _ (.refl _) rfl⟩
theorem w_lt : OpW X (compareOp .Lt) (eI : En X.K Int) eI eB (fun _ _ => true) (fun i j => decide (i < j)) := opIB op_lt
theorem w_le : OpW X (compareOp .LtE) (eI : En X.K Int) eI eB (fun _ _ => true) (fun i j => decide (i ≤ j)) := opIB op_le
theorem w_gt : OpW X (compareOp .Gt) (eI : En X.K Int) eI eB (fun _ _ => true) (fun i j => decide (j < i)) := opIB op_gt
theorem w_ge : OpW X (compareOp .GtE) (eI : En X.K Int) eI eB (fun _ _ => true) (fun i j => decide (j ≤ i)) := opIB op_ge
theorem w_eqI : OpW X (compareOp .Eq) (eI : En X.K Int) eI eB (fun _ _ => true) (fun i j => decide (i = j)) := by
  intro pins s σ H x y v u Q I rx ry ⟨A, i, j, _, r1, r2, _, k⟩
  cases r1; cases r2
  exact op_eq pins s σ H _ _ v u Q I rx ry ⟨rfl, k _ _ (.refl _) (congrArg V.bl (by simp))⟩
theorem w_neI : OpW X (compareOp .NotEq) (eI : En X.K Int) eI eB (fun _ _ => true) (fun i j => !decide (i = j)) := by
  intro pins s σ H x y v u Q I rx ry ⟨A, i, j, _, r1, r2, _, k⟩
  cases r1; cases r2
  exact op_ne pins s σ H _ _ v u Q I rx ry ⟨rfl, k _ _ (.refl _) (congrArg V.bl (by simp))⟩
theorem w_eqB : OpW X (compareOp .Eq) (eB : En X.K Bool) eB eB (fun _ _ => true) (fun i j => i == j) := by
  intro pins s σ H x y v u Q I rx ry ⟨A, i, j, _, r1, r2, _, k⟩
  cases r1; cases r2
  exact op_eq pins s σ H _ _ v u Q I rx ry ⟨rfl, k _ _ (.refl _) (congrArg V.bl dec_bl)⟩
theorem w_eqS : OpW X (compareOp .Eq) (eS : En X.K Str) eS eB (fun _ _ => true) (fun i j => decide (i = j)) := by
  intro pins s σ H x y v u Q I rx ry ⟨A, i, j, _, r1, r2, _, k⟩
  cases r1; cases r2
  exact op_eq pins s σ H _ _ v u Q I rx ry ⟨rfl, k _ _ (.refl _) (congrArg V.bl (by simp))⟩
theorem w_neS : OpW X (compareOp .NotEq) (eS : En X.K Str) eS eB (fun _ _ => true) (fun i j => !decide (i = j)) := by
  intro pins s σ H x y v u Q I rx ry ⟨A, i, j, _, r1, r2, _, k⟩
  cases r1; cases r2
  exact op_ne pins s σ H _ _ v u Q I rx ry ⟨rfl, k _ _ (.refl _) (congrArg V.bl (by simp))⟩

/-! ### tests and truth values -/
theorem tval {w : W Bool} (h : PX X PK pp ρ e w eB) (he : ∀ whole, isTrue e X.env whole = (do let v ← whole; standAt e.pos; holding [v] (truthy v)) := by intro _; rfl) : PTX X PK pp ρ e w :=
  (pt_val h he).weak fun σ H Q ⟨O, Φ, c, S, hw, k⟩ => ⟨O, Φ, c, S, hw, fun x v H' c' p ch S' r => ⟨x, r, k x H' c' p ch S'⟩⟩
theorem tnot {w : W Bool} (h : PTX X PK pp ρ e w) : PTX X PK pp ρ (.UnaryOp .Not e pos) (bnd w fun x => ret (!x)) :=
  (pt_not h).weak fun σ H Q ⟨O, Φ, c, S, hw, k⟩ => ⟨O, _, c, S, hw, fun x H' c' p ch S' => k _ H' c' p ch S'⟩
abbrev PWX (X : Cx) (PK : PoolK) (pp : PP) (ρ : List (Sl X.K)) (e : Expr) (w : W Bool) : Prop := PW X e (rdT PK pp ρ w)
theorem _root_.L2.PW.weak {X : Cx} {e : Expr} {t t' : TT} (h : PW X e t) (f : ∀ σ H Q, t' σ H Q → t σ H Q) : PW X e t' := ⟨fun wh pins s σ H Q I q => h.run wh pins s σ H Q I (f σ H Q q)⟩
theorem tw {w : W Bool} (h : PWX X PK pp ρ e w) : PTX X PK pp ρ e w := h.pt
theorem wand1 {w : W Bool} (h : PTX X PK pp ρ a w) : PWX X PK pp ρ (.BoolOp .And [a] pos) w := pw_and1 h
theorem wor1 {w : W Bool} (h : PTX X PK pp ρ a w) : PWX X PK pp ρ (.BoolOp .Or [a] pos) w := pw_or1 h
theorem wand {rest : List Expr} {w u : W Bool} (h : PTX X PK pp ρ a w) (h2 : PWX X PK pp ρ (.BoolOp .And (b :: rest) pos) u) : PWX X PK pp ρ (.BoolOp .And (a :: b :: rest) pos) (bnd w fun x => ite x u (ret false)) :=
  (pw_and h h2).weak fun σ H Q ⟨O, Φ, c, S, hw, k⟩ => ⟨O, _, c, S, hw, fun x H' c' p ch S' => by
    cases x with
    | true => exact ⟨O, Φ, c', S', p, fun y H2 c2 p2 ch2 S2 => k y H2 c2 p2 (ch.trans ch2) S2⟩
    | false => exact k false H' c' (by simpa [ite, ret] using p) ch S'⟩
theorem wor {rest : List Expr} {w u : W Bool} (h : PTX X PK pp ρ a w) (h2 : PWX X PK pp ρ (.BoolOp .Or (b :: rest) pos) u) : PWX X PK pp ρ (.BoolOp .Or (a :: b :: rest) pos) (bnd w fun x => ite x (ret true) u) :=
  (pw_or h h2).weak fun σ H Q ⟨O, Φ, c, S, hw, k⟩ => ⟨O, _, c, S, hw, fun x H' c' p ch S' => by
    cases x with
    | true => exact k true H' c' p ch S'
    | false => exact ⟨O, Φ, c', S', by simpa [ite] using p, fun y H2 c2 p2 ch2 S2 => k y H2 c2 p2 (ch.trans ch2) S2⟩⟩
/-- and, or, not as values: bools -/
theorem xone {op} {w : W α} {en : En X.K α} (h : PX X PK pp ρ a w en) : PX X PK pp ρ (.BoolOp op [a] pos) w en := pe_one h
theorem xand {rest : List Expr} {w u : W Bool} (h : PX X PK pp ρ a w eB) (h2 : PX X PK pp ρ (.BoolOp .And (b :: rest) pos) u eB) : PX X PK pp ρ (.BoolOp .And (a :: b :: rest) pos) (bnd w fun x => ite x u (ret false)) eB :=
  (pe_and h h2).weak fun σ H Q ⟨O, Φ, c, S, hw, k⟩ => ⟨O, _, c, S, hw, fun x v H' c' p ch S' r => by
    refine ⟨x, r, ?_⟩
    cases x with
    | true => exact ⟨O, Φ, c', S', p, fun y v H2 c2 p2 ch2 S2 => k y v H2 c2 p2 (ch.trans ch2) S2⟩
    | false => exact k false _ H' c' (by simpa [ite, ret] using p) ch S' rfl⟩
theorem xor {rest : List Expr} {w u : W Bool} (h : PX X PK pp ρ a w eB) (h2 : PX X PK pp ρ (.BoolOp .Or (b :: rest) pos) u eB) : PX X PK pp ρ (.BoolOp .Or (a :: b :: rest) pos) (bnd w fun x => ite x (ret true) u) eB :=
  (pe_or h h2).weak fun σ H Q ⟨O, Φ, c, S, hw, k⟩ => ⟨O, _, c, S, hw, fun x v H' c' p ch S' r => by
    refine ⟨x, r, ?_⟩
    cases x with
    | true => exact k true _ H' c' p ch S' rfl
    | false => exact ⟨O, Φ, c', S', by simpa [ite] using p, fun y v H2 c2 p2 ch2 S2 => k y v H2 c2 p2 (ch.trans ch2) S2⟩⟩
theorem xnot {w : W Bool} (h : PX X PK pp ρ a w eB) : PX X PK pp ρ (.UnaryOp .Not a pos) (bnd w fun x => ret (!x)) eB :=
  (pe_not h).weak fun σ H Q ⟨O, Φ, c, S, hw, k⟩ => ⟨O, _, c, S, hw, fun x v H' c' p ch S' r => ⟨x, r, k _ _ H' c' p ch S' rfl⟩⟩
theorem xif {c : Expr} {w : W Bool} {u v : W α} {en : En X.K α} (hc : PTX X PK pp ρ c w) (ha : PX X PK pp ρ a u en) (hb : PX X PK pp ρ b v en) : PX X PK pp ρ (.IfExp c a b pos) (bnd w fun x => ite x u v) en :=
  (pe_ifExp hc ha hb).weak fun σ H Q ⟨O, Φ, c, S, hw, k⟩ => ⟨O, _, c, S, hw, fun x H' c' p ch S' => by
    cases x with
    | true => exact ⟨O, Φ, c', S', p, fun y v H2 c2 p2 ch2 S2 => k y v H2 c2 p2 (ch.trans ch2) S2⟩
    | false => exact ⟨O, Φ, c', S', by simpa [ite] using p, fun y v H2 c2 p2 ch2 S2 => k y v H2 c2 p2 (ch.trans ch2) S2⟩⟩
/-- x is None, for a value that may be None -/
theorem xisN {j pos'} {w : W (Option α)} {en : En X.K α} (h : PX X PK pp ρ a w (eO en)) : PX X PK pp ρ (.Compare a [.Is] [.Constant .none j pos'] pos) (bnd w fun x => ret x.isNone) eB :=
  (pe_cmp (pc_isN h)).weak fun σ H Q ⟨O, Φ, c, S, hw, k⟩ => ⟨O, _, c, S, hw, fun x v H' c' p ch S' r => by
    cases x with
    | none =>
      have e : v = .non := r
      exact k _ _ H' c' p ch S' (by rw [e]; rfl)
    | some y => exact k _ _ H' c' p ch S' (by show V.bl _ = V.bl false; rw [decide_eq_false r.2])⟩

/-! ### lists, tuples -/
theorem axn : PAX X PK pp ρ [] (ret ()) aN := (pa_nil).weak fun σ H Q ⟨O, Φ, c, S, hw, k⟩ => k () [] H c hw .refl S rfl
theorem axc {es : List Expr} {w : W α} {u : W β} {en : En X.K α} {ea : EA X.K β} (h : PX X PK pp ρ e w en) (h2 : PAX X PK pp ρ es u ea) (hs : starEach (e :: es) X.env = (false, eval e X.env) :: starEach es X.env := by rfl) :
    PAX X PK pp ρ (e :: es) (bnd w fun x => bnd u fun y => ret (x, y)) (aC en ea) := (pa_cons h h2 hs).weak fun σ H Q ⟨O, Φ, c, S, hw, k⟩ =>
  ⟨O, _, c, S, hw, fun x v H1 c1 p1 ch1 S1 r1 => ⟨O, _, c1, S1, p1, fun y u H2 c2 p2 ch2 S2 r2 => k _ _ H2 c2 p2 (ch1.trans ch2) S2 ⟨v, u, rfl, en.mono ch2.mv r1, r2⟩⟩⟩
/-- the pool's name as the first argument -/
theorem axp (i : Nat) {x : Str} {es : List Expr} {u : W β} {ea : EA X.K β} (hg : get ρ i = .pl) (h2 : PAX X PK pp ρ es u ea) (hN : X.N[i]? = some x := by rfl)
    (hv : Vis X.env.scope x := by first | exact Or.inl rfl | exact Or.inr (Or.inl rfl) | exact Or.inr (Or.inr rfl)) (hs : starEach (.Name x pos :: es) X.env = (false, eval (.Name x pos) X.env) :: starEach es X.env := by rfl) (hd : (x == ("__debug__" : Str)) = false := by decide) (hcd : (x == ("__classdict__" : Str)) = false := by decide) :
    PAX X PK pp ρ (.Name x pos :: es) u (aPl ea) := (pa_cons (pe_var hN hv hd hcd) h2 hs).weak fun σ H Q ⟨O, Φ, c, S, hw, k⟩ => by
  have q := S.slots i
  rw [hg] at q
  obtain ⟨b, d, e, q⟩ := q
  exact ⟨_, q, O, Φ, c, S, hw, fun y u H2 c2 p2 ch2 S2 r2 => k _ _ H2 c2 p2 ch2 S2 ⟨b, d, u, e, rfl, r2⟩⟩
theorem own_nils {K : PySem.W.Frag} : ∀ n : Nat, owns (List.replicate n (Sl.nil : Sl K)) = []
  | 0 => rfl
  | n + 1 => own_nils n
theorem get_nils {K : PySem.W.Frag} : ∀ n i : Nat, get (List.replicate n (Sl.nil : Sl K)) i = .nil
  | 0, i => by cases i <;> rfl
  | n + 1, 0 => rfl
  | n + 1, i + 1 => get_nils n i
/-- items of one kind -/
def aL (en : En X.K α) : Nat → EA X.K (List α)
  | n => ⟨fun _ O H vs xs => F2 (en.r O H) vs xs ∧ vs.length = n, fun _ => List.replicate n .nil, fun m ⟨f, l⟩ => ⟨f.imp fun _ _ => en.mono m, l⟩, n, fun h => h.2, fun _ => by simp, fun _ => own_nils n, fun i _ => by rw [get_nils n i]; exact True.intro⟩
theorem aln {en : En X.K α} : PAX X PK pp ρ [] (ret []) (aL en 0) := (pa_nil).weak fun σ H Q ⟨O, Φ, c, S, hw, k⟩ => k _ [] H c hw .refl S ⟨.nil, rfl⟩
theorem alc {es : List Expr} {w : W α} {u : W (List α)} {en : En X.K α} {n : Nat} (h : PX X PK pp ρ e w en) (h2 : PAX X PK pp ρ es u (aL en n)) (hs : starEach (e :: es) X.env = (false, eval e X.env) :: starEach es X.env := by rfl) :
    PAX X PK pp ρ (e :: es) (bnd w fun x => bnd u fun y => ret (x :: y)) (aL en (n + 1)) := (pa_cons h h2 hs).weak fun σ H Q ⟨O, Φ, c, S, hw, k⟩ =>
  ⟨O, _, c, S, hw, fun x v H1 c1 p1 ch1 S1 r1 => ⟨O, _, c1, S1, p1, fun y u H2 c2 p2 ch2 S2 r2 => k _ _ H2 c2 p2 (ch1.trans ch2) S2 ⟨.cons (en.mono ch2.mv r1) r2.1, by rw [List.length_cons, r2.2]⟩⟩⟩
theorem same_new {H : Hp} {p : Addr} {o : HO} (h : H p = none) : Same H (upd H p o) := fun b x e => by
  rw [upd_ne (ne_of_none e h)]
  exact e
theorem new_at {A : AS} {H : Hp} {p : Addr} (d : Dom A H) (h : H p = none) : ¬ A p := fun z => d p z h
theorem xlst {es : List Expr} {w : W (List α)} {en : En X.K α} {n : Nat} (h : PAX X PK pp ρ es w (aL en n)) (hn : n ≤ 1000000 := by decide) : PX X PK pp ρ (.List es pos) w (eL en) := (pe_lst h).weak fun σ H Q ⟨O, Φ, c, S, hw, k⟩ =>
  ⟨O, _, c, S, hw, fun x vs H1 c1 p1 ch1 S1 r1 => ⟨by have := r1.2; rw [sizeLine_eq]; omega, fun p np => by
    have s := same_new (o := .lst vs) np
    exact k _ _ _ c1 p1 (ch1.trans (.of s)) (S1.same s) ⟨p, vs, rfl, ⟨new_at S1.av np, upd_same⟩, r1.1.imp fun _ _ => en.mono (Mv.same s)⟩⟩⟩
theorem xtup2 {es : List Expr} {w : W (α × β × Unit)} {e1 : En X.K α} {e2 : En X.K β} {x1} (h : PAX X PK pp ρ es w (aC e1 (aC e2 aN))) : PX X PK pp ρ (.Tuple es x1 pos) (bnd w fun x => ret (x.1, x.2.1)) (eP e1 e2) := (pe_tup h).weak fun σ H Q ⟨O, Φ, c, S, hw, k⟩ =>
  ⟨O, _, c, S, hw, fun x vs H1 c1 p1 ch1 S1 r1 => by
    obtain ⟨v, _, rfl, q1, u, _, rfl, q2, rfl⟩ := r1
    refine ⟨by show 2 ≤ sizeLine; decide, fun p np => ?_⟩
    have s := same_new (o := .tup [v, u]) np
    exact k _ _ _ c1 p1 (ch1.trans (.of s)) (S1.same s) ⟨p, v, u, rfl, .inl ⟨new_at S1.av np, .inl upd_same⟩, e1.mono (Mv.same s) q1, e2.mono (Mv.same s) q2⟩⟩

/-! ### subscripts -/
def IxW (X : Cx) (e1 : En X.K α) (e2 : En X.K β) (e3 : En X.K γ) (pre : α → β → Bool) (res : α → β → γ) : Prop :=
  IxR X fun x y H Q => ∃ A a b, Dom A H ∧ e1.r A H x a ∧ e2.r A H y b ∧ pre a b = true ∧ ∀ v, e3.r A H v (res a b) → Q v H
theorem xix {wa : W α} {wb : W β} {e1 : En X.K α} {e2 : En X.K β} {e3 : En X.K γ} {pre : α → β → Bool} {res : α → β → γ} (ho : IxW X e1 e2 e3 pre res) (ha : PX X PK pp ρ a wa e1) (hb : PX X PK pp ρ b wb e2) (hs : PlainIx b := by exact fun _ _ => rfl) :
    PX X PK pp ρ (.Subscript a b pos) (bnd wa fun x => bnd wb fun y => grd (pre x y) (ret (res x y))) e3 := (pe_ix ho ha hb hs).weak fun σ H Q ⟨O, Φ, c, S, hw, k⟩ =>
  two S hw fun x y v u H' c' p ch S' r1 r2 => ⟨_, x, y, S'.av, r1, r2, p.1, fun z r3 => k _ _ _ _ p.2 ch S' r3⟩
/-- a pair's places -/
theorem xfst {w : W (α × β)} {e1 : En X.K α} {e2 : En X.K β} {j p'} (h : PX X PK pp ρ a w (eP e1 e2)) : PX X PK pp ρ (.Subscript a (.Constant (.int 0) j p') pos) (bnd w fun x => ret x.1) e1 :=
  (pe_ix ix_tup h pe_int (fun _ _ => rfl)).weak fun σ H Q ⟨O, Φ, c, S, hw, k⟩ => ⟨O, _, c, S, hw, fun x v H' c' p ch S' r => by
    obtain ⟨a, u, w, rfl, t, q1, q2⟩ := r
    exact ⟨a, [u, w], 0, u, rfl, rfl, t.sq, rfl, k _ _ H' c' p ch S' q1⟩⟩
theorem xsnd {w : W (α × β)} {e1 : En X.K α} {e2 : En X.K β} {j p'} (h : PX X PK pp ρ a w (eP e1 e2)) : PX X PK pp ρ (.Subscript a (.Constant (.int 1) j p') pos) (bnd w fun x => ret x.2) e2 :=
  (pe_ix ix_tup h pe_int (fun _ _ => rfl)).weak fun σ H Q ⟨O, Φ, c, S, hw, k⟩ => ⟨O, _, c, S, hw, fun x v H' c' p ch S' r => by
    obtain ⟨a, u, w, rfl, t, q1, q2⟩ := r
    exact ⟨a, [u, w], 1, w, rfl, rfl, t.sq, rfl, k _ _ H' c' p ch S' q2⟩⟩
/-- a list at a place of any sign -/
def ixOk {α : Type} (xs : List α) (i : Int) : Bool := (ixN xs.length i).isSome
def ixAt {α : Type} [Inhabited α] (xs : List α) (i : Int) : α := xs.getD ((ixN xs.length i).getD 0) default
theorem ixN_lt {n : Nat} {i : Int} {j : Nat} (h : ixN n i = some j) : j < n := (ixN_seq h).2.1
theorem w_ixR [Inhabited α] {en : En X.K α} : IxW X (eR en) eI en ixOk ixAt := by
  intro va sl pins s σ H x y v u Q I rx ry ⟨A, xs, i, _, ⟨a, vs, e1, l, f⟩, r2, p, k⟩ hs
  obtain ⟨j, hj⟩ := Option.isSome_iff_exists.mp p
  have hlt := ixN_lt hj
  obtain ⟨v1, g, rv⟩ := f.get (List.getElem?_eq_getElem hlt)
  refine ix_list va sl pins s σ H x y v u Q I rx ry ⟨a, vs, i, v1, e1, r2, l.sq, ?_, k _ ?_⟩ hs
  · unfold atI
    rw [f.length, hj]
    exact g
  · unfold ixAt
    rw [hj, Option.getD_some, List.getD_eq_getElem?_getD, List.getElem?_eq_getElem hlt]
    exact rv
theorem w_ixL [Inhabited α] {en : En X.K α} : IxW X (eL en) eI en ixOk ixAt := by
  intro va sl pins s σ H x y v u Q I rx ry ⟨A, xs, i, d, r1, r2, p, k⟩ hs
  exact w_ixR va sl pins s σ H x y v u Q I rx ry ⟨A, xs, i, d, eL_R r1, r2, p, k⟩ hs
theorem xslice {w : W (List α)} {en : En X.K α} {lo hi : Option Expr} {wl wh : W (Option Int)} {p2} (h : PX X PK pp ρ a w (eL en))
    (hl : PO X lo (fun σ H Q => ∃ O Φ c, Sat PK O pp ρ c σ H ∧ wl Φ noX c ∧ ∀ x H' c', Φ x c' → Chg pp H H' → Sat PK O pp ρ c' σ H' → Q x H'))
    (hh : PO X hi (fun σ H Q => ∃ O Φ c, Sat PK O pp ρ c σ H ∧ wh Φ noX c ∧ ∀ x H' c', Φ x c' → Chg pp H H' → Sat PK O pp ρ c' σ H' → Q x H')) :
    PX X PK pp ρ (.Subscript a (.Slice lo hi none p2) pos) (bnd w fun x => bnd wl fun l => bnd wh fun u => ret ((x.drop (HT.sIx x.length 0 l)).take (HT.sIx x.length x.length u - HT.sIx x.length 0 l))) (eL en) :=
  (pe_slice sl_list h hl hh).weak fun σ H Q ⟨O, Φ, c, S, hw, k⟩ => ⟨O, _, c, S, hw, fun x v H1 c1 p1 ch1 S1 r1 => ⟨O, _, c1, S1, p1, fun l H2 c2 p2 ch2 S2 => ⟨O, _, c2, S2, p2, fun u H3 c3 p3 ch3 S3 => by
    obtain ⟨a, vs, rfl, l1, f⟩ := (eL en).mono (ch2.trans ch3).mv r1
    refine ⟨a, vs, rfl, l1.sq, fun p np => ?_⟩
    have s := same_new (o := .lst (cutV vs l u)) np
    refine k _ _ _ c3 p3 (((ch1.trans ch2).trans ch3).trans (.of s)) (S3.same s) ⟨p, _, rfl, ⟨new_at S3.av np, upd_same⟩, ?_⟩
    have e : cutV vs l u = (vs.drop (HT.sIx x.length 0 l)).take (HT.sIx x.length x.length u - HT.sIx x.length 0 l) := by
      unfold cutV
      rw [f.length]
    have g : F2 (en.r (Av O pp ρ) H3) (cutV vs l u) _ := e ▸ (f.drop (HT.sIx x.length 0 l)).take (HT.sIx x.length x.length u - HT.sIx x.length 0 l)
    exact g.imp fun _ _ => en.mono (Mv.same s)⟩⟩⟩
abbrev POX (X : Cx) (PK : PoolK) (pp : PP) (ρ : List (Sl X.K)) (e : Option Expr) (w : W (Option Int)) : Prop := PO X e (fun σ H Q => ∃ O Φ c, Sat PK O pp ρ c σ H ∧ w Φ noX c ∧ ∀ x H' c', Φ x c' → Chg pp H H' → Sat PK O pp ρ c' σ H' → Q x H')
theorem _root_.L2.PO.weak {X : Cx} {e : Option Expr} {t t' : TO} (h : PO X e t) (f : ∀ σ H Q, t' σ H Q → t σ H Q) : PO X e t' := ⟨fun pins s σ H Q I q => h.run pins s σ H Q I (f σ H Q q)⟩
theorem on_none : POX X PK pp ρ none (ret none) := (po_none).weak fun σ H Q ⟨O, Φ, c, S, hw, k⟩ => k _ H c hw .refl S
theorem on_some {w : W Int} (h : PX X PK pp ρ e w eI) : POX X PK pp ρ (some e) (bnd w fun i => ret (some i)) := (po_some h).weak fun σ H Q ⟨O, Φ, c, S, hw, k⟩ => ⟨O, _, c, S, hw, fun x v H' c' p ch S' r => ⟨x, r, k _ H' c' p ch S'⟩⟩
end
end Dc
/-! DcC: defs and their calls, statements, loops, comprehensions. -/
namespace Dc
open PySem PySem.Spec L2
section
variable {K : PySem.W.Frag} {PK : PoolK} {pp : PP} {ρ ρ1 ρ2 : List (Sl K)} {O : AS} {c c' : Nat} {σ : St} {H H' H1 H2 : Hp} {α β γ δ : Type}

/-! ### how a state moves -/
structure Stp (pp : PP) (ρ ρ1 : List (Sl K)) (H H1 : Hp) : Prop where
  keep : ∀ a o, H a = some o → ¬ foot pp a → a ∉ owns ρ → H1 a = some o
  new : ∀ a ∈ owns ρ1, a ∈ owns ρ ∨ (H a = none ∧ ¬ foot pp a)
theorem Stp.trans (x : Stp pp ρ ρ1 H H1) (y : Stp pp ρ1 ρ2 H1 H2) : Stp pp ρ ρ2 H H2 := by
  refine ⟨fun a o e n no => y.keep a o (x.keep a o e n no) n fun z => ?_, fun a z => ?_⟩
  · rcases x.new a z with q | q
    · exact no q
    · rw [e] at q; cases q.1
  · rcases y.new a z with q | q
    · exact x.new a q
    · by_cases h : a ∈ owns ρ
      · exact .inl h
      · refine .inr ⟨?_, q.2⟩
        cases e : H a with
        | none => rfl
        | some o =>
          have := x.keep a o e q.2 h
          rw [q.1] at this; cases this
theorem Stp.of_chg (x : Chg pp H H1) (h : ∀ a ∈ owns ρ1, a ∈ owns ρ) : Stp pp ρ ρ1 H H1 := ⟨fun a o e n _ => x a o e n, fun a z => .inl (h a z)⟩
theorem Stp.mv (x : Stp pp ρ ρ1 H H1) : Mv (Av O pp ρ) (Av O pp ρ1) H H1 := fun a o n e => by
  refine ⟨x.keep a o e (fun z => n (.inr (.inl z))) fun z => n (.inr (.inr z)), fun z => ?_⟩
  rcases z with z | z | z
  · exact n (.inl z)
  · exact n (.inr (.inl z))
  · rcases x.new a z with q | q
    · exact n (.inr (.inr q))
    · rw [e] at q; cases q.1
theorem Stp.refl : Stp pp ρ ρ H H := ⟨fun _ _ e _ _ => e, fun _ z => .inl z⟩
/-- behind a call: the pool has moved on -/
theorem Sat.chg (S : Sat PK O pp ρ c σ H) (ch : Chg pp H H') (p : PoolOk PK pp H' c') : Sat PK O pp ρ c' σ H' := by
  refine ⟨S.len, S.nd, S.new, fun a h => ?_, p, fun i => ?_⟩
  · by_cases hf : foot pp a
    · cases pp with
      | none => exact hf.elim
      | some q =>
        obtain ⟨a1, b1⟩ := q
        have q : PK.r H' a1 b1 c' := p
        rcases (show a = a1 ∨ a = b1 from hf) with e | e
        · rw [e]; exact (PK.dom q).1
        · rw [e]; exact (PK.dom q).2
    · cases e : H a with
      | none => exact absurd e (S.dom a h)
      | some o => rw [ch a o e hf]; simp
  · refine (S.slots i).mv ch.mv fun a ha => ?_
    cases e : get ρ i with
    | ow b on x =>
      rw [e] at ha
      have ha : a = b := by simpa [own1] using ha
      subst ha
      have q := S.slots i
      rw [e] at q
      have hn := (S.new a (owns_mem e)).2
      cases e2 : H a with
      | none => exact absurd e2 (on.dom q.2)
      | some o => exact ch a o e2 hn
    | _ => rw [e] at ha; cases ha
/-- a slot is given a value that nobody writes at -/
theorem Sat.put (S : Sat PK O pp ρ c σ H) {i : Nat} {v : V} {en : En K α} {x : α} (r : en.r (Av O pp ρ) H v x) : Sat PK O pp (put ρ i (.sh en x)) c (σ.set i (some v)) H := by
  have less : ∀ a, Av O pp (Dc.put ρ i (.sh en x)) a → Av O pp ρ a := fun a h => by
    rcases h with h | h | h
    · exact .inl h
    · exact .inr (.inl h)
    · rcases owns_put h with h | h
      · cases h
      · exact .inr (.inr h)
  refine ⟨by rw [List.length_set, put_len]; exact S.len, owns_put_nodup S.nd (own1_nodup _) (fun b hb => by cases hb), fun a ha => ?_, S.dom, S.pool, fun j => ?_⟩
  · rcases owns_put ha with h | h
    · cases h
    · exact S.new a h
  · by_cases hj : j = i
    · subst hj
      rcases get_put_self (ρ := ρ) (i := j) (s := Sl.sh en x) with e | e
      · rw [e]
        have hl := get_len (ρ := Dc.put ρ j (.sh en x)) (i := j) (by rw [e]; intro z; cases z)
        rw [put_len, ← S.len] at hl
        exact ⟨v, List.getElem?_set_self hl, en.mono (Mv.less less) r⟩
      · rw [e]; exact True.intro
    · rw [get_put_ne hj]
      have q := (S.slots j).mv (Mv.less less) (fun _ _ => rfl)
      cases e : get ρ j with
      | nil => exact True.intro
      | sh en2 y =>
        rw [e] at q
        obtain ⟨v2, e2, r2⟩ := q
        exact ⟨v2, by rw [List.getElem?_set_ne (Ne.symm hj)]; exact e2, r2⟩
      | ow a on y =>
        rw [e] at q
        exact ⟨by rw [List.getElem?_set_ne (Ne.symm hj)]; exact q.1, q.2⟩
      | pl =>
        rw [e] at q
        obtain ⟨a, b, e2, e3⟩ := q
        exact ⟨a, b, e2, by rw [List.getElem?_set_ne (Ne.symm hj)]; exact e3⟩
/-- a slot forgotten -/
theorem Sat.drop (S : Sat PK O pp ρ c σ H) {ρ' : List (Sl K)} (hl : ρ'.length = ρ.length) (hn : (owns ρ').Nodup) (ho : ∀ a ∈ owns ρ', a ∈ owns ρ) (hs : ∀ i, get ρ' i = .nil ∨ get ρ' i = get ρ i) : Sat PK O pp ρ' c σ H := by
  have less : ∀ a, Av O pp ρ' a → Av O pp ρ a := fun a h => by
    rcases h with h | h | h
    · exact .inl h
    · exact .inr (.inl h)
    · exact .inr (.inr (ho a h))
  refine ⟨S.len.trans hl.symm, hn, fun a h => S.new a (ho a h), S.dom, S.pool, fun i => ?_⟩
  rcases hs i with e | e
  · rw [e]; exact True.intro
  · rw [e]; exact (S.slots i).mv (Mv.less less) (fun _ _ => rfl)
inductive Fit : List (Sl K) → List (Sl K) → Prop where
  | nil : Fit [] []
  | eq {s r r'} : Fit r r' → Fit (s :: r) (s :: r')
  | dr {s r r'} : Fit r r' → Fit (s :: r) (.nil :: r')
theorem Fit.len {r r' : List (Sl K)} (f : Fit r r') : r'.length = r.length := by
  induction f with
  | nil => rfl
  | eq _ ih => simp [ih]
  | dr _ ih => simp [ih]
theorem Fit.owns {r r' : List (Sl K)} (f : Fit r r') : ∀ a ∈ owns r', a ∈ Dc.owns r := by
  induction f with
  | nil => intro a h; exact h
  | eq _ ih =>
    intro a h
    rcases List.mem_append.mp h with h | h
    · exact List.mem_append.mpr (.inl h)
    · exact List.mem_append.mpr (.inr (ih a h))
  | dr _ ih =>
    intro a h
    rcases List.mem_append.mp h with h | h
    · cases h
    · exact List.mem_append.mpr (.inr (ih a h))
theorem Fit.nd {r r' : List (Sl K)} (f : Fit r r') : (Dc.owns r).Nodup → (Dc.owns r').Nodup := by
  induction f with
  | nil => intro h; exact h
  | @eq s r r' f ih =>
    intro h
    have h : (own1 s ++ Dc.owns r).Nodup := h
    show (own1 s ++ Dc.owns r').Nodup
    rw [List.nodup_append] at h ⊢
    exact ⟨h.1, ih h.2.1, fun a ha b hb => h.2.2 a ha b (f.owns b hb)⟩
  | @dr s r r' f ih =>
    intro h
    have h : (own1 s ++ Dc.owns r).Nodup := h
    rw [List.nodup_append] at h
    exact ih h.2.1
theorem Fit.get {r r' : List (Sl K)} (f : Fit r r') : ∀ i, get r' i = .nil ∨ get r' i = Dc.get r i := by
  induction f with
  | nil => intro i; exact .inr rfl
  | eq _ ih =>
    intro i
    cases i with
    | zero => exact .inr rfl
    | succ i => exact ih i
  | dr _ ih =>
    intro i
    cases i with
    | zero => exact .inl rfl
    | succ i => exact ih i
theorem Sat.fit {r r' : List (Sl K)} (S : Sat PK O pp r c σ H) (f : Fit r r') : Sat PK O pp r' c σ H := S.drop f.len (f.nd S.nd) f.owns f.get
theorem Fit.refl : ∀ {r : List (Sl K)}, Fit r r
  | [] => .nil
  | _ :: _ => .eq Fit.refl
theorem Fit.stp {r r' : List (Sl K)} (f : Fit r r') : Stp pp r r' H H := ⟨fun _ _ e _ _ => e, fun a z => .inl (f.owns a z)⟩

/-! ### ends of blocks -/
inductive Fl (γ δ β : Type) where
  | nx (s : γ) | bk (s : δ) | ct (s : δ) | rt (r : β)
def sq {γ' : Type} (k : γ → W (Fl γ' δ β)) : Fl γ δ β → W (Fl γ' δ β)
  | .nx s => k s
  | .bk s => ret (.bk s)
  | .ct s => ret (.ct s)
  | .rt r => ret (.rt r)
def FlOk (PK : PoolK) (pp : PP) (O : AS) (ρ : List (Sl K)) (H : Hp) (ρ' : γ → List (Sl K)) (ρl : δ → List (Sl K)) (er : En K β) (D : Ends) (H' : Hp) (c' : Nat) : Fl γ δ β → Prop
  | .nx s => ∀ σ', Stp pp ρ (ρ' s) H H' → Sat PK O pp (ρ' s) c' σ' H' → D.nx σ' H'
  | .bk s => ∀ σ', Stp pp ρ (ρl s) H H' → Sat PK O pp (ρl s) c' σ' H' → D.bk σ' H'
  | .ct s => ∀ σ', Stp pp ρ (ρl s) H H' → Sat PK O pp (ρl s) c' σ' H' → D.ct σ' H'
  | .rt r => ∀ v, (∀ a o, H a = some o → ¬ foot pp a → a ∉ owns ρ → H' a = some o) → PoolOk PK pp H' c' → er.r (fun a => O a ∨ foot pp a) H' v r → D.rt v H'
def rdS (PK : PoolK) (pp : PP) (ρ : List (Sl K)) (w : W (Fl γ δ β)) (ρ' : γ → List (Sl K)) (ρl : δ → List (Sl K)) (er : En K β) : TS := fun D σ H => ∃ O Φ c, Sat PK O pp ρ c σ H ∧ w Φ noX c ∧
  ∀ fl H' c', Φ fl c' → FlOk PK pp O ρ H ρ' ρl er D H' c' fl
/-- a statement that only goes on; ι: new addresses -/
def rdN {ι : Type} (PK : PoolK) (pp : PP) (ρ : List (Sl K)) (w : W γ) (ρ1 : ι → γ → List (Sl K)) : TS := fun D σ H => ∃ O Φ c, Sat PK O pp ρ c σ H ∧ w Φ noX c ∧
  ∀ i s H' c', Φ s c' → ∀ σ', Stp pp ρ (ρ1 i s) H H' → Sat PK O pp (ρ1 i s) c' σ' H' → D.nx σ' H'
theorem FlOk.mono {ρ ρ1 : List (Sl K)} {H H1 : Hp} {ρ' : γ → List (Sl K)} {ρl : δ → List (Sl K)} {er : En K β} {D : Ends} {fl : Fl γ δ β} (st : Stp pp ρ ρ1 H H1) (h : FlOk PK pp O ρ H ρ' ρl er D H' c' fl) : FlOk PK pp O ρ1 H1 ρ' ρl er D H' c' fl := by
  cases fl with
  | nx s => exact fun σ' t S => h σ' (st.trans t) S
  | bk s => exact fun σ' t S => h σ' (st.trans t) S
  | ct s => exact fun σ' t S => h σ' (st.trans t) S
  | rt r => exact fun v t p q => h v (fun a o e n no => t a o (st.keep a o e n no) n fun z => by
      rcases st.new a z with y | y
      · exact no y
      · rw [e] at y; cases y.1) p q
end
section
variable {X : Cx} {PK : PoolK} {pp : PP} {ρ : List (Sl X.K)} {α β γ δ ι : Type}
abbrev PSX (X : Cx) (PK : PoolK) (pp : PP) (ρ : List (Sl X.K)) (ss : List Stmt) (w : W (Fl γ δ β)) (ρ' : γ → List (Sl X.K)) (ρl : δ → List (Sl X.K)) (er : En X.K β) : Prop := PSs X ss (rdS PK pp ρ w ρ' ρl er)
theorem _root_.L2.PS.weak {X : Cx} {e : Stmt} {t t' : TS} (h : PS X e t) (f : ∀ D σ H, t' D σ H → t D σ H) : PS X e t' := ⟨fun pins s σ H D I q => h.run pins s σ H D I (f D σ H q)⟩
theorem _root_.L2.PSs.weak {X : Cx} {e : List Stmt} {t t' : TS} (h : PSs X e t) (f : ∀ D σ H, t' D σ H → t D σ H) : PSs X e t' := ⟨fun pins s σ H D I q => h.run pins s σ H D I (f D σ H q)⟩
theorem _root_.L2.PSs.ex {X : Cx} {e : List Stmt} {ι : Type} {t : ι → TS} (h : ∀ i, PSs X e (t i)) : PSs X e (fun D σ H => ∃ i, t i D σ H) := ⟨fun pins s σ H D I ⟨i, q⟩ => (h i).run pins s σ H D I q⟩
variable {st : Stmt} {rest : List Stmt} {e : Expr} {pos : Pos} {ρ' : γ → List (Sl X.K)} {ρl : δ → List (Sl X.K)} {er : En X.K β}

theorem snil {s : γ} (f : Fit ρ (ρ' s)) : PSX X PK pp ρ [] (ret (.nx s)) ρ' ρl er := (pss_nil).weak fun D σ H ⟨O, Φ, c, S, hw, k⟩ => k _ H c hw σ f.stp (S.fit f)
/-- a statement, then the rest -/
theorem sx {γ1 : Type} {w : W γ1} {ρ1 : ι → γ1 → List (Sl X.K)} {kk : γ1 → W (Fl γ δ β)} (h : PS X st (rdN PK pp ρ w ρ1)) (h2 : ∀ i s, PSX X PK pp (ρ1 i s) rest (kk s) ρ' ρl er) : PSX X PK pp ρ (st :: rest) (bnd w kk) ρ' ρl er :=
  (pss_cons h (PSs.ex fun p : ι × γ1 => h2 p.1 p.2)).weak fun D σ H ⟨O, Φ, c, S, hw, k⟩ => ⟨O, _, c, S, hw, fun i s H' c' p σ' t S' => ⟨(i, s), O, Φ, c', S', p, fun fl H2 c2 q => (k fl H2 c2 q).mono t⟩⟩
theorem sq_ {γ1 : Type} {w : W (Fl γ1 δ β)} {ρ1 : γ1 → List (Sl X.K)} {kk : γ1 → W (Fl γ δ β)} (h : PS X st (rdS PK pp ρ w ρ1 ρl er)) (h2 : ∀ s, PSX X PK pp (ρ1 s) rest (kk s) ρ' ρl er) : PSX X PK pp ρ (st :: rest) (bnd w (sq kk)) ρ' ρl er :=
  (pss_cons h (PSs.ex fun s : γ1 => h2 s)).weak fun D σ H ⟨O, Φ, c, S, hw, k⟩ => ⟨O, _, c, S, hw, fun fl H' c' p => by
    cases fl with
    | nx s => exact fun σ' t S' => ⟨s, O, Φ, c', S', p, fun fl H2 c2 q => (k fl H2 c2 q).mono t⟩
    | bk s => exact k (.bk s) H' c' p
    | ct s => exact k (.ct s) H' c' p
    | rt r => exact k (.rt r) H' c' p⟩
theorem sret {w : W β} (h : PX X PK pp ρ e w er) : PSX X PK pp ρ (.Return (some e) pos :: rest) (bnd w fun x => ret (.rt x)) ρ' ρl er :=
  (pss_cons (ps_ret h) pss_never).weak fun D σ H ⟨O, Φ, c, S, hw, k⟩ => ⟨O, _, c, S, hw, fun x v H' c' p ch S' r => k _ H' c' p v (fun a o e n _ => ch a o e n) S'.pool (er.mono (Mv.less fun a h => by
    rcases h with h | h
    · exact .inl h
    · exact .inr (.inl h)) r)⟩
theorem sretN {er : En X.K Unit} (he : ∀ O H, er.r O H .non ()) : PSX X PK pp ρ (.Return none pos :: rest) (ret (.rt ())) ρ' ρl er :=
  (pss_cons ps_retN pss_never).weak fun D σ H ⟨O, Φ, c, S, hw, k⟩ => k _ H c hw _ (fun a o e n _ => e) S.pool (he _ _)
theorem sbrk {s : δ} (f : Fit ρ (ρl s)) : PSX X PK pp ρ (.Break pos :: rest) (ret (.bk s)) ρ' ρl er := (pss_cons ps_break pss_never).weak fun D σ H ⟨O, Φ, c, S, hw, k⟩ => k _ H c hw σ f.stp (S.fit f)
theorem scont {s : δ} (f : Fit ρ (ρl s)) : PSX X PK pp ρ (.Continue pos :: rest) (ret (.ct s)) ρ' ρl er := (pss_cons ps_continue pss_never).weak fun D σ H ⟨O, Φ, c, S, hw, k⟩ => k _ H c hw σ f.stp (S.fit f)
/-- a statement that is never reached -/
theorem snever : PSX X PK pp ρ rest stuck ρ' ρl er := (pss_never).weak fun D σ H ⟨O, Φ, c, S, hw, k⟩ => hw
/-- x = e -/
theorem nset_ {i : Nat} {w : W α} {en : En X.K α} (h : PS X st (tAsg (rdE PK pp ρ w en) (gName i))) : PS X st (rdN PK pp ρ w fun (_ : Unit) x => put ρ i (.sh en x)) :=
  h.weak fun D σ H ⟨O, Φ, c, S, hw, k⟩ => ⟨O, _, c, S, hw, fun x v H' c' p ch S' r => k () x H' c' p _ (.of_chg ch fun a z => by
    rcases owns_put z with z | z
    · cases z
    · exact z) (S'.put r)⟩
theorem nset (i : Nat) {x : Str} {pos' : Pos} {w : W α} {en : En X.K α} (hN : X.N.Nodup) (he : PX X PK pp ρ e w en) (hi : X.N[i]? = some x := by rfl) (hx : Loc X.env.scope x := by first | exact Or.inl rfl | exact Or.inr rfl) (hs : swapsWith e (some (.Name x pos')) pos.line X.env = pure false := by rfl)
    (hf : X.fn x = true ∨ X.env.scope.names.lookup x = some .local := by first | exact .inl rfl | exact .inr rfl) : PS X (.Assign [.Name x pos'] e pos) (rdN PK pp ρ w fun (_ : Unit) x => put ρ i (.sh en x)) := nset_ (ps_set hN hi hx he hs hf)
/-- x op= e -/
theorem naug (i : Nat) {x : Str} {pos' : Pos} {op : Operator} {w : W β} {e1 : En X.K α} {e2 : En X.K β} {e3 : En X.K ι} {pre : α → β → Bool} {res : α → β → ι} {y : α} (hN : X.N.Nodup) (hg : get ρ i = .sh e1 y) (he : PX X PK pp ρ e w e2) (ho : OpW X (inplaceOp op) e1 e2 e3 pre res) (hi : X.N[i]? = some x := by rfl)
    (hx : Loc X.env.scope x := by first | exact Or.inl rfl | exact Or.inr rfl) (hf : X.fn x = true ∨ X.env.scope.names.lookup x = some .local := by first | exact .inl rfl | exact .inr rfl) :
    PS X (.AugAssign (.Name x pos') op e pos) (rdN PK pp ρ (bnd w fun z => grd (pre y z) (ret (res y z))) fun (_ : Unit) x => put ρ i (.sh e3 x)) :=
  (ps_aug hN hi hx he ho hf).weak fun D σ H ⟨O, Φ, c, S, hw, k⟩ => by
    have q := S.slots i
    rw [hg] at q
    obtain ⟨v, e, r⟩ := q
    exact ⟨v, e, O, _, c, S, hw, fun z u H' c' p ch S' r2 => ⟨_, y, z, S'.av, e1.mono ch.mv r, r2, p.1, fun o H2 s r3 => k () _ H2 c' p.2 _ (.of_chg (ch.trans (.of s)) fun a z => by
      rcases owns_put z with z | z
      · cases z
      · exact z) ((S'.same s).put r3)⟩⟩
theorem wi_add : OpW X (inplaceOp .Add) (eI : En X.K Int) eI eI (fun _ _ => true) (· + ·) := opII iop_add
theorem wi_sub : OpW X (inplaceOp .Sub) (eI : En X.K Int) eI eI (fun _ _ => true) (· - ·) := opII iop_sub
/-- an expression whose value is dropped -/
theorem nexpr {w : W α} {en : En X.K α} (h : PX X PK pp ρ e w en) (hs : swapsWith e none pos.line X.env = pure false := by rfl) : PS X (.Expr e pos) (rdN PK pp ρ w fun (_ : Unit) _ => ρ) :=
  (ps_expr h hs).weak fun D σ H ⟨O, Φ, c, S, hw, k⟩ => ⟨O, _, c, S, hw, fun x v H' c' p ch S' r => k () x H' c' p σ (.of_chg ch fun _ z => z) S'⟩
theorem npass : PS X (.Pass pos) (rdN PK pp ρ (ret ()) fun (_ : Unit) _ => ρ) := (ps_pass).weak fun D σ H ⟨O, Φ, c, S, hw, k⟩ => k () () H c hw σ .refl S
/-- if -/
theorem nif {c : Expr} {a b : List Stmt} {w : W Bool} {u v : W (Fl γ δ β)} (hc : PTX X PK pp ρ c w) (ha : PSX X PK pp ρ a u ρ' ρl er) (hb : PSX X PK pp ρ b v ρ' ρl er) : PS X (.If c a b pos) (rdS PK pp ρ (bnd w fun x => ite x u v) ρ' ρl er) :=
  (ps_if hc ha hb).weak fun D σ H ⟨O, Φ, c, S, hw, k⟩ => ⟨O, _, c, S, hw, fun x H' c' p ch S' => by
    have st : Stp pp ρ ρ H H' := .of_chg ch fun _ z => z
    cases x with
    | true => exact ⟨O, Φ, c', S', p, fun fl H2 c2 q => (k fl H2 c2 q).mono st⟩
    | false => exact ⟨O, Φ, c', S', by simpa [ite] using p, fun fl H2 c2 q => (k fl H2 c2 q).mono st⟩⟩
end
end Dc
/-! DcD: defs and their calls, walks, loops, comprehensions. -/
namespace Dc
open PySem PySem.Spec L2
open PyProof.Rows (envOfC)

/-! ### defs -/
/-- what a def promises that is told by a function into W -/
def spW {K : PySem.W.Frag} {α β : Type} (PK : PoolK) (ea : EA K α) (f : α → W β) (er : En K β) : Sp := fun vs H Q _ => ∃ pp O x Φ c, Dom O H ∧ (∀ a, foot pp a → O a) ∧ PoolOk PK pp H c ∧ ea.r pp O H vs x ∧ f x Φ noX c ∧
  ∀ y v H' c', Φ y c' → Chg pp H H' → PoolOk PK pp H' c' → er.r O H' v y → Q v H'
def fnR {β : Type} (w : W (Fl Empty Empty β)) : W β := bnd w fun fl => match fl with | .rt r => ret r | .nx z => nomatch z | .bk z => nomatch z | .ct z => nomatch z
def fnU (w : W (Fl Unit Empty Unit)) : W Unit := bnd w fun fl => match fl with | .rt r => ret r | .nx _ => ret () | .bk z => nomatch z | .ct z => nomatch z
def nilsTo {K : PySem.W.Frag} (n : Nat) (l : List (Sl K)) : List (Sl K) := l ++ List.replicate (n - l.length) .nil
theorem get_app {K : PySem.W.Frag} {l : List (Sl K)} {n i : Nat} : get (l ++ List.replicate n .nil) i = get l i ∨ get (l ++ List.replicate n .nil) i = .nil := by
  induction l generalizing i with
  | nil => exact .inr (get_nils n i)
  | cons s r ih =>
    cases i with
    | zero => exact .inl rfl
    | succ i => exact ih
theorem owns_app {K : PySem.W.Frag} : ∀ {l : List (Sl K)} {n : Nat}, owns (l ++ List.replicate n .nil) = owns l
  | [], n => own_nils n
  | s :: r, n => by
    show own1 s ++ owns (r ++ _) = own1 s ++ owns r
    rw [owns_app]
section
variable {P : Program} {w : World} {K : PySem.W.Frag} {mg : Str → Option Value} {base : Heap} {PK : PoolK} {α β : Type}
theorem own0 {ea : EA K α} {x : α} {n : Nat} {a : Addr} : a ∉ owns (ea.ents x ++ List.replicate n (Sl.nil : Sl K)) := fun h => by
  rw [owns_app, ea.eown] at h
  cases h
theorem sat_start {pp : PP} {O : AS} {H : Hp} {vs : List V} {x : α} {ea : EA K α} {N : List Str} {c : Nat} (hd : Dom O H) (hf : ∀ a, foot pp a → O a) (hp : PoolOk PK pp H c) (hr : ea.r pp O H vs x) (hN : ea.len ≤ N.length) :
    Sat PK O pp (ea.ents x ++ List.replicate (N.length - ea.len) .nil) c (L2.start N vs) H := by
  have e0 : owns (ea.ents x ++ List.replicate (N.length - ea.len) (Sl.nil : Sl K)) = [] := owns_app.trans (ea.eown x)
  have av : ∀ a, Av O pp (ea.ents x ++ List.replicate (N.length - ea.len) (Sl.nil : Sl K)) a → O a := fun a h => by
    rcases h with h | h | h
    · exact h
    · exact hf a h
    · rw [e0] at h; cases h
  have hl := ea.hlen hr
  refine ⟨?_, (by rw [e0]; exact List.nodup_nil), (fun a h => absurd h own0), hd, hp, fun i => ?_⟩
  · unfold L2.start
    rw [List.length_append, List.length_append, List.length_map, List.length_replicate, List.length_replicate, ea.elen, hl]
  · rcases get_app (l := ea.ents x) (n := N.length - ea.len) (i := i) with e | e
    · rw [e]
      exact (ea.eok i hr).mv (Mv.less av) fun _ _ => rfl
    · rw [e]; exact True.intro
theorem fn_gen {x qual : Str} {st : Stmt} {f : Addr} {fd : FuncData} {N ps : List Str} {k : Nat} {γ : Type} {ea : EA K α} {er : En K β} {fw : α → W β} {wb : α → W (Fl γ Empty β)} {ρ' : γ → List (Sl K)} (F : Fun K x qual st f fd) (S : FnScope N ps (defScope st)) (hl : ea.len = ps.length) (hN : ea.len ≤ N.length)
    (hnx : ∀ (x : α) (Φ : β → WB) (c : Nat), fw x Φ noX c → ∃ Φ' : Fl γ Empty β → WB, wb x Φ' noX c ∧ ∀ fl c', Φ' fl c' → match fl with | .rt r => Φ r c' | .nx _ => ∃ r, Φ r c' ∧ ∀ O H, er.r O H .non r | _ => True)
    (hbody : ∀ (cdv : Value) (A : Around) (outer : List Env) (s : Shared) (H : Hp) (E : XK) (pp : PP) (x : α), Room k (A.deeper (envOfC qual (defScope st) s.heap.objs.size f cdv)) →
      PSX (cxOf CX0 P w K mg base N qual (defScope st) f cdv A outer s H E).nox PK pp (ea.ents x ++ List.replicate (N.length - ea.len) .nil) (defBody st) (wb x) ρ' (fun z : Empty => nomatch z) er) : FnOk P w K mg base CX0 (k + 1) f fd ps (spW PK ea fw er) := by
  refine F.ok S (fun vs H Q E h => ?_) (fun cdv A outer s H vs Q E hr h => ?_)
  · obtain ⟨pp, O, x, Φ, c, _, _, _, r, _⟩ := h
    rw [ea.hlen r, hl]
  · obtain ⟨pp, O, x, Φ, c, hd, hf, hp, r, hw, q⟩ := h
    obtain ⟨Φ', hw', hk⟩ := hnx x Φ c hw
    refine ⟨_, hbody cdv A outer s H E pp x hr, O, Φ', c, sat_start hd hf hp r hN, hw', fun fl H' c' p => ?_⟩
    have z := hk fl c' p
    cases fl with
    | rt r =>
      intro v ch pl rv
      refine q r v H' c' z (fun a o e n => ch a o e n (own0 (ea := ea))) pl (er.mono (Mv.less fun a h => .inl h) rv)
    | nx s0 =>
      intro σ' stp S'
      obtain ⟨r, z1, z2⟩ := z
      refine q r .non H' c' z1 (fun a o e n => stp.keep a o e n (own0 (ea := ea))) S'.pool (z2 _ _)
    | bk z => exact nomatch z
    | ct z => exact nomatch z
theorem fn_R {x qual : Str} {st : Stmt} {f : Addr} {fd : FuncData} {N ps : List Str} {k : Nat} {ea : EA K α} {er : En K β} {wb : α → W (Fl Empty Empty β)} {ρ' : Empty → List (Sl K)} (F : Fun K x qual st f fd) (S : FnScope N ps (defScope st)) (hl : ea.len = ps.length) (hN : ea.len ≤ N.length)
    (hbody : ∀ (cdv : Value) (A : Around) (outer : List Env) (s : Shared) (H : Hp) (E : XK) (pp : PP) (x : α), Room k (A.deeper (envOfC qual (defScope st) s.heap.objs.size f cdv)) →
      PSX (cxOf CX0 P w K mg base N qual (defScope st) f cdv A outer s H E).nox PK pp (ea.ents x ++ List.replicate (N.length - ea.len) .nil) (defBody st) (wb x) ρ' (fun z : Empty => nomatch z) er) : FnOk P w K mg base CX0 (k + 1) f fd ps (spW PK ea (fun x => fnR (wb x)) er) :=
  fn_gen F S hl hN (fun x Φ c h => ⟨_, h, fun fl c' p => by
    cases fl with
    | rt r => exact p
    | nx z => exact nomatch z
    | bk z => exact nomatch z
    | ct z => exact nomatch z⟩) hbody
theorem fn_U {x qual : Str} {st : Stmt} {f : Addr} {fd : FuncData} {N ps : List Str} {k : Nat} {ea : EA K α} {wb : α → W (Fl Unit Empty Unit)} {ρ' : Unit → List (Sl K)} (F : Fun K x qual st f fd) (S : FnScope N ps (defScope st)) (hl : ea.len = ps.length) (hN : ea.len ≤ N.length)
    (hbody : ∀ (cdv : Value) (A : Around) (outer : List Env) (s : Shared) (H : Hp) (E : XK) (pp : PP) (x : α), Room k (A.deeper (envOfC qual (defScope st) s.heap.objs.size f cdv)) →
      PSX (cxOf CX0 P w K mg base N qual (defScope st) f cdv A outer s H E).nox PK pp (ea.ents x ++ List.replicate (N.length - ea.len) .nil) (defBody st) (wb x) ρ' (fun z : Empty => nomatch z) eU) : FnOk P w K mg base CX0 (k + 1) f fd ps (spW PK ea (fun x => fnU (wb x)) eU) :=
  fn_gen F S hl hN (fun x Φ c h => ⟨_, h, fun fl c' p => by
    cases fl with
    | rt r => exact p
    | nx z => exact ⟨(), p, fun _ _ => rfl⟩
    | bk z => exact nomatch z
    | ct z => exact nomatch z⟩) hbody
end
section
variable {X : Cx} {PK : PoolK} {pp : PP} {ρ : List (Sl X.K)} {α β γ δ : Type}
variable {e a b : Expr} {es : List Expr} {pos : Pos}
theorem xcall {k : Nat} {f : Addr} {fd : FuncData} {ps : List Str} {x : Str} {p : Pos} {ea : EA X.K α} {er : En X.K β} {fw : α → W β} {wa : W α} (F : FnOk X.prog X.w X.K X.mg X.base CX0 k f fd ps (spW PK ea fw er)) (hr : Room k X.A) (hm : X.mg x = some (.ref f)) (hk : PySem.W.keepIn X.K (.ref f) = true)
    (hb : Binds X.K fd ps []) (ha : PAX X PK pp ρ (e :: es) wa ea) (hg : Gl X x := by rfl) (hdb : (x == ("__debug__" : Str)) = false := by decide) (he : starEach (e :: es) X.env = (false, eval e X.env) :: starEach es X.env := by rfl)
    (hpl : (backTo pos (starEach es X.env)).any (·.1) = false := by rfl) : PX X PK pp ρ (.Call (.Name x p) (e :: es) [] pos) (bnd wa fw) er :=
  (pe_call F hr hg hm hk hb .nil pass0 ha hdb he hpl).weak fun σ H Q ⟨O, Φ, c, S, hw, kk⟩ => ⟨O, _, c, S, hw, fun y vs H1 c1 p1 ch1 S1 r1 => by
    show spW PK ea fw er (vs ++ []) H1 Q E0
    rw [List.append_nil]
    exact ⟨pp, Av O pp ρ, y, Φ, c1, S1.av, fun a h => .inr (.inl h), S1.pool, r1, p1, fun z v H2 c2 p2 ch2 pl2 rz => kk z v H2 c2 p2 (ch1.trans ch2) (S1.chg ch2 pl2) rz⟩⟩

/-! ### builtins -/
def CallW (X : Cx) (f : Value) (ea : EA X.K α) (e3 : En X.K γ) (pre : α → Bool) (res : α → γ) : Prop :=
  CallR X f fun xs H Q => ∃ pp A a, Dom A H ∧ ea.r pp A H xs a ∧ pre a = true ∧ ∀ v H', Same H H' → e3.r A H' v (res a) → Q v H'
theorem xcallB {id : String} {x : Str} {p : Pos} {ea : EA X.K α} {e3 : En X.K γ} {pre : α → Bool} {res : α → γ} {wa : W α} (hc : CallW X (.builtin id) ea e3 pre res) (hm : X.mg x = none) (hv : bootBuiltins x = some (.builtin id)) (ha : PAX X PK pp ρ (e :: es) wa ea) (hg : Gl X x := by rfl)
    (hn : x ≠ "__name__" := by decide) (hdb : (x == ("__debug__" : Str)) = false := by decide) (he : starEach (e :: es) X.env = (false, eval e X.env) :: starEach es X.env := by rfl) (hpl : (backTo pos (starEach es X.env)).any (·.1) = false := by rfl) :
    PX X PK pp ρ (.Call (.Name x p) (e :: es) [] pos) (bnd wa fun x => grd (pre x) (ret (res x))) e3 :=
  (pe_callB hc hg hm hv ha hn hdb he hpl).weak fun σ H Q ⟨O, Φ, c, S, hw, kk⟩ => ⟨O, _, c, S, hw, fun y vs H1 c1 p1 ch1 S1 r1 => ⟨pp, _, y, S1.av, r1, p1.1, fun v H2 s r2 => kk _ v H2 c1 p1.2 (ch1.trans (.of s)) (S1.same s) r2⟩⟩
theorem xcallT {id : String} {x : Str} {p : Pos} {ea : EA X.K α} {e3 : En X.K γ} {pre : α → Bool} {res : α → γ} {wa : W α} (hc : CallW X (.type id) ea e3 pre res) (hm : X.mg x = none) (hv : bootBuiltins x = some (.type id)) (ha : PAX X PK pp ρ (e :: es) wa ea) (hg : Gl X x := by rfl)
    (hn : x ≠ "__name__" := by decide) (hdb : (x == ("__debug__" : Str)) = false := by decide) (he : starEach (e :: es) X.env = (false, eval e X.env) :: starEach es X.env := by rfl) (hpl : (backTo pos (starEach es X.env)).any (·.1) = false := by rfl) :
    PX X PK pp ρ (.Call (.Name x p) (e :: es) [] pos) (bnd wa fun x => grd (pre x) (ret (res x))) e3 :=
  (pe_callTy hc hg hm hv ha hn hdb he hpl).weak fun σ H Q ⟨O, Φ, c, S, hw, kk⟩ => ⟨O, _, c, S, hw, fun y vs H1 c1 p1 ch1 S1 r1 => ⟨pp, _, y, S1.av, r1, p1.1, fun v H2 s r2 => kk _ v H2 c1 p1.2 (ch1.trans (.of s)) (S1.same s) r2⟩⟩
/-- a name of the module for a builtin (math.gcd) -/
theorem xcallG {id : String} {x : Str} {p : Pos} {ea : EA X.K α} {e3 : En X.K γ} {pre : α → Bool} {res : α → γ} {wa : W α} (hc : CallW X (.builtin id) ea e3 pre res) (hm : X.mg x = some (.builtin id)) (ha : PAX X PK pp ρ (e :: es) wa ea) (hg : Gl X x := by rfl)
    (hdb : (x == ("__debug__" : Str)) = false := by decide) (he : starEach (e :: es) X.env = (false, eval e X.env) :: starEach es X.env := by rfl) (hpl : (backTo pos (starEach es X.env)).any (·.1) = false := by rfl) :
    PX X PK pp ρ (.Call (.Name x p) (e :: es) [] pos) (bnd wa fun x => grd (pre x) (ret (res x))) e3 :=
  (pe_callBfun hc hg hm ha hdb he hpl).weak fun σ H Q ⟨O, Φ, c, S, hw, kk⟩ => ⟨O, _, c, S, hw, fun y vs H1 c1 p1 ch1 S1 r1 => ⟨pp, _, y, S1.av, r1, p1.1, fun v H2 s r2 => kk _ v H2 c1 p1.2 (ch1.trans (.of s)) (S1.same s) r2⟩⟩
theorem F2.bls {K : PySem.W.Frag} {O : AS} {H : Hp} {vs : List V} {bs : List Bool} (f : F2 ((eB : En K Bool).r O H) vs bs) : vs = bs.map V.bl := by
  induction f with
  | nil => rfl
  | cons r _ ih => rw [show _ = V.bl _ from r, ih]; rfl
theorem F2.ints {K : PySem.W.Frag} {O : AS} {H : Hp} {vs : List V} {bs : List Int} (f : F2 ((eI : En K Int).r O H) vs bs) : vs = bs.map V.int := by
  induction f with
  | nil => rfl
  | cons r _ ih => rw [show _ = V.int _ from r, ih]; rfl
abbrev a1 (e1 : En X.K α) : EA X.K (α × Unit) := aC e1 aN
abbrev a2 (e1 : En X.K α) (e2 : En X.K β) : EA X.K (α × β × Unit) := aC e1 (aC e2 aN)
theorem c_lenR {en : En X.K α} : CallW X (.builtin "len") (a1 (eR en)) eI (fun _ => true) (fun x => (x.1.length : Int)) := by
  rintro pins s σ H xs us Q I r ⟨pp, A, x, _, ⟨v, _, rfl, ⟨a, vs, rfl, l, f⟩, rfl⟩, _, k⟩
  exact call_len_seq pins s σ H _ us Q I r ⟨a, vs, rfl, .inl l.sq, k _ _ (.refl _) (by rw [f.length]; rfl)⟩
theorem c_len {en : En X.K α} : CallW X (.builtin "len") (a1 (eL en)) eI (fun _ => true) (fun x => (x.1.length : Int)) := by
  rintro pins s σ H xs us Q I r ⟨pp, A, x, d, ⟨v, _, rfl, r1, rfl⟩, p, k⟩
  exact c_lenR (en := en) pins s σ H _ us Q I r ⟨pp, A, x, d, ⟨v, _, rfl, eL_R r1, rfl⟩, p, k⟩
theorem c_int : CallW X (.type "int") (a1 (eI : En X.K Int)) eI (fun _ => true) (fun x => x.1) := by
  rintro pins s σ H xs us Q I r ⟨pp, A, x, d, ⟨v, _, rfl, rfl, rfl⟩, p, k⟩
  exact call_int1 pins s σ H _ us Q I r (.inl ⟨_, rfl, k _ _ (.refl _) rfl⟩)
theorem c_intB : CallW X (.type "int") (a1 (eB : En X.K Bool)) eI (fun _ => true) (fun x => if x.1 then 1 else 0) := by
  rintro pins s σ H xs us Q I r ⟨pp, A, x, d, ⟨v, _, rfl, rfl, rfl⟩, p, k⟩
  exact call_int1 pins s σ H _ us Q I r (.inr ⟨_, rfl, k _ _ (.refl _) rfl⟩)
theorem c_abs : CallW X (.builtin "abs") (a1 (eI : En X.K Int)) eI (fun _ => true) (fun x => if x.1 < 0 then -x.1 else x.1) := by
  rintro pins s σ H xs us Q I r ⟨pp, A, x, d, ⟨v, _, rfl, rfl, rfl⟩, p, k⟩
  exact call_abs pins s σ H _ us Q I r ⟨_, rfl, k _ _ (.refl _) rfl⟩
theorem c_gcd : CallW X (.builtin "math.gcd") (a2 (eI : En X.K Int) eI) eI (fun _ => true) (fun x => ((Nat.gcd x.1.natAbs x.2.1.natAbs : Nat) : Int)) := by
  rintro pins s σ H xs us Q I r ⟨pp, A, x, d, ⟨v, _, rfl, rfl, u, _, rfl, rfl, rfl⟩, p, k⟩
  exact cr_gcd pins s σ H _ us Q I r ⟨_, _, rfl, k _ _ (.refl _) rfl⟩
theorem c_list {en : En X.K α} : CallW X (.type "list") (a1 (eR en)) (eL en) (fun _ => true) (fun x => x.1) := by
  rintro pins s σ H xs us Q I r ⟨pp, A, x, d, ⟨v, _, rfl, ⟨a, vs, rfl, l, f⟩, rfl⟩, _, k⟩
  refine call_list_of pins s σ H _ us Q I r ⟨a, vs, rfl, .inl l.sq, fun p np => ?_⟩
  have s := same_new (o := .lst vs) np
  exact k _ _ s ⟨p, vs, rfl, ⟨new_at d np, upd_same⟩, f.imp fun _ _ => en.mono (Mv.same s)⟩
theorem c_allB : ∀ (hc : X.calm = true), CallW X (.builtin "all") (a1 (eL (eB : En X.K Bool))) eB (fun _ => true) (fun x => x.1.all id) := by
  rintro hc pins s σ H xs us Q I r ⟨pp, A, x, d, ⟨v, _, rfl, ⟨a, vs, rfl, l, f⟩, rfl⟩, _, k⟩
  have e := F2.bls f
  exact cr_all hc pins s σ H _ us Q I r ⟨a, x.1, rfl, by rw [← e]; exact l.sq, k _ _ (.refl _) rfl⟩
theorem c_anyB : ∀ (hc : X.calm = true), CallW X (.builtin "any") (a1 (eL (eB : En X.K Bool))) eB (fun _ => true) (fun x => x.1.any id) := by
  rintro hc pins s σ H xs us Q I r ⟨pp, A, x, d, ⟨v, _, rfl, ⟨a, vs, rfl, l, f⟩, rfl⟩, _, k⟩
  have e := F2.bls f
  exact cr_any hc pins s σ H _ us Q I r ⟨a, x.1, rfl, by rw [← e]; exact l.sq, k _ _ (.refl _) rfl⟩
theorem xR {w : W (List α)} {en : En X.K α} (h : PX X PK pp ρ e w (eL en)) : PX X PK pp ρ e w (eR en) := h.weak fun σ H Q ⟨O, Φ, c, S, hw, k⟩ => ⟨O, Φ, c, S, hw, fun x v H' c' p ch S' r => k x v H' c' p ch S' (eL_R r)⟩
theorem w_cat {en : En X.K α} : OpW X (binaryOp .Add) (eL en) (eL en) (eL en) (fun x y => decide (x.length + y.length ≤ 16777216)) (fun x y => x ++ y) := by
  intro pins s σ H x y v u Q I rx ry ⟨A, xs, ys, d, ⟨a, vs, e1, l, f⟩, ⟨b, us, e2, l2, f2⟩, p, k⟩
  refine op_cat pins s σ H x y v u Q I rx ry ⟨a, b, vs, us, e1, e2, l.2, l2.2, ?_, fun p np => ?_⟩
  · rw [f.length, f2.length, sizeLine_eq]; exact of_decide_eq_true p
  · have s := same_new (o := .lst (vs ++ us)) np
    exact k _ _ s ⟨p, _, rfl, ⟨new_at d np, upd_same⟩, (f.append f2).imp fun _ _ => en.mono (Mv.same s)⟩
def repOk (n : Nat) (k : Int) : Bool := decide (-(2 ^ 63) ≤ k) && decide (k < 2 ^ 63) && decide (n * k.toNat ≤ 16777216)
theorem F2.flat {α β : Type} {R : α → β → Prop} {l : List α} {m : List β} (h : F2 R l m) : ∀ n : Nat, F2 R (List.replicate n l).flatten (List.replicate n m).flatten
  | 0 => .nil
  | n + 1 => by simpa [List.replicate_succ] using h.append (F2.flat h n)
theorem w_rep {en : En X.K α} : OpW X (binaryOp .Mult) (eL en) (eI : En X.K Int) (eL en) (fun x k => repOk x.length k) (fun x k => (List.replicate k.toNat x).flatten) := by
  intro pins s σ H x y v u Q I rx ry ⟨A, xs, i, d, ⟨a, vs, e1, l, f⟩, r2, p, k⟩
  simp only [repOk, Bool.and_eq_true, decide_eq_true_eq] at p
  refine op_rep pins s σ H x y v u Q I rx ry ⟨a, i, vs, e1, r2, l.2, p.1.1, p.1.2, by rw [f.length, sizeLine_eq]; exact p.2, fun p np => ?_⟩
  have s := same_new (o := .lst (List.replicate i.toNat vs).flatten) np
  exact k _ _ s ⟨p, _, rfl, ⟨new_at d np, upd_same⟩, (f.flat _).imp fun _ _ => en.mono (Mv.same s)⟩
end
end Dc
/-! DcE: walks, loops, comprehensions, lists of one's own. -/
namespace Dc
open PySem PySem.Spec L2
section
variable {K : PySem.W.Frag} {PK : PoolK} {pp : PP} {ρ ρ1 ρ2 : List (Sl K)} {O : AS} {c c' : Nat} {σ : St} {H H' H0 H1 H2 : Hp} {α β γ δ : Type} {p : Addr} {o : HO}

/-! ### a new thing, avoided -/
def Ox (O : AS) (p : Addr) : AS := fun a => O a ∨ a = p
theorem Mv.new (h : H p = none) : Mv O (Ox O p) H (upd H p o) := fun a u n e => by
  have ne := ne_of_none e h
  exact ⟨by rw [upd_ne ne]; exact e, fun z => z.elim n ne⟩
theorem av_ox : ∀ {a}, Av (Ox O p) pp ρ a → Ox (Av O pp ρ) p a := fun {a} h => by
  rcases h with (h | h) | h | h
  · exact .inl (.inl h)
  · exact .inr h
  · exact .inl (.inr (.inl h))
  · exact .inl (.inr (.inr h))
theorem Mv.newA (h : H p = none) : Mv (Av O pp ρ) (Av (Ox O p) pp ρ) H (upd H p o) := (Mv.new h).trans (Mv.less fun _ z => av_ox z)
theorem Sat.newO (S : Sat PK O pp ρ c σ H) (h : H p = none) : Sat PK (Ox O p) pp ρ c σ (upd H p o) := by
  have np : ∀ a, H a ≠ none → a ≠ p := fun a n z => n (by rw [z]; exact h)
  have s := same_new (o := o) h
  have S' := S.same s
  refine ⟨S.len, S.nd, fun a ha => ⟨fun z => ?_, (S.new a ha).2⟩, fun a z => ?_, S'.pool, fun i => ?_⟩
  · rcases z with z | z
    · exact (S.new a ha).1 z
    · exact np a (S.av a (.inr (.inr ha))) z
  · rcases z with z | z
    · exact S'.dom a z
    · rw [z, upd_same]; simp
  · refine (S.slots i).mv (Mv.newA h) fun a ha => same_at s ?_
    cases e : get ρ i with
    | ow b on x =>
      rw [e] at ha
      have ha : a = b := by simpa [own1] using ha
      subst ha
      have q := S.slots i
      rw [e] at q
      exact on.dom q.2
    | _ => rw [e] at ha; cases ha
theorem Sat.lessO (S : Sat PK (Ox O p) pp ρ c σ H) : Sat PK O pp ρ c σ H := by
  have less : ∀ a, Av O pp ρ a → Av (Ox O p) pp ρ a := fun a h => by
    rcases h with h | h | h
    · exact .inl (.inl h)
    · exact .inr (.inl h)
    · exact .inr (.inr h)
  exact ⟨S.len, S.nd, fun a ha => ⟨fun z => (S.new a ha).1 (.inl z), (S.new a ha).2⟩, fun a z => S.dom a (.inl z), S.pool, fun i => (S.slots i).mv (Mv.less less) fun _ _ => rfl⟩
/-- what is avoided may change -/
theorem Sat.updO (S : Sat PK O pp ρ c σ H) (hp : O p) (hf : ¬ foot pp p) : Sat PK O pp ρ c σ (upd H p o) := by
  have mv : Mv (Av O pp ρ) (Av O pp ρ) H (upd H p o) := fun a u n e => ⟨by rw [upd_ne (fun z => n (by rw [z]; exact .inl hp))]; exact e, n⟩
  refine ⟨S.len, S.nd, S.new, fun a z => ?_, ?_, fun i => (S.slots i).mv mv fun a ha => ?_⟩
  · by_cases e : a = p
    · rw [e, upd_same]; simp
    · rw [upd_ne e]; exact S.dom a z
  · cases pp with
    | none => exact True.intro
    | some q =>
      obtain ⟨a, b⟩ := q
      have q : PK.r H a b c := S.pool
      exact PK.keep (upd_ne (o := o) fun z => hf (.inl z.symm)) (upd_ne (o := o) fun z => hf (.inr z.symm)) q
  · cases e : get ρ i with
    | ow b on x =>
      rw [e] at ha
      have ha : a = b := by simpa [own1] using ha
      subst ha
      exact upd_ne fun z => (S.new a (owns_mem e)).1 (by rw [z]; exact hp)
    | _ => rw [e] at ha; cases ha
/-- a slot gets a thing of its own -/
theorem Sat.own (S : Sat PK (Ox O p) pp ρ c σ H) (hf : ¬ foot pp p) (ho : ¬ O p) {i : Nat} {on : On K α} {x : α} (r : on.r (Av (Ox O p) pp ρ) H p x) : Sat PK O pp (Dc.put ρ i (.ow p on x)) c (σ.set i (some (.ref p))) H := by
  have less : ∀ a, Av O pp (Dc.put ρ i (.ow p on x)) a → Av (Ox O p) pp ρ a := fun a h => by
    rcases h with h | h | h
    · exact .inl (.inl h)
    · exact .inr (.inl h)
    · rcases owns_put h with h | h
      · exact .inl (.inr (by simpa [own1] using h))
      · exact .inr (.inr h)
  refine ⟨by rw [List.length_set, put_len]; exact S.len, owns_put_nodup S.nd (own1_nodup _) (fun b hb z => ?_), fun a ha => ?_, fun a z => S.dom a (.inl z), S.pool, fun j => ?_⟩
  · have hb : b = p := by simpa [own1] using hb
    exact (S.new b z).1 (.inr hb)
  · rcases owns_put ha with h | h
    · have h : a = p := by simpa [own1] using h
      rw [h]; exact ⟨ho, hf⟩
    · exact ⟨fun z => (S.new a h).1 (.inl z), (S.new a h).2⟩
  · by_cases hj : j = i
    · subst hj
      rcases get_put_self (ρ := ρ) (i := j) (s := Sl.ow p on x) with e | e
      · rw [e]
        have hl := get_len (ρ := Dc.put ρ j (.ow p on x)) (i := j) (by rw [e]; intro z; cases z)
        rw [put_len, ← S.len] at hl
        exact ⟨List.getElem?_set_self hl, on.mono (Mv.less less) rfl r⟩
      · rw [e]; exact True.intro
    · rw [get_put_ne hj]
      have q := (S.slots j).mv (Mv.less less) (fun _ _ => rfl)
      cases e : get ρ j with
      | nil => exact True.intro
      | sh en2 y =>
        rw [e] at q
        obtain ⟨v2, e2, r2⟩ := q
        exact ⟨v2, by rw [List.getElem?_set_ne (Ne.symm hj)]; exact e2, r2⟩
      | ow a on y =>
        rw [e] at q
        exact ⟨by rw [List.getElem?_set_ne (Ne.symm hj)]; exact q.1, q.2⟩
      | pl =>
        rw [e] at q
        obtain ⟨a, b, e2, e3⟩ := q
        exact ⟨a, b, e2, by rw [List.getElem?_set_ne (Ne.symm hj)]; exact e3⟩
/-- an own list changed in place -/
theorem Sat.chgOwn (S : Sat PK O pp ρ c σ H) {i : Nat} {on : On K α} {x : α} {β : Type} {on' : On K β} {y : β} (hg : get ρ i = .ow p on x) (r : on'.r (Av O pp ρ) (upd H p o) p y) : Sat PK O pp (Dc.put ρ i (.ow p on' y)) c σ (upd H p o) ∧ Stp pp ρ (Dc.put ρ i (.ow p on' y)) H (upd H p o) := by
  have eo := owns_same (on' := on') (y := y) hg
  have hm := owns_mem hg
  have mv : Mv (Av O pp ρ) (Av O pp ρ) H (upd H p o) := fun a u n e => ⟨by rw [upd_ne (fun z => n (by rw [z]; exact .inr (.inr hm)))]; exact e, n⟩
  have av : Av O pp (Dc.put ρ i (.ow p on' y)) = Av O pp ρ := by unfold Av; rw [eo]
  have hs : σ[i]? = some (some (.ref p)) := by
    have q := S.slots i
    rw [hg] at q
    exact q.1
  refine ⟨⟨by rw [put_len]; exact S.len, by rw [eo]; exact S.nd, fun a ha => S.new a (by rw [← eo]; exact ha), fun a z => ?_, ?_, fun j => ?_⟩, fun a u e n no => ?_, fun a z => .inl (by rw [← eo]; exact z)⟩
  · by_cases e : a = p
    · rw [e, upd_same]; simp
    · rw [upd_ne e]; exact S.dom a z
  · cases pp with
    | none => exact True.intro
    | some q =>
      obtain ⟨a, b⟩ := q
      have q : PK.r H a b c := S.pool
      have hf := (S.new p hm).2
      exact PK.keep (upd_ne (o := o) fun z => hf (.inl z.symm)) (upd_ne (o := o) fun z => hf (.inr z.symm)) q
  · rw [av]
    by_cases hj : j = i
    · subst hj
      rcases get_put_self (ρ := ρ) (i := j) (s := Sl.ow p on' y) with e | e
      · rw [e]; exact ⟨hs, r⟩
      · rw [e]; exact True.intro
    · rw [get_put_ne hj]
      refine (S.slots j).mv mv fun a ha => upd_ne fun z => ?_
      subst z
      cases e : get ρ j with
      | ow b on2 x2 =>
        rw [e] at ha
        have ha : a = b := by simpa [own1] using ha
        subst ha
        exact hj (owns_inj S.nd e hg)
      | _ => rw [e] at ha; cases ha
  · rw [upd_ne (fun z => no (by rw [z]; exact hm))]; exact e
end
end Dc
/-! DcF: walks, loops, comprehensions. -/
namespace Dc
open PySem PySem.Spec L2
section
variable {K : PySem.W.Frag} {PK : PoolK} {pp : PP} {ρ ρ1 ρ2 : List (Sl K)} {O : AS} {c c' : Nat} {σ : St} {H H' H0 H1 H2 : Hp} {α β γ δ : Type} {p : Addr} {o : HO}
def setAll (σ : St) (us : List (Nat × V)) : St := us.foldl (fun σ u => σ.set u.1 (some u.2)) σ
/-- J walks over xs in every heap to which H0 has moved; an item goes to the slots js, as ext says -/
structure Src (PK : PoolK) (xs : List α) (ext : List (Sl K) → α → List (Sl K)) (js : List Nat) (g : TG) (J : It) (A : AS) (H0 : Hp) : Prop where
  go : ∀ i H A', i < xs.length → Mv A A' H0 H → J.go i H
  stop : ∀ H A', Mv A A' H0 H → J.stop xs.length H
  eown : ∀ (ρ : List (Sl K)) (x : α), ∀ a ∈ owns (ext ρ x), a ∈ owns ρ
  yld : ∀ i x H v H' pp ρ O c σ, xs[i]? = some x → Mv A (Av O pp ρ) H0 H → Sat PK O pp ρ c σ H → J.yld i H v H' → ∃ us H2, us.map (·.1) = js ∧ Same H H2 ∧ Sat PK O pp (ext ρ x) c (setAll σ us) H2 ∧ ∀ Q : St → Hp → Prop, Q (setAll σ us) H2 → g v σ H' Q
def rdI (PK : PoolK) (pp : PP) (ρ : List (Sl K)) (w : W (List α)) (ext : List (Sl K) → α → List (Sl K)) (js : List Nat) (g : TG) : TI := fun σ H R => ∃ O Φ c, Sat PK O pp ρ c σ H ∧ w Φ noX c ∧
  ∀ xs J H' c', Φ xs c' → Chg pp H H' → Sat PK O pp ρ c' σ H' → Src PK xs ext js g J (Av O pp ρ) H' → xs.length ≤ sizeLine → R J H'
/-- a loop's turns -/
def forW (f : γ → α → W (Fl γ γ β)) : γ → List α → W (Fl γ δ β)
  | s, [] => ret (.nx s)
  | s, x :: r => bnd (f s x) fun fl => match fl with
    | .nx s' => forW f s' r
    | .ct s' => forW f s' r
    | .bk s' => ret (.nx s')
    | .rt y => ret (.rt y)
def mapW (f : α → W β) : List α → W (List β)
  | [] => ret []
  | x :: r => bnd (f x) fun y => bnd (mapW f r) fun ys => ret (y :: ys)
def filW (t : α → W Bool) (f : α → W β) : List α → W (List β)
  | [] => ret []
  | x :: r => bnd (t x) fun b => ite b (bnd (f x) fun y => bnd (filW t f r) fun ys => ret (y :: ys)) (filW t f r)
/-- a new list -/
def rdF (PK : PoolK) (pp : PP) (ρ : List (Sl K)) (w : W (List α)) (en : En K α) : TE := fun σ H Q => ∃ O Φ c, Sat PK O pp ρ c σ H ∧ w Φ noX c ∧
  ∀ xs p vs H' c', Φ xs c' → H p = none → Chg pp H H' → Sat PK (Ox O p) pp ρ c' σ H' → H' p = some (.lst vs) → F2 (en.r (Av (Ox O p) pp ρ) H') vs xs → Q (.ref p) H'
theorem nfoot (S : Sat PK O pp ρ c σ H) (h : H p = none) : ¬ foot pp p := fun z => S.av p (.inr (.inl z)) h
theorem chg_none (S : Sat PK O pp ρ c' σ H1) (ch : Chg pp H H1) (h : H1 p = none) : H p = none := by
  cases e : H p with
  | none => rfl
  | some o =>
    by_cases hf : foot pp p
    · exact absurd hf (nfoot S h)
    · have := ch p o e hf
      rw [h] at this; cases this
theorem wipe_get {σ : St} : ∀ {vs : List Nat} {j : Nat}, (wipe σ vs)[j]? = if j ∈ vs then (σ[j]?.map fun _ => none) else σ[j]?
  | [], j => by simp [wipe]
  | v :: vs, j => by
    unfold wipe
    by_cases e : v = j
    · subst e
      by_cases hl : v < σ.length
      · rw [List.getElem?_set_self (by rw [wipe_length]; exact hl)]
        simp [List.getElem?_eq_getElem hl]
      · rw [List.getElem?_eq_none (by rw [List.length_set, wipe_length]; omega), List.getElem?_eq_none (by omega)]
        simp
    · rw [List.getElem?_set_ne e, wipe_get (vs := vs)]
      have : (j ∈ v :: vs) ↔ j ∈ vs := by simp [Ne.symm e]
      by_cases hj : j ∈ vs
      · rw [if_pos hj, if_pos (this.mpr hj)]
      · rw [if_neg hj, if_neg (fun z => hj (this.mp z))]
theorem setAll_get {vs : List Nat} : ∀ {us : List (Nat × V)} {σ : St}, (∀ u ∈ us, u.1 ∈ vs) → (setAll σ us).length = σ.length ∧ ∀ j, j ∉ vs → (setAll σ us)[j]? = σ[j]?
  | [], σ, _ => ⟨rfl, fun _ _ => rfl⟩
  | u :: us, σ, h => by
    obtain ⟨h1, h2⟩ := setAll_get (us := us) (σ := σ.set u.1 (some u.2)) fun x hx => h x (List.mem_cons_of_mem _ hx)
    refine ⟨h1.trans (by simp), fun j hj => (h2 j hj).trans ?_⟩
    rw [List.getElem?_set_ne (fun e => hj (by rw [← e]; exact h u List.mem_cons_self))]
theorem wipe_setAll {vs : List Nat} {us : List (Nat × V)} {σ : St} (h : ∀ u ∈ us, u.1 ∈ vs) : wipe (setAll (wipe σ vs) us) vs = wipe σ vs := by
  apply List.ext_getElem?
  intro j
  obtain ⟨h1, h2⟩ := setAll_get (σ := wipe σ vs) h
  rw [wipe_get, wipe_get]
  by_cases hj : j ∈ vs
  · rw [if_pos hj, if_pos hj]
    by_cases hl : j < σ.length
    · have l1 : j < (setAll (wipe σ vs) us).length := by rw [h1, wipe_length]; exact hl
      rw [List.getElem?_eq_getElem hl, List.getElem?_eq_getElem l1]
      rfl
    · rw [List.getElem?_eq_none (by rw [h1, wipe_length]; omega), List.getElem?_eq_none (by omega)]
  · rw [if_neg hj, if_neg hj, h2 j hj, wipe_get, if_neg hj]
/-- slots that hold nothing may be wiped -/
theorem Sat.wipe (S : Sat PK O pp ρ c σ H) {vs : List Nat} (h : ∀ i ∈ vs, get ρ i = .nil) : Sat PK O pp ρ c (L2.wipe σ vs) H := by
  refine ⟨by rw [wipe_length]; exact S.len, S.nd, S.new, S.dom, S.pool, fun i => ?_⟩
  by_cases hi : i ∈ vs
  · rw [h i hi]; exact True.intro
  · have q := S.slots i
    have e : (L2.wipe σ vs)[i]? = σ[i]? := by rw [wipe_get, if_neg hi]
    cases h2 : get ρ i with
    | nil => exact True.intro
    | sh en x => rw [h2] at q; obtain ⟨v, e1, r⟩ := q; exact ⟨v, e.trans e1, r⟩
    | ow a on x => rw [h2] at q; exact ⟨e.trans q.1, q.2⟩
    | pl => rw [h2] at q; obtain ⟨a, b, e1, e2⟩ := q; exact ⟨a, b, e1, e.trans e2⟩
end
section
variable {X : Cx} {PK : PoolK} {pp : PP} {ρ : List (Sl X.K)} {α β γ δ : Type}
theorem _root_.L2.PI.weak {X : Cx} {tg e : Expr} {t t' : TI} (h : PI X tg e t) (f : ∀ σ H Q, t' σ H Q → t σ H Q) : PI X tg e t' := ⟨fun pins s σ H R I q => h.run pins s σ H R I (f σ H R q)⟩
/-- for -/
theorem nfor {iter tg : Expr} {body : List Stmt} {pos : Pos} {wi : W (List α)} {ext : List (Sl X.K) → α → List (Sl X.K)} {js : List Nat} {g : TG} {f : γ → α → W (Fl γ γ β)} {ρL : γ → List (Sl X.K)} {ρl : δ → List (Sl X.K)} {er : En X.K β} {s0 : γ}
    (hp : PassesOwn (model X.prog X.w) X.A X.env X.xe) (hc : X.calm = true) (hi : PI X tg iter (rdI PK pp ρ wi ext js g)) (hg : PG X tg g) (hf : Fit ρ (ρL s0)) (hb : ∀ s x, PSX X PK pp (ext (ρL s) x) body (f s x) ρL ρL er)
    (hs : ∀ x, foldedSetIterable iter X.env x = pure x := by intro _; rfl) : PS X (.For tg iter body [] pos) (rdS PK pp ρ (bnd wi fun xs => forW f s0 xs) ρL ρl er) :=
  (ps_for hp hc hi hg (PSs.ex fun z : γ × α => hb z.1 z.2) hs).weak fun D σ H ⟨O, Φ, c, S, hw, k⟩ => ⟨O, _, c, S, hw, fun xs J H1 c1 p1 ch S1 src hz => by
    have st0 : Stp pp ρ (ρL s0) H H1 := (Stp.of_chg ch fun _ z => z).trans hf.stp
    refine ⟨fun i m σ' H' => m = xs.length - i ∧ i ≤ xs.length ∧ ∃ s c', Stp pp ρ (ρL s) H1 H' ∧ Sat PK O pp (ρL s) c' σ' H' ∧ forW f s (xs.drop i) Φ noX c', ⟨xs.length, by simp, Nat.zero_le _, s0, c1, hf.stp, S1.fit hf, p1⟩, ?_⟩
    rintro i m σ' H' ⟨rfl, hi, s, c', st, S', hw'⟩
    have ch1 : Stp pp ρ ρ H H1 := Stp.of_chg ch fun _ z => z
    by_cases hlt : i < xs.length
    · refine .inr ⟨src.go i H' _ hlt (st.mv (O := O)), fun σ3 H3 => ∃ s c', Stp pp ρ (ρL s) H1 H3 ∧ Sat PK O pp (ρL s) c' σ3 H3 ∧ forW f s (xs.drop (i + 1)) Φ noX c', fun σ3 H3 q => ⟨xs.length - (i + 1), by omega, rfl, hlt, q⟩, fun v H2 y => ?_⟩
      obtain ⟨us, H3, _, sm, S3, hQ⟩ := src.yld i xs[i] H' v H2 pp (ρL s) O c' σ' (List.getElem?_eq_getElem hlt) st.mv S' y
      refine hQ _ ?_
      rw [List.drop_eq_getElem_cons hlt] at hw'
      have st3 : Stp pp (ρL s) (ext (ρL s) xs[i]) H' H3 := .of_chg (.of sm) (src.eown _ _)
      refine ⟨(s, xs[i]), O, _, c', S3, hw', fun fl H4 c4 q => ?_⟩
      cases fl with
      | nx s' => exact fun σ4 t S4 => ⟨s', c4, (st.trans st3).trans t, S4, q⟩
      | ct s' => exact fun σ4 t S4 => ⟨s', c4, (st.trans st3).trans t, S4, q⟩
      | bk s' => exact fun σ4 t S4 => k (.nx s') H4 c4 q σ4 (((ch1.trans st).trans st3).trans t) S4
      | rt r => exact ((k (.rt r) H4 c4 q).mono ((ch1.trans st).trans st3))
    · have e : i = xs.length := by omega
      subst e
      rw [List.drop_length] at hw'
      exact .inl ⟨src.stop H' _ (st.mv (O := O)), k (.nx s) H' c' hw' σ' (ch1.trans st) S'⟩⟩
theorem xfr {w : W (List α)} {en : En X.K α} {e : Expr} (h : PE X e (rdF PK pp ρ w en)) : PX X PK pp ρ e w (eL en) := h.weak fun σ H Q ⟨O, Φ, c, S, hw, k⟩ => ⟨O, Φ, c, S, hw, fun xs p vs H' c' q hn ch S' e f => by
  have less : ∀ a, Av O pp ρ a → Av (Ox O p) pp ρ a := fun a h => by
    rcases h with h | h | h
    · exact .inl (.inl h)
    · exact .inr (.inl h)
    · exact .inr (.inr h)
  exact k xs _ H' c' q ch S'.lessO ⟨p, vs, rfl, ⟨fun z => S.av p z hn, e⟩, f.imp fun _ _ => en.mono (Mv.less less)⟩⟩
/-- [elt for tg in iter] -/
theorem lc_read {own : List (Str × Nat)} {wi : W (List α)} {ext : List (Sl X.K) → α → List (Sl X.K)} {js : List Nat} {g : TG} {f : α → W β} {en : En X.K β} (hj : ∀ j ∈ js, j ∈ own.map (·.2)) (hn : ∀ i ∈ own.map (·.2), get ρ i = .nil) (ho : ∀ x, owns (ext ρ x) = owns ρ) :
    ∀ σ H Q, rdF PK pp ρ (bnd wi fun xs => mapW f xs) en σ H Q → tLc (rdI PK pp ρ wi ext js g) g tYes (fun σ H Q => ∃ x, rdE PK pp (ext ρ x) (f x) en σ H Q) (own.map (·.2)) σ H Q := by
  intro σ H Q ⟨O, Φ, c, S, hw, k⟩
  refine ⟨O, _, c, S, hw, fun xs J H1 c1 p1 ch S1 src hz D hD => ?_⟩
  have nf := nfoot S1 hD
  have hDH := chg_none S1 ch hD
  have mv0 : Mv (Av O pp ρ) (Av (Ox O D) pp ρ) H1 (upd H1 D (.lst [])) := Mv.newA hD
  refine ⟨fun i m H' => m = xs.length - i ∧ i ≤ xs.length ∧ ∃ acc vs c', H' D = some (.lst vs) ∧ F2 (en.r (Av (Ox O D) pp ρ) H') vs acc ∧ vs.length ≤ i ∧ Chg pp (upd H1 D (.lst [])) (upd H' D (.lst [])) ∧ Sat PK (Ox O D) pp ρ c' σ H' ∧ mapW f (xs.drop i) (fun ys c => Φ (acc ++ ys) c) noX c',
    ⟨xs.length, by simp, Nat.zero_le _, [], [], c1, upd_same, .nil, Nat.zero_le _, by rw [upd_upd]; exact .refl, S1.newO hD, by simpa using p1⟩, ?_⟩
  rintro i m H' ⟨rfl, hi', acc, vs, c', eD, fD, lD, chD, S', hw'⟩
  have mv : Mv (Av O pp ρ) (Av (Ox O D) pp ρ) H1 H' := fun a o n e => by
    obtain ⟨e1, n1⟩ := mv0 a o n e
    have ne : a ≠ D := ne_of_none e hD
    have := chD a o e1 fun z => n (.inr (.inl z))
    rw [upd_ne ne] at this
    exact ⟨this, n1⟩
  by_cases hlt : i < xs.length
  · refine .inr ⟨src.go i H' _ hlt mv, fun H3 => ∃ acc vs c', H3 D = some (.lst vs) ∧ F2 (en.r (Av (Ox O D) pp ρ) H3) vs acc ∧ vs.length ≤ i + 1 ∧ Chg pp (upd H1 D (.lst [])) (upd H3 D (.lst [])) ∧ Sat PK (Ox O D) pp ρ c' σ H3 ∧ mapW f (xs.drop (i + 1)) (fun ys c => Φ (acc ++ ys) c) noX c', fun H3 q => ⟨xs.length - (i + 1), by omega, rfl, hlt, q⟩, fun v H2 y => ?_⟩
    obtain ⟨us, H3, eus, sm, S3, hQ⟩ := src.yld i xs[i] H' v H2 pp ρ (Ox O D) c' (wipe σ (own.map (·.2))) (List.getElem?_eq_getElem hlt) mv (S'.wipe hn) y
    refine hQ _ ⟨wipe_setAll fun u hu => hj _ (by rw [← eus]; exact List.mem_map.mpr ⟨u, hu, rfl⟩), ?_⟩
    unfold tYes
    simp only [if_true]
    rw [List.drop_eq_getElem_cons hlt] at hw'
    refine ⟨xs[i], Ox O D, _, c', S3, hw', fun y v4 H4 c4 q ch4 S4 r4 => ?_⟩
    have e4 : H4 D = some (.lst vs) := ch4 D _ (sm D _ eD) nf
    refine ⟨vs, e4, Nat.lt_of_le_of_lt lD (Nat.lt_of_lt_of_le hlt hz), acc ++ [y], vs ++ [v4], c4, upd_same, ?_, by rw [List.length_append]; exact Nat.succ_le_succ lD, ?_, ?_, ?_⟩
    · have mv4 : Mv (Av (Ox O D) pp ρ) (Av (Ox O D) pp ρ) H' (upd H4 D (.lst (vs ++ [v4]))) := fun a o n e => by
        have ne : a ≠ D := fun z => n (by rw [z]; exact .inl (.inr rfl))
        rw [upd_ne ne]
        exact ⟨ch4 a o (sm a o e) fun z => n (.inr (.inl z)), n⟩
      have mv5 : Mv (Av (Ox O D) pp (ext ρ xs[i])) (Av (Ox O D) pp ρ) H4 (upd H4 D (.lst (vs ++ [v4]))) := fun a o n e => by
        have ne : a ≠ D := fun z => n (by rw [z]; exact .inl (.inr rfl))
        rw [upd_ne ne]
        refine ⟨e, fun z => n ?_⟩
        rcases z with z | z | z
        · exact .inl z
        · exact .inr (.inl z)
        · exact .inr (.inr (by rw [ho]; exact z))
      exact (fD.imp fun _ _ => en.mono mv4).append (.cons (en.mono mv5 r4) .nil)
    · intro a o e hf
      have z := chD a o e hf
      rw [upd_upd]
      by_cases ne : a = D
      · subst ne; rw [upd_same] at z ⊢; exact z
      · rw [upd_ne ne] at z ⊢
        exact ch4 a o (sm a o z) hf
    · exact (S'.chg (fun a o e hf => ch4 a o (sm a o e) hf) S4.pool).updO (.inr rfl) nf
    · have q2 : mapW f (xs.drop (i + 1)) (fun ys c => Φ (acc ++ (y :: ys)) c) noX c4 := q
      simpa [List.append_assoc] using q2
  · have e : i = xs.length := by omega
    subst e
    rw [List.drop_length] at hw'
    have hw2 : Φ (acc ++ []) c' := hw'
    rw [List.append_nil] at hw2
    refine .inl ⟨src.stop H' _ mv, k acc D vs H' c' hw2 hDH (fun a o e hf => ?_) S' eD fD⟩
    have ne : a ≠ D := ne_of_none e hDH
    have z := chD a o (by rw [upd_ne ne]; exact ch a o e hf) hf
    rw [upd_ne ne] at z
    exact z
/-- [elt for tg in iter] -/
theorem xlc {elt tg iter : Expr} {scope : Scope} {own : List (Str × Nat)} {pos : Pos} {wi : W (List α)} {ext : List (Sl X.K) → α → List (Sl X.K)} {js : List Nat} {g : TG} {f : α → W β} {en : En X.K β} (hc : X.calm = true) (hN : X.N.Nodup) (hi : PI X tg iter (rdI PK pp ρ wi ext js g)) (ok : BlkOk X.N X.env.scope scope own)
    (hj : ∀ j ∈ js, j ∈ own.map (·.2)) (hn : ∀ i ∈ own.map (·.2), get ρ i = .nil) (ho : ∀ x, owns (ext ρ x) = owns ρ)
    (hg : ∀ (s : Shared) (H : Hp) (C : Addr) (cl : List (Str × Addr)) (fp : List Addr), PG (X.blk s H scope (compEnvC scope cl C X.env) fp) tg g)
    (he : ∀ (s : Shared) (H : Hp) (C : Addr) (cl : List (Str × Addr)) (fp : List Addr) (x : α), PX (X.blk s H scope (compEnvC scope cl C X.env) fp) PK pp (ext ρ x) elt (f x) en)
    (hs : ∀ x, foldedSetIterable iter X.env x = pure x := by intro _; rfl) :
    PE X (.ListComp elt [⟨tg, iter, [], 0⟩] scope pos) (rdF PK pp ρ (bnd wi fun xs => mapW f xs) en) :=
  (pe_lc hc hN hi ok hg (fun _ _ _ _ _ => pts_nil) (fun s H C cl fp => ⟨fun pins s' σ H Q I ⟨x, q⟩ => (he s _ C cl fp x).run pins s' σ H Q I q⟩) hs).weak (lc_read hj hn ho)
/-- y = [elt for tg in iter], on one line -/
theorem xlcS (i : Nat) {y : Str} {py spos : Pos} {elt tg iter : Expr} {scope : Scope} {own : List (Str × Nat)} {pos : Pos} {wi : W (List α)} {ext : List (Sl X.K) → α → List (Sl X.K)} {js : List Nat} {g : TG} {f : α → W β} {en : En X.K β} (hc : X.calm = true) (hN : X.N.Nodup) (hi : PI X tg iter (rdI PK pp ρ wi ext js g)) (ok : BlkOk X.N X.env.scope scope own)
    (hj : ∀ j ∈ js, j ∈ own.map (·.2)) (hn : ∀ i ∈ own.map (·.2), get ρ i = .nil) (ho : ∀ x, owns (ext ρ x) = owns ρ)
    (hg : ∀ (s : Shared) (H : Hp) (C : Addr) (cl : List (Str × Addr)) (fp : List Addr), PG (X.blk s H scope (compEnvC scope cl C X.env) fp) tg g)
    (he : ∀ (s : Shared) (H : Hp) (C : Addr) (cl : List (Str × Addr)) (fp : List Addr) (x : α), PX (X.blk s H scope (compEnvC scope cl C X.env) fp) PK pp (ext ρ x) elt (f x) en)
    (hsw : swapsWith (.ListComp elt [⟨tg, iter, [], 0⟩] scope pos) (some (.Name y py)) spos.line X.env = pure true) (hy : X.N[i]? = some y := by rfl) (hyl : X.env.scope.names.lookup y = some .local := by rfl)
    (hs : ∀ x, foldedSetIterable iter X.env x = pure x := by intro _; rfl) :
    PS X (.Assign [.Name y py] (.ListComp elt [⟨tg, iter, [], 0⟩] scope pos) spos) (tAsg (rdF PK pp ρ (bnd wi fun xs => mapW f xs) en) (gName i)) :=
  (ps_setLc hc hN hy hyl hsw hi ok hg (fun _ _ _ _ _ => pts_nil) (fun s H C cl fp => ⟨fun pins s' σ H Q I ⟨x, q⟩ => (he s _ C cl fp x).run pins s' σ H Q I q⟩) hs).weak fun D σ H q => lc_read hj hn ho σ H _ q
/-- x = e, e a new list that nobody writes at; or one's own -/
theorem nsetF {st : Stmt} {i : Nat} {w : W (List α)} {en : En X.K α} (h : PS X st (tAsg (rdF PK pp ρ w en) (gName i))) : PS X st (rdN PK pp ρ w fun (_ : Unit) x => put ρ i (.sh (eL en) x)) :=
  nset_ (h.weak fun D σ H ⟨O, Φ, c, S, hw, k⟩ => ⟨O, Φ, c, S, hw, fun xs p vs H' c' q hn ch S' e f => by
    have less : ∀ a, Av O pp ρ a → Av (Ox O p) pp ρ a := fun a h => by
      rcases h with h | h | h
      · exact .inl (.inl h)
      · exact .inr (.inl h)
      · exact .inr (.inr h)
    exact k xs _ H' c' q ch S'.lessO ⟨p, vs, rfl, ⟨fun z => S.av p z hn, e⟩, f.imp fun _ _ => en.mono (Mv.less less)⟩⟩)
theorem nown {st : Stmt} {i : Nat} {w : W (List α)} {en : En X.K α} (h : PS X st (tAsg (rdF PK pp ρ w en) (gName i))) : PS X st (rdN PK pp ρ w fun (p : Addr) x => put ρ i (.ow p (oL en) x)) :=
  h.weak fun D σ H ⟨O, Φ, c, S, hw, k⟩ => ⟨O, Φ, c, S, hw, fun xs p vs H' c' q hn ch S' e f => k p xs H' c' q _ ⟨fun a o e n _ => ch a o e n, fun a z => by
    rcases owns_put z with z | z
    · have z : a = p := by simpa [own1] using z
      rw [z]; exact .inr ⟨hn, nfoot S hn⟩
    · exact .inl z⟩ (S'.own (nfoot S hn) (fun z => S.av p (.inl z) hn) ⟨vs, e, f⟩)⟩
theorem nsetFe (i : Nat) {x : Str} {e : Expr} {pos pos' : Pos} {w : W (List α)} {en : En X.K α} (hN : X.N.Nodup) (he : PE X e (rdF PK pp ρ w en)) (hi : X.N[i]? = some x := by rfl) (hx : Loc X.env.scope x := by first | exact Or.inl rfl | exact Or.inr rfl) (hs : swapsWith e (some (.Name x pos')) pos.line X.env = pure false := by rfl)
    (hf : X.fn x = true ∨ X.env.scope.names.lookup x = some .local := by first | exact .inl rfl | exact .inr rfl) : PS X (.Assign [.Name x pos'] e pos) (tAsg (rdF PK pp ρ w en) (gName i)) := ps_set hN hi hx he hs hf
/-- [a, b, ..] new -/
theorem xlstF {es : List Expr} {pos : Pos} {w : W (List α)} {en : En X.K α} {n : Nat} (h : PAX X PK pp ρ es w (aL en n)) (hn : n ≤ 1000000 := by decide) : PE X (.List es pos) (rdF PK pp ρ w en) := (pe_lst h).weak fun σ H Q ⟨O, Φ, c, S, hw, k⟩ =>
  ⟨O, Φ, c, S, hw, fun x vs H1 c1 p1 ch1 S1 r1 => ⟨by have := r1.2; rw [sizeLine_eq]; omega, fun p np => k _ p vs _ c1 p1 (chg_none S1 ch1 np) (ch1.trans (.of (same_new np))) (S1.newO np) upd_same (r1.1.imp fun _ _ => en.mono (Mv.newA np))⟩⟩
/-- [e] * n new -/
theorem xrepF {a b : Expr} {pos : Pos} {wa : W (List α)} {wb : W Int} {en : En X.K α} (ha : PX X PK pp ρ a wa (eL en)) (hb : PX X PK pp ρ b wb eI) :
    PE X (.BinOp a .Mult b pos) (rdF PK pp ρ (bnd wa fun x => bnd wb fun y => grd (repOk x.length y) (ret (List.replicate y.toNat x).flatten)) en) := (pe_op op_rep ha hb).weak fun σ H Q ⟨O, Φ, c, S, hw, k⟩ =>
  two S hw fun x y v u H' c' q ch S' r1 r2 => by
    obtain ⟨a, vs, rfl, l, f⟩ := r1
    have p := q.1
    simp only [repOk, Bool.and_eq_true, decide_eq_true_eq] at p
    exact ⟨a, y, vs, rfl, r2, l.2, p.1.1, p.1.2, by rw [f.length, sizeLine_eq]; exact p.2, fun p np => k _ p _ _ c' q.2 (chg_none S' ch np) (ch.trans (.of (same_new np))) (S'.newO np) upd_same ((f.flat _).imp fun _ _ => en.mono (Mv.newA np))⟩
/-- xs.append(e), xs one's own -/
theorem nappend (i : Nat) {x : Str} {a : Expr} {pos p' apos cpos : Pos} {w : W α} {en : En X.K α} {p : Addr} {xs : List α} (hg : get ρ i = .ow p (oL en) xs) (h : PX X PK pp ρ a w en) (hN : X.N[i]? = some x := by rfl)
    (hv : Vis X.env.scope x := by first | exact Or.inl rfl | exact Or.inr (Or.inl rfl) | exact Or.inr (Or.inr rfl)) (hd : (x == ("__debug__" : Str)) = false := by decide) (hcd : (x == ("__classdict__" : Str)) = false := by decide)
    (hbase : attributeBase (.Name x p') "append" X.env (eval (.Name x p') X.env) = eval (.Name x p') X.env := by rfl)
    (hfew : ((backTo cpos (starEach [a] X.env)).all (fun x => !x.1) && (backToKw cpos (keywordEach [] X.env)).all (fun x => x.1.isSome) && decide ([a].length + ([] : List Keyword).length + (if ([] : List Keyword).isEmpty then 0 else 1) < 30)) = true := by rfl)
    (hline : (apos.endLine == cpos.line) = true := by rfl) (hs : starEach [a] X.env = (false, eval a X.env) :: starEach [] X.env := by rfl) (hplain : (backTo cpos (starEach [] X.env)).any (·.1) = false := by rfl)
    (hsw : swapsWith (.Call (.Attribute (.Name x p') "append" apos) [a] [] cpos) none pos.line X.env = pure false := by rfl) :
    PS X (.Expr (.Call (.Attribute (.Name x p') "append" apos) [a] [] cpos) pos) (rdN PK pp ρ (bnd w fun y => grd (decide (xs.length < 16777216)) (ret y)) fun (_ : Unit) y => put ρ i (.ow p (oL en) (xs ++ [y]))) :=
  (ps_expr (pe_bm PySem.F.plainAttrs_list PySem.F.slot_list_append PySem.F.type_list_append mt_append (pe_var hN hv hd hcd) (pa_cons h pa_nil hs) hbase hfew hline hs hplain) hsw).weak fun D σ H ⟨O, Φ, c, S, hw, k⟩ => by
    have q := S.slots i
    rw [hg] at q
    obtain ⟨e1, vs, e2, f2⟩ := q
    refine ⟨_, e1, .inl ⟨rfl, _, SqL.of e2⟩, O, _, c, S, hw, fun y v H1 c1 p1 ch S1 r => ?_⟩
    have q := S1.slots i
    rw [hg] at q
    obtain ⟨_, vs, e2, f2⟩ := q
    refine ⟨p, vs, v, rfl, rfl, e2, by rw [f2.length, sizeLine_eq]; exact of_decide_eq_true p1.1, ?_⟩
    have mv : Mv (Av O pp ρ) (Av O pp ρ) H1 (upd H1 p (.lst (vs ++ [v]))) := fun b o n e => ⟨by rw [upd_ne (fun z => n (by rw [z]; exact .inr (.inr (owns_mem hg))))]; exact e, n⟩
    obtain ⟨S2, st⟩ := S1.chgOwn (o := .lst (vs ++ [v])) (on' := oL en) (y := xs ++ [y]) hg ⟨_, upd_same, (f2.append (.cons r .nil)).imp fun _ _ => en.mono mv⟩
    exact k () y _ c1 p1.2 σ ((Stp.of_chg ch fun _ z => z).trans st) S2
/-- xs[i] = e, xs one's own -/
theorem nsetix (i : Nat) {x : Str} {e ix : Expr} {pos p' pos' : Pos} {w : W α} {wx : W Int} {en : En X.K α} {p : Addr} {xs : List α} (hg : get ρ i = .ow p (oL en) xs) (h : PX X PK pp ρ e w en) (hx : PX X PK pp ρ ix wx eI) (hN : X.N[i]? = some x := by rfl)
    (hv : Vis X.env.scope x := by first | exact Or.inl rfl | exact Or.inr (Or.inl rfl) | exact Or.inr (Or.inr rfl)) (hd : (x == ("__debug__" : Str)) = false := by decide) (hcd : (x == ("__classdict__" : Str)) = false := by decide)
    (ha : ∀ v, assign (.Subscript (.Name x p') ix pos') X.env v = (do
      let ov ← holding [v] (eval (.Name x p') X.env)
      let iv ← holding [v, ov] (eval ix X.env)
      standAt pos'
      holding [v, ov, iv] (setItem ov iv v)
      release [v, ov, iv] []) := by intro _; rfl) (hsw : swapsWithSole [.Subscript (.Name x p') ix pos'] e pos.line X.env = pure false := by rfl) (hww : swappedStores [.Subscript (.Name x p') ix pos'] e X.env = pure none := by rfl)
    (h1 : (assignEach [.Subscript (.Name x p') ix pos'] X.env).map (·.2) = [assign (.Subscript (.Name x p') ix pos') X.env] := by rfl) :
    PS X (.Assign [.Subscript (.Name x p') ix pos'] e pos) (rdN PK pp ρ (bnd w fun y => bnd wx fun j => grd (ixOk xs j) (ret (j, y))) fun (_ : Unit) z => put ρ i (.ow p (oL en) (xs.set ((ixN xs.length z.1).getD 0) z.2))) :=
  (ps_asg h (pg_sub (pe_var hN hv hd hcd) hx set_list ha) hsw hww h1).weak fun D σ H ⟨O, Φ, c, S, hw, k⟩ => ⟨O, _, c, S, hw, fun y v H1 c1 p1 ch1 S1 r1 => by
    have q := S1.slots i
    rw [hg] at q
    obtain ⟨e1, vs, e2, f2⟩ := q
    refine ⟨_, e1, O, _, c1, S1, p1, fun j u H2 c2 p2 ch2 S2 r2 => ?_⟩
    have q := S2.slots i
    rw [hg] at q
    obtain ⟨_, vs, e2, f2⟩ := q
    obtain ⟨m, hm⟩ := Option.isSome_iff_exists.mp p2.1
    refine ⟨p, vs, j, m, rfl, r2, e2, by rw [f2.length]; exact hm, ?_⟩
    have mv : Mv (Av O pp ρ) (Av O pp ρ) H2 (upd H2 p (.lst (vs.set m v))) := fun b o n e => ⟨by rw [upd_ne (fun z => n (by rw [z]; exact .inr (.inr (owns_mem hg))))]; exact e, n⟩
    obtain ⟨S3, st⟩ := S2.chgOwn (o := .lst (vs.set m v)) (on' := oL en) (y := xs.set ((ixN xs.length j).getD 0) y) hg ⟨_, upd_same, by
      rw [hm]
      exact (f2.set m (en.mono ch2.mv r1)).imp fun _ _ => en.mono mv⟩
    exact k () (j, y) _ c2 p2.2 σ ((Stp.of_chg (ch1.trans ch2) fun _ z => z).trans st) S3⟩
theorem get_list : PGet X (rIxL X.K) := by
  intro pins s σ H x y v u Q I rx ry h
  obtain ⟨p, xs, i, z, rfl, rfl, hq, he, q⟩ := h
  cases rx
  obtain ⟨t, rfl⟩ := ry
  obtain ⟨its, r, pl, hz⟩ := I.list hq
  obtain ⟨j, h1, h2, h3, h4, h5⟩ := atI_get he
  obtain ⟨w, ew, rw'⟩ := r.get h2
  have hl := r.length
  have hn := line63
  have fin : EP X pins σ Q w s := ⟨z, H, I, rw', q⟩
  by_cases h0 : 0 ≤ i
  · have hj : i.toNat = j := by
      rw [seqIndex_of h0 h5] at h1
      exact Option.some.inj h1
    exact wpAny_getItem_list pl.isList h0 (by omega) (by rw [hj]; simpa using ew) fin
  · have hj : (i + (its.toArray.size : Int)).toNat = j := by
      rw [seqIndex_neg (by omega) h4] at h1
      rw [List.size_toArray, ← hl]
      exact Option.some.inj h1
    exact wpAny_getItem_list_neg pl.isList (by omega) (by rw [List.size_toArray] <;> omega) (by omega) (by rw [hj]; simpa using ew) fin
/-- xs[i] op= e, xs one's own -/
theorem naugix [Inhabited α] (i : Nat) {x : Str} {op : Operator} {e ix : Expr} {pos p' pos' : Pos} {w : W β} {wx : W Int} {en : En X.K α} {e2 : En X.K β} {pre : α → β → Bool} {res : α → β → α} {p : Addr} {xs : List α} (hg : get ρ i = .ow p (oL en) xs) (h : PX X PK pp ρ e w e2) (hx : PX X PK pp ρ ix wx eI)
    (ho : OpW X (inplaceOp op) en e2 en pre res) (hN : X.N[i]? = some x := by rfl)
    (hv : Vis X.env.scope x := by first | exact Or.inl rfl | exact Or.inr (Or.inl rfl) | exact Or.inr (Or.inr rfl)) (hd : (x == ("__debug__" : Str)) = false := by decide) (hcd : (x == ("__classdict__" : Str)) = false := by decide)
    (ha : ∀ ov iv new, augStore ix ov iv new = (do holding [new, ov, iv] (setItem ov iv new); release [new, ov, iv] []; pure .next) := by intros; rfl) :
    PS X (.AugAssign (.Subscript (.Name x p') ix pos') op e pos) (rdN PK pp ρ (bnd wx fun j => grd (ixOk xs j) (bnd w fun y => grd (pre (ixAt xs j) y) (ret (j, res (ixAt xs j) y)))) fun (_ : Unit) z => put ρ i (.ow p (oL en) (xs.set ((ixN xs.length z.1).getD 0) z.2))) :=
  (ps_augS (pe_var hN hv hd hcd) hx get_list h ho set_list ha).weak fun D σ H ⟨O, Φ, c, S, hw, k⟩ => by
    have q := S.slots i
    rw [hg] at q
    obtain ⟨e1, _, _, _⟩ := q
    refine ⟨_, e1, O, _, c, S, hw, fun j u H2 c2 p2 ch2 S2 r2 => ?_⟩
    have q := S2.slots i
    rw [hg] at q
    obtain ⟨_, vs, e2, f2⟩ := q
    obtain ⟨m, hm⟩ := Option.isSome_iff_exists.mp p2.1
    have hlt := ixN_lt hm
    obtain ⟨v1, g1, rv⟩ := f2.get (List.getElem?_eq_getElem hlt)
    have hat : atI vs j = some v1 := by
      unfold atI
      rw [f2.length, hm]
      exact g1
    have exs : xs[m] = ixAt xs j := by
      unfold ixAt
      rw [hm, Option.getD_some, List.getD_eq_getElem?_getD, List.getElem?_eq_getElem hlt]
      rfl
    rw [exs] at rv
    refine ⟨p, vs, j, v1, rfl, r2, SqL.of e2, hat, O, _, c2, S2, p2.2, fun y v H3 c3 p3 ch3 S3 r3 => ⟨_, ixAt xs j, y, S3.av, en.mono ch3.mv rv, r3, p3.1, fun z H4 s4 r4 => ?_⟩⟩
    have S4 := S3.same s4
    have q := S4.slots i
    rw [hg] at q
    obtain ⟨_, vs, e2, f2⟩ := q
    refine ⟨p, vs, j, m, rfl, r2, e2, by rw [f2.length]; exact hm, ?_⟩
    have mv : Mv (Av O pp ρ) (Av O pp ρ) H4 (upd H4 p (.lst (vs.set m z))) := fun b o n e => ⟨by rw [upd_ne (fun z => n (by rw [z]; exact .inr (.inr (owns_mem hg))))]; exact e, n⟩
    obtain ⟨S5, st⟩ := S4.chgOwn (o := .lst (vs.set m z)) (on' := oL en) (y := xs.set ((ixN xs.length j).getD 0) (res (ixAt xs j) y)) hg ⟨_, upd_same, by
      rw [hm]
      exact (f2.set m r4).imp fun _ _ => en.mono mv⟩
    exact k () (j, _) _ c3 p3.2 σ ((Stp.of_chg ((ch2.trans ch3).trans (.of s4)) fun _ z => z).trans st) S5
/-- an own list read, or handed on: as a value it is read alone from then on -/
theorem nfreeze (i : Nat) {p : Addr} {en : En X.K α} {xs : List α} {rest : List Stmt} {w : W (Fl γ δ β)} {ρ' : γ → List (Sl X.K)} {ρl : δ → List (Sl X.K)} {er : En X.K β} (hg : get ρ i = .ow p (oL en) xs) (h : PSX X PK pp (put ρ i (.sh (eL en) xs)) rest w ρ' ρl er) : PSX X PK pp ρ rest w ρ' ρl er :=
  h.weak fun D σ H ⟨O, Φ, c, S, hw, k⟩ => by
    have q := S.slots i
    rw [hg] at q
    obtain ⟨e1, vs, e2, f2⟩ := q
    have hm := owns_mem hg
    have hne : ∀ a, a ∈ owns (put ρ i (.sh (eL en) xs)) → a ∈ owns ρ := fun a z => by
      rcases owns_put z with z | z
      · cases z
      · exact z
    have less : ∀ a, Av O pp (put ρ i (.sh (eL en) xs)) a → Av O pp ρ a := fun a z => by
      rcases z with z | z | z
      · exact .inl z
      · exact .inr (.inl z)
      · exact .inr (.inr (hne a z))
    have np : p ∉ owns (put ρ i (.sh (eL en) xs)) := fun z => by
      obtain ⟨j, α', on, y, e⟩ := mem_owns z
      by_cases hj : j = i
      · subst hj
        rcases get_put_self (ρ := ρ) (i := j) (s := Sl.sh (eL en) xs) with q | q <;> rw [q] at e <;> cases e
      · rw [get_put_ne hj] at e
        exact hj (owns_inj S.nd e hg)
    have S' : Sat PK O pp (put ρ i (.sh (eL en) xs)) c σ H := by
      refine ⟨by rw [put_len]; exact S.len, owns_put_nodup S.nd (own1_nodup _) (fun b hb => by cases hb), fun a ha => S.new a (hne a ha), S.dom, S.pool, fun j => ?_⟩
      by_cases hj : j = i
      · subst hj
        rcases get_put_self (ρ := ρ) (i := j) (s := Sl.sh (eL en) xs) with q | q
        · rw [q]
          refine ⟨_, e1, p, vs, rfl, ⟨fun z => ?_, e2⟩, f2.imp fun _ _ => en.mono (Mv.less less)⟩
          rcases z with z | z | z
          · exact (S.new p hm).1 z
          · exact (S.new p hm).2 z
          · exact np z
        · rw [q]; exact True.intro
      · rw [get_put_ne hj]
        exact (S.slots j).mv (Mv.less less) fun _ _ => rfl
    have st : Stp pp ρ (put ρ i (.sh (eL en) xs)) H H := ⟨fun a o e _ _ => e, fun a z => .inl (hne a z)⟩
    exact ⟨O, Φ, c, S', hw, fun fl H' c' q => by
      have z := k fl H' c' q
      cases fl with
      | nx s => exact fun σ' t S2 => z σ' (st.trans t) S2
      | bk s => exact fun σ' t S2 => z σ' (st.trans t) S2
      | ct s => exact fun σ' t S2 => z σ' (st.trans t) S2
      | rt r => exact fun v ch pl r => z v (fun a o e n no => ch a o e n fun y => no (hne a y)) pl r⟩
end
end Dc
/-! DcG: what is walked: lists, pairs of lists, places with items, ranges. -/
namespace Dc
open PySem PySem.Spec L2
section
variable {X : Cx} {PK : PoolK} {pp : PP} {ρ : List (Sl X.K)} {α β γ δ : Type}
/-- a list is never longer than the line -/
theorem pe_len {e : Expr} {t : TE} (h : PE X e t) : PE X e (fun σ H Q => t σ H fun v H' => (∀ a xs, v = .ref a → SqL X.K H' a xs → xs.length ≤ sizeLine) → Q v H') := ⟨fun pins s σ H Q I q =>
  thn (h.run pins s σ H _ I q) fun u s' ⟨v, H', I', r, q'⟩ => ⟨v, H', I', r, q' fun a xs _ hs => by
    obtain ⟨_, _, _, z⟩ := I'.list hs
    exact z⟩⟩
theorem pa_len {es : List Expr} {t : TA} (h : PA X es t) : PA X es (fun σ H Q => t σ H fun vs H' => (∀ a xs, .ref a ∈ vs → SqL X.K H' a xs → xs.length ≤ sizeLine) → Q vs H') := ⟨fun pos pins s σ H Q I q =>
  thn (h.run pos pins s σ H _ I q) fun us s' ⟨vs, H', I', r, q'⟩ => ⟨vs, H', I', r, q' fun a xs _ hs => by
    obtain ⟨_, _, _, z⟩ := I'.list hs
    exact z⟩⟩
theorem own_put_sh {K : PySem.W.Frag} {α : Type} {ρ : List (Sl K)} {i : Nat} {en : En K α} {x : α} {a : Addr} (h : a ∈ owns (put ρ i (.sh en x))) : a ∈ owns ρ := by
  rcases owns_put h with h | h
  · cases h
  · exact h
/-- for x in xs -/
theorem wlist (i : Nat) {e : Expr} {nm : Str} {p : Pos} {w : W (List α)} {en : En X.K α} (h : PX X PK pp ρ e w (eR en)) : PI X (.Name nm p) e (rdI PK pp ρ w (fun ρ x => put ρ i (.sh en x)) [i] (gName i)) :=
  (pi_list (pe_len h)).weak fun σ H R ⟨O, Φ, c, S, hw, k⟩ => ⟨O, _, c, S, hw, fun xs v H1 c1 p1 ch S1 r1 hz => by
    obtain ⟨a, vs, rfl, l, f⟩ := r1
    refine ⟨a, rfl, ⟨vs, l.sq⟩, k xs _ H1 c1 p1 ch S1 ⟨fun j H' A' hj m => ?_, fun H' A' m => ?_, fun _ _ _ z => own_put_sh z, fun j x H' v H'' pp' ρ' O' c' σ' hx m S' y => ?_⟩ ?_⟩
    · have hv : j < vs.length := by rw [f.length]; exact hj
      exact ⟨vs, vs[j], (l.mv m).sq, List.getElem?_eq_getElem hv⟩
    · exact ⟨vs, (l.mv m).sq, by rw [f.length]; exact Nat.le_refl _⟩
    · obtain ⟨rfl, hy⟩ := y
      obtain ⟨u, hu, ru⟩ := f.get hx
      have e := hy vs (l.mv m).sq
      rw [hu] at e
      cases e
      exact ⟨[(i, v)], H'', rfl, .refl _, S'.put (en.mono m ru), fun Q q => q⟩
    · rw [← f.length]; exact hz a vs rfl l.sq⟩
theorem wlistL (i : Nat) {e : Expr} {nm : Str} {p : Pos} {w : W (List α)} {en : En X.K α} (h : PX X PK pp ρ e w (eL en)) : PI X (.Name nm p) e (rdI PK pp ρ w (fun ρ x => put ρ i (.sh en x)) [i] (gName i)) := wlist i (xR h)
/-- the pair just made, taken apart -/
theorem gpair {K : PySem.W.Frag} {PK : PoolK} {pp : PP} {ρ : List (Sl K)} {O : AS} {c : Nat} {σ : St} {H : Hp} {T : Addr} {u v : V} {i j : Nat} {e1 : En K α} {e2 : En K β} {x : α} {y : β} (S : Sat PK O pp ρ c σ H) (hT : H T = none) (r1 : e1.r (Av O pp ρ) H u x) (r2 : e2.r (Av O pp ρ) H v y) :
    ∃ us H2, us.map (·.1) = [i, j] ∧ Same H H2 ∧ Sat PK O pp (put (put ρ i (.sh e1 x)) j (.sh e2 y)) c (setAll σ us) H2 ∧ ∀ Q : St → Hp → Prop, Q (setAll σ us) H2 → gTup K 2 (gCons (gName i) (gCons (gName j) gNil)) (.ref T) σ (upd H T (.tup [u, v])) Q := by
  have s := same_new (o := .tup [u, v]) hT
  have S1 := S.same s
  have less : ∀ a, Av O pp (put ρ i (.sh e1 x)) a → Av O pp ρ a := fun a z => by
    rcases z with z | z | z
    · exact .inl z
    · exact .inr (.inl z)
    · exact .inr (.inr (own_put_sh z))
  exact ⟨[(i, u), (j, v)], _, rfl, s, (S1.put (e1.mono (Mv.same s) r1)).put (e2.mono ((Mv.same s).trans (Mv.less less)) r2), fun Q q => ⟨T, [u, v], rfl, .inl (.inl upd_same), rfl, u, [v], rfl, v, [], rfl, rfl, q⟩⟩
/-- for a, b in zip(xs, ys) -/
theorem wzip (i j : Nat) {a b : Expr} {elts : List Expr} {kk : Nat} {p pos tpos : Pos} {wa : W (List α × List β × Unit)} {e1 : En X.K α} {e2 : En X.K β} (hm : X.mg "zip" = none) (h : PAX X PK pp ρ [a, b] wa (a2 (eL e1) (eL e2))) (hg : Gl X "zip" := by rfl)
    (hs : starEach [a, b] X.env = (false, eval a X.env) :: starEach [b] X.env := by rfl) (hpl : (backTo pos (starEach [b] X.env)).any (·.1) = false := by rfl) :
    PI X (.Tuple elts kk tpos) (.Call (.Name "zip" p) [a, b] [] pos) (rdI PK pp ρ (bnd wa fun x => ret (x.1.zip x.2.1)) (fun ρ x => put (put ρ i (.sh e1 x.1)) j (.sh e2 x.2)) [i, j] (gTup X.K 2 (gCons (gName i) (gCons (gName j) gNil)))) :=
  (pi_zip hg hm (pa_len h) hs hpl).weak fun σ H R ⟨O, Φ, c, S, hw, k⟩ => ⟨O, _, c, S, hw, fun x vs0 H1 c1 p1 ch S1 r1 hz => by
    obtain ⟨_, _, rfl, ⟨a, vs, rfl, l, f⟩, _, _, rfl, ⟨b, us, rfl, l2, f2⟩, rfl⟩ := r1
    have hl := f.length
    have hl2 := f2.length
    refine ⟨a, b, vs, us, rfl, l.sq, l2.sq, k _ _ H1 c1 p1 ch S1 ⟨fun j H' A' hj m => ?_, fun H' A' m => ?_, fun _ _ _ z => own_put_sh (own_put_sh z), fun j y H' v H'' pp' ρ' O' c' σ' hx m S' yy => ?_⟩ ?_⟩
    · rw [List.length_zip] at hj
      have h1 : j < vs.length := by omega
      have h2 : j < us.length := by omega
      exact ⟨vs, us, vs[j], us[j], (l.mv m).sq, (l2.mv m).sq, List.getElem?_eq_getElem h1, List.getElem?_eq_getElem h2⟩
    · refine ⟨vs, us, (l.mv m).sq, (l2.mv m).sq, ?_⟩
      rw [List.length_zip]
      omega
    · obtain ⟨T, u, w, rfl, nT, rfl, hu, hw'⟩ := yy
      rw [List.getElem?_zip_eq_some] at hx
      obtain ⟨u1, g1, q1⟩ := f.get hx.1
      obtain ⟨u2, g2, q2⟩ := f2.get hx.2
      have z1 := hu vs (l.mv m).sq
      have z2 := hw' us (l2.mv m).sq
      rw [g1] at z1
      rw [g2] at z2
      cases z1
      cases z2
      exact gpair S' nT (e1.mono m q1) (e2.mono m q2)
    · have := hz a vs (by simp) l.sq
      rw [List.length_zip]
      omega⟩
/-- places with items -/
def enumF {α : Type} : Int → List α → List (Int × α)
  | _, [] => []
  | n, x :: r => (n, x) :: enumF (n + 1) r
theorem enumF_len {α : Type} : ∀ (n : Int) (l : List α), (enumF n l).length = l.length
  | _, [] => rfl
  | n, x :: r => by simp [enumF, enumF_len (n + 1) r]
theorem enumF_get {α : Type} : ∀ (n : Int) (l : List α) (i : Nat) (y : Int × α), (enumF n l)[i]? = some y → y.1 = n + i ∧ l[i]? = some y.2
  | _, [], i, y, h => by simp [enumF] at h
  | n, x :: r, 0, y, h => by
    simp [enumF] at h
    subst h
    simp
  | n, x :: r, i + 1, y, h => by
    have h : (enumF (n + 1) r)[i]? = some y := by simpa [enumF] using h
    obtain ⟨h1, h2⟩ := enumF_get (n + 1) r i y h
    refine ⟨by rw [h1]; omega, by simpa using h2⟩
theorem wenumR (i j : Nat) {a : Expr} {elts : List Expr} {kk : Nat} {p pos tpos : Pos} {wa : W (List α × Unit)} {en : En X.K α} (hm : X.mg "enumerate" = none) (h : PAX X PK pp ρ [a] wa (a1 (eR en))) (hg : Gl X "enumerate" := by rfl) (hs : starEach [a] X.env = [(false, eval a X.env)] := by rfl) :
    PI X (.Tuple elts kk tpos) (.Call (.Name "enumerate" p) [a] [] pos) (rdI PK pp ρ (bnd wa fun x => ret (enumF 0 x.1)) (fun ρ x => put (put ρ i (.sh eI x.1)) j (.sh en x.2)) [i, j] (gTup X.K 2 (gCons (gName i) (gCons (gName j) gNil)))) :=
  (pi_enum hg hm (pa_len h) hs).weak fun σ H R ⟨O, Φ, c, S, hw, k⟩ => ⟨O, _, c, S, hw, fun x vs0 H1 c1 p1 ch S1 r1 hz => by
    obtain ⟨_, _, rfl, ⟨a, vs, rfl, l, f⟩, rfl⟩ := r1
    have hl := f.length
    refine ⟨a, vs, rfl, l.sq, k _ _ H1 c1 p1 ch S1 ⟨fun j H' A' hj m => ?_, fun H' A' m => ?_, fun _ _ _ z => own_put_sh (own_put_sh z), fun j y H' v H'' pp' ρ' O' c' σ' hx m S' yy => ?_⟩ ?_⟩
    · rw [enumF_len] at hj
      have h1 : j < vs.length := by omega
      exact ⟨vs, vs[j], (l.mv m).sq, List.getElem?_eq_getElem h1⟩
    · refine ⟨vs, (l.mv m).sq, ?_⟩
      rw [enumF_len]
      omega
    · obtain ⟨T, u, rfl, nT, rfl, hu⟩ := yy
      obtain ⟨h1, h2⟩ := enumF_get 0 _ _ _ hx
      obtain ⟨u1, g1, q1⟩ := f.get h2
      have z1 := hu vs (l.mv m).sq
      rw [g1] at z1
      cases z1
      refine gpair S' nT ?_ (en.mono m q1)
      rw [h1, Int.zero_add]
      rfl
    · have := hz a vs (by simp) l.sq
      rw [enumF_len]
      omega⟩
theorem wenum (i j : Nat) {a : Expr} {elts : List Expr} {kk : Nat} {p pos tpos : Pos} {wa : W (List α × Unit)} {en : En X.K α} (hm : X.mg "enumerate" = none) (h : PAX X PK pp ρ [a] wa (a1 (eL en))) (hg : Gl X "enumerate" := by rfl) (hs : starEach [a] X.env = [(false, eval a X.env)] := by rfl) :
    PI X (.Tuple elts kk tpos) (.Call (.Name "enumerate" p) [a] [] pos) (rdI PK pp ρ (bnd wa fun x => ret (enumF 0 x.1)) (fun ρ x => put (put ρ i (.sh eI x.1)) j (.sh en x.2)) [i, j] (gTup X.K 2 (gCons (gName i) (gCons (gName j) gNil)))) :=
  wenumR i j hm (h.weak fun σ H Q ⟨O, Φ, c, S, hw, k⟩ => ⟨O, Φ, c, S, hw, fun x v H' c' p ch S' r => k x v H' c' p ch S' (by
    obtain ⟨v1, r1, e1, q1, q2⟩ := r
    exact ⟨v1, r1, e1, eL_R q1, q2⟩)⟩) hg hs
/-- whole numbers from lo on -/
def rangeF : Int → Nat → List Int
  | _, 0 => []
  | lo, n + 1 => lo :: rangeF (lo + 1) n
theorem rangeF_len : ∀ (lo : Int) (n : Nat), (rangeF lo n).length = n
  | _, 0 => rfl
  | lo, n + 1 => by simp [rangeF, rangeF_len (lo + 1) n]
theorem rangeF_get : ∀ (lo : Int) (n i : Nat) (y : Int), (rangeF lo n)[i]? = some y → y = lo + i ∧ i < n
  | _, 0, i, y, h => by simp [rangeF] at h
  | lo, n + 1, 0, y, h => by
    simp [rangeF] at h
    subst h
    simp
  | lo, n + 1, i + 1, y, h => by
    have h : (rangeF (lo + 1) n)[i]? = some y := by simpa [rangeF] using h
    obtain ⟨h1, h2⟩ := rangeF_get (lo + 1) n i y h
    exact ⟨by rw [h1]; omega, by omega⟩
def rngOk (i j : Int) : Bool := decide (-(2 ^ 62) ≤ i) && decide (i < 2 ^ 62) && decide (-(2 ^ 62) ≤ j) && decide (j < 2 ^ 62) && decide (j - i ≤ 16777216)
theorem src_range {K : PySem.W.Frag} {PK : PoolK} (i : Nat) (lo : Int) (n : Nat) {A : AS} {H0 : Hp} : Src (K := K) PK (rangeF lo n) (fun ρ x => put ρ i (.sh eI x)) [i] (gName i) (Itr lo n) A H0 := by
  refine ⟨fun j H' A' hj m => ?_, fun H' A' m => ?_, fun _ _ _ z => own_put_sh z, fun j y H' v H'' pp' ρ' O' c' σ' hx m S' yy => ?_⟩
  · rw [rangeF_len] at hj; exact hj
  · rw [rangeF_len]; exact Nat.le_refl _
  · obtain ⟨rfl, rfl⟩ := yy
    obtain ⟨h1, _⟩ := rangeF_get _ _ _ _ hx
    exact ⟨[(i, .int (lo + j))], H'', rfl, .refl _, S'.put (by rw [h1]; rfl), fun Q q => q⟩
theorem wrange1 (i : Nat) {a : Expr} {nm : Str} {p pos tp : Pos} {wa : W (Int × Unit)} (hm : X.mg "range" = none) (h : PAX X PK pp ρ [a] wa (a1 eI)) (hg : Gl X "range" := by rfl) (hs : starEach [a] X.env = [(false, eval a X.env)] := by rfl) :
    PI X (.Name nm tp) (.Call (.Name "range" p) [a] [] pos) (rdI PK pp ρ (bnd wa fun x => grd (rngOk 0 x.1) (ret (rangeF 0 x.1.toNat))) (fun ρ x => put ρ i (.sh eI x)) [i] (gName i)) :=
  (pi_range1 hg hm h hs).weak fun σ H R ⟨O, Φ, c, S, hw, k⟩ => ⟨O, _, c, S, hw, fun x vs0 H1 c1 p1 ch S1 r1 => by
    obtain ⟨_, _, rfl, q, rfl⟩ := r1
    obtain ⟨q0, q2⟩ := p1
    simp only [rngOk, Bool.and_eq_true, decide_eq_true_eq] at q0
    exact ⟨x.1, by rw [show _ = V.int x.1 from q], q0.1.1.2, q0.1.2, k _ _ H1 c1 q2 ch S1 (src_range i 0 _) (by rw [rangeF_len, sizeLine_eq]; have := q0.2; omega)⟩⟩
theorem wrange2 (i : Nat) {a b : Expr} {nm : Str} {p pos tp : Pos} {wa : W (Int × Int × Unit)} (hm : X.mg "range" = none) (h : PAX X PK pp ρ [a, b] wa (a2 eI eI)) (hg : Gl X "range" := by rfl) (hs : starEach [a, b] X.env = [(false, eval a X.env), (false, eval b X.env)] := by rfl) (hs2 : starEach [b] X.env = [(false, eval b X.env)] := by rfl) :
    PI X (.Name nm tp) (.Call (.Name "range" p) [a, b] [] pos) (rdI PK pp ρ (bnd wa fun x => grd (rngOk x.1 x.2.1) (ret (rangeF x.1 (x.2.1 - x.1).toNat))) (fun ρ x => put ρ i (.sh eI x)) [i] (gName i)) :=
  (pi_range2 hg hm h hs hs2).weak fun σ H R ⟨O, Φ, c, S, hw, k⟩ => ⟨O, _, c, S, hw, fun x vs0 H1 c1 p1 ch S1 r1 => by
    obtain ⟨_, _, rfl, q, _, _, rfl, q', rfl⟩ := r1
    obtain ⟨q0, q2⟩ := p1
    simp only [rngOk, Bool.and_eq_true, decide_eq_true_eq] at q0
    exact ⟨x.1, x.2.1, by rw [show _ = V.int x.1 from q, show _ = V.int x.2.1 from q'], ⟨q0.1.1.1.1, q0.1.1.1.2, q0.1.1.2, q0.1.2⟩, k _ _ H1 c1 q2 ch S1 (src_range i _ _) (by rw [rangeF_len, sizeLine_eq]; have := q0.2; omega)⟩⟩
end
end Dc
/-! DcH: more statements and expressions. -/
namespace Dc
open PySem PySem.Spec L2
section
variable {X : Cx} {PK : PoolK} {pp : PP} {ρ : List (Sl X.K)} {α β γ δ : Type}

/-! ### own lists read -/
theorem xixO [Inhabited α] (i : Nat) {x : Str} {ix : Expr} {p' pos : Pos} {wx : W Int} {en : En X.K α} {p : Addr} {xs : List α} (hg : get ρ i = .ow p (oL en) xs) (hx : PX X PK pp ρ ix wx eI) (hN : X.N[i]? = some x := by rfl)
    (hv : Vis X.env.scope x := by first | exact Or.inl rfl | exact Or.inr (Or.inl rfl) | exact Or.inr (Or.inr rfl)) (hd : (x == ("__debug__" : Str)) = false := by decide) (hcd : (x == ("__classdict__" : Str)) = false := by decide) (hs : PlainIx ix := by exact fun _ _ => rfl) :
    PX X PK pp ρ (.Subscript (.Name x p') ix pos) (bnd wx fun j => grd (ixOk xs j) (ret (ixAt xs j))) en :=
  (pe_ix ix_list (pe_var hN hv hd hcd) hx hs).weak fun σ H Q ⟨O, Φ, c, S, hw, k⟩ => by
    have q := S.slots i
    rw [hg] at q
    obtain ⟨e1, _, _, _⟩ := q
    refine ⟨_, e1, O, _, c, S, hw, fun j u H2 c2 p2 ch2 S2 r2 => ?_⟩
    have q := S2.slots i
    rw [hg] at q
    obtain ⟨_, vs, e2, f2⟩ := q
    obtain ⟨m, hm⟩ := Option.isSome_iff_exists.mp p2.1
    have hlt := ixN_lt hm
    obtain ⟨v1, g1, rv⟩ := f2.get (List.getElem?_eq_getElem hlt)
    refine ⟨p, vs, j, v1, rfl, r2, SqL.of e2, ?_, k _ _ H2 c2 p2.2 ch2 S2 ?_⟩
    · unfold atI
      rw [f2.length, hm]
      exact g1
    · unfold ixAt
      rw [hm, Option.getD_some, List.getD_eq_getElem?_getD, List.getElem?_eq_getElem hlt]
      exact rv
theorem xlenO (i : Nat) {x : Str} {p p' pos : Pos} {en : En X.K α} {a : Addr} {xs : List α} (hg : get ρ i = .ow a (oL en) xs) (hm : X.mg "len" = none) (hgl : Gl X "len" := by rfl) (hN : X.N[i]? = some x := by rfl)
    (hv : Vis X.env.scope x := by first | exact Or.inl rfl | exact Or.inr (Or.inl rfl) | exact Or.inr (Or.inr rfl)) (hd : (x == ("__debug__" : Str)) = false := by decide) (hcd : (x == ("__classdict__" : Str)) = false := by decide)
    (he : starEach [Expr.Name x p'] X.env = (false, eval (.Name x p') X.env) :: starEach [] X.env := by rfl) (hpl : (backTo pos (starEach [] X.env)).any (·.1) = false := by rfl) :
    PX X PK pp ρ (.Call (.Name "len" p) [.Name x p'] [] pos) (ret (xs.length : Int)) eI :=
  (pe_callB call_len_seq hgl hm PySem.boot_len (pa_cons (pe_var hN hv hd hcd) pa_nil he) (by decide) (by decide) he hpl).weak fun σ H Q ⟨O, Φ, c, S, hw, k⟩ => by
    have q := S.slots i
    rw [hg] at q
    obtain ⟨e1, vs, e2, f2⟩ := q
    exact ⟨_, e1, a, vs, rfl, .inl (SqL.of e2), k _ _ H c hw .refl S (by rw [f2.length]; rfl)⟩

/-! ### a, b = e -/
theorem npair (i j : Nat) {x y : Str} {e : Expr} {px py pt pos : Pos} {kt} {w : W (α × β)} {e1 : En X.K α} {e2 : En X.K β} (hc : X.calm = true) (hN : X.N.Nodup) (h : PX X PK pp ρ e w (eP e1 e2)) (hi : X.N[i]? = some x := by rfl) (hj : X.N[j]? = some y := by rfl)
    (hx : Loc X.env.scope x := by first | exact Or.inl rfl | exact Or.inr rfl) (hy : Loc X.env.scope y := by first | exact Or.inl rfl | exact Or.inr rfl)
    (hf : X.fn x = true ∨ X.env.scope.names.lookup x = some .local := by first | exact .inl rfl | exact .inr rfl) (hf2 : X.fn y = true ∨ X.env.scope.names.lookup y = some .local := by first | exact .inl rfl | exact .inr rfl)
    (hs1 : (assignEach [Expr.Name x px, Expr.Name y py] X.env).map (·.2) = assign (.Name x px) X.env :: (assignEach [Expr.Name y py] X.env).map (·.2) := by rfl) (hs2 : (assignEach [Expr.Name y py] X.env).map (·.2) = assign (.Name y py) X.env :: (assignEach [] X.env).map (·.2) := by rfl)
    (hn : (assignEach [Expr.Name x px, Expr.Name y py] X.env).length = 2 := by rfl) (hst : (assignEach [Expr.Name x px, Expr.Name y py] X.env).findIdx? (·.1) = none := by rfl)
    (hsw : swapsWithSole [.Tuple [.Name x px, .Name y py] kt pt] e pos.line X.env = pure false := by rfl) (hww : swappedStores [.Tuple [.Name x px, .Name y py] kt pt] e X.env = pure none := by rfl) (h1 : (assignEach [.Tuple [.Name x px, .Name y py] kt pt] X.env).map (·.2) = [assign (.Tuple [.Name x px, .Name y py] kt pt) X.env] := by rfl) :
    PS X (.Assign [.Tuple [.Name x px, .Name y py] kt pt] e pos) (rdN PK pp ρ w fun (_ : Unit) z => put (put ρ i (.sh e1 z.1)) j (.sh e2 z.2)) :=
  (ps_asg h (pg_tup hc (pgs_cons (pg_name hN hi hx hf) (pgs_cons (pg_name hN hj hy hf2) pgs_nil hs2) hs1) hn hst) hsw hww h1).weak fun D σ H ⟨O, Φ, c, S, hw, k⟩ => ⟨O, _, c, S, hw, fun z v H1 c1 p1 ch S1 r => by
    obtain ⟨a, u, w, rfl, t, q1, q2⟩ := r
    refine ⟨a, [u, w], rfl, t.sq, rfl, u, [w], rfl, w, [], rfl, rfl, ?_⟩
    have less : ∀ a, Av O pp (put ρ i (.sh e1 z.1)) a → Av O pp ρ a := fun a z => by
      rcases z with z | z | z
      · exact .inl z
      · exact .inr (.inl z)
      · exact .inr (.inr (own_put_sh z))
    exact k () z H1 c1 p1 _ (.of_chg ch fun a z => own_put_sh (own_put_sh z)) ((S1.put q1).put (e2.mono (Mv.less less) q2))⟩
/-- a, b = e1, e2 -/
theorem npar (i j : Nat) {x y : Str} {a b : Expr} {px py pt pos : Pos} {kt k2 pt2} {w : W (α × β × Unit)} {e1 : En X.K α} {e2 : En X.K β} (hc : X.calm = true) (hN : X.N.Nodup) (h : PAX X PK pp ρ [a, b] w (a2 e1 e2)) (hij : i ≠ j := by decide) (hi : X.N[i]? = some x := by rfl) (hj : X.N[j]? = some y := by rfl)
    (hx : X.env.scope.names.lookup x = some .local := by rfl) (hy : X.env.scope.names.lookup y = some .local := by rfl) (hw : swappedStores [.Tuple [.Name x px, .Name y py] kt pt] (.Tuple [a, b] k2 pt2) X.env = pure (some [x, y]) := by rfl)
    (hs : swapsWithSole [.Tuple [.Name x px, .Name y py] kt pt] (.Tuple [a, b] k2 pt2) pos.line X.env = pure false := by rfl) :
    PS X (.Assign [.Tuple [.Name x px, .Name y py] kt pt] (.Tuple [a, b] k2 pt2) pos) (rdN PK pp ρ w fun (_ : Unit) z => put (put ρ i (.sh e1 z.1)) j (.sh e2 z.2.1)) :=
  (ps_par hc hN hi hj hij hx hy h hw hs).weak fun D σ H ⟨O, Φ, c, S, hw, k⟩ => ⟨O, _, c, S, hw, fun z v H1 c1 p1 ch S1 r => by
    obtain ⟨u, _, rfl, q1, w, _, rfl, q2, rfl⟩ := r
    have less : ∀ a, Av O pp (put ρ i (.sh e1 z.1)) a → Av O pp ρ a := fun a z => by
      rcases z with z | z | z
      · exact .inl z
      · exact .inr (.inl z)
      · exact .inr (.inr (own_put_sh z))
    exact ⟨u, w, rfl, k () z H1 c1 p1 _ (.of_chg ch fun a z => own_put_sh (own_put_sh z)) ((S1.put q1).put (e2.mono (Mv.less less) q2))⟩⟩
/-! ### while -/
def whW (t : γ → W Bool) (f : γ → W (Fl γ γ β)) : Nat → γ → W (Fl γ δ β)
  | 0, _ => stuck
  | n + 1, s => bnd (t s) fun b => ite b (bnd (f s) fun fl => match fl with
    | .nx s' => whW t f n s'
    | .ct s' => whW t f n s'
    | .bk s' => ret (.nx s')
    | .rt y => ret (.rt y)) (ret (.nx s))
theorem nwhile {c : Expr} {body : List Stmt} {pos : Pos} {t : γ → W Bool} {f : γ → W (Fl γ γ β)} {ρL : γ → List (Sl X.K)} {ρl : δ → List (Sl X.K)} {er : En X.K β} {s0 : γ} (fuel : Nat)
    (hp : PassesOwn (model X.prog X.w) X.A X.env X.xe) (hf : Fit ρ (ρL s0)) (ht : ∀ s, PTX X PK pp (ρL s) c (t s)) (hb : ∀ s, PSX X PK pp (ρL s) body (f s) ρL ρL er) :
    PS X (.While c body [] pos) (rdS PK pp ρ (whW t f fuel s0) ρL ρl er) :=
  (ps_while (tc := fun σ H Q => ∃ s, rdT PK pp (ρL s) (t s) σ H Q) hp ⟨fun pins s σ H Q I ⟨g, q⟩ => (ht g).run pins s σ H Q I q⟩ (PSs.ex hb)).weak fun D σ H ⟨O, Φ, c, S, hw, k⟩ => by
    refine ⟨fun m σ' H' => ∃ s c', Stp pp ρ (ρL s) H H' ∧ Sat PK O pp (ρL s) c' σ' H' ∧ whW t f m s Φ noX c', ⟨fuel, s0, c, hf.stp, S.fit hf, hw⟩, ?_⟩
    rintro m σ' H' ⟨s, c', st, S', hw'⟩
    cases m with
    | zero => exact hw'.elim
    | succ m =>
      refine ⟨s, O, _, c', S', hw', fun b H2 c2 q ch S2 => ?_⟩
      have st2 := st.trans (.of_chg ch fun _ z => z)
      cases b with
      | true =>
        simp only [if_true]
        refine ⟨fun σ3 H3 => ∃ s c', Stp pp ρ (ρL s) H H3 ∧ Sat PK O pp (ρL s) c' σ3 H3 ∧ whW t f m s Φ noX c', fun σ3 H3 z => ⟨m, Nat.lt_succ_self m, z⟩, s, O, _, c2, S2, q, fun fl H4 c4 q4 => ?_⟩
        cases fl with
        | nx s' => exact fun σ4 t S4 => ⟨s', c4, st2.trans t, S4, q4⟩
        | ct s' => exact fun σ4 t S4 => ⟨s', c4, st2.trans t, S4, q4⟩
        | bk s' => exact fun σ4 t S4 => k (.nx s') H4 c4 q4 σ4 (st2.trans t) S4
        | rt r => exact (k (.rt r) H4 c4 q4).mono st2
      | false =>
        simp only [Bool.false_eq_true, if_false]
        exact k (.nx s) H2 c2 (by simpa [ite, ret] using q) σ' st2 S2
/-! ### comparisons of data -/
structure Dat {K : PySem.W.Frag} {α : Type} (en : En K α) (to : α → PyData) : Prop where
  dp : ∀ {O : AS} {H : Hp} {v : V} {x : α}, en.r O H v x → Dp K H v (to x)
theorem dI {K : PySem.W.Frag} : Dat (eI : En K Int) .int := ⟨fun h => by rw [show _ = _ from h]; exact .int _⟩
theorem dB {K : PySem.W.Frag} : Dat (eB : En K Bool) .bool := ⟨fun h => by rw [show _ = _ from h]; exact .bl _⟩
theorem dS {K : PySem.W.Frag} : Dat (eS : En K Str) .str := ⟨fun h => by rw [show _ = _ from h]; exact .str _⟩
theorem dAll {K : PySem.W.Frag} {en : En K α} {to : α → PyData} (d : Dat en to) {O : AS} {H : Hp} {vs : List V} {xs : List α} (f : F2 (en.r O H) vs xs) : DpAll K H vs (xs.map to) := by
  induction f with
  | nil => exact .nil
  | cons r _ ih => exact .cons (d.dp r) ih
theorem dL {K : PySem.W.Frag} {en : En K α} {to : α → PyData} (d : Dat en to) : Dat (eL en) (fun xs => .list (xs.map to)) := ⟨fun ⟨a, vs, e, l, f⟩ => by rw [e]; exact .lst l.sq (dAll d f)⟩
theorem dP {K : PySem.W.Frag} {e1 : En K α} {e2 : En K β} {to : α → PyData} {to2 : β → PyData} (d : Dat e1 to) (d2 : Dat e2 to2) : Dat (eP e1 e2) (fun x => .tuple [to x.1, to2 x.2]) := ⟨fun ⟨a, u, w, e, t, q1, q2⟩ => by rw [e]; exact .tup t.sq (.cons (d.dp q1) (.cons (d2.dp q2) .nil))⟩
theorem w_eqD {en : En X.K α} {e2 : En X.K β} {to : α → PyData} {to2 : β → PyData} (d : Dat en to) (d2 : Dat e2 to2) (hs : ∀ x, SeqAt.shaped (to x) = true) (hs2 : ∀ x, SeqAt.shaped (to2 x) = true) (hu : X.A.units + 64 < cLine) : OpW X (compareOp .Eq) en e2 eB (fun _ _ => true) (fun x y => PyData.eqv (to x) (to2 y)) := by
  intro pins s σ H x y v u Q I rx ry ⟨A, a, b, _, r1, r2, _, k⟩
  exact op_eqD hu pins s σ H x y v u Q I rx ry ⟨_, _, d.dp r1, d2.dp r2, hs _, hs2 _, k _ _ (.refl _) rfl⟩
theorem w_neD {en : En X.K α} {e2 : En X.K β} {to : α → PyData} {to2 : β → PyData} (d : Dat en to) (d2 : Dat e2 to2) (hs : ∀ x, SeqAt.shaped (to x) = true) (hs2 : ∀ x, SeqAt.shaped (to2 x) = true) (hu : X.A.units + 64 < cLine) : OpW X (compareOp .NotEq) en e2 eB (fun _ _ => true) (fun x y => !PyData.eqv (to x) (to2 y)) := by
  intro pins s σ H x y v u Q I rx ry ⟨A, a, b, _, r1, r2, _, k⟩
  exact op_neD hu pins s σ H x y v u Q I rx ry ⟨_, _, d.dp r1, d2.dp r2, hs _, hs2 _, k _ _ (.refl _) rfl⟩

/-! ### [elt for a in xs if t], [elt for a in xs for b in a] -/
theorem lc_readF {own : List (Str × Nat)} {wi : W (List α)} {ext : List (Sl X.K) → α → List (Sl X.K)} {js : List Nat} {g : TG} {t : α → W Bool} {f : α → W β} {en : En X.K β} (hj : ∀ j ∈ js, j ∈ own.map (·.2)) (hn : ∀ i ∈ own.map (·.2), get ρ i = .nil) (ho : ∀ x, owns (ext ρ x) = owns ρ) :
    ∀ σ H Q, rdF PK pp ρ (bnd wi fun xs => filW t f xs) en σ H Q → tLc (rdI PK pp ρ wi ext js g) g (fun σ H Q => ∃ x, rdT PK pp (ext ρ x) (t x) σ H Q) (fun σ H Q => ∃ x, rdE PK pp (ext ρ x) (f x) en σ H Q) (own.map (·.2)) σ H Q := by
  intro σ H Q ⟨O, Φ, c, S, hw, k⟩
  refine ⟨O, _, c, S, hw, fun xs J H1 c1 p1 ch S1 src hz D hD => ?_⟩
  have nf := nfoot S1 hD
  have hDH := chg_none S1 ch hD
  have mv0 : Mv (Av O pp ρ) (Av (Ox O D) pp ρ) H1 (upd H1 D (.lst [])) := Mv.newA hD
  refine ⟨fun i m H' => m = xs.length - i ∧ i ≤ xs.length ∧ ∃ acc vs c', H' D = some (.lst vs) ∧ F2 (en.r (Av (Ox O D) pp ρ) H') vs acc ∧ vs.length ≤ i ∧ Chg pp (upd H1 D (.lst [])) (upd H' D (.lst [])) ∧ Sat PK (Ox O D) pp ρ c' σ H' ∧ filW t f (xs.drop i) (fun ys c => Φ (acc ++ ys) c) noX c',
    ⟨xs.length, by simp, Nat.zero_le _, [], [], c1, upd_same, .nil, Nat.zero_le _, by rw [upd_upd]; exact .refl, S1.newO hD, by simpa using p1⟩, ?_⟩
  rintro i m H' ⟨rfl, hi', acc, vs, c', eD, fD, lD, chD, S', hw'⟩
  have mv : Mv (Av O pp ρ) (Av (Ox O D) pp ρ) H1 H' := fun a o n e => by
    obtain ⟨e1, n1⟩ := mv0 a o n e
    have ne : a ≠ D := ne_of_none e hD
    have := chD a o e1 fun z => n (.inr (.inl z))
    rw [upd_ne ne] at this
    exact ⟨this, n1⟩
  by_cases hlt : i < xs.length
  · refine .inr ⟨src.go i H' _ hlt mv, fun H3 => ∃ acc vs c', H3 D = some (.lst vs) ∧ F2 (en.r (Av (Ox O D) pp ρ) H3) vs acc ∧ vs.length ≤ i + 1 ∧ Chg pp (upd H1 D (.lst [])) (upd H3 D (.lst [])) ∧ Sat PK (Ox O D) pp ρ c' σ H3 ∧ filW t f (xs.drop (i + 1)) (fun ys c => Φ (acc ++ ys) c) noX c', fun H3 q => ⟨xs.length - (i + 1), by omega, rfl, hlt, q⟩, fun v H2 y => ?_⟩
    obtain ⟨us, H3, eus, sm, S3, hQ⟩ := src.yld i xs[i] H' v H2 pp ρ (Ox O D) c' (wipe σ (own.map (·.2))) (List.getElem?_eq_getElem hlt) mv (S'.wipe hn) y
    refine hQ _ ⟨wipe_setAll fun u hu => hj _ (by rw [← eus]; exact List.mem_map.mpr ⟨u, hu, rfl⟩), ?_⟩
    rw [List.drop_eq_getElem_cons hlt] at hw'
    refine ⟨xs[i], Ox O D, _, c', S3, hw', fun b H3' c3 q3 ch3 S3' => ?_⟩
    have e3 : H3' D = some (.lst vs) := ch3 D _ (sm D _ eD) nf
    have mv3 : Mv (Av (Ox O D) pp ρ) (Av (Ox O D) pp ρ) H' H3' := fun a o n e => ⟨ch3 a o (sm a o e) fun z => n (.inr (.inl z)), n⟩
    have chg3 : Chg pp (upd H1 D (.lst [])) (upd H3' D (.lst [])) := fun a o e hf => by
      have z := chD a o e hf
      by_cases ne : a = D
      · subst ne; rw [upd_same] at z ⊢; exact z
      · rw [upd_ne ne] at z ⊢
        exact ch3 a o (sm a o z) hf
    cases b with
    | false =>
      simp only [Bool.false_eq_true, if_false]
      exact ⟨acc, vs, c3, e3, fD.imp fun _ _ => en.mono mv3, Nat.le_succ_of_le lD, chg3, S'.chg (fun a o e hf => ch3 a o (sm a o e) hf) S3'.pool, by simpa [ite] using q3⟩
    | true =>
      simp only [if_true]
      refine ⟨xs[i], Ox O D, _, c3, S3', q3, fun y v4 H4 c4 q ch4 S4 r4 => ?_⟩
      have e4 : H4 D = some (.lst vs) := ch4 D _ e3 nf
      refine ⟨vs, e4, Nat.lt_of_le_of_lt lD (Nat.lt_of_lt_of_le hlt hz), acc ++ [y], vs ++ [v4], c4, upd_same, ?_, by rw [List.length_append]; exact Nat.succ_le_succ lD, ?_, ?_, ?_⟩
      · have mv4 : Mv (Av (Ox O D) pp ρ) (Av (Ox O D) pp ρ) H' (upd H4 D (.lst (vs ++ [v4]))) := fun a o n e => by
          have ne : a ≠ D := fun z => n (by rw [z]; exact .inl (.inr rfl))
          rw [upd_ne ne]
          exact ⟨ch4 a o (mv3 a o n e).1 fun z => n (.inr (.inl z)), n⟩
        have mv5 : Mv (Av (Ox O D) pp (ext ρ xs[i])) (Av (Ox O D) pp ρ) H4 (upd H4 D (.lst (vs ++ [v4]))) := fun a o n e => by
          have ne : a ≠ D := fun z => n (by rw [z]; exact .inl (.inr rfl))
          rw [upd_ne ne]
          refine ⟨e, fun z => n ?_⟩
          rcases z with z | z | z
          · exact .inl z
          · exact .inr (.inl z)
          · exact .inr (.inr (by rw [ho]; exact z))
        exact (fD.imp fun _ _ => en.mono mv4).append (.cons (en.mono mv5 r4) .nil)
      · intro a o e hf
        have z := chg3 a o e hf
        rw [upd_upd]
        by_cases ne : a = D
        · subst ne; rw [upd_same] at z ⊢; exact z
        · rw [upd_ne ne] at z ⊢
          exact ch4 a o z hf
      · exact (S'.chg (fun a o e hf => ch4 a o (ch3 a o (sm a o e) hf) hf) S4.pool).updO (.inr rfl) nf
      · have q2 : filW t f (xs.drop (i + 1)) (fun ys c => Φ (acc ++ (y :: ys)) c) noX c4 := q
        simpa [List.append_assoc] using q2
  · have e : i = xs.length := by omega
    subst e
    rw [List.drop_length] at hw'
    have hw2 : Φ (acc ++ []) c' := hw'
    rw [List.append_nil] at hw2
    refine .inl ⟨src.stop H' _ mv, k acc D vs H' c' hw2 hDH (fun a o e hf => ?_) S' eD fD⟩
    have ne : a ≠ D := ne_of_none e hDH
    have z := chD a o (by rw [upd_ne ne]; exact ch a o e hf) hf
    rw [upd_ne ne] at z
    exact z
theorem xlcI {elt tg iter tst : Expr} {scope : Scope} {own : List (Str × Nat)} {pos : Pos} {wi : W (List α)} {ext : List (Sl X.K) → α → List (Sl X.K)} {js : List Nat} {g : TG} {t : α → W Bool} {f : α → W β} {en : En X.K β} (hc : X.calm = true) (hN : X.N.Nodup) (hi : PI X tg iter (rdI PK pp ρ wi ext js g)) (ok : BlkOk X.N X.env.scope scope own)
    (hj : ∀ j ∈ js, j ∈ own.map (·.2)) (hn : ∀ i ∈ own.map (·.2), get ρ i = .nil) (ho : ∀ x, owns (ext ρ x) = owns ρ)
    (hg : ∀ (s : Shared) (H : Hp) (C : Addr) (cl : List (Str × Addr)) (fp : List Addr), PG (X.blk s H scope (compEnvC scope cl C X.env) fp) tg g)
    (ht : ∀ (s : Shared) (H : Hp) (C : Addr) (cl : List (Str × Addr)) (fp : List Addr) (x : α), PTX (X.blk s H scope (compEnvC scope cl C X.env) fp) PK pp (ext ρ x) tst (t x))
    (he : ∀ (s : Shared) (H : Hp) (C : Addr) (cl : List (Str × Addr)) (fp : List Addr) (x : α), PX (X.blk s H scope (compEnvC scope cl C X.env) fp) PK pp (ext ρ x) elt (f x) en)
    (hs : ∀ x, foldedSetIterable iter X.env x = pure x := by intro _; rfl) :
    PE X (.ListComp elt [⟨tg, iter, [tst], 0⟩] scope pos) (rdF PK pp ρ (bnd wi fun xs => filW t f xs) en) :=
  (pe_lc hc hN hi ok hg (fun s H C cl fp => pts_one ⟨fun pins s' σ H Q I ⟨x, q⟩ => (ht s _ C cl fp x).run pins s' σ H Q I q⟩) (fun s H C cl fp => ⟨fun pins s' σ H Q I ⟨x, q⟩ => (he s _ C cl fp x).run pins s' σ H Q I q⟩) hs).weak (lc_readF hj hn ho)
theorem xlcIS (i : Nat) {y : Str} {py spos : Pos} {elt tg iter tst : Expr} {scope : Scope} {own : List (Str × Nat)} {pos : Pos} {wi : W (List α)} {ext : List (Sl X.K) → α → List (Sl X.K)} {js : List Nat} {g : TG} {t : α → W Bool} {f : α → W β} {en : En X.K β} (hc : X.calm = true) (hN : X.N.Nodup) (hi : PI X tg iter (rdI PK pp ρ wi ext js g)) (ok : BlkOk X.N X.env.scope scope own)
    (hj : ∀ j ∈ js, j ∈ own.map (·.2)) (hn : ∀ i ∈ own.map (·.2), get ρ i = .nil) (ho : ∀ x, owns (ext ρ x) = owns ρ)
    (hg : ∀ (s : Shared) (H : Hp) (C : Addr) (cl : List (Str × Addr)) (fp : List Addr), PG (X.blk s H scope (compEnvC scope cl C X.env) fp) tg g)
    (ht : ∀ (s : Shared) (H : Hp) (C : Addr) (cl : List (Str × Addr)) (fp : List Addr) (x : α), PTX (X.blk s H scope (compEnvC scope cl C X.env) fp) PK pp (ext ρ x) tst (t x))
    (he : ∀ (s : Shared) (H : Hp) (C : Addr) (cl : List (Str × Addr)) (fp : List Addr) (x : α), PX (X.blk s H scope (compEnvC scope cl C X.env) fp) PK pp (ext ρ x) elt (f x) en)
    (hsw : swapsWith (.ListComp elt [⟨tg, iter, [tst], 0⟩] scope pos) (some (.Name y py)) spos.line X.env = pure true) (hy : X.N[i]? = some y := by rfl) (hyl : X.env.scope.names.lookup y = some .local := by rfl)
    (hs : ∀ x, foldedSetIterable iter X.env x = pure x := by intro _; rfl) :
    PS X (.Assign [.Name y py] (.ListComp elt [⟨tg, iter, [tst], 0⟩] scope pos) spos) (tAsg (rdF PK pp ρ (bnd wi fun xs => filW t f xs) en) (gName i)) :=
  (ps_setLc hc hN hy hyl hsw hi ok hg (fun s H C cl fp => pts_one ⟨fun pins s' σ H Q I ⟨x, q⟩ => (ht s _ C cl fp x).run pins s' σ H Q I q⟩) (fun s H C cl fp => ⟨fun pins s' σ H Q I ⟨x, q⟩ => (he s _ C cl fp x).run pins s' σ H Q I q⟩) hs).weak fun D σ H q => lc_readF hj hn ho σ H _ q
/-- [elt for a in xs for b in ..]; n: so many so far -/
def flatW (wi : α → W (List γ)) (f : α → γ → W β) : Nat → List α → W (List β)
  | _, [] => ret []
  | n, x :: r => bnd (wi x) fun ys => grd (decide (n + ys.length ≤ 16777216)) (bnd (mapW (f x) ys) fun zs => bnd (flatW wi f (n + ys.length) r) fun us => ret (zs ++ us))
theorem mapW_len {f : α → W β} : ∀ {xs : List α} {Φ : List β → WB} {c : Nat}, mapW f xs Φ noX c → mapW f xs (fun ys c => ys.length = xs.length ∧ Φ ys c) noX c → True := fun _ _ => True.intro
theorem lc_read2 {own : List (Str × Nat)} {vs1 : List Nat} {wi : W (List α)} {ext : List (Sl X.K) → α → List (Sl X.K)} {js : List Nat} {g : TG} {w1 : α → W (List γ)} {ext1 : List (Sl X.K) → γ → List (Sl X.K)} {js1 : List Nat} {g1 : TG} {f : α → γ → W β} {en : En X.K β}
    (hj : ∀ j ∈ js, j ∈ own.map (·.2)) (hn : ∀ i ∈ own.map (·.2), get ρ i = .nil) (ho : ∀ x, owns (ext ρ x) = owns ρ) (hj1 : ∀ j ∈ js1, j ∈ vs1) (hn1 : ∀ x, ∀ i ∈ vs1, get (ext ρ x) i = .nil) (ho1 : ∀ x y, owns (ext1 (ext ρ x) y) = owns ρ) :
    ∀ σ H Q, rdF PK pp ρ (bnd wi fun xs => flatW w1 f 0 xs) en σ H Q → tLc2 (rdI PK pp ρ wi ext js g) g tYes (fun σ H R => ∃ x, rdI PK pp (ext ρ x) (w1 x) ext1 js1 g1 σ H R) g1 tYes (fun σ H Q => ∃ z : α × γ, rdE PK pp (ext1 (ext ρ z.1) z.2) (f z.1 z.2) en σ H Q) (own.map (·.2)) vs1 σ H Q := by
  intro σ H Q ⟨O, Φ, c, S, hw, k⟩
  refine ⟨O, _, c, S, hw, fun xs J H1 c1 p1 ch S1 src hz D hD => ?_⟩
  have nf := nfoot S1 hD
  have hDH := chg_none S1 ch hD
  have mv0 : Mv (Av O pp ρ) (Av (Ox O D) pp ρ) H1 (upd H1 D (.lst [])) := Mv.newA hD
  have av1 : ∀ x a, Av (Ox O D) pp (ext ρ x) a ↔ Av (Ox O D) pp ρ a := fun x a => by unfold Av; rw [ho]
  have av2 : ∀ x y a, Av (Ox O D) pp (ext1 (ext ρ x) y) a ↔ Av (Ox O D) pp ρ a := fun x y a => by unfold Av; rw [ho1]
  refine ⟨fun i m H' => m = xs.length - i ∧ i ≤ xs.length ∧ ∃ acc vs c', H' D = some (.lst vs) ∧ F2 (en.r (Av (Ox O D) pp ρ) H') vs acc ∧ Chg pp (upd H1 D (.lst [])) (upd H' D (.lst [])) ∧ Sat PK (Ox O D) pp ρ c' σ H' ∧ flatW w1 f vs.length (xs.drop i) (fun ys c => Φ (acc ++ ys) c) noX c',
    ⟨xs.length, by simp, Nat.zero_le _, [], [], c1, upd_same, .nil, by rw [upd_upd]; exact .refl, S1.newO hD, by simpa using p1⟩, ?_⟩
  rintro i m H' ⟨rfl, hi', acc, vs, c', eD, fD, chD, S', hw'⟩
  have mv : Mv (Av O pp ρ) (Av (Ox O D) pp ρ) H1 H' := fun a o n e => by
    obtain ⟨e1, n1⟩ := mv0 a o n e
    have ne : a ≠ D := ne_of_none e hD
    have := chD a o e1 fun z => n (.inr (.inl z))
    rw [upd_ne ne] at this
    exact ⟨this, n1⟩
  by_cases hlt : i < xs.length
  · refine .inr ⟨src.go i H' _ hlt mv, fun H3 => ∃ acc vs c', H3 D = some (.lst vs) ∧ F2 (en.r (Av (Ox O D) pp ρ) H3) vs acc ∧ Chg pp (upd H1 D (.lst [])) (upd H3 D (.lst [])) ∧ Sat PK (Ox O D) pp ρ c' σ H3 ∧ flatW w1 f vs.length (xs.drop (i + 1)) (fun ys c => Φ (acc ++ ys) c) noX c', fun H3 q => ⟨xs.length - (i + 1), by omega, rfl, hlt, q⟩, fun v H2 y => ?_⟩
    obtain ⟨us, H3, eus, sm, S3, hQ⟩ := src.yld i xs[i] H' v H2 pp ρ (Ox O D) c' (wipe σ (own.map (·.2))) (List.getElem?_eq_getElem hlt) mv (S'.wipe hn) y
    refine hQ _ ⟨wipe_setAll fun u hu => hj _ (by rw [← eus]; exact List.mem_map.mpr ⟨u, hu, rfl⟩), ?_⟩
    unfold tYes
    simp only [if_true]
    rw [List.drop_eq_getElem_cons hlt] at hw'
    refine ⟨xs[i], Ox O D, _, c', S3, hw', fun ys J1 H4 c4 p4 ch4 S4 src1 hz1 => ?_⟩
    have e4 : H4 D = some (.lst vs) := ch4 D _ (sm D _ eD) nf
    have hlen : vs.length + ys.length ≤ 16777216 := of_decide_eq_true p4.1
    have chg4 : Chg pp H' H4 := fun a o e hf => ch4 a o (sm a o e) hf
    have p42 : mapW (f xs[i]) ys (fun zs c => flatW w1 f (vs.length + ys.length) (xs.drop (i + 1)) (fun us c => Φ (acc ++ (zs ++ us)) c) noX c) noX c4 := p4.2
    refine ⟨fun j k H5 => k = ys.length - j ∧ j ≤ ys.length ∧ ∃ acc1 ws c5, H5 D = some (.lst (vs ++ ws)) ∧ ws.length = j ∧ F2 (en.r (Av (Ox O D) pp ρ) H5) ws acc1 ∧ Chg pp (upd H4 D (.lst [])) (upd H5 D (.lst [])) ∧ Sat PK (Ox O D) pp ρ c5 σ H5 ∧ Sat PK (Ox O D) pp (ext ρ xs[i]) c5 (setAll (wipe σ (own.map (·.2))) us) H5 ∧
      mapW (f xs[i]) (ys.drop j) (fun zs c => flatW w1 f (vs.length + ys.length) (xs.drop (i + 1)) (fun us c => Φ (acc ++ (acc1 ++ zs ++ us)) c) noX c) noX c5,
      ⟨ys.length, by simp, Nat.zero_le _, [], [], c4, by rw [List.append_nil]; exact e4, rfl, .nil, .refl, S'.chg chg4 S4.pool, S4, by simpa using p42⟩, ?_⟩
    rintro j kk H5 ⟨rfl, hj', acc1, ws, c5, e5, l5, f5, ch5, S5, S5e, hw5⟩
    have mv5 : Mv (Av (Ox O D) pp (ext ρ xs[i])) (Av (Ox O D) pp (ext ρ xs[i])) H4 H5 := fun a o n e => by
      have ne : a ≠ D := fun z => n (by rw [z]; exact .inl (.inr rfl))
      have z := ch5 a o (by rw [upd_ne ne]; exact e) fun z => n (.inr (.inl z))
      rw [upd_ne ne] at z
      exact ⟨z, n⟩
    by_cases hlt1 : j < ys.length
    · refine .inr ⟨src1.go j H5 _ hlt1 mv5, fun H6 => ∃ acc1 ws c5, H6 D = some (.lst (vs ++ ws)) ∧ ws.length = j + 1 ∧ F2 (en.r (Av (Ox O D) pp ρ) H6) ws acc1 ∧ Chg pp (upd H4 D (.lst [])) (upd H6 D (.lst [])) ∧ Sat PK (Ox O D) pp ρ c5 σ H6 ∧ Sat PK (Ox O D) pp (ext ρ xs[i]) c5 (setAll (wipe σ (own.map (·.2))) us) H6 ∧
        mapW (f xs[i]) (ys.drop (j + 1)) (fun zs c => flatW w1 f (vs.length + ys.length) (xs.drop (i + 1)) (fun us c => Φ (acc ++ (acc1 ++ zs ++ us)) c) noX c) noX c5, fun H6 q => ⟨ys.length - (j + 1), by omega, rfl, hlt1, q⟩, fun v6 H6 y6 => ?_⟩
      obtain ⟨us1, H7, eus1, sm7, S7, hQ7⟩ := src1.yld j ys[j] H5 v6 H6 pp (ext ρ xs[i]) (Ox O D) c5 (wipe (setAll (wipe σ (own.map (·.2))) us) vs1) (List.getElem?_eq_getElem hlt1) mv5 (S5e.wipe (hn1 _)) y6
      refine hQ7 _ ⟨wipe_setAll fun u hu => hj1 _ (by rw [← eus1]; exact List.mem_map.mpr ⟨u, hu, rfl⟩), ?_⟩
      rw [List.drop_eq_getElem_cons hlt1] at hw5
      refine ⟨(xs[i], ys[j]), Ox O D, _, c5, S7, hw5, fun y8 v8 H8 c8 q8 ch8 S8 r8 => ?_⟩
      have e8 : H8 D = some (.lst (vs ++ ws)) := ch8 D _ (sm7 D _ e5) nf
      have chg8 : Chg pp H5 H8 := fun a o e hf => ch8 a o (sm7 a o e) hf
      refine ⟨vs ++ ws, e8, by rw [List.length_append, l5, sizeLine_eq]; omega, acc1 ++ [y8], ws ++ [v8], c8, by rw [upd_same, List.append_assoc], by rw [List.length_append, l5]; rfl, ?_, ?_, (S5.chg chg8 S8.pool).updO (.inr rfl) nf, (S5e.chg chg8 S8.pool).updO (.inr rfl) nf, ?_⟩
      · have mv8 : Mv (Av (Ox O D) pp ρ) (Av (Ox O D) pp ρ) H5 (upd H8 D (.lst (vs ++ ws ++ [v8]))) := fun a o n e => by
          have ne : a ≠ D := fun z => n (by rw [z]; exact .inl (.inr rfl))
          rw [upd_ne ne]
          exact ⟨chg8 a o e fun z => n (.inr (.inl z)), n⟩
        have mv9 : Mv (Av (Ox O D) pp (ext1 (ext ρ xs[i]) ys[j])) (Av (Ox O D) pp ρ) H8 (upd H8 D (.lst (vs ++ ws ++ [v8]))) := fun a o n e => by
          have n' : ¬ Av (Ox O D) pp ρ a := fun z => n ((av2 _ _ a).mpr z)
          have ne : a ≠ D := fun z => n' (by rw [z]; exact .inl (.inr rfl))
          rw [upd_ne ne]
          exact ⟨e, n'⟩
        exact (f5.imp fun _ _ => en.mono mv8).append (.cons (en.mono mv9 r8) .nil)
      · intro a o e hf
        have z := ch5 a o e hf
        rw [upd_upd]
        by_cases ne : a = D
        · subst ne; rw [upd_same] at z ⊢; exact z
        · rw [upd_ne ne] at z ⊢
          exact chg8 a o z hf
      · have q2 : mapW (f xs[i]) (ys.drop (j + 1)) (fun zs c => flatW w1 f (vs.length + ys.length) (xs.drop (i + 1)) (fun us c => Φ (acc ++ (acc1 ++ (y8 :: zs) ++ us)) c) noX c) noX c8 := q8
        simpa [List.append_assoc] using q2
    · have e : j = ys.length := by omega
      subst e
      rw [List.drop_length] at hw5
      have hw6 : flatW w1 f (vs.length + ys.length) (xs.drop (i + 1)) (fun us c => Φ (acc ++ (acc1 ++ [] ++ us)) c) noX c5 := hw5
      refine .inl ⟨src1.stop H5 _ mv5, acc ++ acc1, vs ++ ws, c5, e5, ?_, ?_, S5, ?_⟩
      · have mv6 : Mv (Av (Ox O D) pp ρ) (Av (Ox O D) pp ρ) H' H5 := fun a o n e => by
          have ne : a ≠ D := fun z => n (by rw [z]; exact .inl (.inr rfl))
          have z := ch5 a o (by rw [upd_ne ne]; exact chg4 a o e fun z => n (.inr (.inl z))) fun z => n (.inr (.inl z))
          rw [upd_ne ne] at z
          exact ⟨z, n⟩
        exact (fD.imp fun _ _ => en.mono mv6).append f5
      · intro a o e hf
        have z := chD a o e hf
        by_cases ne : a = D
        · subst ne; rw [upd_same] at z ⊢; exact z
        · rw [upd_ne ne] at z ⊢
          have z2 := ch5 a o (by rw [upd_ne ne]; exact chg4 a o z hf) hf
          rw [upd_ne ne] at z2
          exact z2
      · rw [List.length_append, l5]
        simpa [List.append_assoc] using hw6
  · have e : i = xs.length := by omega
    subst e
    rw [List.drop_length] at hw'
    have hw2 : Φ (acc ++ []) c' := hw'
    rw [List.append_nil] at hw2
    refine .inl ⟨src.stop H' _ mv, k acc D vs H' c' hw2 hDH (fun a o e hf => ?_) S' eD fD⟩
    have ne : a ≠ D := ne_of_none e hDH
    have z := chD a o (by rw [upd_ne ne]; exact ch a o e hf) hf
    rw [upd_ne ne] at z
    exact z
theorem xlc2 {elt tg iter tg1 iter1 : Expr} {scope : Scope} {own : List (Str × Nat)} {vs1 : List Nat} {pos : Pos} {wi : W (List α)} {ext : List (Sl X.K) → α → List (Sl X.K)} {js : List Nat} {g : TG} {w1 : α → W (List γ)} {ext1 : List (Sl X.K) → γ → List (Sl X.K)} {js1 : List Nat} {g1 : TG} {f : α → γ → W β} {en : En X.K β}
    (hc : X.calm = true) (hN : X.N.Nodup) (hi : PI X tg iter (rdI PK pp ρ wi ext js g))
    (hi1 : ∀ (s : Shared) (H : Hp) (C : Addr) (cl : List (Str × Addr)) (fp : List Addr) (x : α), PI (X.blk s H scope (compEnvC scope cl C X.env) fp) tg1 iter1 (rdI PK pp (ext ρ x) (w1 x) ext1 js1 g1))
    (hg : ∀ (s : Shared) (H : Hp) (C : Addr) (cl : List (Str × Addr)) (fp : List Addr), PG (X.blk s H scope (compEnvC scope cl C X.env) fp) tg g)
    (hg1 : ∀ (s : Shared) (H : Hp) (C : Addr) (cl : List (Str × Addr)) (fp : List Addr), PG (X.blk s H scope (compEnvC scope cl C X.env) fp) tg1 g1)
    (he : ∀ (s : Shared) (H : Hp) (C : Addr) (cl : List (Str × Addr)) (fp : List Addr) (x : α) (y : γ), PX (X.blk s H scope (compEnvC scope cl C X.env) fp) PK pp (ext1 (ext ρ x) y) elt (f x y) en)
    (ok : BlkOk X.N X.env.scope scope own) (hv1 : ∀ i ∈ vs1, i ∈ own.map (·.2))
    (hj : ∀ j ∈ js, j ∈ own.map (·.2)) (hn : ∀ i ∈ own.map (·.2), get ρ i = .nil) (ho : ∀ x, owns (ext ρ x) = owns ρ) (hj1 : ∀ j ∈ js1, j ∈ vs1) (hn1 : ∀ x, ∀ i ∈ vs1, get (ext ρ x) i = .nil) (ho1 : ∀ x y, owns (ext1 (ext ρ x) y) = owns ρ)
    (hs : ∀ x, foldedSetIterable iter X.env x = pure x := by intro _; rfl) (hs1 : ∀ env x, foldedSetIterable iter1 env x = pure x := by intro _ _; rfl) :
    PE X (.ListComp elt [⟨tg, iter, [], 0⟩, ⟨tg1, iter1, [], 0⟩] scope pos) (rdF PK pp ρ (bnd wi fun xs => flatW w1 f 0 xs) en) :=
  (pe_lc2 hc hN hi ok hv1 hg (fun _ _ _ _ _ => pts_nil) (fun s H C cl fp => ⟨fun pins s' σ H Q I ⟨x, q⟩ => (hi1 s _ C cl fp x).run pins s' σ H Q I q⟩) hg1 (fun _ _ _ _ _ => pts_nil)
    (fun s H C cl fp => ⟨fun pins s' σ H Q I ⟨z, q⟩ => (he s _ C cl fp z.1 z.2).run pins s' σ H Q I q⟩) hs hs1).weak (lc_read2 hj hn ho hj1 hn1 ho1)
end
end Dc
/-! DcI: data of any form, isinstance, keywords, lcm, constants of the module. -/
namespace Dc
open PySem PySem.Spec L2
section
variable {X : Cx} {PK : PoolK} {pp : PP} {ρ : List (Sl X.K)} {α β γ δ : Type} {e a b : Expr} {es : List Expr} {pos : Pos}
theorem xcmpG {op : CmpOp} {wa : W α} {wb : W β} {e1 : En X.K α} {e2 : En X.K β} {e3 : En X.K γ} {pre : α → β → Bool} {res : α → β → γ} (ho : OpW X (compareOp op) e1 e2 e3 pre res) (ha : PX X PK pp ρ a wa e1) (hb : PX X PK pp ρ b wb e2) (hm : behindInMarks op b = false := by first | exact nomark _ | rfl) :
    PX X PK pp ρ (.Compare a [op] [b] pos) (bnd wa fun x => bnd wb fun y => grd (pre x y) (ret (res x y))) e3 := (pe_cmpR ho ha hb hm).weak fun σ H Q ⟨O, Φ, c, S, hw, k⟩ =>
  two S hw fun x y v u H' c' p ch S' r1 r2 => ⟨_, x, y, S'.av, r1, r2, p.1, fun z H2 s r3 => k _ _ _ _ p.2 (ch.trans (.of s)) (S'.same s) r3⟩
theorem tcmpG {op : CmpOp} {wa : W α} {wb : W β} {e1 : En X.K α} {e2 : En X.K β} {pre : α → β → Bool} {res : α → β → Bool} (ho : OpW X (compareOp op) e1 e2 eB pre res) (ha : PX X PK pp ρ a wa e1) (hb : PX X PK pp ρ b wb e2) (hm : behindInMarks op b = false := by first | exact nomark _ | rfl) :
    PTX X PK pp ρ (.Compare a [op] [b] pos) (bnd wa fun x => bnd wb fun y => grd (pre x y) (ret (res x y))) := (pt_cmpR ho ha hb hm).weak fun σ H Q ⟨O, Φ, c, S, hw, k⟩ =>
  two S hw fun x y v u H' c' p ch S' r1 r2 => ⟨_, x, y, S'.av, r1, r2, p.1, fun z H2 s r3 => ⟨_, r3, k _ _ _ p.2 (ch.trans (.of s)) (S'.same s)⟩⟩
/-! ### lcm -/
def lcmOk (a b : Int) : Bool := decide ((max 1 a.natAbs).log2 < 13470) && decide ((max a.natAbs b.natAbs).log2 < 13470)
theorem c_lcm : CallW X (.builtin "math.lcm") (a2 (eI : En X.K Int) eI) eI (fun x => lcmOk x.1 x.2.1) (fun x => ((Nat.lcm x.1.natAbs x.2.1.natAbs : Nat) : Int)) := by
  rintro pins s σ H xs us Q I r ⟨pp, A, x, d, ⟨v, _, rfl, q1, u, _, rfl, q2, rfl⟩, p, k⟩
  cases (show v = V.int x.1 from q1)
  cases (show u = V.int x.2.1 from q2)
  obtain ⟨t, t', rfl⟩ := Vals.int2 r
  simp only [lcmOk, Bool.and_eq_true, decide_eq_true_eq] at p
  have hz : ((((Nat.lcm 1 x.1.natAbs).lcm x.2.1.natAbs : Nat) : Int)).natAbs.log2 < bitsLine := by
    rw [PySem.W.mc_lcm_one]
    have e : bitsLine = 134217728 := by decide
    rw [e, Int.natAbs_natCast]
    have h1 : x.1.natAbs < 2 ^ 13471 := Nat.lt_of_le_of_lt (Nat.le_trans (Nat.le_max_left _ _) (Nat.le_refl (max x.1.natAbs x.2.1.natAbs))) (by
      by_cases h0 : max x.1.natAbs x.2.1.natAbs = 0
      · rw [h0]; exact Nat.two_pow_pos _
      · exact Nat.lt_of_lt_of_le ((Nat.log2_lt h0).mp (Nat.lt_succ_self _)) (Nat.pow_le_pow_right (by decide) (by omega)))
    have h2 : x.2.1.natAbs < 2 ^ 13471 := Nat.lt_of_le_of_lt (Nat.le_trans (Nat.le_max_right _ _) (Nat.le_refl (max x.1.natAbs x.2.1.natAbs))) (by
      by_cases h0 : max x.1.natAbs x.2.1.natAbs = 0
      · rw [h0]; exact Nat.two_pow_pos _
      · exact Nat.lt_of_lt_of_le ((Nat.log2_lt h0).mp (Nat.lt_succ_self _)) (Nat.pow_le_pow_right (by decide) (by omega)))
    have h3 : Nat.lcm x.1.natAbs x.2.1.natAbs < 2 ^ 26942 := by
      refine Nat.lt_of_le_of_lt (PySem.W.mc_lcm_le _ _) ?_
      rw [show 26942 = 13471 + 13471 from rfl, Nat.pow_add]
      exact Nat.mul_lt_mul'' h1 h2
    by_cases h0 : Nat.lcm x.1.natAbs x.2.1.natAbs = 0
    · rw [h0, Nat.log2_zero]; decide
    · exact Nat.lt_of_lt_of_le ((Nat.log2_lt h0).mpr h3) (by decide)
  refine call_function_meets PySem.W.MGF.kind_lcm PySem.W.MGF.plain_lcm PySem.W.MGF.entry_lcm (PySem.W.MGF.args_lcm _ _) (PySem.W.mg_run_lcm x.1 t x.2.1 t' (by have := p.1; omega) (by have := p.2; omega) hz).meets ?_
  rw [PySem.W.mc_lcm_one]
  exact ⟨.int _, H, I.tok _, ⟨_, rfl⟩, k _ _ (.refl _) rfl⟩

/-! ### data of any form -/
mutual
def toP : D → PyData
  | .non => .none
  | .bl b => .bool b
  | .int i => .int i
  | .str s => .str s
  | .lst ds => .list (toPs ds)
  | .tup ds => .tuple (toPs ds)
def toPs : List D → List PyData
  | [] => []
  | d :: ds => toP d :: toPs ds
end
mutual
theorem rD_dp {K : PySem.W.Frag} {O : AS} {H : Hp} : ∀ {v : V} (d : D), rD K O H v d → Dp K H v (toP d)
  | _, .non, h => by rw [show _ = _ from h]; exact .non
  | _, .bl _, h => by rw [show _ = _ from h]; exact .bl _
  | _, .int _, h => by rw [show _ = _ from h]; exact .int _
  | _, .str _, h => by rw [show _ = _ from h]; exact .str _
  | _, .lst ds, h => by
    obtain ⟨a, vs, e, l, r⟩ := (by simpa only [rD] using h : ∃ a vs, _)
    rw [e]
    exact .lst l.sq (rDs_dp ds r)
  | _, .tup ds, h => by
    obtain ⟨a, vs, e, l, r⟩ := (by simpa only [rD] using h : ∃ a vs, _)
    rw [e]
    exact .tup l.sq (rDs_dp ds r)
theorem rDs_dp {K : PySem.W.Frag} {O : AS} {H : Hp} : ∀ {vs : List V} (ds : List D), rDs K O H vs ds → DpAll K H vs (toPs ds)
  | _, [], h => by rw [show _ = _ from h]; exact .nil
  | _, d :: ds, h => by
    obtain ⟨v, r, e, p, q⟩ := (by simpa only [rDs] using h : ∃ v r, _)
    rw [e]
    exact .cons (rD_dp d p) (rDs_dp ds q)
end
theorem w_eqDD (hu : X.A.units + 64 < cLine) : OpW X (compareOp .Eq) (eD : En X.K D) eD eB (fun x y => SeqAt.shaped (toP x) && SeqAt.shaped (toP y)) (fun x y => PyData.eqv (toP x) (toP y)) := by
  intro pins s σ H x y v u Q I rx ry ⟨A, a, b, _, r1, r2, p, k⟩
  rw [Bool.and_eq_true] at p
  exact op_eqD hu pins s σ H x y v u Q I rx ry ⟨_, _, rD_dp a r1, rD_dp b r2, p.1, p.2, k _ _ (.refl _) rfl⟩
/-- a value told as data -/
structure ToD {K : PySem.W.Frag} {α : Type} (en : En K α) (to : α → D) : Prop where
  d : ∀ {O : AS} {H : Hp} {v : V} {x : α}, en.r O H v x → rD K O H v (to x)
theorem tdI {K : PySem.W.Frag} : ToD (eI : En K Int) .int := ⟨fun h => h⟩
theorem tdB {K : PySem.W.Frag} : ToD (eB : En K Bool) .bl := ⟨fun h => h⟩
theorem tdS {K : PySem.W.Frag} : ToD (eS : En K Str) .str := ⟨fun h => h⟩
theorem tdU {K : PySem.W.Frag} : ToD (eU : En K Unit) (fun _ => .non) := ⟨fun h => h⟩
theorem tdAll {K : PySem.W.Frag} {en : En K α} {to : α → D} (d : ToD en to) {O : AS} {H : Hp} {vs : List V} {xs : List α} (f : F2 (en.r O H) vs xs) : rDs K O H vs (xs.map to) := by
  induction f with
  | nil => rfl
  | cons r _ ih => exact ⟨_, _, rfl, d.d r, ih⟩
theorem tdL {K : PySem.W.Frag} {en : En K α} {to : α → D} (d : ToD en to) : ToD (eL en) (fun xs => .lst (xs.map to)) := ⟨fun ⟨a, vs, e, l, f⟩ => ⟨a, vs, e, l, tdAll d f⟩⟩
theorem tdP {K : PySem.W.Frag} {e1 : En K α} {e2 : En K β} {to : α → D} {to2 : β → D} (d : ToD e1 to) (d2 : ToD e2 to2) : ToD (eP e1 e2) (fun x => .tup [to x.1, to2 x.2]) := ⟨fun ⟨a, u, w, e, t, q1, q2⟩ => ⟨a, [u, w], e, t, _, _, rfl, d.d q1, _, _, rfl, d2.d q2, rfl⟩⟩
theorem tdO {K : PySem.W.Frag} {en : En K α} {to : α → D} (d : ToD en to) : ToD (eO en) (fun x => match x with | none => .non | some y => to y) := ⟨fun {O H v x} h => by
  cases x with
  | none => exact h
  | some y => exact d.d h.1⟩
theorem xD {w : W α} {en : En X.K α} {to : α → D} (d : ToD en to) (h : PX X PK pp ρ e w en) : PX X PK pp ρ e (bnd w fun x => ret (to x)) eD :=
  h.weak fun σ H Q ⟨O, Φ, c, S, hw, k⟩ => ⟨O, _, c, S, hw, fun x v H' c' p ch S' r => k _ v H' c' p ch S' (d.d r)⟩
def nonD : D → Bool
  | .non => true
  | _ => false
theorem xisND {j pos'} {w : W D} (h : PX X PK pp ρ a w eD) : PX X PK pp ρ (.Compare a [.Is] [.Constant .none j pos'] pos) (bnd w fun x => ret (nonD x)) eB :=
  (pe_cmp (pc_isN h)).weak fun σ H Q ⟨O, Φ, c, S, hw, k⟩ => ⟨O, _, c, S, hw, fun x v H' c' p ch S' r => by
    have hr : rD X.K (Av O pp ρ) H' v x := r
    cases x with
    | non => rw [show v = .non from hr]; exact k _ _ H' c' p ch S' rfl
    | bl y => rw [show v = _ from hr]; exact k _ _ H' c' p ch S' rfl
    | int y => rw [show v = _ from hr]; exact k _ _ H' c' p ch S' rfl
    | str y => rw [show v = _ from hr]; exact k _ _ H' c' p ch S' rfl
    | lst ds =>
      obtain ⟨a, vs, e, _⟩ := (by simpa only [rD] using hr : ∃ a vs, _)
      rw [e]; exact k _ _ H' c' p ch S' rfl
    | tup ds =>
      obtain ⟨a, vs, e, _⟩ := (by simpa only [rD] using hr : ∃ a vs, _)
      rw [e]; exact k _ _ H' c' p ch S' rfl⟩
def tyD : D → String
  | .non => "NoneType"
  | .bl _ => "bool"
  | .int _ => "int"
  | .str _ => "str"
  | .lst _ => "list"
  | .tup _ => "tuple"
theorem rD_ty {K : PySem.W.Frag} {O : AS} {H : Hp} {v : V} (d : D) (h : rD K O H v d) : TyX K H v (.type (tyD d)) := by
  cases d with
  | non => rw [show _ = _ from h]; exact .base .non
  | bl _ => rw [show _ = _ from h]; exact .base (.bl _)
  | int _ => rw [show _ = _ from h]; exact .base (.int _)
  | str _ => rw [show _ = _ from h]; exact .base (.str _)
  | lst ds =>
    obtain ⟨a, vs, e, l, _⟩ := (by simpa only [rD] using h : ∃ a vs, _)
    rw [e]; exact .base (.lst l.2)
  | tup ds =>
    obtain ⟨a, vs, e, l, _⟩ := (by simpa only [rD] using h : ∃ a vs, _)
    rw [e]
    rcases l with ⟨_, l | ⟨o, l⟩⟩ | ⟨o, its, n, l, ct, _⟩
    · exact .base (.tup l)
    · exact .fTuple l
    · exact .kTuple l ct
def isD (c : String) (d : D) : Bool := match d, c with
  | .bl _, "bool" => true | .bl _, "int" => true | .int _, "int" => true | .str _, "str" => true | .lst _, "list" => true | .tup _, "tuple" => true | _, _ => false
def isT (t c : String) : Bool := t == c || (t == "bool" && c == "int")
def tys : List String := ["NoneType", "bool", "int", "str", "list", "tuple"]
theorem isT_ok : (tys.all fun t => ["bool", "int", "str", "list", "tuple", "dict"].all fun c => decide (kitB t c = some (isT t c))) = true := by decide +kernel
theorem isD_ok {c : String} (h : c ∈ ["bool", "int", "str", "list", "tuple", "dict"]) (d : D) : kitB (tyD d) c = some (isD c d) := by
  have e : isD c d = isT (tyD d) c := by
    simp only [List.mem_cons, List.not_mem_nil, or_false] at h
    rcases h with rfl | rfl | rfl | rfl | rfl | rfl <;> cases d <;> rfl
  rw [e]
  have h1 : tyD d ∈ tys := by cases d <;> simp [tyD, tys]
  exact of_decide_eq_true (List.all_eq_true.mp (List.all_eq_true.mp isT_ok _ h1) _ h)
/-- isinstance(e, list), .. -/
theorem xisi {cn : Str} {c : String} {p p2 : Pos} {w : W D} (hm : X.mg "isinstance" = none) (hmc : X.mg cn = none) (hvc : bootBuiltins cn = some (.type c)) (hc : c ∈ ["bool", "int", "str", "list", "tuple", "dict"]) (h : PX X PK pp ρ a w eD) (hg : Gl X "isinstance" := by rfl) (hgc : Gl X cn := by rfl)
    (hn : cn ≠ "__name__" := by decide) (hdb : (cn == ("__debug__" : Str)) = false := by decide)
    (he : starEach [a, .Name cn p2] X.env = (false, eval a X.env) :: starEach [.Name cn p2] X.env := by rfl) (he2 : starEach [.Name cn p2] X.env = (false, eval (.Name cn p2) X.env) :: starEach [] X.env := by rfl) (hpl : (backTo pos (starEach [.Name cn p2] X.env)).any (·.1) = false := by rfl) :
    PX X PK pp ρ (.Call (.Name "isinstance" p) [a, .Name cn p2] [] pos) (bnd w fun x => ret (isD c x)) eB :=
  (pe_callB call_isi hg hm (by decide +kernel) (pa_cons h (pa_cons (pe_bltn (v := .ty c) hgc hmc hvc rfl hn hdb) pa_nil he2) he) (by decide) (by decide) he hpl).weak fun σ H Q ⟨O, Φ, c0, S, hw, k⟩ => ⟨O, _, c0, S, hw, fun x v H' c' p ch S' r =>
    ⟨v, .ty c, _, _, _, rfl, .ty c, rD_ty x r, kit_ty (isD_ok hc x), k _ _ H' c' p ch S' rfl⟩⟩
theorem kitAny_D {K : PySem.W.Frag} {d : D} {c1 c2 : String} (h1 : c1 ∈ ["bool", "int", "str", "list", "tuple", "dict"]) (h2 : c2 ∈ ["bool", "int", "str", "list", "tuple", "dict"]) : PySem.W.kitAny K (.type (tyD d)) [.type c1, .type c2] = some (isD c1 d || isD c2 d) := by
  refine kitAny_cons (kit_ty (isD_ok h1 d)) (fun q => ?_) (fun q => by rw [q]; rfl)
  rw [q, Bool.false_or]
  exact kitAny_cons (kit_ty (isD_ok h2 d)) (fun q => by rw [q]; exact kitAny_nil) fun q => q
theorem xisi2 {cn cn2 : Str} {c c2 : String} {k1} {p p2 p3 p4 : Pos} {w : W D} (hm : X.mg "isinstance" = none) (hmc : X.mg cn = none) (hvc : bootBuiltins cn = some (.type c)) (hc : c ∈ ["bool", "int", "str", "list", "tuple", "dict"]) (hmc2 : X.mg cn2 = none) (hvc2 : bootBuiltins cn2 = some (.type c2)) (hc2 : c2 ∈ ["bool", "int", "str", "list", "tuple", "dict"]) (h : PX X PK pp ρ a w eD)
    (hg : Gl X "isinstance" := by rfl) (hgc : Gl X cn := by rfl) (hgc2 : Gl X cn2 := by rfl) (hn : cn ≠ "__name__" := by decide) (hdb : (cn == ("__debug__" : Str)) = false := by decide) (hn2 : cn2 ≠ "__name__" := by decide) (hdb2 : (cn2 == ("__debug__" : Str)) = false := by decide)
    (he : starEach [a, .Tuple [.Name cn p2, .Name cn2 p3] k1 p4] X.env = (false, eval a X.env) :: starEach [.Tuple [.Name cn p2, .Name cn2 p3] k1 p4] X.env := by rfl) (he2 : starEach [.Tuple [.Name cn p2, .Name cn2 p3] k1 p4] X.env = (false, eval (.Tuple [.Name cn p2, .Name cn2 p3] k1 p4) X.env) :: starEach [] X.env := by rfl)
    (hs1 : starEach [Expr.Name cn p2, Expr.Name cn2 p3] X.env = (false, eval (.Name cn p2) X.env) :: starEach [Expr.Name cn2 p3] X.env := by rfl) (hs2 : starEach [Expr.Name cn2 p3] X.env = (false, eval (.Name cn2 p3) X.env) :: starEach [] X.env := by rfl)
    (hpl : (backTo pos (starEach [.Tuple [.Name cn p2, .Name cn2 p3] k1 p4] X.env)).any (·.1) = false := by rfl) :
    PX X PK pp ρ (.Call (.Name "isinstance" p) [a, .Tuple [.Name cn p2, .Name cn2 p3] k1 p4] [] pos) (bnd w fun x => ret (isD c x || isD c2 x)) eB :=
  (pe_callB call_isiT hg hm (by decide +kernel) (pa_cons h (pa_cons (pe_tup (pa_cons (pe_bltn (v := .ty c) hgc hmc hvc rfl hn hdb) (pa_cons (pe_bltn (v := .ty c2) hgc2 hmc2 hvc2 rfl hn2 hdb2) pa_nil hs2) hs1)) pa_nil he2) he) (by decide) (by decide) he hpl).weak fun σ H Q ⟨O, Φ, c0, S, hw, k⟩ => ⟨O, _, c0, S, hw, fun x v H' c' p ch S' r => by
    refine ⟨by show 2 ≤ sizeLine; decide, fun q nq => ?_⟩
    have s := same_new (o := .tup [.ty c, .ty c2]) nq
    exact ⟨v, q, _, _, _, _, rfl, upd_same, .cons (.ty c) (.cons (.ty c2) .nil), rD_ty x (rD.mono (Mv.same s) x r), kitAny_D hc hc2, k _ _ _ c' p (ch.trans (.of s)) (S'.same s) rfl⟩⟩
/-- len(d), d[i] -/
def lenD : D → Nat
  | .lst ds => ds.length
  | .tup ds => ds.length
  | _ => 0
def seqD : D → Bool
  | .lst _ => true
  | .tup _ => true
  | _ => false
def itemsD : D → List D
  | .lst ds => ds
  | .tup ds => ds
  | _ => []
theorem rDs_F2 {K : PySem.W.Frag} {O : AS} {H : Hp} : ∀ {vs : List V} {ds : List D}, rDs K O H vs ds → F2 (rD K O H) vs ds
  | _, [], h => by rw [show _ = _ from h]; exact .nil
  | _, d :: ds, h => by
    obtain ⟨v, r, e, p, q⟩ := (by simpa only [rDs] using h : ∃ v r, _)
    rw [e]; exact .cons p (rDs_F2 q)
theorem rD_seq {K : PySem.W.Frag} {O : AS} {H : Hp} {v : V} (d : D) (hs : seqD d = true) (h : rD K O H v d) : ∃ a vs, v = .ref a ∧ (SqL K H a vs ∨ SqT K H a vs) ∧ F2 (rD K O H) vs (itemsD d) := by
  cases d with
  | lst ds =>
    obtain ⟨a, vs, e, l, r⟩ := (by simpa only [rD] using h : ∃ a vs, _)
    exact ⟨a, vs, e, .inl l.sq, rDs_F2 r⟩
  | tup ds =>
    obtain ⟨a, vs, e, l, r⟩ := (by simpa only [rD] using h : ∃ a vs, _)
    exact ⟨a, vs, e, .inr l.sq, rDs_F2 r⟩
  | _ => cases hs
theorem c_lenD : CallW X (.builtin "len") (a1 (eD : En X.K D)) eI (fun x => seqD x.1) (fun x => ((itemsD x.1).length : Int)) := by
  rintro pins s σ H xs us Q I r ⟨pp, A, x, _, ⟨v, _, rfl, q, rfl⟩, p, k⟩
  obtain ⟨a, vs, rfl, l, f⟩ := rD_seq x.1 p q
  exact call_len_seq pins s σ H _ us Q I r ⟨a, vs, rfl, l, k _ _ (.refl _) (by rw [f.length]; rfl)⟩
instance : Inhabited D := ⟨.non⟩
theorem w_ixD : IxW X (eD : En X.K D) eI eD (fun x i => seqD x && ixOk (itemsD x) i) (fun x i => ixAt (itemsD x) i) := by
  intro va sl pins s σ H x y v u Q I rx ry ⟨A, d, i, _, r1, r2, p, k⟩ hs
  rw [Bool.and_eq_true] at p
  obtain ⟨a, vs, e1, l, f⟩ := rD_seq d p.1 r1
  obtain ⟨j, hj⟩ := Option.isSome_iff_exists.mp p.2
  have hlt := ixN_lt hj
  obtain ⟨v1, g, rv⟩ := f.get (List.getElem?_eq_getElem hlt)
  have hat : atI vs i = some v1 := by
    unfold atI
    rw [f.length, hj]
    exact g
  have hq : Q v1 H := k _ (by
    show rD X.K A H v1 ((itemsD d).getD ((ixN (itemsD d).length i).getD 0) default)
    rw [hj, Option.getD_some, List.getD_eq_getElem?_getD, List.getElem?_eq_getElem hlt]
    exact rv)
  rcases l with l | l
  · exact ix_list va sl pins s σ H x y v u Q I rx ry ⟨a, vs, i, v1, e1, r2, l, hat, hq⟩ hs
  · exact ix_tup va sl pins s σ H x y v u Q I rx ry ⟨a, vs, i, v1, e1, r2, l, hat, hq⟩ hs

/-! ### keywords alone -/
abbrev PKX (X : Cx) (PK : PoolK) (pp : PP) (ρ : List (Sl X.K)) (kws : List Keyword) (w : W α) (en : EA X.K α) : Prop := L2.PK X kws (rdA PK pp ρ w en)
theorem _root_.L2.PK.weak {X : Cx} {e : List Keyword} {t t' : TA} (h : L2.PK X e t) (f : ∀ σ H Q, t' σ H Q → t σ H Q) : L2.PK X e t' := ⟨fun pos pins s σ H Q I q => h.run pos pins s σ H Q I (f σ H Q q)⟩
theorem kxn : PKX X PK pp ρ [] (ret ()) aN := (pk_nil).weak fun σ H Q ⟨O, Φ, c, S, hw, k⟩ => k () [] H c hw .refl S rfl
theorem kxc {kws : List Keyword} {nm : Option Str} {kpos : Pos} {w : W α} {u : W β} {en : En X.K α} {ea : EA X.K β} (h : PX X PK pp ρ e w en) (h2 : PKX X PK pp ρ kws u ea) :
    PKX X PK pp ρ (⟨nm, e, kpos⟩ :: kws) (bnd w fun x => bnd u fun y => ret (x, y)) (aC en ea) := (pk_cons h h2).weak fun σ H Q ⟨O, Φ, c, S, hw, k⟩ =>
  ⟨O, _, c, S, hw, fun x v H1 c1 p1 ch1 S1 r1 => ⟨O, _, c1, S1, p1, fun y u H2 c2 p2 ch2 S2 r2 => k _ _ H2 c2 p2 (ch1.trans ch2) S2 ⟨v, u, rfl, en.mono ch2.mv r1, r2⟩⟩⟩
theorem pe_callK0 {CX : CXT} {k : Nat} {f : Addr} {fd : FuncData} {ps ks : List Str} {sp : Sp} {E : XK} {x : Str} {p : Pos} {kws : List Keyword} {tk : TA} {g : List Value → List Value → List Value} {gV : List V → List V → List V} (F : FnOk X.prog X.w X.K X.mg X.base CX k f fd ps sp) (hr : Room k X.A) (hg : Gl X x) (hm : X.mg x = some (.ref f)) (hk : PySem.W.keepIn X.K (.ref f) = true) (hb : KBinds X.K fd ps ks g gV) (hx : Passes CX X E)
    (hkw : L2.PK X kws tk) (hall : (backToKw pos (keywordEach kws X.env)).all (·.1.isSome) = true := by rfl) (hks : (backToKw pos (keywordEach kws X.env)).filterMap (·.1) = ks := by rfl) (hdb : (x == ("__debug__" : Str)) = false := by decide)
    (hpl : ((backTo pos (starEach [] X.env)).any (·.1) || (backToKw pos (keywordEach kws X.env)).any (·.1.isNone)) = false := by rfl) : PE X (.Call (.Name x p) [] kws pos) (tCallK sp gV E tNil tk) := by
  refine ⟨fun pins s σ H Q I h => ?_⟩
  refine wpAny_Call_Name_kw (ld_glob I hg hm ?_ hdb)
  refine PySem.W.callWith_KW0 (h₀ := X.base) I.ok.mod.kin hk hall (thn (hkw.run pos pins s σ H _ I h) fun ws s2 ⟨zs, H2, I2, rz, q2⟩ => ⟨I2.kIn, ?_⟩) hpl
  rw [hks]
  exact run_fnk F hr hb hx I2 (.nil) rz q2
/-- f(k = v, ..): pm puts what the keywords hold in the parameters' order -/
theorem xcallK {k : Nat} {f : Addr} {fd : FuncData} {ps ks : List Str} {x : Str} {p : Pos} {kws : List Keyword} {ea : EA X.K α} {ek : EA X.K δ} {er : En X.K β} {fw : α → W β} {wa : W δ} {g : List Value → List Value → List Value} {gV : List V → List V → List V} (pm : δ → α) (F : FnOk X.prog X.w X.K X.mg X.base CX0 k f fd ps (spW PK ea fw er)) (hr : Room k X.A) (hm : X.mg x = some (.ref f)) (hk : PySem.W.keepIn X.K (.ref f) = true)
    (hb : KBinds X.K fd ps ks g gV) (ha : PKX X PK pp ρ kws wa ek) (hpm : ∀ {pp O H zs y}, ek.r pp O H zs y → ea.r pp O H (gV [] zs) (pm y)) (hg : Gl X x := by rfl) (hall : (backToKw pos (keywordEach kws X.env)).all (·.1.isSome) = true := by rfl) (hks : (backToKw pos (keywordEach kws X.env)).filterMap (·.1) = ks := by rfl)
    (hdb : (x == ("__debug__" : Str)) = false := by decide) (hpl : ((backTo pos (starEach [] X.env)).any (·.1) || (backToKw pos (keywordEach kws X.env)).any (·.1.isNone)) = false := by rfl) : PX X PK pp ρ (.Call (.Name x p) [] kws pos) (bnd wa fun y => fw (pm y)) er :=
  (pe_callK0 F hr hg hm hk hb pass0 ha hall hks hdb hpl).weak fun σ H Q ⟨O, Φ, c, S, hw, kk⟩ => ⟨O, _, c, S, hw, fun y vs H1 c1 p1 ch1 S1 r1 =>
    ⟨pp, Av O pp ρ, pm y, Φ, c1, S1.av, fun a h => .inr (.inl h), S1.pool, hpm r1, p1, fun z v H2 c2 p2 ch2 pl2 rz => kk z v H2 c2 p2 (ch1.trans ch2) (S1.chg ch2 pl2) rz⟩⟩
/-! ### numbers of the module -/
theorem kTup_en {K : PySem.W.Frag} {a : Addr} {i j : Int} (h : kTup K a [.int i, .int j]) (O : AS) (H : Hp) : (eN : En K (Int × Int)).r O H (.ref a) (i, j) := ⟨a, _, _, rfl, .inr h, rfl, rfl⟩
end
end Dc
/-! DcP: the pool of draws of the first laws: [great cells, figures left, mark, draws so far]. -/
namespace Dc
open PySem PySem.Spec L2
/-- the pool's state: all that bounds ask -/
def poolA : PoolK where
  r H a b c := ∃ (gs : List Int) (f m d : Int), H a = some (.lst [.ref b, .int f, .int m, .int d]) ∧ H b = some (.lst (gs.map V.int)) ∧ a ≠ b ∧ (∀ g ∈ gs, 0 ≤ g) ∧ 0 ≤ f ∧ 0 ≤ m ∧ m ≤ 10 ^ 30 ∧ 0 ≤ d ∧ d ≤ c
  keep := fun {H H' a b c} ha hb ⟨gs, f, m, d, e1, e2, z⟩ => ⟨gs, f, m, d, ha.trans e1, hb.trans e2, z⟩
  dom := fun {H a b c} ⟨gs, f, m, d, e1, e2, z⟩ => ⟨by rw [e1]; simp, by rw [e2]; simp⟩
/-- a draw: any number below many -/
def pickW (many : Int) : W Int := fun Φ _ c => (0 < many ∧ many.natAbs.log2 < 9000 ∧ c < 2 ^ 1000) ∧ ∀ k, 0 ≤ k → k < many → Φ k (c + 1)
theorem bits_lt {i : Int} {n : Nat} (h : i.natAbs < 2 ^ n) : Builtin.Int.intBits i ≤ n := by
  unfold Builtin.Int.intBits
  split
  · exact Nat.zero_le _
  · have : i.natAbs.log2 < n := (Nat.log2_lt (by simp_all)).mpr h
    omega
section
variable {P : Program} {w : World} {K : PySem.W.Frag} {mg : Str → Option Value} {base : Heap}
theorem big_lt {x m d : Int} {c : Nat} (hc : c < 2 ^ 1000) (d0 : 0 ≤ d) (d1 : d ≤ (c : Int)) (m0 : 0 ≤ m) (m1 : m ≤ 10 ^ 40) {q : Int} (q0 : 0 ≤ q) (q1 : q ≤ 2 ^ 20) (e : x = m + q * (d + 1)) : x.natAbs < 2 ^ 1030 := by
  have h1 : (c : Int) < 2 ^ 1000 := by exact_mod_cast hc
  have e1 : (2 : Int) ^ 1030 = 2 ^ 1000 * 1073741824 := by decide +kernel
  have e2 : (10 : Int) ^ 40 ≤ 2 ^ 1000 := by decide +kernel
  have e3 : (2 : Int) ^ 20 = 1048576 := by decide
  have h3 : q * (d + 1) ≤ 1048576 * (d + 1) := Int.mul_le_mul_of_nonneg_right (by omega) (by omega)
  have h4 : 0 ≤ q * (d + 1) := Int.mul_nonneg q0 (by omega)
  have h5 : x < 2 ^ 1030 := by
    rw [e1]
    generalize (2 : Int) ^ 1000 = z at *
    generalize q * (d + 1) = y at *
    omega
  have h6 : 0 ≤ x := by omega
  have : ((x.natAbs : Nat) : Int) < ((2 ^ 1030 : Nat) : Int) := by
    rw [Int.natAbs_of_nonneg h6]
    exact_mod_cast h5
  exact_mod_cast this
end
section
variable {K : PySem.W.Frag}
theorem dpInts {H : Hp} : ∀ gs : List Int, DpAll K H (gs.map V.int) (gs.map PyData.int)
  | [] => .nil
  | g :: r => .cons (.int g) (dpInts r)
theorem layInts : ∀ gs : List Int, PyData.canLayAll0 (gs.map PyData.int) = true
  | [] => rfl
  | g :: r => by
    show (PyData.canLay0 (.int g) && PyData.canLayAll0 (r.map PyData.int)) = true
    rw [layInts r]
    rfl
theorem depInts : ∀ gs : List Int, PyData.depthAll (gs.map PyData.int) = 0
  | [] => rfl
  | g :: r => by
    show max (PyData.depth (.int g)) (PyData.depthAll (r.map PyData.int)) = 0
    rw [depInts r]
    rfl
theorem shInts (gs : List Int) : SeqAt.shaped (.list (gs.map PyData.int)) = true := by
  have h1 : PyData.canLay0 (.list (gs.map PyData.int)) = true := layInts gs
  have h2 : PyData.depth (.list (gs.map PyData.int)) = 1 := by
    show PyData.depthAll (gs.map PyData.int) + 1 = 1
    rw [depInts]
  unfold SeqAt.shaped
  rw [h1, h2]
  rfl
/-- the pool as it stands -/
def PoolSt (a b : Addr) (m d : Int) (gs : List Int) (f : Int) (H : Hp) : Prop := H a = some (.lst [.ref b, .int f, .int m, .int d]) ∧ H b = some (.lst (gs.map V.int)) ∧ a ≠ b ∧ (∀ g ∈ gs, 0 ≤ g) ∧ 0 ≤ f
theorem pool_while {X : Cx} {st : Stmt} {u : X.A.units + 64 < cLine} {tc : TT} {tb : TS} (h : PS X st (tWhile tc tb)) {a b : Addr} {m d : Int} {x : Int}
    (hstep : ∀ gs f H1, PoolSt a b m d gs f H1 → ∀ (R : Bool → Hp → Prop), (∀ H2, Same H1 H2 → R (decide (f = 0) && !gs.isEmpty) H2) → tc [some (.ref a), some (.int x), none, none] H1 R)
    (hbody : ∀ g gs f H1 (D : Ends), PoolSt a b m d (g :: gs) f H1 → (∀ H2, PoolSt a b m d gs g H2 → Chg (some (a, b)) H1 H2 → D.nx [some (.ref a), some (.int x), none, none] H2) → tb D [some (.ref a), some (.int x), none, none] H1) :
    PS X st (fun D σ H => σ = [some (.ref a), some (.int x), none, none] ∧ ∃ gs f, PoolSt a b m d gs f H ∧ ∀ gs f H2, PoolSt a b m d gs f H2 → Chg (some (a, b)) H H2 → D.nx σ H2) := h.weak fun D σ H ⟨hs, gs, f, hp, k⟩ => by
  subst hs
  refine ⟨fun n σ H1 => σ = [some (.ref a), some (.int x), none, none] ∧ ∃ gs f, n = gs.length ∧ PoolSt a b m d gs f H1 ∧ Chg (some (a, b)) H H1, ⟨_, rfl, gs, f, rfl, hp, .refl⟩, ?_⟩
  rintro n σ H1 ⟨rfl, gs, f, rfl, hp1, ch⟩
  refine hstep gs f H1 hp1 _ fun H2 s2 => ?_
  have hp2 : PoolSt a b m d gs f H2 := ⟨s2 _ _ hp1.1, s2 _ _ hp1.2.1, hp1.2.2⟩
  have ch2 : Chg (some (a, b)) H H2 := ch.trans (.of s2)
  cases gs with
  | nil =>
    rw [List.isEmpty_nil, Bool.not_true, Bool.and_false, if_neg Bool.false_ne_true]
    exact k [] f H2 hp2 ch2
  | cons g gs =>
    by_cases e : f = 0
    · rw [if_pos (by simp [e])]
      refine ⟨fun σ H3 => σ = [some (.ref a), some (.int x), none, none] ∧ PoolSt a b m d gs g H3 ∧ Chg (some (a, b)) H H3, fun σ H3 ⟨q1, q2, q3⟩ => ⟨gs.length, by simp, q1, gs, g, rfl, q2, q3⟩, ?_⟩
      exact hbody g gs f H2 _ hp2 fun H3 p3 c3 => ⟨rfl, p3, ch2.trans c3⟩
    · rw [if_neg (by simp [e])]
      exact k _ f H2 hp2 ch2
/-- the pool made of the script -/
def spPool (K : PySem.W.Frag) : Sp := fun vs H Q _ => ∃ (a : Addr) (ns : List Int), vs = [.ref a] ∧ SqL K H a (ns.map V.int) ∧ ns.length ≤ 63 ∧ ∀ H' p b, Same H H' → H p = none → H b = none → poolA.r H' p b 0 → Q (.ref p) H'
end
end Dc
/-! DcQ: the forms that dc.py writes. -/
namespace Dc
open PySem PySem.Spec L2
section
variable {X : Cx} {PK : PoolK} {pp : PP} {ρ : List (Sl X.K)} {α β γ δ : Type} {e a b : Expr} {pos : Pos}
theorem nil1 {i : Nat} (h : get ρ i = .nil) : ∀ k ∈ [i], get ρ k = .nil := fun k hk => by
  have e : k = i := by simpa using hk
  rw [e]; exact h
theorem nil2 {i j : Nat} (h : get ρ i = .nil) (h2 : get ρ j = .nil) : ∀ k ∈ [i, j], get ρ k = .nil := fun k hk => by
  rcases List.mem_cons.mp hk with e | hk
  · rw [e]; exact h
  · have e : k = j := by simpa using hk
    rw [e]; exact h2
theorem nil3 {i j l : Nat} (h : get ρ i = .nil) (h2 : get ρ j = .nil) (h3 : get ρ l = .nil) : ∀ k ∈ [i, j, l], get ρ k = .nil := fun k hk => by
  rcases List.mem_cons.mp hk with e | hk
  · rw [e]; exact h
  · exact nil2 h2 h3 k hk
/-- the slots, written out -/
theorem re {ss : List Stmt} {w : W (Fl γ δ β)} {ρ' : γ → List (Sl X.K)} {ρl : δ → List (Sl X.K)} {er : En X.K β} (ρ1 : List (Sl X.K)) (h : ρ = ρ1) (k : PSX X PK pp ρ1 ss w ρ' ρl er) : PSX X PK pp ρ ss w ρ' ρl er := by
  rw [h]; exact k
/-- if, the branch leaves -/
theorem nif0 {c : Expr} {a : List Stmt} {w : W Bool} {u : W (Fl Unit δ β)} {ρl : δ → List (Sl X.K)} {er : En X.K β} (hc : PTX X PK pp ρ c w) (ha : PSX X PK pp ρ a u (fun _ : Unit => ρ) ρl er) :
    PS X (.If c a [] pos) (rdS PK pp ρ (bnd w fun x => ite x u (ret (Fl.nx ()))) (fun _ : Unit => ρ) ρl er) := nif hc ha (snil Fit.refl)
theorem nifJ (F : List (Sl X.K) → γ → List (Sl X.K)) {c : Expr} {a b : List Stmt} {w : W Bool} {u v : W (Fl γ δ β)} {ρl : δ → List (Sl X.K)} {er : En X.K β} (hc : PTX X PK pp ρ c w) (ha : PSX X PK pp ρ a u (F ρ) ρl er) (hb : PSX X PK pp ρ b v (F ρ) ρl er) :
    PS X (.If c a b pos) (rdS PK pp ρ (bnd w fun x => ite x u v) (F ρ) ρl er) := nif hc ha hb
theorem nforJ (F : List (Sl X.K) → γ → List (Sl X.K)) {iter tg : Expr} {body : List Stmt} {wi : W (List α)} {ext : List (Sl X.K) → α → List (Sl X.K)} {js : List Nat} {g : TG} {f : γ → α → W (Fl γ γ β)} {ρl : δ → List (Sl X.K)} {er : En X.K β} {s0 : γ}
    (hp : PassesOwn (model X.prog X.w) X.A X.env X.xe) (hc : X.calm = true) (hi : PI X tg iter (rdI PK pp ρ wi ext js g)) (hg : PG X tg g) (hf : Fit ρ (F ρ s0)) (hb : ∀ s x, PSX X PK pp (ext (F ρ s) x) body (f s x) (F ρ) (F ρ) er)
    (hs : ∀ x, foldedSetIterable iter X.env x = pure x := by intro _; rfl) : PS X (.For tg iter body [] pos) (rdS PK pp ρ (bnd wi fun xs => forW f s0 xs) (F ρ) ρl er) := nfor hp hc hi hg hf hb hs
theorem nwhileJ (F : List (Sl X.K) → γ → List (Sl X.K)) {c : Expr} {body : List Stmt} {t : γ → W Bool} {f : γ → W (Fl γ γ β)} {ρl : δ → List (Sl X.K)} {er : En X.K β} {s0 : γ} (fuel : Nat)
    (hp : PassesOwn (model X.prog X.w) X.A X.env X.xe) (hf : Fit ρ (F ρ s0)) (ht : ∀ s, PTX X PK pp (F ρ s) c (t s)) (hb : ∀ s, PSX X PK pp (F ρ s) body (f s) (F ρ) (F ρ) er) :
    PS X (.While c body [] pos) (rdS PK pp ρ (whW t f fuel s0) (F ρ) ρl er) := nwhile fuel hp hf ht hb
/-- x is None, as a test -/
theorem tisND {j pos'} {w : W D} (h : PX X PK pp ρ a w eD) : PTX X PK pp ρ (.Compare a [.Is] [.Constant .none j pos'] pos) (bnd w fun x => ret (nonD x)) :=
  (pt_cmp (pc_isN h)).weak fun σ H Q ⟨O, Φ, c, S, hw, k⟩ => ⟨O, _, c, S, hw, fun x v H' c' p ch S' r => by
    have hr : rD X.K (Av O pp ρ) H' v x := r
    cases x with
    | non => rw [show v = .non from hr]; exact ⟨_, rfl, k _ _ c' p ch S'⟩
    | bl y => rw [show v = _ from hr]; exact ⟨_, rfl, k _ _ c' p ch S'⟩
    | int y => rw [show v = _ from hr]; exact ⟨_, rfl, k _ _ c' p ch S'⟩
    | str y => rw [show v = _ from hr]; exact ⟨_, rfl, k _ _ c' p ch S'⟩
    | lst ds =>
      obtain ⟨a, vs, e, _⟩ := (by simpa only [rD] using hr : ∃ a vs, _)
      rw [e]; exact ⟨_, rfl, k _ _ c' p ch S'⟩
    | tup ds =>
      obtain ⟨a, vs, e, _⟩ := (by simpa only [rD] using hr : ∃ a vs, _)
      rw [e]; exact ⟨_, rfl, k _ _ c' p ch S'⟩⟩
theorem tisN {j pos'} {w : W (Option α)} {en : En X.K α} (h : PX X PK pp ρ a w (eO en)) : PTX X PK pp ρ (.Compare a [.Is] [.Constant .none j pos'] pos) (bnd w fun x => ret x.isNone) :=
  (pt_cmp (pc_isN h)).weak fun σ H Q ⟨O, Φ, c, S, hw, k⟩ => ⟨O, _, c, S, hw, fun x v H' c' p ch S' r => by
    cases x with
    | none =>
      have e : v = .non := r
      exact ⟨_, by rw [e]; rfl, k _ _ c' p ch S'⟩
    | some y => exact ⟨_, (by show V.bl _ = V.bl false; rw [decide_eq_false r.2]), k _ _ c' p ch S'⟩⟩
/-- data not too deep -/
structure Shp {α : Type} (to : α → PyData) (n : Nat) : Prop where
  cl : ∀ x, (to x).canLay0 = true
  dp : ∀ x, (to x).depth ≤ n
theorem shx {α : Type} {to : α → PyData} {n : Nat} (h : Shp to n) (hn : n ≤ 64 := by decide) (x : α) : SeqAt.shaped (to x) = true := by
  unfold SeqAt.shaped; rw [h.cl x, Bool.true_and]; exact decide_eq_true (Nat.le_trans (h.dp x) hn)
theorem shI : Shp PyData.int 0 := ⟨fun _ => rfl, fun _ => Nat.le_refl _⟩
theorem shB : Shp PyData.bool 0 := ⟨fun _ => rfl, fun _ => Nat.le_refl _⟩
theorem shStr (h : ∀ x : Str, (PyData.str x).canLay0 = true) : Shp PyData.str 0 := ⟨h, fun _ => Nat.le_refl _⟩
theorem shP {α β : Type} {to : α → PyData} {to2 : β → PyData} {n m : Nat} (h : Shp to n) (h2 : Shp to2 m) : Shp (fun z : α × β => PyData.tuple [to z.1, to2 z.2]) (max n m + 1) := by
  refine ⟨fun z => ?_, fun z => ?_⟩
  · simp [PyData.canLay0, PyData.canLayAll0, h.cl, h2.cl]
  · have := h.dp z.1
    have := h2.dp z.2
    simp only [PyData.depth, PyData.depthAll]
    omega
theorem shL {α : Type} {to : α → PyData} {n : Nat} (h : Shp to n) : Shp (fun z : List α => PyData.list (z.map fun y => to y)) (n + 1) := by
  have h1 : ∀ l : List α, PyData.canLayAll0 (l.map fun y => to y) = true := fun l => by
    induction l with
    | nil => rfl
    | cons a r ih => simp [PyData.canLayAll0, h.cl, ih]
  have h2 : ∀ l : List α, PyData.depthAll (l.map fun y => to y) ≤ n := fun l => by
    induction l with
    | nil => exact Nat.zero_le _
    | cons a r ih =>
      have := h.dp a
      simp only [List.map_cons, PyData.depthAll]
      omega
  refine ⟨fun z => ?_, fun z => ?_⟩
  · simp only [PyData.canLay0]; exact h1 z
  · have := h2 z
    simp only [PyData.depth]
    omega
/-- a, b, c = e1, e2, e3 -/
abbrev a3 {K : PySem.W.Frag} (e1 : En K α) (e2 : En K β) (e3 : En K γ) : EA K (α × β × γ × Unit) := aC e1 (aC e2 (aC e3 aN))
theorem npar3 (i j l : Nat) {x y z : Str} {a b c : Expr} {px py pz pt : Pos} {kt k2 pt2} {w : W (α × β × γ × Unit)} {e1 : En X.K α} {e2 : En X.K β} {e3 : En X.K γ} (hc : X.calm = true) (hN : X.N.Nodup) (h : PAX X PK pp ρ [a, b, c] w (a3 e1 e2 e3)) (hij : i ≠ j := by decide) (hil : i ≠ l := by decide) (hjl : j ≠ l := by decide)
    (hi : X.N[i]? = some x := by rfl) (hj : X.N[j]? = some y := by rfl) (hl : X.N[l]? = some z := by rfl)
    (hx : X.env.scope.names.lookup x = some .local := by rfl) (hy : X.env.scope.names.lookup y = some .local := by rfl) (hz : X.env.scope.names.lookup z = some .local := by rfl) (hw : swappedStores [.Tuple [.Name x px, .Name y py, .Name z pz] kt pt] (.Tuple [a, b, c] k2 pt2) X.env = pure (some [x, y, z]) := by rfl)
    (hs : swapsWithSole [.Tuple [.Name x px, .Name y py, .Name z pz] kt pt] (.Tuple [a, b, c] k2 pt2) pos.line X.env = pure false := by rfl) :
    PS X (.Assign [.Tuple [.Name x px, .Name y py, .Name z pz] kt pt] (.Tuple [a, b, c] k2 pt2) pos) (rdN PK pp ρ w fun (_ : Unit) z => put (put (put ρ i (.sh e1 z.1)) j (.sh e2 z.2.1)) l (.sh e3 z.2.2.1)) :=
  (ps_par3 hc hN hi hj hl hij hil hjl hx hy hz h hw hs).weak fun D σ H ⟨O, Φ, c, S, hw, k⟩ => ⟨O, _, c, S, hw, fun z v H1 c1 p1 ch S1 r => by
    obtain ⟨u, _, rfl, q1, w, _, rfl, q2, y, _, rfl, q3, rfl⟩ := r
    have less : ∀ {ρ : List (Sl X.K)} {α : Type} {i : Nat} {e1 : En X.K α} {x : α} (a), Av O pp (put ρ i (.sh e1 x)) a → Av O pp ρ a := fun a z => by
      rcases z with z | z | z
      · exact .inl z
      · exact .inr (.inl z)
      · exact .inr (.inr (own_put_sh z))
    exact ⟨u, w, y, rfl, k () z H1 c1 p1 _ (.of_chg ch fun a z => own_put_sh (own_put_sh (own_put_sh z))) (((S1.put q1).put (e2.mono (Mv.less less) q2)).put (e3.mono ((Mv.less less).trans (Mv.less less)) q3))⟩⟩
end
/-! ### the law -/
def spLaw (K : PySem.W.Frag) : Sp := fun vs H Q _ => ∃ (a : Addr) (ns : List Int), vs = [.ref a] ∧ SqL K H a (ns.map V.int) ∧ ns.length ≤ 63 ∧ ∀ H', Q (.bl true) H'
theorem F2.of_ints {K : PySem.W.Frag} {O : AS} {H : Hp} : ∀ ns : List Int, F2 ((eI : En K Int).r O H) (ns.map V.int) ns
  | [] => .nil
  | _ :: r => .cons rfl (F2.of_ints r)
section
variable {P : Program} {w : World} {K : PySem.W.Frag} {mg : Str → Option Value} {base : Heap} {PK : PoolK}
theorem fn_law {x qual : Str} {st : Stmt} {f : Addr} {fd : FuncData} {N : List Str} {k : Nat} {wb : List Int × Unit → W (Fl Empty Empty Bool)} {ρ' : Empty → List (Sl K)} {sn : Str} (F : Fun K x qual st f fd) (S : FnScope N [sn] (defScope st)) (hN : 1 ≤ N.length)
    (hbody : ∀ (cdv : Value) (A : Around) (outer : List Env) (s : Shared) (H : Hp) (E : XK) (x : List Int × Unit), x.1.length ≤ 63 → Room k (A.deeper (PyProof.Rows.envOfC qual (defScope st) s.heap.objs.size f cdv)) →
      PSX (cxOf CX0 P w K mg base N qual (defScope st) f cdv A outer s H E).nox PK none ((aC (eR eI) aN : EA K _).ents x ++ List.replicate (N.length - 1) .nil) (defBody st) (wb x) ρ' (fun z : Empty => nomatch z) eB)
    (hm : ∀ ns : List Int, ns.length ≤ 63 → fnR (wb (ns, ())) (fun r _ => r = true) noX 0) : FnOk P w K mg base CX0 (k + 1) f fd [sn] (spLaw K) := by
  refine F.ok S (fun vs H Q E h => ?_) (fun cdv A outer s H vs Q E hr h => ?_)
  · obtain ⟨a, ns, rfl, _⟩ := h
    rfl
  · obtain ⟨a, ns, rfl, hS, hl, q⟩ := h
    have r : (aC (eR eI) aN : EA K (List Int × Unit)).r none (fun _ => False) H [.ref a] (ns, ()) := ⟨_, [], rfl, ⟨a, _, rfl, Dc.SqL.r hS, F2.of_ints ns⟩, rfl⟩
    refine ⟨_, hbody cdv A outer s H E (ns, ()) hl hr, fun _ => False, _, 0, sat_start (PK := PK) (pp := none) (fun _ z => z.elim) (fun _ z => z.elim) True.intro r hN, hm ns hl, fun fl H' c' p => ?_⟩
    cases fl with
    | rt y =>
      intro v _ _ rv
      have e : y = true := p
      have e2 : v = V.bl y := rv
      rw [e2, e]
      exact q H'
    | nx z => exact nomatch z
    | bk z => exact nomatch z
    | ct z => exact nomatch z
end
section
variable {X : Cx} {ρ : List (Sl X.K)} {α β γ δ : Type}
/-- pool = _law_pool(script), at the head of the law -/
theorem spool (i j : Nat) {k : Nat} {f : Addr} {fd : FuncData} {ps : List Str} {x fnm sn : Str} {p p2 p3 pos pos' : Pos} {rest : List Stmt} {ns : List Int} {w : W (Fl Empty Empty β)} {ρ' : Empty → List (Sl X.K)} {ρl : Empty → List (Sl X.K)} {er : En X.K β} (hl : ns.length ≤ 63) (hN : X.N.Nodup) (hgj : get ρ j = .sh (eR eI) ns) (hgi : get ρ i = .nil) (ho : owns ρ = [])
    (F : FnOk X.prog X.w X.K X.mg X.base CX0 k f fd ps (spPool X.K)) (hr : Room k X.A) (hm : X.mg fnm = some (.ref f)) (hk : PySem.W.keepIn X.K (.ref f) = true) (hb : Binds X.K fd ps [])
    (h : ∀ a b, PSX X poolA (some (a, b)) (put ρ i .pl) rest w ρ' ρl er) (hg : Gl X fnm := by rfl) (hi : X.N[i]? = some x := by rfl) (hj : X.N[j]? = some sn := by rfl) (hx : Loc X.env.scope x := by first | exact Or.inl rfl | exact Or.inr rfl)
    (hv : Vis X.env.scope sn := by first | exact Or.inl rfl | exact Or.inr (Or.inl rfl) | exact Or.inr (Or.inr rfl)) (hd : (sn == ("__debug__" : Str)) = false := by decide) (hcd : (sn == ("__classdict__" : Str)) = false := by decide) (hdb : (fnm == ("__debug__" : Str)) = false := by decide)
    (he : starEach [Expr.Name sn p2] X.env = (false, eval (.Name sn p2) X.env) :: starEach [] X.env := by rfl) (hpl : (backTo p3 (starEach [] X.env)).any (·.1) = false := by rfl)
    (hs : swapsWith (.Call (.Name fnm p) [.Name sn p2] [] p3) (some (.Name x pos')) pos.line X.env = pure false := by rfl) (hf : X.fn x = true ∨ X.env.scope.names.lookup x = some .local := by first | exact .inl rfl | exact .inr rfl) :
    PSX X poolA none ρ (.Assign [.Name x pos'] (.Call (.Name fnm p) [.Name sn p2] [] p3) pos :: rest) w ρ' ρl er :=
  (pss_cons (ps_set hN hi hx (pe_call F hr hg hm hk hb .nil pass0 (pa_cons (pe_var hj hv hd hcd) pa_nil he) hdb he hpl) hs hf) (PSs.ex fun z : Addr × Addr => h z.1 z.2)).weak fun D σ H ⟨O, Φ, c, S, hw, kk⟩ => by
    have q := S.slots j
    rw [hgj] at q
    obtain ⟨v, e1, a, vs, rfl, l, f2⟩ := q
    have ev := F2.ints f2
    refine ⟨_, e1, a, ns, rfl, by rw [← ev]; exact l.sq, hl, fun H' q b sm nq nb hp => ⟨(q, b), O, Φ, c, ?_, hw, fun fl H2 c2 z => ?_⟩⟩
    · have np : ∀ y o, H y = some o → y ≠ q ∧ y ≠ b := fun y o e => ⟨ne_of_none e nq, ne_of_none e nb⟩
      have hne : ∀ y, y ∉ owns (put ρ i (.pl : Sl X.K)) := fun y z => by
        rcases owns_put z with z | z
        · cases z
        · rw [ho] at z; cases z
      have mv : Mv (Av O none ρ) (Av O (some (q, b)) (put ρ i .pl)) H H' := fun y o n e => ⟨sm y o e, fun z => by
        rcases z with z | z | z
        · exact n (.inl z)
        · rcases (show y = q ∨ y = b from z) with z | z
          · exact (np y o e).1 z
          · exact (np y o e).2 z
        · exact hne y z⟩
      refine ⟨by rw [put_len, List.length_set]; exact S.len, owns_put_nodup S.nd (own1_nodup _) (fun b hb => by cases hb), fun y z => absurd z (hne y), fun y z => ?_, ?_, fun m => ?_⟩
      · rw [same_at sm (S.dom y z)]; exact S.dom y z
      · obtain ⟨gs, f0, m, d, r1, r2, r3, r4, r5, r6, r7, r8, r9⟩ := hp
        exact ⟨gs, f0, m, d, r1, r2, r3, r4, r5, r6, r7, r8, by omega⟩
      · by_cases hmi : m = i
        · subst hmi
          rcases get_put_self (ρ := ρ) (i := m) (s := (.pl : Sl X.K)) with e | e
          · rw [e]
            have hlen := get_len (ρ := put ρ m (.pl : Sl X.K)) (i := m) (by rw [e]; intro z; cases z)
            rw [put_len, ← S.len] at hlen
            exact ⟨q, b, rfl, List.getElem?_set_self hlen⟩
          · rw [e]; exact True.intro
        · rw [get_put_ne hmi]
          have qq := S.slots m
          cases e : get ρ m with
          | nil => exact True.intro
          | sh en y =>
            rw [e] at qq
            obtain ⟨u, e2, r⟩ := qq
            exact ⟨u, by rw [List.getElem?_set_ne (Ne.symm hmi)]; exact e2, en.mono mv r⟩
          | ow y on z =>
            have z1 := owns_mem e
            rw [ho] at z1
            cases z1
          | pl =>
            rw [e] at qq
            obtain ⟨_, _, e3, _⟩ := qq
            cases e3
    · have np : ∀ y o, H y = some o → y ≠ q ∧ y ≠ b := fun y o e => ⟨ne_of_none e nq, ne_of_none e nb⟩
      cases fl with
      | rt r =>
        intro v keep _ rv
        refine kk (.rt r) H2 c2 z v (fun y o e _ _ => keep y o (sm y o e) (fun z => ?_) fun z => ?_) True.intro (er.mono (Mv.less fun y z => ?_) rv)
        · rcases (show y = q ∨ y = b from z) with z | z
          · exact (np y o e).1 z
          · exact (np y o e).2 z
        · rcases owns_put z with z | z
          · cases z
          · rw [ho] at z; cases z
        · rcases z with z | z
          · exact .inl z
          · exact z.elim
      | nx z => exact nomatch z
      | bk z => exact nomatch z
      | ct z => exact nomatch z
end
end Dc
/-! DcT: what a W does, said in triples; n bounds the pool's draws. -/
namespace Dc
open PySem PySem.Spec L2
section
variable {α β γ δ ε : Type}
def Tr (n : Nat) (w : W α) (S : α → Prop) : Prop := ∀ Φ Ψ c, c + n ≤ 2 ^ 1000 → (∀ r c', c' ≤ c + n → S r → Φ r c') → w Φ Ψ c
theorem Tr.ret {n : Nat} {x : α} {S : α → Prop} (h : S x) : Tr n (Dc.ret x) S := fun Φ Ψ c _ k => k x c (Nat.le_add_right _ _) h
theorem Tr.retE {x : α} : Tr 0 (Dc.ret x) (fun r => r = x) := Tr.ret rfl
theorem Tr.bnd {a b : Nat} {m : W α} {k : α → W β} {S : α → Prop} {T : β → Prop} (h : Tr a m S) (h2 : ∀ x, S x → Tr b (k x) T) : Tr (a + b) (bnd m k) T := fun Φ Ψ c hc kk =>
  h _ Ψ c (by omega) fun r c' h' s => h2 r s Φ Ψ c' (by omega) fun r' c2 h3 t => kk r' c2 (by omega) t
theorem Tr.mono {a b : Nat} {m : W α} {S T : α → Prop} (h : Tr a m S) (hab : a ≤ b) (hs : ∀ x, S x → T x) : Tr b m T := fun Φ Ψ c hc k => h Φ Ψ c (by omega) fun r c' h' s => k r c' (by omega) (hs r s)
theorem Tr.up {a b : Nat} {m : W α} {S : α → Prop} (h : Tr a m S) (hab : a ≤ b) : Tr b m S := h.mono hab fun _ s => s
theorem Tr.cons {a : Nat} {m : W α} {S T : α → Prop} (h : Tr a m S) (hs : ∀ x, S x → T x) : Tr a m T := h.mono (Nat.le_refl _) hs
theorem Tr.grd {n : Nat} {b : Bool} {m : W α} {S : α → Prop} (hb : b = true) (h : Tr n m S) : Tr n (grd b m) S := fun Φ Ψ c hc k => ⟨hb, h Φ Ψ c hc k⟩
theorem Tr.ite {n : Nat} {b : Bool} {m m2 : W α} {S : α → Prop} (h : b = true → Tr n m S) (h2 : b = false → Tr n m2 S) : Tr n (ite b m m2) S := fun Φ Ψ c hc k => by
  cases b
  · exact (h2 rfl) Φ Ψ c hc k
  · exact (h rfl) Φ Ψ c hc k
theorem Tr.pick {many : Int} (h : 0 < many := by decide) (hl : many.natAbs.log2 < 9000 := by decide) : Tr 1 (pickW many) (fun k => 0 ≤ k ∧ k < many) := fun Φ Ψ c hc k =>
  ⟨⟨h, hl, by omega⟩, fun x h1 h2 => k x (c + 1) (Nat.le_refl _) ⟨h1, h2⟩⟩
theorem Tr.map {n : Nat} {f : α → W β} {S : α → β → Prop} : ∀ {xs : List α}, (∀ x ∈ xs, Tr n (f x) (S x)) → Tr (xs.length * n) (mapW f xs) (fun ys => F2 (fun y x => S x y) ys xs)
  | [], _ => Tr.ret .nil
  | x :: r, h => by
    have e : (x :: r).length * n = n + (r.length * n + 0) := by simp [Nat.add_mul]; omega
    rw [e]
    refine Tr.bnd (h x (List.mem_cons_self ..)) fun y hy => Tr.bnd (Tr.map fun z hz => h z (List.mem_cons_of_mem _ hz)) fun ys hys => Tr.ret (.cons hy hys)
theorem mapW_eq {f : α → W β} {g : α → β} : ∀ {xs : List α}, (∀ x ∈ xs, f x = Dc.ret (g x)) → mapW f xs = Dc.ret (xs.map g)
  | [], _ => rfl
  | x :: r, h => by
    show bnd (f x) _ = _
    rw [h x (List.mem_cons_self ..), bnd_ret, mapW_eq fun z hz => h z (List.mem_cons_of_mem _ hz)]
    rfl
theorem forW_eq {f : γ → α → W (Fl γ γ β)} {g : γ → α → γ} : ∀ {xs : List α} {s : γ}, (∀ x ∈ xs, ∀ s, f s x = Dc.ret (.nx (g s x))) → forW (δ := δ) f s xs = Dc.ret (.nx (xs.foldl g s))
  | [], _, _ => rfl
  | x :: r, s, h => by
    show bnd (f s x) _ = _
    rw [h x (List.mem_cons_self ..) s, bnd_ret]
    exact forW_eq fun z hz => h z (List.mem_cons_of_mem _ hz)
/-- with an invariant kept by each step -/
theorem forW_inv {f : γ → α → W (Fl γ γ β)} {g : γ → α → γ} (I : γ → Prop) : ∀ {xs : List α} {s : γ}, I s → (∀ x ∈ xs, ∀ s, I s → f s x = Dc.ret (.nx (g s x)) ∧ I (g s x)) → forW (δ := δ) f s xs = Dc.ret (.nx (xs.foldl g s)) ∧ I (xs.foldl g s)
  | [], _, i, _ => ⟨rfl, i⟩
  | x :: r, s, i, h => by
    obtain ⟨e, i'⟩ := h x (List.mem_cons_self ..) s i
    show bnd (f s x) _ = _ ∧ _
    rw [e, bnd_ret]
    exact forW_inv I i' fun z hz => h z (List.mem_cons_of_mem _ hz)
theorem Tr.for {n : Nat} {f : γ → α → W (Fl γ γ β)} {R : γ → Prop} : ∀ {xs : List α} {s : γ}, R s → (∀ x ∈ xs, ∀ s, R s → Tr n (f s x) (fun fl => ∃ s', fl = .nx s' ∧ R s')) → Tr (xs.length * n) (forW (δ := δ) f s xs) (fun fl => ∃ s', fl = .nx s' ∧ R s')
  | [], s, i, _ => Tr.ret ⟨s, rfl, i⟩
  | x :: r, s, i, h => by
    have e : (x :: r).length * n = n + (r.length * n) := by simp [Nat.add_mul]; omega
    rw [e]
    refine Tr.bnd (h x (List.mem_cons_self ..) s i) fun fl hf => ?_
    obtain ⟨s', rfl, i'⟩ := hf
    exact Tr.for i' fun z hz => h z (List.mem_cons_of_mem _ hz)
theorem bnd_ifr {γ' : Type} (b : Bool) (r : β) (s : γ) (k : γ → W (Fl γ' δ β)) : Dc.bnd (Dc.ite b (Dc.ret (.rt r)) (Dc.ret (.nx s))) (sq k) = Dc.ite b (Dc.ret (.rt r)) (k s) := bnd_ite ..
theorem bnd_ifs {γ' : Type} (b : Bool) (s : γ) (k : γ → W (Fl γ' δ β)) : Dc.bnd (Dc.ite b stuck (Dc.ret (.nx s))) (sq k) = Dc.ite b stuck (k s) := bnd_ite ..
theorem sq_nx {γ' : Type} (k : γ → W (Fl γ' δ β)) (s : γ) : sq k (.nx s) = k s := (rfl)
theorem sq_rt {γ' : Type} (k : γ → W (Fl γ' δ β)) (r : β) : sq k (.rt r) = Dc.ret (.rt r) := (rfl)
theorem fnR_bnd (m : W α) (k : α → W (Fl Empty Empty β)) : fnR (bnd m k) = bnd m (fun x => fnR (k x)) := (rfl)
theorem fnR_ret (r : β) : fnR (Dc.ret (.rt r)) = Dc.ret r := (rfl)
theorem fnR_grd (b : Bool) (m : W (Fl Empty Empty β)) : fnR (grd b m) = grd b (fnR m) := (rfl)
theorem fnR_stuck : fnR (stuck : W (Fl Empty Empty β)) = stuck := (rfl)
theorem fnR_ite (b : Bool) (m n : W (Fl Empty Empty β)) : fnR (ite b m n) = ite b (fnR m) (fnR n) := bnd_ite ..
theorem fnU_bnd (m : W α) (k : α → W (Fl Unit Empty Unit)) : fnU (bnd m k) = bnd m (fun x => fnU (k x)) := (rfl)
theorem fnU_nx (u : Unit) : fnU (Dc.ret (.nx u)) = Dc.ret () := (rfl)
theorem fnU_rt (u : Unit) : fnU (Dc.ret (.rt u)) = Dc.ret u := (rfl)
theorem fnU_ite (b : Bool) (m n : W (Fl Unit Empty Unit)) : fnU (ite b m n) = ite b (fnU m) (fnU n) := bnd_ite ..
theorem fnU_grd (b : Bool) (m : W (Fl Unit Empty Unit)) : fnU (grd b m) = grd b (fnU m) := (rfl)
theorem grd_ok {b : Bool} (h : b = true) (m : W α) : grd b m = m := by rw [h, grd_true]
theorem ite_ok {b : Bool} (h : b = true) (m n : W α) : Dc.ite b m n = m := by rw [h, ite_true]
theorem ite_no {b : Bool} (h : b = false) (m n : W α) : Dc.ite b m n = n := by rw [h, ite_false]
/-- lists of the same length -/
theorem F2.len {R : α → β → Prop} {ys : List α} {xs : List β} (h : F2 R ys xs) : ys.length = xs.length := h.length
theorem F2.all {R : α → β → Prop} {ys : List α} {xs : List β} (h : F2 R ys xs) : ∀ y ∈ ys, ∃ x ∈ xs, R y x := by
  induction h with
  | nil => intro y hy; cases hy
  | cons r _ ih =>
    intro y hy
    rcases List.mem_cons.mp hy with e | hy
    · rw [e]; exact ⟨_, List.mem_cons_self .., r⟩
    · obtain ⟨x, hx, q⟩ := ih y hy
      exact ⟨x, List.mem_cons_of_mem _ hx, q⟩
end
/-! ### the sizes that the operations allow -/
theorem bits_le {i : Int} {n : Nat} (h : i.natAbs < 2 ^ n) : Builtin.Int.intBits i ≤ n := bits_lt h
theorem mulOk_of {i j : Int} {n m : Nat} (hi : i.natAbs < 2 ^ n) (hj : j.natAbs < 2 ^ m) (h : n + m ≤ 134217728 := by decide) : mulOk i j = true := by
  have := bits_lt hi
  have := bits_lt hj
  exact decide_eq_true (by omega)
theorem log2_lt {x n : Nat} (h : x < 2 ^ n) (hn : 0 < n) : x.log2 < n := by
  by_cases h0 : x = 0
  · rw [h0]; simpa using hn
  · exact (Nat.log2_lt h0).mpr h
theorem fdivOk_of {i j : Int} (h0 : j ≠ 0) (h : j.natAbs < 2 ^ 9000) : fdivOk i j = true := by
  simp only [fdivOk, Bool.and_eq_true, decide_eq_true_eq]
  exact ⟨h0, log2_lt h (by decide)⟩
theorem lcmOk_of {i j : Int} (hi : i.natAbs < 2 ^ 13000) (hj : j.natAbs < 2 ^ 13000) : lcmOk i j = true := by
  simp only [lcmOk, Bool.and_eq_true, decide_eq_true_eq]
  have h1 : (1 : Nat) < 2 ^ 13000 := Nat.one_lt_two_pow (by decide)
  refine ⟨Nat.lt_trans (log2_lt (n := 13000) ?_ (by decide)) (by decide), Nat.lt_trans (log2_lt (n := 13000) ?_ (by decide)) (by decide)⟩
  · exact Nat.max_lt.mpr ⟨h1, hi⟩
  · exact Nat.max_lt.mpr ⟨hi, hj⟩
end Dc
/-! DcK: instances of the program's own classes: read, made. -/
namespace Dc
open PySem PySem.Spec L2
section
variable {K : PySem.W.Frag} {α β γ δ : Type}
/-- fields by name -/
structure FE (K : PySem.W.Frag) (α : Type) where
  r : AS → Hp → List (Str × V) → α → Prop
  mono : ∀ {O O' : AS} {H H' : Hp} {fs : List (Str × V)} {x : α}, Mv O O' H H' → r O H fs x → r O' H' fs x
  keep : ∀ {O : AS} {H : Hp} {fs : List (Str × V)} {x : α} {f : Str} {v : V}, fs.lookup f = none → r O H fs x → r O H (putF f v fs) x
def fN : FE K Unit := ⟨fun _ _ _ _ => True, fun _ h => h, fun _ h => h⟩
def fC (f : Str) (e : En K α) (t : FE K β) : FE K (α × β) := ⟨fun O H fs x => (∃ v, fs.lookup f = some v ∧ e.r O H v x.1) ∧ t.r O H fs x.2, fun m ⟨⟨v, l, q⟩, h⟩ => ⟨⟨v, l, e.mono m q⟩, t.mono m h⟩, fun {O H fs x g u} n h => by
  obtain ⟨⟨v, l, q⟩, h⟩ := h
  have e : (putF g u fs).lookup f = some v := by
    rw [lookup_putF, if_neg]
    · exact l
    · intro z; rw [z, n] at l; cases l
  exact ⟨⟨v, e, q⟩, t.keep n h⟩⟩
/-- an instance whose fields are the names ns -/
def eIns (C : Addr) (ns : List Str) (t : FE K α) : En K α := ⟨fun O H v x => ∃ a dx fs, v = .ref a ∧ ¬ O a ∧ H a = some (.ins C dx fs) ∧ fs.map (·.1) = ns ∧ t.r O H fs x,
  fun m ⟨a, dx, fs, e, n, h, l, q⟩ => ⟨a, dx, fs, e, (m a _ n h).2, (m a _ n h).1, l, t.mono m q⟩⟩
def oIns (C : Addr) (ns : List Str) (t : FE K α) : On K α := ⟨fun O H a x => ∃ dx fs, H a = some (.ins C dx fs) ∧ fs.map (·.1) = ns ∧ t.r O H fs x,
  fun m h ⟨dx, fs, q, l, z⟩ => ⟨dx, fs, h.trans q, l, t.mono m z⟩, fun ⟨dx, fs, q, _⟩ z => by rw [q] at z; cases z⟩
/-- where a field stands -/
structure FAt (t : FE K α) (f : Str) (en : En K β) (π : α → β) : Prop where
  at_ : ∀ {O : AS} {H : Hp} {fs : List (Str × V)} {x : α}, t.r O H fs x → ∃ v, fs.lookup f = some v ∧ en.r O H v (π x)
theorem f0 {f : Str} {e : En K α} {t : FE K β} : FAt (fC f e t) f e (·.1) := ⟨fun h => h.1⟩
theorem fS {f g : Str} {e : En K α} {t : FE K β} {en : En K γ} {π : β → γ} (h : FAt t f en π) : FAt (fC g e t) f en (fun x => π x.2) := ⟨fun q => h.at_ q.2⟩
theorem look_none {m : Str} {fs : List (Str × V)} {ns : List Str} (h : fs.map (·.1) = ns) (hm : ns.contains m = false) : fs.lookup m = none := by
  subst h
  induction fs with
  | nil => rfl
  | cons p r ih =>
    obtain ⟨g, v⟩ := p
    simp only [List.map_cons, List.contains_cons, Bool.or_eq_false_iff] at hm
    rw [List.lookup_cons, hm.1]
    exact ih hm.2
end
section
variable {X : Cx} {PK : PoolK} {pp : PP} {ρ : List (Sl X.K)} {α β γ δ : Type} {e a b : Expr} {es : List Expr} {pos apos : Pos}
theorem xfld {C : Addr} {ns : List Str} {t : FE X.K α} {f : Str} {w : W α} {en : En X.K β} {π : α → β} (c : Cls X.K C) (n : NoAttr X.K C f) (F : FAt t f en π) (h : PX X PK pp ρ e w (eIns C ns t)) (hb : attributeBase e f X.env (eval e X.env) = eval e X.env := by rfl) :
    PX X PK pp ρ (.Attribute e f pos) (bnd w fun x => ret (π x)) en := (pe_fld h hb).weak fun σ H Q ⟨O, Φ, c0, S, hw, k⟩ => ⟨O, _, c0, S, hw, fun x v H' c' p ch S' r => by
  obtain ⟨a, dx, fs, e1, nO, hH, _, q⟩ := r
  obtain ⟨u, l, ru⟩ := F.at_ q
  exact ⟨a, C, dx, fs, u, e1, hH, c, n, l, k _ _ H' c' p ch S' ru⟩⟩
/-- e.f, a property -/
theorem xprop {C p g : Addr} {ns : List Str} {t : FE X.K α} {f : Str} {k : Nat} {fd : FuncData} {ps : List Str} {w : W α} {fw : α × Unit → W β} {er : En X.K β} (c : Cls X.K C) (hp : PropOf X.K C f p g) (F : FnOk X.prog X.w X.K X.mg X.base CX0 k g fd ps (spW PK (aC (eIns C ns t) aN) fw er)) (hr : Room (k + 1) X.A)
    (hb : Binds X.K fd ps []) (h : PX X PK pp ρ e w (eIns C ns t)) (hab : attributeBase e f X.env (eval e X.env) = eval e X.env := by rfl) : PX X PK pp ρ (.Attribute e f pos) (bnd w fun x => fw (x, ())) er :=
  (pe_prop h c hp F hr hb .nil pass0 hab).weak fun σ H Q ⟨O, Φ, c0, S, hw, kk⟩ => ⟨O, _, c0, S, hw, fun x v H1 c1 p1 ch1 S1 r => by
    have r0 := r
    obtain ⟨a, dx, fs, e1, nO, hH, _, q⟩ := r
    subst e1
    exact ⟨a, dx, fs, rfl, hH, pp, Av O pp ρ, (x, ()), Φ, c1, S1.av, fun a h => .inr (.inl h), S1.pool, ⟨_, [], rfl, r0, rfl⟩, p1, fun z v H2 c2 p2 ch2 pl2 rz => kk z v H2 c2 p2 (ch1.trans ch2) (S1.chg ch2 pl2) rz⟩⟩
/-- o.m(e, ..) -/
theorem xmeth {C g : Addr} {m : Str} {ns : List Str} {t : FE X.K α} {k : Nat} {fd : FuncData} {ps : List Str} {w : W α} {ea : EA X.K γ} {wa : W γ} {fw : α × γ → W β} {er : En X.K β} {pl : Sem Bool} (c : Cls X.K C) (hm : Meth X.K C m g) (hn : ns.contains m = false) (F : FnOk X.prog X.w X.K X.mg X.base CX0 k g fd ps (spW PK (aC (eIns C ns t) ea) fw er)) (hr : Room k X.A)
    (hb : Binds X.K fd ps []) (h : PX X PK pp ρ a w (eIns C ns t)) (ha : PAX X PK pp ρ (e :: es) wa ea)
    (hst : starEach (e :: es) X.env = (false, eval e X.env) :: starEach es X.env := by rfl) (hpl : (backTo pos (starEach es X.env)).any (·.1) = false := by rfl)
    (ht : eval (.Call (.Attribute a m apos) (e :: es) [] pos) X.env = (do
      let ov ← eval a X.env
      standAt apos.atName
      let (f, first) ← holding [ov] (getMethod ov m pl)
      callWith pos f first (backTo pos (starEach (e :: es) X.env)) (backToKw pos (keywordEach [] X.env))) := by rfl) : PX X PK pp ρ (.Call (.Attribute a m apos) (e :: es) [] pos) (bnd w fun x => bnd wa fun y => fw (x, y)) er :=
  (pe_meth h c hm F hr hb .nil pass0 ha hst hpl ht).weak fun σ H Q ⟨O, Φ, c0, S, hw, kk⟩ => ⟨O, _, c0, S, hw, fun x v H1 c1 p1 ch1 S1 r => by
    have r0 := r
    obtain ⟨a, dx, fs, e1, nO, hH, l, q⟩ := r
    refine ⟨a, dx, fs, e1, hH, look_none l hn, O, _, c1, S1, p1, fun y vs H2 c2 p2 ch2 S2 r2 => ?_⟩
    show spW PK (aC (eIns C ns t) ea) fw er (v :: (vs ++ [])) H2 Q E0
    rw [List.append_nil]
    exact ⟨pp, Av O pp ρ, (x, y), Φ, c2, S2.av, fun a h => .inr (.inl h), S2.pool, ⟨_, _, rfl, (eIns C ns t).mono ch2.mv r0, r2⟩, p2, fun z v H3 c3 p3 ch3 pl3 rz => kk z v H3 c3 p3 ((ch1.trans ch2).trans ch3) (S2.chg ch3 pl3) rz⟩⟩
/-- f(e, ..), f an instance whose class has __call__ -/
theorem xcallO {C g : Addr} {ns : List Str} {t : FE X.K α} {k : Nat} {fd : FuncData} {ps : List Str} {w : W α} {ea : EA X.K γ} {wa : W γ} {fw : α × γ → W β} {er : En X.K β} (cO : StX.CallO X.K C g) (F : FnOk X.prog X.w X.K X.mg X.base CX0 k g fd ps (spW PK (aC (eIns C ns t) ea) fw er)) (hr : Room k X.A)
    (hb : Binds X.K fd ps []) (h : PX X PK pp ρ a w (eIns C ns t)) (ha : PAX X PK pp ρ (e :: es) wa ea)
    (ht : eval (.Call a (e :: es) [] pos) X.env = (do callWith pos (← eval a X.env) [] (backTo pos (starEach (e :: es) X.env)) (backToKw pos (keywordEach [] X.env))) := by rfl)
    (hst : starEach (e :: es) X.env = (false, eval e X.env) :: starEach es X.env := by rfl) (hpl : (backTo pos (starEach es X.env)).any (·.1) = false := by rfl) : PX X PK pp ρ (.Call a (e :: es) [] pos) (bnd w fun x => bnd wa fun y => fw (x, y)) er :=
  (StX.pe_callO h cO (F.raw hb .nil) hr pass0 ha ht hst hpl).weak fun σ H Q ⟨O, Φ, c0, S, hw, kk⟩ => ⟨O, _, c0, S, hw, fun x v H1 c1 p1 ch1 S1 r => by
    have r0 := r
    obtain ⟨a, dx, fs, e1, nO, hH, l, q⟩ := r
    subst e1
    refine ⟨a, rfl, O, _, c1, S1, p1, fun y vs H2 c2 p2 ch2 S2 r2 => ?_⟩
    have r3 := (eIns C ns t).mono ch2.mv r0
    refine ⟨?_, ?_⟩
    · obtain ⟨a', dx', fs', e2, _, hH', _⟩ := r3
      cases e2
      exact .inr ⟨dx', fs', hH'⟩
    · show spW PK (aC (eIns C ns t) ea) fw er (V.ref a :: vs ++ []) H2 Q E0
      rw [List.append_nil]
      exact ⟨pp, Av O pp ρ, (x, y), Φ, c2, S2.av, fun a h => .inr (.inl h), S2.pool, ⟨_, _, rfl, r3, r2⟩, p2, fun z v H3 c3 p3 ch3 pl3 rz => kk z v H3 c3 p3 ((ch1.trans ch2).trans ch3) (S2.chg ch3 pl3) rz⟩⟩
end
/-! ### an instance made -/
def fnI {β : Type} (w : W (Fl β Empty Unit)) : W β := bnd w fun fl => match fl with | .nx y => ret y | .rt _ => stuck | .bk z => nomatch z | .ct z => nomatch z
section
variable {P : Program} {w : World} {K : PySem.W.Frag} {mg : Str → Option Value} {base : Heap} {PK : PoolK} {α β : Type}
def spI (PK : PoolK) (C : Addr) (ns : List Str) (t : FE K β) (ea : EA K α) (f : α → W β) : Sp := fun vs H Q _ => ∃ pp O a dx rest x Φ c, vs = .ref a :: rest ∧ H a = some (.ins C dx []) ∧ Dom O H ∧ ¬ O a ∧ (∀ b, foot pp b → O b) ∧ PoolOk PK pp H c ∧ ea.r pp (fun b => O b ∨ b = a) H rest x ∧ f x Φ noX c ∧
  ∀ y H' c', Φ y c' → (∀ b o, H b = some o → ¬ foot pp b → b ≠ a → H' b = some o) → PoolOk PK pp H' c' → (eIns C ns t).r O H' (.ref a) y → Q .non H'
theorem slot_up {A : AS} {pp : PP} {H : Hp} {σ : St} {u : Option V} {i : Nat} {sl : Sl K} (h : SlOk A pp H σ i sl) : SlOk A pp H (u :: σ) (i + 1) sl := by
  cases sl with
  | nil => exact True.intro
  | sh en x => obtain ⟨v, e, r⟩ := h; exact ⟨v, by rw [List.getElem?_cons_succ]; exact e, r⟩
  | ow a on x => exact ⟨by rw [List.getElem?_cons_succ]; exact h.1, h.2⟩
  | pl => obtain ⟨a, b, e, r⟩ := h; exact ⟨a, b, e, by rw [List.getElem?_cons_succ]; exact r⟩
theorem sat_self {pp : PP} {O : AS} {H : Hp} {a dx C : Addr} {rest : List V} {x : α} {ea : EA K α} {N : List Str} {c : Nat} (hH : H a = some (.ins C dx [])) (hd : Dom O H) (ha : ¬ O a) (hf : ∀ b, foot pp b → O b) (hp : PoolOk PK pp H c) (hr : ea.r pp (fun b => O b ∨ b = a) H rest x) (hN : ea.len + 1 ≤ N.length) :
    Sat PK O pp (.ow a (oIns C [] fN) () :: (ea.ents x ++ List.replicate (N.length - (ea.len + 1)) .nil)) c (L2.start N (.ref a :: rest)) H := by
  have e0 : owns (ea.ents x ++ List.replicate (N.length - (ea.len + 1)) (Sl.nil : Sl K)) = [] := owns_app.trans (ea.eown x)
  have e1 : owns (.ow a (oIns C [] fN) () :: (ea.ents x ++ List.replicate (N.length - (ea.len + 1)) (Sl.nil : Sl K))) = [a] := by
    show [a] ++ owns _ = [a]
    rw [e0]; rfl
  have hl := ea.hlen hr
  refine ⟨?_, by rw [e1]; simp, fun b hb => ?_, hd, hp, fun i => ?_⟩
  · unfold L2.start
    simp only [List.length_append, List.length_map, List.length_replicate, List.length_cons, ea.elen, hl]
    omega
  · rw [e1] at hb
    have : b = a := by simpa using hb
    subst this
    exact ⟨ha, fun z => ha (hf _ z)⟩
  · have e2 : L2.start N (.ref a :: rest) = some (.ref a) :: (rest.map some ++ List.replicate (N.length - (rest.length + 1)) none) := rfl
    rw [e2]
    cases i with
    | zero => exact ⟨rfl, dx, [], hH, rfl, True.intro⟩
    | succ i =>
      refine slot_up ?_
      show SlOk _ pp H _ i (get (ea.ents x ++ List.replicate (N.length - (ea.len + 1)) .nil) i)
      rcases get_app (l := ea.ents x) (n := N.length - (ea.len + 1)) (i := i) with e | e
      · rw [e]
        refine (ea.eok i hr).mv (Mv.less fun b z => ?_) fun _ _ => rfl
        rcases z with z | z | z
        · exact .inl z
        · exact .inl (hf _ z)
        · rw [e1] at z
          exact .inr (by simpa using z)
      · rw [e]; exact True.intro
theorem fn_I {x qual : Str} {st : Stmt} {f C : Addr} {fd : FuncData} {N ps ns : List Str} {k : Nat} {ea : EA K α} {t : FE K β} {wb : α → W (Fl β Empty Unit)} (F : Fun K x qual st f fd) (S : FnScope N ps (defScope st)) (hl : ea.len + 1 = ps.length) (hN : ea.len + 1 ≤ N.length) (n : Nat)
    (hbody : ∀ (cdv : Value) (A : Around) (outer : List Env) (s : Shared) (H : Hp) (E : XK) (pp : PP) (x : α) (a : Addr), Room k (A.deeper (PyProof.Rows.envOfC qual (defScope st) s.heap.objs.size f cdv)) →
      PSX (cxOf CX0 P w K mg base N qual (defScope st) f cdv A outer s H E).nox PK pp (.ow a (oIns C [] fN) () :: (ea.ents x ++ List.replicate (N.length - (ea.len + 1)) .nil)) (defBody st) (wb x) (fun y => .ow a (oIns C ns t) y :: List.replicate n .nil) (fun z : Empty => nomatch z) eU) :
    FnOk P w K mg base CX0 (k + 1) f fd ps (spI PK C ns t ea fun x => fnI (wb x)) := by
  refine F.ok S (fun vs H Q E h => ?_) (fun cdv A outer s H vs Q E hr h => ?_)
  · obtain ⟨pp, O, a, dx, rest, x, Φ, c, rfl, _, _, _, _, _, r, _⟩ := h
    rw [List.length_cons, ea.hlen r, hl]
  · obtain ⟨pp, O, a, dx, rest, x, Φ, c, rfl, hH, hd, ha, hf, hp, r, hw, q⟩ := h
    refine ⟨_, hbody cdv A outer s H E pp x a hr, O, _, c, sat_self hH hd ha hf hp r hN, hw, fun fl H' c' p => ?_⟩
    have own : ∀ b, b ∈ owns (.ow a (oIns C [] fN) () :: (ea.ents x ++ List.replicate (N.length - (ea.len + 1)) (Sl.nil : Sl K))) → b = a := fun b hb => by
      have e0 : owns (ea.ents x ++ List.replicate (N.length - (ea.len + 1)) (Sl.nil : Sl K)) = [] := owns_app.trans (ea.eown x)
      have : b ∈ [a] ++ owns (ea.ents x ++ List.replicate (N.length - (ea.len + 1)) (Sl.nil : Sl K)) := hb
      rw [e0] at this
      simpa using this
    cases fl with
    | rt r => exact p.elim
    | nx y =>
      intro σ' stp S'
      have s0 := S'.slots 0
      obtain ⟨_, dx', fs, h1, h2, h3⟩ := (show _ ∧ (oIns C ns t).r _ H' a y from s0)
      exact q y H' c' p (fun b o e n hb => stp.keep b o e n fun z => hb (own b z)) S'.pool ⟨a, dx', fs, rfl, ha, h1, h2, t.mono (Mv.less fun b z => .inl z) h3⟩
    | bk z => exact nomatch z
    | ct z => exact nomatch z
end
section
variable {X : Cx} {PK : PoolK} {pp : PP} {ρ : List (Sl X.K)} {α β γ δ : Type} {e a b : Expr} {es : List Expr} {pos apos : Pos}
/-- C(e, ..) -/
theorem xmake {C g : Addr} {ns : List Str} {t : FE X.K β} {k : Nat} {fd : FuncData} {ps : List Str} {x : Str} {p : Pos} {ea : EA X.K γ} {wa : W γ} {fw : γ → W β} (M : Mk X.K C g) (F : FnOk X.prog X.w X.K X.mg X.base CX0 k g fd ps (spI PK C ns t ea fw)) (hr : Room (k + 1) X.A) (hm : X.mg x = some (.ref C))
    (hb : Binds X.K fd ps []) (ha : PAX X PK pp ρ (e :: es) wa ea) (hg : Gl X x := by rfl) (hdb : (x == ("__debug__" : Str)) = false := by decide) (he : starEach (e :: es) X.env = (false, eval e X.env) :: starEach es X.env := by rfl) (hpl : (backTo pos (starEach es X.env)).any (·.1) = false := by rfl) :
    PX X PK pp ρ (.Call (.Name x p) (e :: es) [] pos) (bnd wa fw) (eIns C ns t) :=
  (pe_make M F hr hg hm hb .nil pass0 ha hdb he hpl).weak fun σ H Q ⟨O, Φ, c0, S, hw, kk⟩ => ⟨O, _, c0, S, hw, fun y vs H1 c1 p1 ch1 S1 r1 q dx hq hdx hne => by
    have sm : ∀ b o, H1 b = some o → upd (upd H1 dx (.own q)) q (.ins C dx []) b = some o := fun b o eb => by
      rw [upd_ne (ne_of_none eb hq), upd_ne (ne_of_none eb hdx)]; exact eb
    have nq : ¬ Av O pp ρ q := fun z => S1.av q z hq
    show spI PK C ns t ea fw (V.ref q :: (vs ++ [])) _ _ E0
    rw [List.append_nil]
    refine ⟨pp, Av O pp ρ, q, dx, vs, y, Φ, c1, rfl, upd_same, fun b hb => ?_, nq, fun b h => .inr (.inl h), ?_, ?_, p1, fun z H' c' p2 keep pl rz => ⟨rfl, ?_⟩⟩
    · intro z
      have := S1.av b hb
      cases e1 : H1 b with
      | none => exact this e1
      | some o => rw [sm b o e1] at z; cases z
    · exact (S1.same sm).pool
    · exact ea.mono (fun b o n eb => ⟨sm b o eb, fun z => by
        rcases z with z | z
        · exact n z
        · rw [z, hq] at eb; cases eb⟩) r1
    · have ch2 : Chg pp H1 H' := fun b o eb nf => keep b o (sm b o eb) nf (ne_of_none eb hq)
      exact kk z _ H' c' p2 (ch1.trans ch2) (S1.chg ch2 pl) rz⟩
theorem putF_names {f : Str} {v : V} : ∀ {fs : List (Str × V)}, fs.lookup f = none → (putF f v fs).map (·.1) = fs.map (·.1) ++ [f]
  | [], _ => rfl
  | (g, u) :: r, h => by
    rw [List.lookup_cons] at h
    cases e : (f == g) with
    | true => rw [e] at h; cases h
    | false =>
      rw [e] at h
      have ne : ¬ g = f := fun z => by rw [z] at e; simp at e
      show (if g = f then (g, v) :: r else (g, u) :: putF f v r).map (·.1) = _
      rw [if_neg ne, List.map_cons, List.map_cons, List.cons_append, putF_names h]
/-- self.f = e, in __init__ -/
theorem nattr (i : Nat) {x f : Str} {p' pos' : Pos} {w : W α} {en : En X.K α} {p C : Addr} {ns : List Str} {t : FE X.K β} {xs : β} (hc : Cls X.K C) (hnA : NoAttr X.K C f) (hg : get ρ i = .ow p (oIns C ns t) xs) (hf : ns.contains f = false) (h : PX X PK pp ρ e w en) (hl : ns.length < 1000 := by decide) (hN : X.N[i]? = some x := by rfl)
    (hv : Vis X.env.scope x := by first | exact Or.inl rfl | exact Or.inr (Or.inl rfl) | exact Or.inr (Or.inr rfl)) (hd : (x == ("__debug__" : Str)) = false := by decide) (hcd : (x == ("__classdict__" : Str)) = false := by decide)
    (hs : swapsWith e (some (.Attribute (.Name x p') f pos')) pos.line X.env = pure false := by rfl) :
    PS X (.Assign [.Attribute (.Name x p') f pos'] e pos) (rdN PK pp ρ w fun (_ : Unit) z => put ρ i (.ow p (oIns C (ns ++ [f]) (fC f en t)) (z, xs))) :=
  (ps_fld (pe_var hN hv hd hcd) h hs).weak fun D σ H ⟨O, Φ, c, S, hw, k⟩ => ⟨O, _, c, S, hw, fun y v H1 c1 p1 ch1 S1 r1 => by
    have q := S1.slots i
    rw [hg] at q
    obtain ⟨e1, dx, fs, e2, e3, e4⟩ := q
    have hn := look_none e3 hf
    refine ⟨_, e1, p, C, dx, fs, rfl, e2, hc, hnA, by rw [← e3, List.length_map] at hl; exact hl, ?_⟩
    have mv : Mv (Av O pp ρ) (Av O pp ρ) H1 (upd H1 p (.ins C dx (putF f v fs))) := fun b o n e => ⟨by rw [upd_ne (fun z => n (by rw [z]; exact .inr (.inr (owns_mem hg))))]; exact e, n⟩
    obtain ⟨S3, st⟩ := S1.chgOwn (o := .ins C dx (putF f v fs)) (on' := oIns C (ns ++ [f]) (fC f en t)) (y := (y, xs)) hg ⟨dx, _, upd_same, by rw [putF_names hn, e3], ⟨v, by rw [lookup_putF, if_pos rfl], en.mono mv r1⟩, t.mono mv (t.keep hn e4)⟩
    exact k () y _ c1 p1 σ ((Stp.of_chg ch1 fun _ z => z).trans st) S3⟩
/-- o.f as a target -/
def gAttr (K : PySem.W.Frag) (ta : TE) (f : Str) : TG := fun v σ H Q => ta σ H fun x H2 => ∃ a C dx fs, x = .ref a ∧ H2 a = some (.ins C dx fs) ∧ Cls K C ∧ NoAttr K C f ∧ fs.length < 1000 ∧ Q σ (upd H2 a (.ins C dx (putF f v fs)))
theorem pg_attr {o : Expr} {f : Str} {ta : TE} (ho : PE X o ta) : PG X (.Attribute o f pos) (gAttr X.K ta f) := by
  refine ⟨fun pins s σ H v u Q I r q => ?_⟩
  rw [assign_Attribute]
  refine wpAny_bind (wpAny_holding (thn (ho.run pins s σ H _ I q) fun ov s1 ⟨x, H1, I1, rx, a, C, dx, fs, ex, ea, c, n, l, q1⟩ => ?_))
  subst ex
  obtain rfl : ov = Value.ref a := rx
  refine wpAny_bind (wpAny_standAt (wpAny_bind (wpAny_holding (setattr_ok I1 ea c n l r fun s3 I3 => ?_))))
  exact wpAny_release ⟨σ, _, I3, q1⟩
theorem npairA (i j : Nat) {x y f : Str} {px py pa pt : Pos} {kt} {w : W (α × β)} {e1 : En X.K α} {e2 : En X.K β} {p C : Addr} {ns : List Str} {t : FE X.K γ} {xs : γ} (hc : X.calm = true) (hN : X.N.Nodup) (hC : Cls X.K C) (hnA : NoAttr X.K C f) (hg : get ρ j = .ow p (oIns C ns t) xs) (hf0 : ns.contains f = false) (h : PX X PK pp ρ e w (eP e1 e2)) (hij : j ≠ i := by decide) (hl : ns.length < 1000 := by decide) (hi : X.N[i]? = some x := by rfl) (hj : X.N[j]? = some y := by rfl)
    (hx : Loc X.env.scope x := by first | exact Or.inl rfl | exact Or.inr rfl) (hv : Vis X.env.scope y := by first | exact Or.inl rfl | exact Or.inr (Or.inl rfl) | exact Or.inr (Or.inr rfl)) (hd : (y == ("__debug__" : Str)) = false := by decide) (hcd : (y == ("__classdict__" : Str)) = false := by decide)
    (hf : X.fn x = true ∨ X.env.scope.names.lookup x = some .local := by first | exact .inl rfl | exact .inr rfl)
    (hs1 : (assignEach [Expr.Name x px, Expr.Attribute (.Name y py) f pa] X.env).map (·.2) = assign (.Name x px) X.env :: (assignEach [Expr.Attribute (.Name y py) f pa] X.env).map (·.2) := by rfl) (hs2 : (assignEach [Expr.Attribute (.Name y py) f pa] X.env).map (·.2) = assign (.Attribute (.Name y py) f pa) X.env :: (assignEach [] X.env).map (·.2) := by rfl)
    (hn : (assignEach [Expr.Name x px, Expr.Attribute (.Name y py) f pa] X.env).length = 2 := by rfl) (hst : (assignEach [Expr.Name x px, Expr.Attribute (.Name y py) f pa] X.env).findIdx? (·.1) = none := by rfl)
    (hsw : swapsWithSole [.Tuple [.Name x px, .Attribute (.Name y py) f pa] kt pt] e pos.line X.env = pure false := by rfl) (hww : swappedStores [.Tuple [.Name x px, .Attribute (.Name y py) f pa] kt pt] e X.env = pure none := by rfl) (h1 : (assignEach [.Tuple [.Name x px, .Attribute (.Name y py) f pa] kt pt] X.env).map (·.2) = [assign (.Tuple [.Name x px, .Attribute (.Name y py) f pa] kt pt) X.env] := by rfl) :
    PS X (.Assign [.Tuple [.Name x px, .Attribute (.Name y py) f pa] kt pt] e pos) (rdN PK pp ρ w fun (_ : Unit) z => put (put ρ i (.sh e1 z.1)) j (.ow p (oIns C (ns ++ [f]) (fC f e2 t)) (z.2, xs))) :=
  (ps_asg h (pg_tup hc (pgs_cons (pg_name hN hi hx hf) (pgs_cons (pg_attr (pe_var hj hv hd hcd)) pgs_nil hs2) hs1) hn hst) hsw hww h1).weak fun D σ H ⟨O, Φ, c, S, hw, k⟩ => ⟨O, _, c, S, hw, fun z v H1 c1 p1 ch S1 r => by
    obtain ⟨a, u, w, rfl, tt, q1, q2⟩ := r
    have S2 := S1.put (i := i) (en := e1) (x := z.1) q1
    have less : ∀ a, Av O pp (put ρ i (.sh e1 z.1)) a → Av O pp ρ a := fun a z => by
      rcases z with z | z | z
      · exact .inl z
      · exact .inr (.inl z)
      · exact .inr (.inr (own_put_sh z))
    have hg2 : get (put ρ i (.sh e1 z.1)) j = .ow p (oIns C ns t) xs := by rw [get_put_ne hij]; exact hg
    have q := S2.slots j
    rw [hg2] at q
    obtain ⟨e3, dx, fs, e4, e5, e6⟩ := q
    have hnn := look_none e5 hf0
    refine ⟨a, [u, w], rfl, tt.sq, rfl, u, [w], rfl, w, [], rfl, ⟨_, e3, p, C, dx, fs, rfl, e4, hC, hnA, by rw [← e5, List.length_map] at hl; exact hl, ?_⟩⟩
    have mv : Mv (Av O pp (put ρ i (.sh e1 z.1))) (Av O pp (put ρ i (.sh e1 z.1))) H1 (upd H1 p (.ins C dx (putF f w fs))) := fun b o n e => ⟨by rw [upd_ne (fun z => n (by rw [z]; exact .inr (.inr (owns_mem hg2))))]; exact e, n⟩
    obtain ⟨S3, st⟩ := S2.chgOwn (o := .ins C dx (putF f w fs)) (on' := oIns C (ns ++ [f]) (fC f e2 t)) (y := (z.2, xs)) hg2 ⟨dx, _, upd_same, by rw [putF_names hnn, e5], ⟨w, by rw [lookup_putF, if_pos rfl], e2.mono mv (e2.mono (Mv.less less) q2)⟩, t.mono mv (t.keep hnn e6)⟩
    exact ⟨rfl, k () z _ c1 p1 _ ((Stp.of_chg ch fun _ z => own_put_sh z).trans st) S3⟩⟩
end
/-! ### an instance called by keywords -/
theorem inst_kw {M : Model} {A : Around} {E : Value → Shared → Prop} {s : Shared} {q : Addr} {pos : Pos} {Q : Value → Shared → Prop} {xs : List (Bool × Sem Value)} {ks : List (Option Str × Sem Value)} (hp : (xs.any (·.1) || ks.any (·.1.isNone)) = false)
    (h : wpAny M A (evalArgs (.ref q) true xs ks) (fun z t => (∃ C ox od, PySem.W.InstAt t.heap q ox C od ∧ ox.data = .plain) ∧ wpAny M A (call (.ref q) ([] ++ z.pos) z.kw) Q E t) E s) : wpAny M A (callWith pos (.ref q) [] xs ks) Q E s := by
  have go : ∀ {m : Sem Value} {t : Shared}, wpAny M A m Q E t → wpAny M A (do let r ← m; holding [r] point; pure r) Q E t := fun g =>
    wpAny_bind (wpAny_mono g (fun _ _ hr => wpAny_bind (wpAny_holding (wpAny_point (wpAny_pure hr)))) fun _ _ z => z)
  unfold callWith
  refine wpAny_bind (wpAny_holding (wpAny_mono h (fun z t ht => wpAny_bind (wpAny_standAt ?_)) fun _ _ z => z))
  obtain ⟨⟨C, ox, od, J, hd⟩, g⟩ := ht
  simp only [hp]
  exact wpAny_bind ((PySem.W.kco_keeper (M := M) J hd).here (go (wpAny_operateT g)))
section
variable {X : Cx} {PK : PoolK} {pp : PP} {ρ : List (Sl X.K)} {α β γ δ : Type} {e a b : Expr} {es : List Expr} {pos apos : Pos}
theorem run_ikw {pins : List (Addr × Obj)} {σ : St} {H : Hp} {s : Shared} {Q : VK} {k : Nat} {q C f : Addr} {fd : FuncData} {ps ks : List Str} {sp : Sp} {us ws : List Value} {vs zs : List V} {g : List Value → List Value → List Value} {gV : List V → List V → List V} (cO : StX.CallO X.K C f) (F : FnOk X.prog X.w X.K X.mg X.base CX0 k f fd ps sp) (hr : Room k X.A)
    (hb : KBinds X.K fd ps ks g gV) (I : Inv X pins σ H s) (hi : StX.InsC X H q C) (r : Vals vs us) (rz : Vals zs ws) (h : sp (gV (.ref q :: vs) zs) H Q E0) : wpAny (model X.prog X.w) X.A (call (.ref q) us (ks.zip ws)) (EP X pins σ Q) X.xe s := by
  obtain ⟨ox, od, J, hd⟩ := StX.insC_at I hi
  have r1 : Vals (V.ref q :: vs) (Value.ref q :: us) := .cons rfl r
  have r2 := hb.rel r1 rz
  have hl : (g (.ref q :: us) ws).length = ps.length := r2.length.symm.trans (F.len _ _ _ _ h)
  refine wpAny_call (PySem.W.kco_code I.kIn J hd cO.at_ cO.fn cO.fi (codeAny_mono (F.run X.A X.stack s H ⟨.ref q :: us, ks.zip ws⟩ (g (.ref q :: us) ws) _ Q E0 hr I.env0 (hb.to s (.ref q :: us) ws I.kIn hl) r2 h) fun r t ht => ?_))
  cases r with
  | error z => exact pass0 pins σ H s z t I ht
  | ok fl => cases fl with
    | ret u => exact I.after ht
    | next => cases ht
    | brk => cases ht
    | cont => cases ht
def tIK (X : Cx) (C : Addr) (sp : Sp) (gV : List V → List V → List V) (ta : TE) (tk : TA) : TE := fun σ H Q => ta σ H fun y H1 => ∃ q, y = V.ref q ∧ tk σ H1 fun zs H2 => StX.InsC X H2 q C ∧ sp (gV [.ref q] zs) H2 Q E0
theorem pe_ikw {k : Nat} {C f : Addr} {fd : FuncData} {ps ks : List Str} {sp : Sp} {kws : List Keyword} {ta : TE} {tk : TA} {g : List Value → List Value → List Value} {gV : List V → List V → List V} (cO : StX.CallO X.K C f) (F : FnOk X.prog X.w X.K X.mg X.base CX0 k f fd ps sp) (hr : Room k X.A) (hb : KBinds X.K fd ps ks g gV)
    (ha : PE X a ta) (hk : L2.PK X kws tk) (ht : eval (.Call a [] kws pos) X.env = (do callWith pos (← eval a X.env) [] (backTo pos (starEach [] X.env)) (backToKw pos (keywordEach kws X.env))) := by rfl) (hall : (backToKw pos (keywordEach kws X.env)).all (·.1.isSome) = true := by rfl) (hks : (backToKw pos (keywordEach kws X.env)).filterMap (·.1) = ks := by rfl)
    (hpl : ((backTo pos (starEach [] X.env)).any (·.1) || (backToKw pos (keywordEach kws X.env)).any (·.1.isNone)) = false := by rfl) : PE X (.Call a [] kws pos) (tIK X C sp gV ta tk) := by
  refine ⟨fun pins s σ H Q I h => ?_⟩
  rw [ht]
  refine wpAny_bind (thn (ha.run pins s σ H _ I h) fun u s1 ⟨y, H1, I1, ry, q, ey, h1⟩ => ?_)
  subst ey
  obtain rfl : u = Value.ref q := ry
  refine inst_kw hpl (PyProof.Rows.evalArgs_kw2_nil hall (thn (hk.run pos pins s1 σ H1 _ I1 h1) fun ws s2 ⟨zs, H2, I2, rz, hi, h2⟩ => ?_))
  obtain ⟨ox, od, J, hd⟩ := StX.insC_at I2 hi
  refine ⟨⟨C, ox, od, J, hd⟩, ?_⟩
  rw [hks]
  exact run_ikw (us := []) (vs := []) cO F hr hb I2 hi .nil rz h2
theorem xcallOK {C g0 : Addr} {ns : List Str} {t : FE X.K α} {k : Nat} {fd : FuncData} {ps ks : List Str} {w : W α} {ea : EA X.K γ} {ek : EA X.K δ} {wa : W δ} {fw : α × γ → W β} {er : En X.K β} {kws : List Keyword} {g : List Value → List Value → List Value} {gV : List V → List V → List V} (pm : δ → γ) (cO : StX.CallO X.K C g0) (F : FnOk X.prog X.w X.K X.mg X.base CX0 k g0 fd ps (spW PK (aC (eIns C ns t) ea) fw er)) (hr : Room k X.A)
    (hb : KBinds X.K fd ps ks g gV) (h : PX X PK pp ρ a w (eIns C ns t)) (ha : PKX X PK pp ρ kws wa ek) (hpm : ∀ {pp O H q zs y}, ek.r pp O H zs y → ∃ r, gV [q] zs = q :: r ∧ ea.r pp O H r (pm y))
    (ht : eval (.Call a [] kws pos) X.env = (do callWith pos (← eval a X.env) [] (backTo pos (starEach [] X.env)) (backToKw pos (keywordEach kws X.env))) := by rfl) (hall : (backToKw pos (keywordEach kws X.env)).all (·.1.isSome) = true := by rfl) (hks : (backToKw pos (keywordEach kws X.env)).filterMap (·.1) = ks := by rfl)
    (hpl : ((backTo pos (starEach [] X.env)).any (·.1) || (backToKw pos (keywordEach kws X.env)).any (·.1.isNone)) = false := by rfl) : PX X PK pp ρ (.Call a [] kws pos) (bnd w fun x => bnd wa fun y => fw (x, pm y)) er :=
  (pe_ikw cO F hr hb h ha ht hall hks hpl).weak fun σ H Q ⟨O, Φ, c0, S, hw, kk⟩ => ⟨O, _, c0, S, hw, fun x v H1 c1 p1 ch1 S1 r => by
    have r0 := r
    obtain ⟨a, dx, fs, e1, nO, hH, l, q⟩ := r
    subst e1
    refine ⟨a, rfl, O, _, c1, S1, p1, fun y zs H2 c2 p2 ch2 S2 r2 => ?_⟩
    have r3 := (eIns C ns t).mono ch2.mv r0
    refine ⟨?_, ?_⟩
    · obtain ⟨a', dx', fs', e2, _, hH', _⟩ := r3
      cases e2
      exact .inr ⟨dx', fs', hH'⟩
    · obtain ⟨r, e4, r4⟩ := hpm (q := V.ref a) r2
      show spW PK (aC (eIns C ns t) ea) fw er (gV [V.ref a] zs) H2 Q E0
      rw [e4]
      exact ⟨pp, Av O pp ρ, (x, pm y), Φ, c2, S2.av, fun a h => .inr (.inl h), S2.pool, ⟨_, _, rfl, r3, r4⟩, p2, fun z v H3 c3 p3 ch3 pl3 rz => kk z v H3 c3 p3 ((ch1.trans ch2).trans ch3) (S2.chg ch3 pl3) rz⟩⟩
end
end Dc
/-! DcL: list comprehensions of any number of clauses. -/
namespace Dc
open PySem PySem.Spec L2 PyProof.Rows
section
variable {prog : Program} {w : World} {A : Around} {R : Result → Shared → Prop} {s : Shared} {elt : Expr} {scope : Scope} {pos : Pos} {it acc : Value} {env : Env} {gs : List Comprehension} {d : Nat} {t i : Expr}
/-- one turn of clause d -/
theorem turn_at {ifs : List Expr} (hg : gs[d]? = some ⟨t, i, ifs, 0⟩) : compTurn (.ListComp elt gs scope pos) d it acc env = (do
      standAt i.pos
      match ← pyNext it with
      | none => pure (.done .next)
      | some u =>
        letOwnedTupleGo t it u
        assign t env u
        let mut b := true
        for z in ifs do
          if b then b ← isTrue z env (eval z env)
        if b then
          match gs[d + 1]? with
          | some g =>
            let x ← eval g.iter env
            standAt g.iter.pos
            let x ← if g.is_async != 0 then foldedIterable g.iter x else foldedSetIterable g.iter env x
            let _ ← runOwn (.compStart (.ListComp elt gs scope pos) (d + 1) (← holding [x] (if g.is_async != 0 then asyncIter x else pyIter x)) acc env) env
          | none => (do let _ ← call (.builtin "list.append") [acc, ← eval elt env])
        again (.compLoop (.ListComp elt gs scope pos) d it acc env)) := by
  unfold compTurn
  simp only [hg]
  rfl
abbrev ErrT : Type := Value → Shared → Prop
/-- what clause d does behind its store: the next clause's loop, or the element -/
def restP (prog : Program) (w : World) (A : Around) (elt : Expr) (gs : List Comprehension) (scope : Scope) (pos : Pos) (d : Nat) (acc : Value) (env : Env) (Po : Shared → Prop) (E : ErrT) (s : Shared) : Prop :=
  match gs[d + 1]? with
  | some g => wpAny (model prog w) A (eval g.iter env) (fun x t4 => wpAny (model prog w) A (pyIter x) (fun j t5 => codeAny (model prog w) A (.compStart (.ListComp elt gs scope pos) (d + 1) j acc env) (fun r t6 => match r with | .ok _ => Po t6 | .error _ => False) t5) E t4) E s
  | none => wpAny (model prog w) A (eval elt env) (fun x t4 => wpAny (model prog w) A (call (.builtin "list.append") [acc, x]) (fun _ t5 => Po t5) E t4) E s
theorem loop_at {ifs : List Expr} (hg : gs[d]? = some ⟨t, i, ifs, 0⟩) (hn : ∀ g, gs[d + 1]? = some g → g.is_async = 0 ∧ ∀ x, foldedSetIterable g.iter env x = pure x) (I : Nat → Shared → Prop)
    (turn : ∀ n s, I n s → wpAny (model prog w) A (pyNext it) (fun r t1 => match r with
      | none => R (.ok .next) t1
      | some u => wpAny (model prog w) A (letOwnedTupleGo t it u) (fun _ t2 => wpAny (model prog w) A (assign t env u) (fun _ t3 => wpAny (model prog w) A (forIn ifs true fun z b => if b = true then do let ok ← isTrue z env (eval z env); pure (ForInStep.yield ok) else pure (ForInStep.yield b)) (fun b t4 =>
          if b = true then restP prog w A elt gs scope pos d acc env (fun t5 => ∃ m, m < n ∧ I m t5) (notedBy (model prog w) A env fun e s' => R (.error e) s') t4 else ∃ m, m < n ∧ I m t4)
          (notedBy (model prog w) A env fun e s' => R (.error e) s') t3) (notedBy (model prog w) A env fun e s' => R (.error e) s') t2) (notedBy (model prog w) A env fun e s' => R (.error e) s') t1) (notedBy (model prog w) A env fun e s' => R (.error e) s') s)
    (n : Nat) (h : I n s) : codeAny (model prog w) A (.compLoop (.ListComp elt gs scope pos) d it acc env) R s := by
  refine codeAny_loop rfl I (fun n s hI => ?_) n h
  show wpAny _ A ((compTurn (.ListComp elt gs scope pos) d it acc env).onRaise (fun x => do noteFrame x env; theTreesLotGoes x)) _ _ s
  refine wpAny_noted ?_
  rw [turn_at hg]
  refine wpAny_bind (wpAny_standAt (wpAny_bind (wpAny_mono (turn n s hI) (fun r t1 q => ?_) fun _ _ z => z)))
  cases r with
  | none => exact wpAny_pure q
  | some u =>
    refine wpAny_bind (wpAny_mono q (fun _ t2 q2 => ?_) fun _ _ z => z)
    refine wpAny_bind (wpAny_mono q2 (fun _ t3 q3 => wpAny_bind (wpAny_mono q3 (fun b t4 q4 => ?_) fun _ _ z => z)) fun _ _ z => z)
    cases b with
    | false => exact wpAny_pure ⟨rfl, q4⟩
    | true =>
      have q5 : restP prog w A elt gs scope pos d acc env (fun t5 => ∃ m, m < n ∧ I m t5) (notedBy (model prog w) A env fun e s' => R (.error e) s') t4 := q4
      unfold restP at q5
      cases hd : gs[d + 1]? with
      | none =>
        rw [hd] at q5
        exact wpAny_bind (wpAny_bind (wpAny_mono q5 (fun x t5 q6 => wpAny_bind (wpAny_mono q6 (fun _ t6 q7 => wpAny_pure (wpAny_pure ⟨rfl, q7⟩)) fun _ _ z => z)) fun _ _ z => z))
      | some g =>
        obtain ⟨h0, hs⟩ := hn g hd
        obtain ⟨t1', i1, ifs1, a1⟩ := g
        cases h0
        rw [hd] at q5
        refine wpAny_bind (wpAny_mono q5 (fun x t5 q6 => ?_) fun _ _ z => z)
        refine wpAny_bind (wpAny_standAt (wpAny_bind (wpAny_of_eq (hs x) (wpAny_bind (wpAny_holding (wpAny_mono q6 (fun j t6 q7 => ?_) fun _ _ z => z))))))
        refine wpAny_bind (wpAny_runOwn ?_)
        rw [Around.mark_none]
        refine codeAny_mono q7 fun r t7 hr => ?_
        cases r with
        | ok f =>
          first
            | exact wpAny_pure ⟨rfl, hr⟩
            | exact wpAny_bind (wpAny_pure (wpAny_pure ⟨rfl, hr⟩))
        | error e => exact hr.elim
/-- a later clause's start -/
theorem start_at {ifs : List Expr} (hg : gs[d]? = some ⟨t, i, ifs, 0⟩) (h0 : codeAny (model prog w) A (.compLoop (.ListComp elt gs scope pos) d it acc env) R s)
    (h : wpAny (model prog w) A (pyIter it) (fun j t1 => codeAny (model prog w) A (.compLoop (.ListComp elt gs scope pos) d j acc env) R t1) (notedBy (model prog w) A env fun x t1 => R (.error x) t1) s) :
    codeAny (model prog w) A (.compStart (.ListComp elt gs scope pos) d it acc env) R s := by
  refine codeAny_of_tree ?_
  show wpAny _ _ ((compStart (.ListComp elt gs scope pos) d it acc env).onRaise (fun x => do noteFrame x env; standAt theWindowsPlace)) _ _ s
  refine wpAny_notedAt ?_
  unfold compStart
  simp only [show clausesOf (.ListComp elt gs scope pos) = gs from rfl, hg]
  show wpAny _ _ (ask >>= _) _ _ s
  refine wpAny_bind (wpAny_askSetting (wpAny_ite ?_))
  split
  · first
      | exact wpAny_bind (wpAny_pure (wpAny_pure (And.intro rfl h0)))
      | exact wpAny_pure (And.intro rfl h0)
  · first
      | exact wpAny_bind (wpAny_rule (wpAny_bind (wpAny_standAt (wpAny_bind (wpAny_mono h (fun j t1 q => wpAny_pure (And.intro rfl q)) fun _ _ x => x)))))
      | (refine wpAny_bind (wpAny_rule ?_); show wpAny _ _ (standAt i.pos >>= _) _ _ s; exact wpAny_bind (wpAny_standAt (wpAny_bind (wpAny_mono h (fun j t1 q => wpAny_pure (And.intro rfl q)) fun _ _ x => x))))
end
/-- readings of what clause d does behind its store, the list at D -/
def TR : Type := L2.St → Hp → (Hp → Prop) → Prop
/-- from any state that is read so the rest of clause d comes through; slots in vs may be lost -/
structure PR (Y : Cx) (elt : Expr) (gs : List Comprehension) (scope : Scope) (pos : Pos) (d : Nat) (D : Addr) (vs : List Nat) (tr : TR) : Prop where
  run : ∀ (pins : List (Addr × Obj)) (s : Shared) (σ : L2.St) (H : Hp) (N : Hp → Prop), Inv Y pins σ H s → tr σ H N → ∀ E : ErrT, restP Y.prog Y.w Y.A elt gs scope pos d (.ref D) Y.env (fun t5 => ∃ H', Inv Y pins (wipe σ vs) H' t5 ∧ N H') E s
section
variable {Y : Cx} {elt : Expr} {gs : List Comprehension} {scope : Scope} {pos : Pos} {d : Nat} {D : Addr}
theorem PR.ex {ι : Type} {vs : List Nat} {tr : ι → TR} (h : ∀ x, PR Y elt gs scope pos d D vs (tr x)) : PR Y elt gs scope pos d D vs (fun σ H N => ∃ x, tr x σ H N) := ⟨fun pins s σ H N I ⟨x, q⟩ E => (h x).run pins s σ H N I q E⟩
theorem PR.weak {vs : List Nat} {tr tr' : TR} (h : PR Y elt gs scope pos d D vs tr) (f : ∀ σ H N, tr' σ H N → tr σ H N) : PR Y elt gs scope pos d D vs tr' := ⟨fun pins s σ H N I q E => h.run pins s σ H N I (f σ H N q) E⟩
theorem pr_end {te : TE} (hx : Y.xe = fun _ _ => False) (hg : gs[d + 1]? = none) (he : PE Y elt te) : PR Y elt gs scope pos d D [] (fun σ H N => te σ H fun y H1 => ∃ acc, H1 D = some (.lst acc) ∧ acc.length < sizeLine ∧ N (upd H1 D (.lst (acc ++ [y])))) := by
  refine ⟨fun pins s σ H N I q E => ?_⟩
  unfold restP
  rw [hg]
  have h1 := he.run pins s σ H _ I q
  rw [hx] at h1
  refine thnF h1 fun z t1 h2 => ?_
  obtain ⟨y, H1, I1, r1, acc, hD, hz, nx⟩ := h2
  exact app_ok I1 hD hz r1 fun t2 I2 => ⟨_, I2, nx⟩
theorem pr_mid {t i : Expr} {wi : TI} {g : TG} {vs ws : List Nat} {tr : TR} (hx : Y.xe = fun _ _ => False) (hc : Y.calm = true) (hg : gs[d + 1]? = some ⟨t, i, [], 0⟩) (hn : ∀ g, gs[d + 2]? = some g → g.is_async = 0 ∧ ∀ x, foldedSetIterable g.iter Y.env x = pure x) (hi : PI Y t i wi) (hp : PG Y t g) (hr : PR Y elt gs scope pos (d + 1) D ws tr) (hv : ∀ k ∈ ws, k ∈ vs) :
    PR Y elt gs scope pos d D vs (fun σ H N => wi σ H fun J H1 => ∃ V : Nat → Nat → Hp → Prop, (∃ m, V 0 m H1) ∧ ∀ j k H, V j k H → (J.stop j H ∧ N H) ∨ (J.go j H ∧ ∃ Nx : Hp → Prop, (∀ H', Nx H' → ∃ k', k' < k ∧ V (j + 1) k' H') ∧ ∀ x H', J.yld j H x H' → g x (wipe σ vs) H' fun σ2 H2 => wipe σ2 vs = wipe σ vs ∧ tr σ2 H2 Nx)) := by
  refine ⟨fun pins s σ H N I q E => ?_⟩
  unfold restP
  rw [hg]
  have h1 := hi.run pins s σ H _ I q
  rw [hx] at h1
  refine thnF h1 fun xv t1 h2 => thnF h2 fun itv t2 h2 => ?_
  obtain ⟨j0, fp, tn, J, H2, e, I2, T, st2, f2, V, ⟨m0, v0⟩, turn⟩ := h2
  subst e
  have stat : ∀ {H' : Hp}, (∀ b ∈ fp, H' b = none) → ∀ b ∈ fp, FpOk Y pins H' b := fun hn b hb => ⟨hn b hb, (f2 b hb).2⟩
  have loop : codeAny (model Y.prog Y.w) Y.A (.compLoop (.ListComp elt gs scope pos) (d + 1) (.ref j0) (.ref D) Y.env) (fun r t6 => match r with | .ok _ => ∃ H', Inv Y pins (wipe σ vs) H' t6 ∧ N H' | .error _ => False) t2 := by
    refine loop_at hg hn (fun k t3 => ∃ j H', Inv Y pins (wipe σ vs) H' t3 ∧ tn j t3.heap ∧ (∀ b ∈ fp, H' b = none) ∧ V j k H') ?_ m0 ⟨0, H2, I2.weak (wipe_length _ _) (fun j v e => (wipe_some e).1), st2, fun b hb => (f2 b hb).1, v0⟩
    rintro k t3 ⟨j, H3, I3, st3, n3, v3⟩
    rcases turn j k H3 v3 with ⟨stop, nx⟩ | ⟨go, Nx, hNx, step⟩
    · refine thnF (T.done Y rfl rfl rfl hc j _ t3 (wipe σ vs) H3 (fun _ _ => False) I3 (stat n3) st3 stop) fun r t4 ⟨hr, I4⟩ => ?_
      subst hr
      exact ⟨H3, I4, nx⟩
    · refine thnF (T.item Y rfl rfl rfl hc j _ t3 (wipe σ vs) H3 (fun _ _ => False) I3 (stat n3) st3 go) fun r t4 ⟨u, hr', h4⟩ => ?_
      subst hr'
      refine thnF h4 fun _ t5 ⟨x, H5, I5, r5, y5, st5, n5⟩ => ?_
      have I5' := I5.pinned (stat n5) (T.obj _ _ st5)
      have h5 := hp.run _ t5 (wipe σ vs) H5 x u _ I5' r5 (step x H5 y5)
      rw [hx] at h5
      refine thnF h5 fun _ t6 h6 => ?_
      obtain ⟨σ6, H6, I6, hw6, q6⟩ := h6
      have h7 := (pts_nil (X := Y)).run _ t6 σ6 H6 _ I6 (show tYes σ6 H6 (fun b H' => b = true ∧ tr σ6 H' Nx) from ⟨rfl, q6⟩)
      rw [hx] at h7
      refine thnF h7 fun b t7 h8 => ?_
      obtain ⟨H7, I7, hb, q7⟩ := h8
      subst hb
      simp only [if_true]
      have z := hr.run _ t7 σ6 H7 Nx I7 q7
      have fin : ∀ t8, (∃ H', Inv Y (pins ++ pinsAt fp t5.heap) (wipe σ6 ws) H' t8 ∧ Nx H') → ∃ m, m < k ∧ ∃ j H', Inv Y pins (wipe σ vs) H' t8 ∧ tn j t8.heap ∧ (∀ b ∈ fp, H' b = none) ∧ V j m H' := fun t8 ⟨H', I', nx⟩ => by
        obtain ⟨m', hm, w'⟩ := hNx H' nx
        have pin' : ∀ b ∈ fp, ∀ o, t5.heap.get? b = some o → t8.heap.get? b = some o ∧ H' b = none := fun b hb o e =>
          let z := I'.pin (b, o) (List.mem_append_right _ (List.mem_append_right _ (mem_pinsAt hb e)))
          ⟨z.1, z.2.1⟩
        refine ⟨m', hm, j + 1, H', I'.unpinned.weak (by rw [← hw6, wipe_length, wipe_length]) (fun l v e => ?_), T.keep _ _ _ st5 fun b hb o e => (pin' b hb o e).1, fun b hb => ?_, w'⟩
        · rw [← hw6] at e
          obtain ⟨e1, e2⟩ := wipe_some e
          rw [wipe_out fun z => e2 (hv l z)]
          exact e1
        · obtain ⟨o, e, _⟩ := T.obj _ _ st5 b hb
          exact (pin' b hb o e).2
      have z2 := z (notedBy (model Y.prog Y.w) Y.A Y.env fun e s' => (match (Except.error e : Result) with | .ok _ => ∃ H', Inv Y pins (wipe σ vs) H' s' ∧ N H' | .error _ => False))
      unfold restP at z2 ⊢
      revert z2
      cases gs[d + 1 + 1]? with
      | none => exact fun z2 => wpAny_mono z2 (fun _ _ q => wpAny_mono q (fun _ t8 q => fin t8 q) fun _ _ z => z) fun _ _ z => z
      | some g2 => exact fun z2 => wpAny_mono z2 (fun _ _ q => wpAny_mono q (fun _ _ q => codeAny_mono q fun r t8 q => (match r, q with | .ok _, q => fin t8 q | .error _, q => q)) fun _ _ z => z) fun _ _ z => z
  exact start_at hg loop (T.self Y.A 0 _ _ _ st2 loop)
end
section
variable {X : Cx}
/-- a comprehension's whole, from the rest of its first clause -/
theorem pe_lcN {elt tg iter : Expr} {gs : List Comprehension} {scope : Scope} {own : List (Str × Nat)} {vs : List Nat} {pos : Pos} {wi : TI} {g : TG} {tr : Addr → TR} (hc : X.calm = true) (hN : X.N.Nodup) (hi : PI X tg iter wi) (ok : BlkOk X.N X.env.scope scope own) (hv : ∀ k ∈ vs, k ∈ own.map (·.2))
    (hg : ∀ (s : Shared) (H : Hp) (C : Addr) (cl : List (Str × Addr)) (fp : List Addr), PG (X.blk s H scope (compEnvC scope cl C X.env) fp) tg g)
    (hr : ∀ (s : Shared) (H : Hp) (C : Addr) (cl : List (Str × Addr)) (fp : List Addr) (D : Addr), PR (X.blk s H scope (compEnvC scope cl C X.env) fp) elt (⟨tg, iter, [], 0⟩ :: gs) scope pos 0 D vs (tr D))
    (hn : ∀ env g, gs[0]? = some g → g.is_async = 0 ∧ ∀ x, foldedSetIterable g.iter env x = pure x) (hs : ∀ x, foldedSetIterable iter X.env x = pure x := by intro _; rfl) :
    PE X (.ListComp elt (⟨tg, iter, [], 0⟩ :: gs) scope pos) (fun σ H Q => wi σ H fun J H1 => ∀ D, H1 D = none → ∃ V : Nat → Nat → Hp → Prop, (∃ m, V 0 m (upd H1 D (.lst []))) ∧ ∀ i m H, V i m H →
      (J.stop i H ∧ Q (.ref D) H) ∨ (J.go i H ∧ ∃ Nx : Hp → Prop, (∀ H', Nx H' → ∃ m', m' < m ∧ V (i + 1) m' H') ∧ ∀ x H', J.yld i H x H' → g x (wipe σ (own.map (·.2))) H' fun σ2 H2 => wipe σ2 (own.map (·.2)) = wipe σ (own.map (·.2)) ∧ tr D σ2 H2 Nx)) := by
  refine ⟨fun pins s σ H Q I h => ?_⟩
  rw [eval_ListComp]
  have hfree : ∀ y ∈ scope.names, y.2 = .free → ∃ c, X.env.cells.lookup y.1 = some c := fun y hy e => (ok.free y hy e).elim (fun k => I.ok.has _ (.inl k)) (fun k => I.ok.has _ (.inr k))
  refine wpAny_comprehension_free (use := none) rfl hs (closure_ok hfree) ok.kind (fun y hy e => by rw [ok.uniq y hy, e]) (thn (hi.run pins s σ H _ I h) fun xv t1 hx => thn hx fun itv t2 h2 => ?_)
  obtain ⟨j0, fp, tn, J, H2, e, I2, T, st2, f2, q⟩ := h2
  subst e
  refine wpAny_newObj_type (newEnv_comp ?_) (by show 0 ≤ sizeLine; decide)
  generalize hD : t2.heap.objs.size = D
  have hDn : H2 D = none := I2.hok.fresh (Nat.le_of_eq hD)
  obtain ⟨V, ⟨m0, v0⟩, turn⟩ := q D hDn
  generalize ht3 : ({ t2 with heap := t2.heap.push { cls := .type "list", data := .seq ([] : List Value).toArray } } : Shared) = t3
  have h3 : t3.heap = t2.heap.push { cls := .type "list", data := .seq ([] : List Value).toArray } := by rw [← ht3]
  have I3 : Inv X pins σ (upd H2 D (.lst [])) t3 := by
    rw [← ht3]
    exact I2.laid (t' := t2.toks) (fun b o e => Heap.get?_push_of_some _ e) (Nat.le_of_eq hD) ⟨Nat.zero_le _, [], 0, .nil, by rw [← hD]; exact Heap.get?_push_size _ rfl⟩
  have f3 : ∀ b ∈ fp, FpOk X pins (upd H2 D (.lst [])) b ∧ b < t3.heap.objs.size := fun b hb => by
    obtain ⟨o, e, _⟩ := T.obj _ _ st2 b hb
    have hlt := Heap.lt_size e
    exact ⟨⟨by rw [upd_ne (by rw [← hD]; exact Nat.ne_of_lt hlt)]; exact (f2 b hb).1, (f2 b hb).2⟩, by rw [h3, Heap.size_push]; exact Nat.lt_succ_of_lt hlt⟩
  have st3 : tn 0 t3.heap := T.keep _ _ _ st2 fun b _ o e => by rw [h3]; exact Heap.get?_push_of_some _ e
  have I4 := block_start I3 ok hN f3
  have pg := hg t3 (upd H2 D (.lst [])) t3.heap.objs.size (cellsFrom (t3.heap.objs.size + 1) scope.names (cloFrom X.env.cells scope.names [])) fp
  have pr := hr t3 (upd H2 D (.lst [])) t3.heap.objs.size (cellsFrom (t3.heap.objs.size + 1) scope.names (cloFrom X.env.cells scope.names [])) fp D
  show codeAny _ _ (.compStart (.ListComp elt (⟨tg, iter, [], 0⟩ :: gs) scope pos) 0 (.ref j0) (.ref D) (compEnvC scope (cellsFrom (t3.heap.objs.size + 1) scope.names (cloFrom X.env.cells scope.names [])) t3.heap.objs.size X.env)) (compPost (model X.prog X.w) X.A X.xe none _ (.ref D) t3.heap.objs.size) { t3 with heap := pushCells (t3.heap.push { cls := .type "dict", data := .dict #[] }) scope.names }
  have nfp : ∀ b ∈ fp, (upd H2 D (.lst [])) b = none := fun b hb => (f3 b hb).1.1
  generalize hce : compEnvC scope (cellsFrom (t3.heap.objs.size + 1) scope.names (cloFrom X.env.cells scope.names [])) t3.heap.objs.size X.env = ce at I4 pg pr ⊢
  have cL : ce.locals = t3.heap.objs.size := by subst hce; rfl
  generalize hH3 : upd H2 D (.lst []) = H3 at I3 I4 pg pr v0 nfp f3
  generalize hs4 : ({ t3 with heap := pushCells (t3.heap.push { cls := .type "dict", data := .dict #[] }) scope.names } : Shared) = t4 at I4 ⊢
  have st4 : tn 0 t4.heap := T.keep _ _ _ st3 fun b _ o e => by rw [← hs4]; exact pushCells_keeps _ _ _ _ (Heap.get?_push_of_some _ e)
  have stat : ∀ {σ' : L2.St} {H' : Hp} {s' : Shared}, Inv (X.blk t3 H3 scope ce fp) [] σ' H' s' → (∀ b ∈ fp, H' b = none) → ∀ b ∈ fp, FpOk (X.blk t3 H3 scope ce fp) [] H' b := fun {σ' H' s'} I' hn b hb =>
    ⟨hn b hb, (I'.ok.exf b hb).1, I'.ok.exfs b hb, .inl hb, fun x c e => (I'.ok.exf b hb).2 x c e, fun p hp => absurd (show p ∈ ([] : List (Addr × Obj)) ++ [] from hp) (by simp)⟩
  have loop : codeAny (model X.prog X.w) X.A (.compLoop (.ListComp elt (⟨tg, iter, [], 0⟩ :: gs) scope pos) 0 (.ref j0) (.ref D) ce) (compPost (model X.prog X.w) X.A X.xe none (EP X pins σ Q) (.ref D) t3.heap.objs.size) t4 := by
    refine loop_at (ifs := []) rfl (fun g hg' => hn ce g hg') (fun n t5 => ∃ i H', Inv (X.blk t3 H3 scope ce fp) [] (wipe σ (own.map (·.2))) H' t5 ∧ tn i t5.heap ∧ (∀ b ∈ fp, H' b = none) ∧ V i n H') ?_ m0 ⟨0, H3, I4, st4, nfp, v0⟩
    rintro n t5 ⟨i, H5, I5, st5, n5, v5⟩
    rcases turn i n H5 v5 with ⟨stop, qq⟩ | ⟨go, Nx, hNx, step⟩
    · refine thnF (T.done (X.blk t3 H3 scope ce fp) rfl rfl rfl hc i [] t5 _ H5 (fun _ _ => False) I5 (stat I5 n5) st5 stop) fun r t6 ⟨hr', I6⟩ => ?_
      subst hr'
      have I7 : Inv X pins σ H5 t6 := I3.call' (ch := fp) I6.os I6.base I6.hok I6.bare fun b hb => ⟨(f3 b hb).1.2.2.2.1, (f3 b hb).1.2.1, (f3 b hb).1.2.2.2.2.1, (f3 b hb).1.2.2.2.2.2⟩
      have nC : H5 t3.heap.objs.size = none := by
        have z : H5 ce.locals = none := I6.free
        rw [cL] at z
        exact z
      obtain ⟨m, hm, _⟩ := I6.loc
      have hm : t6.heap.Ns ce.locals m := hm
      rw [cL] at hm
      obtain ⟨f0, f1, f2', f3', f4, f5⟩ := I3.fpOk (Nat.le_refl _) nC
      exact ⟨m, hm, fun h'' sb => ⟨.ref D, H5, I7.turned (t' := t6.toks) (fun b o hb e => (sb.2 b hb).trans e) f0 f1 f3' f4 f5, rfl, qq⟩⟩
    · refine thnF (T.item (X.blk t3 H3 scope ce fp) rfl rfl rfl hc i [] t5 _ H5 (fun _ _ => False) I5 (stat I5 n5) st5 go) fun r t6 ⟨u, hr', h6⟩ => ?_
      subst hr'
      refine thnF h6 fun _ t7 ⟨x, H7, I7, r7, y7, st7, n7⟩ => ?_
      have I7' := I7.pinned (stat I7 n7) (T.obj _ _ st7)
      refine thnF (pg.run _ t7 _ H7 x u _ I7' r7 (step x H7 y7)) fun _ t8 ⟨σ8, H8, I8, hw8, q8⟩ => ?_
      refine thnF ((pts_nil (X := X.blk t3 H3 scope ce fp)).run _ t8 σ8 H8 _ I8 (show tYes σ8 H8 (fun b H' => b = true ∧ tr D σ8 H' Nx) from ⟨rfl, q8⟩)) fun b t9 ⟨H9, I9, hb, q9⟩ => ?_
      subst hb
      simp only [if_true]
      have fin : ∀ t10, (∃ H', Inv (X.blk t3 H3 scope ce fp) ([] ++ pinsAt fp t7.heap) (wipe σ8 vs) H' t10 ∧ Nx H') → ∃ m, m < n ∧ ∃ i H', Inv (X.blk t3 H3 scope ce fp) [] (wipe σ (own.map (·.2))) H' t10 ∧ tn i t10.heap ∧ (∀ b ∈ fp, H' b = none) ∧ V i m H' := fun t10 ⟨H', I', nx⟩ => by
        obtain ⟨m', hm, w'⟩ := hNx H' nx
        have pin' : ∀ b ∈ fp, ∀ o, t7.heap.get? b = some o → t10.heap.get? b = some o ∧ H' b = none := fun b hb o e =>
          let z := I'.pin (b, o) (List.mem_append_right _ (List.mem_append_right _ (mem_pinsAt hb e)))
          ⟨z.1, z.2.1⟩
        refine ⟨m', hm, i + 1, H', (I'.unpinned (pins := [])).weak (by rw [← hw8, wipe_length, wipe_length]) (fun l v e => ?_), T.keep _ _ _ st7 fun b hb o e => (pin' b hb o e).1, fun b hb => ?_, w'⟩
        · rw [← hw8] at e
          obtain ⟨e1, e2⟩ := wipe_some e
          rw [wipe_out fun z => e2 (hv l z)]
          exact e1
        · obtain ⟨o, e, _⟩ := T.obj _ _ st7 b hb
          exact (pin' b hb o e).2
      have z := pr.run _ t9 σ8 H9 Nx I9 q9 (notedBy (model X.prog X.w) X.A ce fun e s' => compPost (model X.prog X.w) X.A X.xe none (EP X pins σ Q) (.ref D) t3.heap.objs.size (.error e) s')
      unfold restP at z ⊢
      revert z
      cases (⟨tg, iter, [], 0⟩ :: gs)[0 + 1]? with
      | none => exact fun z => wpAny_mono z (fun _ _ q => wpAny_mono q (fun _ t10 q => fin t10 q) fun _ _ z => z) fun _ _ z => z
      | some g2 => exact fun z => wpAny_mono z (fun _ _ q => wpAny_mono q (fun _ _ q => codeAny_mono q fun r t10 q => (match r, q with | .ok _, q => fin t10 q | .error _, q => q)) fun _ _ z => z) fun _ _ z => z
  exact codeAny_compStart_list loop (T.self X.A 0 _ _ _ st4 loop)
end
/-! ### what the clauses compute -/
section
variable {X : Cx} {PK : PoolK} {pp : PP} {ρ : List (Sl X.K)} {α β γ δ : Type}
def fldW (f : γ → α → W γ) : γ → List α → W γ
  | s, [] => ret s
  | s, x :: r => bnd (f s x) fun s' => fldW f s' r
def addW (w : W β) (acc : List β) : W (List β) := bnd w fun y => grd (decide (acc.length < 16777216)) (ret (acc ++ [y]))
/-- the rest of a clause, by what the list at D holds -/
def rdR {K : PySem.W.Frag} (PK : PoolK) (pp : PP) (ρ : List (Sl K)) (w : List β → W (List β)) (en : En K β) (D : Addr) : TR := fun σ H N => ∃ O Φ c acc vs, Sat PK (Ox O D) pp ρ c σ H ∧ ¬ foot pp D ∧ H D = some (.lst vs) ∧ F2 (en.r (Av (Ox O D) pp ρ) H) vs acc ∧ w acc Φ noX c ∧
  ∀ acc' vs' H' c', Φ acc' c' → H' D = some (.lst vs') → F2 (en.r (Av (Ox O D) pp ρ) H') vs' acc' → Chg pp (upd H D (.lst [])) (upd H' D (.lst [])) → Sat PK (Ox O D) pp ρ c' σ H' → N H'
theorem Sat.beside {K : PySem.W.Frag} {ρ : List (Sl K)} {O : AS} {D : Addr} {c c' : Nat} {σ : L2.St} {H H' : Hp} {vs vs' : List V} (S : Sat PK (Ox O D) pp ρ c σ H) (nf : ¬ foot pp D) (e : H D = some (.lst vs)) (e' : H' D = some (.lst vs')) (ch : Chg pp (upd H D (.lst [])) (upd H' D (.lst []))) (p : PoolOk PK pp H' c') : Sat PK (Ox O D) pp ρ c' σ H' := by
  have p2 : PoolOk PK pp (upd H' D (.lst vs)) c' := by
    cases pp with
    | none => exact True.intro
    | some q =>
      obtain ⟨a, b⟩ := q
      have q : PK.r H' a b c' := p
      exact PK.keep (upd_ne fun z => nf (.inl z.symm)) (upd_ne fun z => nf (.inr z.symm)) q
  have ch2 : Chg pp H (upd H' D (.lst vs)) := fun a o ea hf => by
    by_cases ne : a = D
    · subst ne; rw [upd_same]; rw [e] at ea; exact ea
    · have z := ch a o (by rw [upd_ne ne]; exact ea) hf
      rw [upd_ne ne] at z ⊢
      exact z
  have S2 := (S.chg ch2 p2).updO (o := .lst vs') (.inr rfl) nf
  have eq : upd (upd H' D (.lst vs)) D (.lst vs') = H' := by
    funext a
    by_cases ne : a = D
    · subst ne; rw [upd_same, e']
    · rw [upd_ne ne, upd_ne ne]
  rw [eq] at S2
  exact S2
theorem fold_V {K : PySem.W.Frag} {ρ : List (Sl K)} {xs : List α} {ext : List (Sl K) → α → List (Sl K)} {js vs : List Nat} {g : TG} {J : It} {A0 : AS} {H1 Hs : Hp} {O : AS} {D : Addr} {σ : L2.St} {wr : α → List β → W (List β)} {en : En K β} {Φ : List β → WB} {acc0 : List β} {vs0 : List V} {c0 : Nat} {Fin : Hp → Prop}
    (src : Src PK xs ext js g J A0 H1) (nf : ¬ foot pp D) (mvs : ∀ H', Chg pp (upd H1 D (.lst [])) (upd H' D (.lst [])) → Mv A0 (Av (Ox O D) pp ρ) H1 H') (hj : ∀ j ∈ js, j ∈ vs) (hn : ∀ i ∈ vs, get ρ i = .nil) (ho : ∀ x, owns (ext ρ x) = owns ρ)
    (e0 : Hs D = some (.lst vs0)) (f0 : F2 (en.r (Av (Ox O D) pp ρ) Hs) vs0 acc0) (ch0 : Chg pp (upd H1 D (.lst [])) (upd Hs D (.lst []))) (S0 : Sat PK (Ox O D) pp ρ c0 σ Hs) (w0 : fldW (fun acc x => wr x acc) acc0 xs Φ noX c0)
    (done : ∀ acc' vs' H' c', Φ acc' c' → H' D = some (.lst vs') → F2 (en.r (Av (Ox O D) pp ρ) H') vs' acc' → Chg pp (upd H1 D (.lst [])) (upd H' D (.lst [])) → Sat PK (Ox O D) pp ρ c' σ H' → Fin H') :
    ∃ V : Nat → Nat → Hp → Prop, (∃ m, V 0 m Hs) ∧ ∀ i m H, V i m H → (J.stop i H ∧ Fin H) ∨ (J.go i H ∧ ∃ Nx : Hp → Prop, (∀ H', Nx H' → ∃ m', m' < m ∧ V (i + 1) m' H') ∧ ∀ x H', J.yld i H x H' → g x (wipe σ vs) H' fun σ2 H2 => wipe σ2 vs = wipe σ vs ∧ ∃ y, rdR PK pp (ext ρ y) (wr y) en D σ2 H2 Nx) := by
  refine ⟨fun i m H' => m = xs.length - i ∧ i ≤ xs.length ∧ ∃ acc us c', H' D = some (.lst us) ∧ F2 (en.r (Av (Ox O D) pp ρ) H') us acc ∧ Chg pp (upd H1 D (.lst [])) (upd H' D (.lst [])) ∧ Sat PK (Ox O D) pp ρ c' σ H' ∧ fldW (fun acc x => wr x acc) acc (xs.drop i) Φ noX c',
    ⟨xs.length, by simp, Nat.zero_le _, acc0, vs0, c0, e0, f0, ch0, S0, by simpa using w0⟩, ?_⟩
  rintro i m H' ⟨rfl, hi', acc, us0, c', eD, fD, chD, S', hw'⟩
  have mv := mvs H' chD
  by_cases hlt : i < xs.length
  · refine .inr ⟨src.go i H' _ hlt mv, fun H3 => ∃ acc us c', H3 D = some (.lst us) ∧ F2 (en.r (Av (Ox O D) pp ρ) H3) us acc ∧ Chg pp (upd H1 D (.lst [])) (upd H3 D (.lst [])) ∧ Sat PK (Ox O D) pp ρ c' σ H3 ∧ fldW (fun acc x => wr x acc) acc (xs.drop (i + 1)) Φ noX c', fun H3 q => ⟨xs.length - (i + 1), by omega, rfl, hlt, q⟩, fun v H2 y => ?_⟩
    obtain ⟨us, H3, eus, sm, S3, hQ⟩ := src.yld i xs[i] H' v H2 pp ρ (Ox O D) c' (wipe σ vs) (List.getElem?_eq_getElem hlt) mv (S'.wipe hn) y
    refine hQ _ ⟨wipe_setAll fun u hu => hj _ (by rw [← eus]; exact List.mem_map.mpr ⟨u, hu, rfl⟩), xs[i], ?_⟩
    rw [List.drop_eq_getElem_cons hlt] at hw'
    have mva : Mv (Av (Ox O D) pp ρ) (Av (Ox O D) pp (ext ρ xs[i])) H' H3 := fun a o n e => ⟨sm a o e, fun z => n (by unfold Av at z ⊢; rw [ho] at z; exact z)⟩
    refine ⟨O, _, c', acc, us0, S3, nf, sm D _ eD, fD.imp fun _ _ => en.mono mva, hw', fun acc2 vs2 H4 c4 p4 e4 f4 ch4 S4 => ?_⟩
    have ch5 : Chg pp (upd H' D (.lst [])) (upd H4 D (.lst [])) := fun a o e hf => ch4 a o (by
      by_cases ne : a = D
      · subst ne; rw [upd_same] at e ⊢; exact e
      · rw [upd_ne ne] at e ⊢; exact sm a o e) hf
    exact ⟨acc2, vs2, c4, e4, f4.imp fun _ _ => en.mono (Mv.less fun a z => by unfold Av at z ⊢; rw [ho]; exact z), chD.trans ch5, S'.beside nf eD e4 ch5 S4.pool, p4⟩
  · have e : i = xs.length := by omega
    subst e
    rw [List.drop_length] at hw'
    exact .inl ⟨src.stop H' _ mv, done acc us0 H' c' hw' eD fD chD S'⟩
variable {elt : Expr} {gs : List Comprehension} {scope : Scope} {pos : Pos} {d : Nat} {D : Addr}
theorem px_end {w : W β} {en : En X.K β} (hx : X.xe = fun _ _ => False) (hg : gs[d + 1]? = none) (he : PX X PK pp ρ elt w en) : PR X elt gs scope pos d D [] (rdR PK pp ρ (addW w) en D) :=
  (pr_end hx hg he).weak fun σ H N ⟨O, Φ, c, acc, vs, S, nf, eD, fD, hw, k⟩ => ⟨Ox O D, _, c, S, hw, fun y v H1 c1 p1 ch S1 r => by
    have e1 := ch D _ eD nf
    refine ⟨vs, e1, by rw [fD.length, sizeLine_eq]; exact of_decide_eq_true p1.1, k (acc ++ [y]) (vs ++ [v]) _ c1 p1.2 upd_same ?_ ?_ (S1.updO (.inr rfl) nf)⟩
    · have mv1 : Mv (Av (Ox O D) pp ρ) (Av (Ox O D) pp ρ) H1 (upd H1 D (.lst (vs ++ [v]))) := fun a o n e => ⟨by rw [upd_ne (fun z => n (by rw [z]; exact .inl (.inr rfl)))]; exact e, n⟩
      exact (fD.imp fun _ _ => en.mono (ch.mv.trans mv1)).append (.cons (en.mono mv1 r) .nil)
    · intro a o e hf
      rw [upd_upd]
      by_cases ne : a = D
      · subst ne; rw [upd_same] at e ⊢; exact e
      · rw [upd_ne ne] at e ⊢; exact ch a o e hf⟩
theorem mv_beside {O : AS} {H1 : Hp} : ∀ H', Chg pp (upd H1 D (.lst [])) (upd H' D (.lst [])) → Mv (Av (Ox O D) pp ρ) (Av (Ox O D) pp ρ) H1 H' := fun H' ch a o n e => by
  have ne : a ≠ D := fun z => n (by rw [z]; exact .inl (.inr rfl))
  have z := ch a o (by rw [upd_ne ne]; exact e) fun z => n (.inr (.inl z))
  rw [upd_ne ne] at z
  exact ⟨z, n⟩
theorem px_mid {t i : Expr} {wi : W (List α)} {ext : List (Sl X.K) → α → List (Sl X.K)} {js vs ws : List Nat} {g : TG} {wr : α → List β → W (List β)} {en : En X.K β} (hx : X.xe = fun _ _ => False) (hc : X.calm = true) (hg : gs[d + 1]? = some ⟨t, i, [], 0⟩) (hn : ∀ g, gs[d + 2]? = some g → g.is_async = 0 ∧ ∀ x, foldedSetIterable g.iter X.env x = pure x)
    (hi : PI X t i (rdI PK pp ρ wi ext js g)) (hp : PG X t g) (hr : ∀ x, PR X elt gs scope pos (d + 1) D ws (rdR PK pp (ext ρ x) (wr x) en D)) (hv : ∀ k ∈ ws, k ∈ vs) (hj : ∀ j ∈ js, j ∈ vs) (hnn : ∀ i ∈ vs, get ρ i = .nil) (ho : ∀ x, owns (ext ρ x) = owns ρ) :
    PR X elt gs scope pos d D vs (rdR PK pp ρ (fun acc => bnd wi fun xs => fldW (fun acc x => wr x acc) acc xs) en D) :=
  (pr_mid hx hc hg hn hi hp (PR.ex hr) hv).weak fun σ H N ⟨O, Φ, c, acc, us, S, nf, eD, fD, hw, k⟩ => ⟨Ox O D, _, c, S, hw, fun xs J H1 c1 p1 ch S1 src hz => by
    have ch' : Chg pp (upd H D (.lst [])) (upd H1 D (.lst [])) := fun a o e hf => by
      by_cases ne : a = D
      · subst ne; rw [upd_same] at e ⊢; exact e
      · rw [upd_ne ne] at e ⊢; exact ch a o e hf
    exact fold_V src nf mv_beside hj hnn ho (ch D _ eD nf) (fD.imp fun _ _ => en.mono ch.mv) .refl S1 p1 fun acc' vs' H' c' p e f ch2 S' => k acc' vs' H' c' p e f (ch'.trans ch2) S'⟩
theorem px_top {tg iter : Expr} {own : List (Str × Nat)} {wi : W (List α)} {ext : List (Sl X.K) → α → List (Sl X.K)} {js vs : List Nat} {g : TG} {wr : α → List β → W (List β)} {en : En X.K β} (hc : X.calm = true) (hN : X.N.Nodup) (hi : PI X tg iter (rdI PK pp ρ wi ext js g)) (ok : BlkOk X.N X.env.scope scope own) (hv : ∀ k ∈ vs, k ∈ own.map (·.2))
    (hg : ∀ (s : Shared) (H : Hp) (C : Addr) (cl : List (Str × Addr)) (fp : List Addr), PG (X.blk s H scope (compEnvC scope cl C X.env) fp) tg g)
    (hr : ∀ (s : Shared) (H : Hp) (C : Addr) (cl : List (Str × Addr)) (fp : List Addr) (D : Addr) (x : α), PR (X.blk s H scope (compEnvC scope cl C X.env) fp) elt (⟨tg, iter, [], 0⟩ :: gs) scope pos 0 D vs (rdR PK pp (ext ρ x) (wr x) en D))
    (hn : ∀ env g, gs[0]? = some g → g.is_async = 0 ∧ ∀ x, foldedSetIterable g.iter env x = pure x) (hj : ∀ j ∈ js, j ∈ own.map (·.2)) (hnn : ∀ i ∈ own.map (·.2), get ρ i = .nil) (ho : ∀ x, owns (ext ρ x) = owns ρ) (hs : ∀ x, foldedSetIterable iter X.env x = pure x := by intro _; rfl) :
    PE X (.ListComp elt (⟨tg, iter, [], 0⟩ :: gs) scope pos) (rdF PK pp ρ (bnd wi fun xs => fldW (fun acc x => wr x acc) [] xs) en) :=
  (pe_lcN (tr := fun D σ H N => ∃ x, rdR PK pp (ext ρ x) (wr x) en D σ H N) hc hN hi ok hv hg (fun s H C cl fp D => PR.ex (hr s H C cl fp D)) hn hs).weak fun σ H Q ⟨O, Φ, c, S, hw, k⟩ => ⟨O, _, c, S, hw, fun xs J H1 c1 p1 ch S1 src hz D hD => by
    have nf := nfoot S1 hD
    have mv0 : Mv (Av O pp ρ) (Av (Ox O D) pp ρ) H1 (upd H1 D (.lst [])) := Mv.newA hD
    refine fold_V src nf (fun H' ch2 a o n e => ?_) hj hnn ho upd_same .nil (by rw [upd_upd]; exact .refl) (S1.newO hD) p1 fun acc' vs' H' c' p e f ch2 S' => ?_
    · obtain ⟨e1, n1⟩ := mv0 a o n e
      have ne : a ≠ D := ne_of_none e hD
      have z := ch2 a o e1 fun z => n (.inr (.inl z))
      rw [upd_ne ne] at z
      exact ⟨z, n1⟩
    · refine k acc' D vs' H' c' p (chg_none S1 ch hD) (fun a o ea hf => ?_) S' e f
      have ne : a ≠ D := ne_of_none ea (chg_none S1 ch hD)
      have z := ch2 a o (by rw [upd_ne ne]; exact ch a o ea hf) hf
      rw [upd_ne ne] at z
      exact z⟩
end
end Dc
/-! DcR: ranges kept in a name; data of any kind walked; from data back to typed values. -/
namespace Dc
open PySem PySem.Spec L2 PyProof.Rows
section
variable {K : PySem.W.Frag} {α β γ δ : Type}
def rngH (p : Addr) (i j c : Int) : HO := .ext fun h => ∃ t u v, h.get? p = some { cls := .type "range", data := .fields #[.int i t, .int j u, .int c v] }
def stepF (i c : Int) : Nat → List Int
  | 0 => []
  | n + 1 => i :: stepF (i + c) c n
theorem stepF_len : ∀ (i c : Int) (n : Nat), (stepF i c n).length = n
  | _, _, 0 => rfl
  | i, c, n + 1 => by simp [stepF, stepF_len (i + c) c n]
theorem stepF_get : ∀ (i c : Int) (n k : Nat) (y : Int), (stepF i c n)[k]? = some y → y = i + (k : Nat) * c
  | _, _, 0, k, y, h => by simp [stepF] at h
  | i, c, n + 1, 0, y, h => by
    simp [stepF] at h
    subst h
    simp
  | i, c, n + 1, k + 1, y, h => by
    have h : (stepF (i + c) c n)[k]? = some y := by simpa [stepF] using h
    rw [stepF_get (i + c) c n k y h]
    rw [Int.natCast_succ, Int.add_mul, Int.one_mul]
    omega
def rgN (i j c : Int) : Nat := (Builtin.Range.rangeSize i j c).toNat
def rgOk (i j c : Int) : Bool := decide (c ≠ 0) && decide (c.natAbs < 1073741824) && Builtin.Range.small i j c && decide (Builtin.Range.rangeSize i j c = (rgN i j c : Int)) && decide (rgN i j c ≤ 16777216)
theorem rgOk_C {i j c : Int} (h : rgOk i j c = true) : RgC i j c (rgN i j c) ∧ rgN i j c ≤ 16777216 := by
  simp only [rgOk, Bool.and_eq_true, decide_eq_true_eq] at h
  exact ⟨⟨h.1.1.1.1, h.1.1.1.2, h.1.1.2, h.1.2⟩, h.2⟩
/-- a range object -/
def eG : En K (List Int) := ⟨fun O H v xs => ∃ p i j c n, v = .ref p ∧ ¬ O p ∧ H p = some (rngH p i j c) ∧ RgC i j c n ∧ n ≤ 16777216 ∧ xs = stepF i c n, fun m ⟨p, i, j, c, n, e, nO, h, r, z, q⟩ => ⟨p, i, j, c, n, e, (m p _ nO h).2, (m p _ nO h).1, r, z, q⟩⟩
/-- data told back as a typed value -/
structure FrD (en : En K α) (to : α → D) : Prop where
  d : ∀ {O : AS} {H : Hp} {v : V} {x : α}, rD K O H v (to x) → en.r O H v x
  inj : ∀ x y, to x = to y → x = y
theorem frI : FrD (eI : En K Int) .int := ⟨fun h => h, fun _ _ e => D.int.inj e⟩
theorem frB : FrD (eB : En K Bool) .bl := ⟨fun h => h, fun _ _ e => D.bl.inj e⟩
theorem frS : FrD (eS : En K Str) .str := ⟨fun h => h, fun _ _ e => D.str.inj e⟩
theorem frAll {en : En K α} {to : α → D} (d : FrD en to) {O : AS} {H : Hp} : ∀ {vs : List V} {xs : List α}, rDs K O H vs (xs.map to) → F2 (en.r O H) vs xs
  | _, [], h => by rw [show _ = _ from h]; exact .nil
  | _, x :: r, h => by
    obtain ⟨v, us, e, p, q⟩ := (by simpa only [List.map_cons, rDs] using h : ∃ v r, _)
    rw [e]; exact .cons (d.d p) (frAll d q)
theorem frL {en : En K α} {to : α → D} (d : FrD en to) : FrD (eL en) (fun xs => .lst (xs.map to)) := ⟨fun {O H v x} h => by
  obtain ⟨a, vs, e, l, r⟩ := (by simpa only [rD] using h : ∃ a vs, _)
  exact ⟨a, vs, e, l, frAll d r⟩, fun x y e => by
  have e := D.lst.inj e
  induction x generalizing y with
  | nil => cases y with
    | nil => rfl
    | cons b m => cases e
  | cons a l ih => cases y with
    | nil => cases e
    | cons b m =>
      simp only [List.map_cons, List.cons.injEq] at e
      rw [d.inj _ _ e.1, ih m (congrArg D.lst e.2) e.2]⟩
theorem frP {e1 : En K α} {e2 : En K β} {to : α → D} {to2 : β → D} (d : FrD e1 to) (d2 : FrD e2 to2) : FrD (eP e1 e2) (fun x => .tup [to x.1, to2 x.2]) := ⟨fun {O H v x} h => by
  obtain ⟨a, vs, e, l, r⟩ := (by simpa only [rD] using h : ∃ a vs, _)
  obtain ⟨u, r1, rfl, p1, r⟩ := (by simpa only [rDs] using r : ∃ v r, _)
  obtain ⟨w, r2, rfl, p2, rfl⟩ := (by simpa only [rDs] using r : ∃ v r, _)
  exact ⟨a, u, w, e, l, d.d p1, d2.d p2⟩, fun x y e => by
  have e := D.tup.inj e
  simp only [List.cons.injEq, and_true] at e
  exact Prod.ext (d.inj _ _ e.1) (d2.inj _ _ e.2)⟩
theorem tdD : ToD (eD : En K D) (fun x => x) := ⟨fun h => h⟩
end
section
variable {X : Cx} {PK : PoolK} {pp : PP} {ρ : List (Sl X.K)} {α β γ δ : Type} {e a b : Expr} {es : List Expr} {pos : Pos}
theorem Vals.consR {v : V} {vs : List V} {us : List Value} (r : Vals (v :: vs) us) : ∃ u us', us = u :: us' ∧ RelV v u ∧ Vals vs us' := by
  cases r with
  | cons r1 r2 => exact ⟨_, _, rfl, r1, r2⟩
theorem laid_rng {pins : List (Addr × Obj)} {σ : L2.St} {H : Hp} {s : Shared} {i j c : Int} {t u v : Tok} {k : Nat} (I : Inv X pins σ H s) : Inv X pins σ (upd H s.heap.objs.size (rngH s.heap.objs.size i j c)) { s with heap := s.heap.push { cls := .type "range", data := .fields #[.int i t, .int j u, .int c v] }, toks := k } :=
  I.laid (t' := k) (fun b o e => Heap.get?_push_of_some _ e) (Nat.le_refl _) ⟨⟨t, u, v, Heap.get?_push_size _ rfl⟩, ⟨_, Heap.get?_push_size _ rfl⟩, fun h1 h2 ⟨t, u, v, q⟩ k => ⟨t, u, v, k _ q⟩⟩
theorem c_range1 : CallW X (.type "range") (a1 (eI : En X.K Int)) eG (fun x => rgOk 0 x.1 1) (fun x => stepF 0 1 (rgN 0 x.1 1)) := by
  rintro pins s σ H xs us Q I r ⟨pp, A, x, d, ⟨v, _, rfl, rfl, rfl⟩, p, k⟩
  obtain ⟨u1, rfl, r1⟩ := vals1 r
  obtain ⟨t, rfl⟩ := r1
  refine call_range_1 ⟨.ref s.heap.objs.size, _, laid_rng I, rfl, k _ _ (same_new (I.hok.fresh (Nat.le_refl _))) ?_⟩
  obtain ⟨h1, h2⟩ := rgOk_C p
  exact ⟨_, _, _, _, _, rfl, new_at d (I.hok.fresh (Nat.le_refl _)), upd_same, h1, h2, rfl⟩
theorem c_range3 : CallW X (.type "range") (aC (eI : En X.K Int) (aC eI (aC eI aN))) eG (fun x => rgOk x.1 x.2.1 x.2.2.1) (fun x => stepF x.1 x.2.2.1 (rgN x.1 x.2.1 x.2.2.1)) := by
  rintro pins s σ H xs us Q I r ⟨pp, A, x, d, ⟨v, _, rfl, rfl, v2, _, rfl, rfl, v3, _, rfl, rfl, rfl⟩, p, k⟩
  obtain ⟨u1, rs, rfl, r1, r⟩ := Vals.consR r
  obtain ⟨u2, u3, rfl, r2, r3⟩ := vals2 r
  obtain ⟨t, rfl⟩ := r1
  obtain ⟨t2, rfl⟩ := r2
  obtain ⟨t3, rfl⟩ := r3
  obtain ⟨h1, h2⟩ := rgOk_C p
  refine call_range_3 h1.1 ⟨.ref s.heap.objs.size, _, laid_rng I, rfl, k _ _ (same_new (I.hok.fresh (Nat.le_refl _))) ?_⟩ (.inl (PyProof.noPylong_small h1.2.1))
  exact ⟨_, _, _, _, _, rfl, new_at d (I.hok.fresh (Nat.le_refl _)), upd_same, h1, h2, rfl⟩
theorem pi_rng {tg : Expr} {te : TE} (h : PE X e te) : PI X tg e (fun σ H R => te σ H fun v H1 => ∃ p i j c n, v = .ref p ∧ H1 p = some (rngH p i j c) ∧ RgC i j c n ∧ R (Itc i c n) H1) := by
  refine ⟨fun pins s σ H R I h0 => thn (h.run pins s σ H _ I h0) fun v s1 ⟨x, H1, I1, r1, p, i, j, c, n, ex, hp, rg, q⟩ => ?_⟩
  subst ex
  cases r1
  obtain ⟨⟨t, u, v', ho⟩, _, _⟩ := I1.hok p _ hp
  refine wpAny_pyIter_range ho rg.2.2.1 (pi_one (tk := s1.toks) I1 _ (turn_rangeC _ i c n) ?_ q)
  have e1 : i + ((0 : Nat) : Int) * c = i := by simp
  have e2 : (n : Int) - ((0 : Nat) : Int) = Builtin.Range.rangeSize i j c := by rw [rg.2.2.2]; simp
  show IsRangeIter _ _ (i + ((0 : Nat) : Int) * c) ((n : Int) - ((0 : Nat) : Int)) c
  rw [e1, e2]
  exact Heap.get?_push_size _ rfl
/-- for x in r, r a range object -/
theorem wG (i : Nat) {nm : Str} {p : Pos} {w : W (List Int)} (h : PX X PK pp ρ e w eG) : PI X (.Name nm p) e (rdI PK pp ρ w (fun ρ x => put ρ i (.sh eI x)) [i] (gName i)) :=
  (pi_rng h).weak fun σ H R ⟨O, Φ, c, S, hw, k⟩ => ⟨O, _, c, S, hw, fun xs v H1 c1 p1 ch S1 r1 => by
    obtain ⟨p, lo, j, st, n, rfl, nO, hp, rg, z, rfl⟩ := r1
    refine ⟨p, lo, j, st, n, rfl, hp, rg, k _ _ H1 c1 p1 ch S1 ⟨fun j H' A' hj m => ?_, fun H' A' m => ?_, fun _ _ _ z => own_put_sh z, fun j y H' v H'' pp' ρ' O' c' σ' hx m S' yy => ?_⟩ ?_⟩
    · rw [stepF_len] at hj; exact hj
    · rw [stepF_len]; exact Nat.le_refl _
    · obtain ⟨rfl, rfl⟩ := yy
      have h1 := stepF_get _ _ _ _ _ hx
      exact ⟨[(i, .int (lo + (j : Nat) * st))], H'', rfl, .refl _, S'.put (by rw [h1]; rfl), fun Q q => q⟩
    · rw [stepF_len, sizeLine_eq]; exact z⟩
/-! data walked -/
def isLst : D → Bool
  | .lst _ => true
  | _ => false
def isTup : D → Bool
  | .tup _ => true
  | _ => false
theorem xDl {w : W D} (h : PX X PK pp ρ e w eD) : PX X PK pp ρ e (bnd w fun x => grd (isLst x) (ret (itemsD x))) (eL eD) :=
  h.weak fun σ H Q ⟨O, Φ, c, S, hw, k⟩ => ⟨O, _, c, S, hw, fun x v H' c' p ch S' r => k _ v H' c' p.2 ch S' (by
    have p1 := p.1
    cases x with
    | lst ds =>
      obtain ⟨a, vs, e, l, q⟩ := (by simpa only [rD] using (show rD X.K _ H' v (.lst ds) from r) : ∃ a vs, _)
      exact ⟨a, vs, e, l, rDs_F2 q⟩
    | _ => cases p1)⟩
theorem wtupD (i : Nat) {nm : Str} {p : Pos} {w : W D} (h : PX X PK pp ρ e w eD) : PI X (.Name nm p) e (rdI PK pp ρ (bnd w fun x => grd (isTup x && decide ((itemsD x).length ≤ 16777216)) (ret (itemsD x))) (fun ρ x => put ρ i (.sh eD x)) [i] (gName i)) :=
  (pi_tup h).weak fun σ H R ⟨O, Φ, c, S, hw, k⟩ => ⟨O, _, c, S, hw, fun x v H1 c1 p1 ch S1 r1 => by
    obtain ⟨p10, p11⟩ := p1
    rw [Bool.and_eq_true, decide_eq_true_eq] at p10
    cases x with
    | tup ds =>
      obtain ⟨a, vs, rfl, l, q⟩ := (by simpa only [rD] using (show rD X.K _ H1 v (.tup ds) from r1) : ∃ a vs, _)
      have f := rDs_F2 q
      refine ⟨a, rfl, ⟨vs, l.sq⟩, k ds _ H1 c1 p11 ch S1 ⟨fun j H' A' hj m => ?_, fun H' A' m => ?_, fun _ _ _ z => own_put_sh z, fun j x H' v H'' pp' ρ' O' c' σ' hx m S' y => ?_⟩ ?_⟩
      · have hv : j < vs.length := by rw [f.length]; exact hj
        exact ⟨vs, vs[j], (l.mv m).sq, List.getElem?_eq_getElem hv⟩
      · exact ⟨vs, (l.mv m).sq, by rw [f.length]; exact Nat.le_refl _⟩
      · obtain ⟨rfl, hy⟩ := y
        obtain ⟨u, hu, ru⟩ := f.get hx
        have e := hy vs (l.mv m).sq
        rw [hu] at e
        cases e
        exact ⟨[(i, v)], H'', rfl, .refl _, S'.put (eD.mono m ru), fun Q q => q⟩
      · rw [sizeLine_eq]; exact p10.2
    | _ => cases p10.1⟩
/-- tuple(xs) -/
theorem c_tupD : CallW X (.type "tuple") (a1 (eL (eD : En X.K D))) eD (fun _ => true) (fun x => .tup x.1) := by
  rintro pins s σ H xs us Q I r ⟨pp, A, x, d, ⟨v, _, rfl, ⟨a, vs, rfl, l, f⟩, rfl⟩, _, k⟩
  refine call_tuple_of pins s σ H _ us Q I r ⟨a, vs, rfl, .inl ⟨l.sq, fun p np => ?_⟩⟩
  have s := same_new (o := .tup vs) np
  refine k _ _ s ?_
  have g : ∀ {vs : List V} {ds : List D}, F2 (rD X.K A H) vs ds → rDs X.K A (upd H p (.tup vs)) vs ds ∨ True := fun _ => .inr trivial
  show rD X.K A _ (.ref p) (.tup x.1)
  simp only [rD]
  refine ⟨p, vs, rfl, .inl ⟨new_at d np, .inl upd_same⟩, ?_⟩
  have g2 : ∀ {us : List V} {ds : List D}, F2 (rD X.K A H) us ds → rDs X.K A (upd H p (.tup vs)) us ds := fun f => by
    induction f with
    | nil => rfl
    | cons r _ ih =>
      simp only [rDs]
      exact ⟨_, _, rfl, rD.mono (Mv.same s) _ r, ih⟩
  exact g2 f
/-- what a function of data makes of typed values is typed -/
theorem xcastF {wa : W α} {g : D × Unit → W D} {to1 : α → D} {to2 : β → D} {f : α → β} {e2 : En X.K β} (fr : FrD e2 to2) (hg : ∀ x, g (to1 x, ()) = ret (to2 (f x))) (h : PX X PK pp ρ e (bnd (bnd (bnd wa fun x => ret (to1 x)) fun t => bnd (ret ()) fun u => ret (t, u)) g) eD) : PX X PK pp ρ e (bnd wa fun x => ret (f x)) e2 :=
  h.weak fun σ H Q ⟨O, Φ, c, S, hw, k⟩ => ⟨O, fun d c' => ∃ y, d = to2 y ∧ Φ y c', c, S, by
    have e : (bnd (bnd (bnd wa fun x => ret (to1 x)) fun t => bnd (ret ()) fun u => ret (t, u)) g) = bnd wa fun x => ret (to2 (f x)) := by
      show (bnd wa fun x => g (to1 x, ())) = _
      exact congrArg _ (funext hg)
    rw [e]
    have e2 : (fun (x : α) (c' : Nat) => ∃ y, to2 (f x) = to2 y ∧ Φ y c') = fun x c' => Φ (f x) c' := by
      funext x c'
      exact propext ⟨fun ⟨y, e, q⟩ => by rw [fr.inj _ _ e]; exact q, fun q => ⟨_, rfl, q⟩⟩
    show wa (fun (x : α) (c' : Nat) => ∃ y, to2 (f x) = to2 y ∧ Φ y c') noX c
    rw [e2]
    exact hw, fun d v H' c' ⟨y, e, p⟩ ch S' r => k y v H' c' p ch S' (fr.d (e ▸ r))⟩
/-- a comprehension within a comprehension: the outer block's names as they are told there -/
def relS (scope sc : Scope) : Scope := { scope with names := scope.names.map fun q => match q with
  | (n, k) => if (k == .free && sc.kind == .function && sc.names.lookup n == some .cell) then (n, .cell) else (n, k) }
theorem blk_in {X0 : Cx} {N : List Str} {s : Shared} {H : Hp} {scope0 scope sc : Scope} {C : Addr} {cl : List (Str × Addr)} {fp : List Addr} {own : List (Str × Nat)} (hN : X0.N = N) (hs : X0.env.scope = sc) (h : blkC N (relS scope0 sc) scope own = true) : BlkOk (X0.blk s H scope0 (compEnvC scope0 cl C X0.env) fp).N (X0.blk s H scope0 (compEnvC scope0 cl C X0.env) fp).env.scope scope own := by
  subst hN hs
  exact blkOk_by h
/-- isinstance(e, C), C an own class, e an instance of it -/
theorem xisC {C : Addr} {cn : Str} {ns : List Str} {t : FE X.K α} {p p2 : Pos} {w : W α} (hm : X.mg "isinstance" = none) (hC : X.mg cn = some (.ref C)) (c : C8.InsC X.K C) (h : PX X PK pp ρ a w (eIns C ns t)) (hg : Gl X "isinstance" := by rfl) (hgc : Gl X cn := by rfl) (hdb : (cn == ("__debug__" : Str)) = false := by decide)
    (he : starEach [a, .Name cn p2] X.env = (false, eval a X.env) :: starEach [.Name cn p2] X.env := by rfl) (he2 : starEach [.Name cn p2] X.env = (false, eval (.Name cn p2) X.env) :: starEach [] X.env := by rfl) (hpl : (backTo pos (starEach [.Name cn p2] X.env)).any (·.1) = false := by rfl) :
    PX X PK pp ρ (.Call (.Name "isinstance" p) [a, .Name cn p2] [] pos) (bnd w fun _ => ret true) eB :=
  (pe_callB (C8.call_isC c) hg hm (by decide +kernel) (pa_cons h (pa_cons (pe_glob (v := .ref C) hgc hC rfl hdb) pa_nil he2) he) (by decide) (by decide) he hpl).weak fun σ H Q ⟨O, Φ, c0, S, hw, k⟩ => ⟨O, _, c0, S, hw, fun x v H' c' p ch S' r => by
    obtain ⟨a, dx, fs, e1, nO, hH, l, q⟩ := r
    subst e1
    exact ⟨a, dx, fs, rfl, hH, k _ _ H' c' p ch S' rfl⟩⟩
/-- x, ys = e, [], ys one's own -/
theorem nparO (i j : Nat) {x y : Str} {px py pt : Pos} {kt k2 pt2} {lp : Pos} {w : W α} {e1 : En X.K α} (en : En X.K β) (hc : X.calm = true) (hN : X.N.Nodup) (h : PX X PK pp ρ a w e1) (hij : i ≠ j := by decide) (hi : X.N[i]? = some x := by rfl) (hj : X.N[j]? = some y := by rfl)
    (hx : X.env.scope.names.lookup x = some .local := by rfl) (hy : X.env.scope.names.lookup y = some .local := by rfl) (hw : swappedStores [.Tuple [.Name x px, .Name y py] kt pt] (.Tuple [a, .List [] lp] k2 pt2) X.env = pure (some [x, y]) := by rfl)
    (hs : swapsWithSole [.Tuple [.Name x px, .Name y py] kt pt] (.Tuple [a, .List [] lp] k2 pt2) pos.line X.env = pure false := by rfl)
    (hs1 : starEach [a, .List [] lp] X.env = (false, eval a X.env) :: starEach [.List [] lp] X.env := by rfl) (hs2 : starEach [Expr.List [] lp] X.env = (false, eval (.List [] lp) X.env) :: starEach [] X.env := by rfl) :
    PS X (.Assign [.Tuple [.Name x px, .Name y py] kt pt] (.Tuple [a, .List [] lp] k2 pt2) pos) (rdN PK pp ρ w fun (p : Addr) z => put (put ρ i (.sh e1 z)) j (.ow p (oL en) [])) :=
  (ps_par hc hN hi hj hij hx hy (pa_cons h (pa_cons (pe_lst pa_nil) pa_nil hs2) hs1) hw hs).weak fun D σ H ⟨O, Φ, c, S, hw, k⟩ => ⟨O, _, c, S, hw, fun z v H1 c1 p1 ch S1 r => ⟨Nat.zero_le _, fun p np => by
    have r1 := e1.mono (Mv.newA (O := O) (pp := pp) (ρ := ρ) (o := .lst []) np) r
    have S2 := ((S1.newO (o := .lst []) np).put (i := i) r1)
    have np2 : ¬ foot pp p := nfoot S1 np
    have nO : ¬ O p := fun z => S1.av p (.inl z) np
    have S3 := S2.own (i := j) (on := oL en) (x := []) np2 nO ⟨[], upd_same, .nil⟩
    have hn : H p = none := chg_none S1 ch np
    refine ⟨v, .ref p, rfl, k p z _ c1 p1 _ ⟨fun b o e n _ => ?_, fun b z => ?_⟩ S3⟩
    · rw [upd_ne (ne_of_none e hn)]; exact ch b o e n
    · rcases owns_put z with z | z
      · have z : b = p := by simpa [own1] using z
        rw [z]; exact .inr ⟨hn, np2⟩
      · exact .inl (own_put_sh z)⟩⟩
end
/-- data that a walk of depth n goes through -/
def Tame : Nat → D → Prop
  | 0, _ => False
  | n + 1, .lst ds => ∀ d ∈ ds, Tame n d
  | n + 1, .tup ds => ds.length ≤ 16777216 ∧ ∀ d ∈ ds, Tame n d
  | _ + 1, _ => True
def TmD {α : Type} (n : Nat) (to : α → D) : Prop := ∀ x, Tame n (to x)
theorem tmI {n : Nat} : TmD (n + 1) D.int := fun _ => trivial
theorem tmB {n : Nat} : TmD (n + 1) D.bl := fun _ => trivial
theorem tmL {α : Type} {n : Nat} {to : α → D} (h : TmD n to) : TmD (n + 1) (fun xs : List α => D.lst (xs.map to)) := fun xs d hd => by
  obtain ⟨x, _, rfl⟩ := List.mem_map.mp hd
  exact h x
theorem tmP {α β : Type} {n : Nat} {to : α → D} {to2 : β → D} (h : TmD n to) (h2 : TmD n to2) : TmD (n + 1) (fun x : α × β => D.tup [to x.1, to2 x.2]) := fun x => by
  refine ⟨by show 2 ≤ 16777216; decide, fun d hd => ?_⟩
  simp only [List.mem_cons, List.not_mem_nil, or_false] at hd
  rcases hd with rfl | rfl
  · exact h _
  · exact h2 _
end Dc
/-! DcS: == of instances by an own __eq__; lists taken apart. -/
namespace Dc
open PySem PySem.Spec L2 PyProof.Rows
section
variable {X : Cx} {PK : PoolK} {pp : PP} {ρ : List (Sl X.K)} {α β γ δ : Type} {e a b : Expr} {es : List Expr} {pos : Pos}
theorem kit_self {K : PySem.W.Frag} (C : Addr) : PySem.W.kitOne K (.ref C) (.ref C) = some true := by
  unfold PySem.W.kitOne
  rw [if_pos]
  first
  | exact beq_self_eq_true _
  | simp
/-- the own __eq__ of a class -/
structure EqO (K : PySem.W.Frag) (C f : Addr) : Prop where
  at_ : PySem.W.findIn K (.ref C) "__eq__" = some (some (.ref f))
  fn : PySem.W.isFn K (.ref f) = true
def rEqO (C : Addr) (sp : Sp) : R2 := fun x y H Q => ∃ a b dx dy fs gs, x = .ref a ∧ y = .ref b ∧ H a = some (.ins C dx fs) ∧ H b = some (.ins C dy gs) ∧ sp [.ref a, .ref b] H (fun v H' => (∃ t, v = .bl t) ∧ Q v H') E0
theorem op_eqO {k : Nat} {C f : Addr} {fd : FuncData} {ps : List Str} {sp : Sp} (q : EqO X.K C f) (F : FnOk X.prog X.w X.K X.mg X.base CX0 k f fd ps sp) (hr : Room k X.A) (hb : Binds X.K fd ps []) : OpR X (compareOp .Eq) (rEqO C sp) := by
  intro pins s σ H x y v u Q I rx ry h
  obtain ⟨a, b, dx, dy, fs, gs, rfl, rfl, ha, hb', hsp⟩ := h
  cases rx
  cases ry
  show wpAny (model X.prog X.w) X.A (richCompare .Eq (.ref a) (.ref b)) (EP X pins σ Q) X.xe s
  obtain ⟨mA, J, _⟩ := ins_get I.hok ha
  obtain ⟨mB, J', _⟩ := ins_get I.hok hb'
  obtain ⟨od, J, _⟩ := J.look
  obtain ⟨od', J', _⟩ := J'.look
  obtain ⟨m, hF⟩ := I.fr
  refine PySem.W.cmp_K (op := .Eq) (tb := .ref C) hr.units0 hF I.ok.mod.kin J J'.type (by simp [PySem.W.notFirst]) q.at_ q.fn ?_
  have hl := F.len _ _ _ _ hsp
  have r2 : Vals [V.ref a, V.ref b] [Value.ref a, Value.ref b] := .cons rfl (.cons rfl .nil)
  refine wpAny_call (codeAny_mono (F.run X.A X.stack s H ⟨[.ref a, .ref b], []⟩ [.ref a, .ref b] [.ref a, .ref b] _ E0 hr I.env0 (by
    have := hb s [.ref a, .ref b] I.kIn (by simpa using hl)
    simpa using this) r2 hsp) fun r s' hq => ?_)
  cases r with
  | error e => exact pass0 pins σ H s e s' I hq
  | ok fl =>
    cases fl with
    | ret w =>
      obtain ⟨z, H', I', rz, ⟨t, ez⟩, ex⟩ := I.after hq
      subst ez
      cases rz
      exact ⟨.bl t, H', I', rfl, ex⟩
    | next => exact False.elim hq
    | brk => exact False.elim hq
    | cont => exact False.elim hq
theorem rd_eqO {C : Addr} {ns : List Str} {t : FE X.K α} {wa wb : W α} {fw : α × α × Unit → W Bool} {σ : L2.St} {H : Hp} {Q : V → Hp → Prop} {O : AS} {c : Nat} {Φ : Bool → WB} (S : Sat PK O pp ρ c σ H) (hw : (bnd wa fun x => bnd wb fun y => fw (x, y, ())) Φ noX c) (k : ∀ x v H' c', Φ x c' → Chg pp H H' → Sat PK O pp ρ c' σ H' → v = .bl x → Q v H') :
    rdE PK pp ρ wa (eIns C ns t) σ H fun v H1 => rdE PK pp ρ wb (eIns C ns t) σ H1 fun u H2 => rEqO C (spW PK (aC (eIns C ns t) (aC (eIns C ns t) aN)) fw eB) v u H2 Q :=
  two S hw fun x y v u H2 c2 p2 ch2 S2 r1 r2 => by
    have q1 := r1
    have q2 := r2
    obtain ⟨a, dx, fs, e1, nO, hH, _⟩ := r1
    obtain ⟨b, dy, gs, e2, nO2, hH2, _⟩ := r2
    subst e1 e2
    refine ⟨a, b, dx, dy, fs, gs, rfl, rfl, hH, hH2, pp, Av O pp ρ, (x, y, ()), Φ, c2, S2.av, fun a h => .inr (.inl h), S2.pool, ⟨_, _, rfl, q1, _, _, rfl, q2, rfl⟩, p2, fun z v H3 c3 p3 ch3 pl3 rz => ⟨⟨z, rz⟩, k z v H3 c3 p3 (ch2.trans ch3) (S2.chg ch3 pl3) rz⟩⟩
theorem xcmpO {k : Nat} {C f : Addr} {fd : FuncData} {ps : List Str} {ns : List Str} {t : FE X.K α} {wa wb : W α} {fw : α × α × Unit → W Bool} (q : EqO X.K C f) (F : FnOk X.prog X.w X.K X.mg X.base CX0 k f fd ps (spW PK (aC (eIns C ns t) (aC (eIns C ns t) aN)) fw eB)) (hr : Room k X.A) (hb : Binds X.K fd ps [])
    (ha : PX X PK pp ρ a wa (eIns C ns t)) (hb2 : PX X PK pp ρ b wb (eIns C ns t)) (hm : behindInMarks .Eq b = false := by first | exact nomark _ | rfl) : PX X PK pp ρ (.Compare a [.Eq] [b] pos) (bnd wa fun x => bnd wb fun y => fw (x, y, ())) eB :=
  (pe_cmpR (op_eqO q F hr hb) ha hb2 hm).weak fun σ H Q ⟨O, Φ, c, S, hw, kk⟩ => rd_eqO S hw fun x v H' c' p ch S' e => kk x v H' c' p ch S' e
theorem tcmpO {k : Nat} {C f : Addr} {fd : FuncData} {ps : List Str} {ns : List Str} {t : FE X.K α} {wa wb : W α} {fw : α × α × Unit → W Bool} (q : EqO X.K C f) (F : FnOk X.prog X.w X.K X.mg X.base CX0 k f fd ps (spW PK (aC (eIns C ns t) (aC (eIns C ns t) aN)) fw eB)) (hr : Room k X.A) (hb : Binds X.K fd ps [])
    (ha : PX X PK pp ρ a wa (eIns C ns t)) (hb2 : PX X PK pp ρ b wb (eIns C ns t)) (hm : behindInMarks .Eq b = false := by first | exact nomark _ | rfl) : PTX X PK pp ρ (.Compare a [.Eq] [b] pos) (bnd wa fun x => bnd wb fun y => fw (x, y, ())) :=
  (pt_cmpR (op_eqO q F hr hb) ha hb2 hm).weak fun σ H Q ⟨O, Φ, c, S, hw, kk⟩ => rd_eqO S hw fun x v H' c' p ch S' e => ⟨x, e, kk x H' c' p ch S'⟩
theorem w_neB : OpW X (compareOp .NotEq) (eB : En X.K Bool) eB eB (fun _ _ => true) (fun i j => !(i == j)) := by
  intro pins s σ H x y v u Q I rx ry ⟨A, i, j, _, r1, r2, _, k⟩
  cases r1; cases r2
  exact op_ne pins s σ H _ _ v u Q I rx ry ⟨rfl, k _ _ (.refl _) (congrArg V.bl (by cases i <;> cases j <;> decide))⟩
/-- x, y = xs, xs a list of two -/
def pairL {α : Type} (xs : List α) : W (α × α) := match xs with
  | [x, y] => ret (x, y)
  | _ => stuck
theorem npairL (i j : Nat) {x y : Str} {px py pt : Pos} {kt} {w : W (List α)} {en : En X.K α} (hc : X.calm = true) (hN : X.N.Nodup) (h : PX X PK pp ρ e w (eL en)) (hi : X.N[i]? = some x := by rfl) (hj : X.N[j]? = some y := by rfl)
    (hx : Loc X.env.scope x := by first | exact Or.inl rfl | exact Or.inr rfl) (hy : Loc X.env.scope y := by first | exact Or.inl rfl | exact Or.inr rfl)
    (hf : X.fn x = true ∨ X.env.scope.names.lookup x = some .local := by first | exact .inl rfl | exact .inr rfl) (hf2 : X.fn y = true ∨ X.env.scope.names.lookup y = some .local := by first | exact .inl rfl | exact .inr rfl)
    (hs1 : (assignEach [Expr.Name x px, Expr.Name y py] X.env).map (·.2) = assign (.Name x px) X.env :: (assignEach [Expr.Name y py] X.env).map (·.2) := by rfl) (hs2 : (assignEach [Expr.Name y py] X.env).map (·.2) = assign (.Name y py) X.env :: (assignEach [] X.env).map (·.2) := by rfl)
    (hn : (assignEach [Expr.Name x px, Expr.Name y py] X.env).length = 2 := by rfl) (hst : (assignEach [Expr.Name x px, Expr.Name y py] X.env).findIdx? (·.1) = none := by rfl)
    (hsw : swapsWithSole [.Tuple [.Name x px, .Name y py] kt pt] e pos.line X.env = pure false := by rfl) (hww : swappedStores [.Tuple [.Name x px, .Name y py] kt pt] e X.env = pure none := by rfl) (h1 : (assignEach [.Tuple [.Name x px, .Name y py] kt pt] X.env).map (·.2) = [assign (.Tuple [.Name x px, .Name y py] kt pt) X.env] := by rfl) :
    PS X (.Assign [.Tuple [.Name x px, .Name y py] kt pt] e pos) (rdN PK pp ρ (bnd w pairL) fun (_ : Unit) z => put (put ρ i (.sh en z.1)) j (.sh en z.2)) :=
  (ps_asg h (pg_lst hc (pgs_cons (pg_name hN hi hx hf) (pgs_cons (pg_name hN hj hy hf2) pgs_nil hs2) hs1) hn hst) hsw hww h1).weak fun D σ H ⟨O, Φ, c, S, hw, k⟩ => ⟨O, _, c, S, hw, fun z v H1 c1 p1 ch S1 r => by
    obtain ⟨a, vs, rfl, l, f⟩ := r
    match z, p1, vs, f, l with
    | [z1, z2], p1, [v1, v2], .cons q1 (.cons q2 .nil), l =>
      have less : ∀ a, Av O pp (put ρ i (.sh en z1)) a → Av O pp ρ a := fun a z => by
        rcases z with z | z | z
        · exact .inl z
        · exact .inr (.inl z)
        · exact .inr (.inr (own_put_sh z))
      exact ⟨a, [v1, v2], rfl, l.sq, rfl, v1, [v2], rfl, v2, [], rfl, rfl, k () (z1, z2) H1 c1 p1 _ (.of_chg ch fun a z => own_put_sh (own_put_sh z)) ((S1.put q1).put (en.mono (Mv.less less) q2))⟩⟩
end
end Dc
/-! DcU: a list of four unlike things. -/
namespace Dc
open PySem PySem.Spec L2 PyProof.Rows
section
variable {K : PySem.W.Frag} {α β γ δ : Type}
def eQ (e1 : En K α) (e2 : En K β) (e3 : En K γ) (e4 : En K δ) : En K (α × β × γ × δ) := ⟨fun O H v x => ∃ a u1 u2 u3 u4, v = .ref a ∧ LstAt O H a [u1, u2, u3, u4] ∧ e1.r O H u1 x.1 ∧ e2.r O H u2 x.2.1 ∧ e3.r O H u3 x.2.2.1 ∧ e4.r O H u4 x.2.2.2,
  fun m ⟨a, u1, u2, u3, u4, e, l, p1, p2, p3, p4⟩ => ⟨a, u1, u2, u3, u4, e, l.mv m, e1.mono m p1, e2.mono m p2, e3.mono m p3, e4.mono m p4⟩⟩
end
section
variable {X : Cx} {PK : PoolK} {pp : PP} {ρ : List (Sl X.K)} {α β γ δ : Type} {e a b : Expr} {es : List Expr} {pos : Pos} {e1 : En X.K α} {e2 : En X.K β} {e3 : En X.K γ} {e4 : En X.K δ}
theorem xlst4 {w : W (α × β × γ × δ × Unit)} (h : PAX X PK pp ρ es w (aC e1 (aC e2 (aC e3 (aC e4 aN))))) : PX X PK pp ρ (.List es pos) (bnd w fun x => ret (x.1, x.2.1, x.2.2.1, x.2.2.2.1)) (eQ e1 e2 e3 e4) := (pe_lst h).weak fun σ H Q ⟨O, Φ, c, S, hw, k⟩ =>
  ⟨O, _, c, S, hw, fun x vs H1 c1 p1 ch1 S1 r1 => by
    obtain ⟨u1, _, rfl, q1, u2, _, rfl, q2, u3, _, rfl, q3, u4, _, rfl, q4, rfl⟩ := r1
    refine ⟨by show 4 ≤ sizeLine; decide, fun p np => ?_⟩
    have s := same_new (o := .lst [u1, u2, u3, u4]) np
    exact k _ _ _ c1 p1 (ch1.trans (.of s)) (S1.same s) ⟨p, u1, u2, u3, u4, rfl, ⟨new_at S1.av np, upd_same⟩, e1.mono (Mv.same s) q1, e2.mono (Mv.same s) q2, e3.mono (Mv.same s) q3, e4.mono (Mv.same s) q4⟩⟩
theorem xq0 {w : W (α × β × γ × δ)} {j p'} (h : PX X PK pp ρ a w (eQ e1 e2 e3 e4)) : PX X PK pp ρ (.Subscript a (.Constant (.int 0) j p') pos) (bnd w fun x => ret x.1) e1 :=
  (pe_ix ix_list h pe_int (fun _ _ => rfl)).weak fun σ H Q ⟨O, Φ, c, S, hw, k⟩ => ⟨O, _, c, S, hw, fun x v H' c' p ch S' r => by
    obtain ⟨a, u1, u2, u3, u4, rfl, l, q1, q2, q3, q4⟩ := r
    exact ⟨a, [u1, u2, u3, u4], 0, u1, rfl, rfl, l.sq, rfl, k _ _ H' c' p ch S' q1⟩⟩
theorem xq1 {w : W (α × β × γ × δ)} {j p'} (h : PX X PK pp ρ a w (eQ e1 e2 e3 e4)) : PX X PK pp ρ (.Subscript a (.Constant (.int 1) j p') pos) (bnd w fun x => ret x.2.1) e2 :=
  (pe_ix ix_list h pe_int (fun _ _ => rfl)).weak fun σ H Q ⟨O, Φ, c, S, hw, k⟩ => ⟨O, _, c, S, hw, fun x v H' c' p ch S' r => by
    obtain ⟨a, u1, u2, u3, u4, rfl, l, q1, q2, q3, q4⟩ := r
    exact ⟨a, [u1, u2, u3, u4], 1, u2, rfl, rfl, l.sq, rfl, k _ _ H' c' p ch S' q2⟩⟩
theorem xq2 {w : W (α × β × γ × δ)} {j p'} (h : PX X PK pp ρ a w (eQ e1 e2 e3 e4)) : PX X PK pp ρ (.Subscript a (.Constant (.int 2) j p') pos) (bnd w fun x => ret x.2.2.1) e3 :=
  (pe_ix ix_list h pe_int (fun _ _ => rfl)).weak fun σ H Q ⟨O, Φ, c, S, hw, k⟩ => ⟨O, _, c, S, hw, fun x v H' c' p ch S' r => by
    obtain ⟨a, u1, u2, u3, u4, rfl, l, q1, q2, q3, q4⟩ := r
    exact ⟨a, [u1, u2, u3, u4], 2, u3, rfl, rfl, l.sq, rfl, k _ _ H' c' p ch S' q3⟩⟩
theorem xq3 {w : W (α × β × γ × δ)} {j p'} (h : PX X PK pp ρ a w (eQ e1 e2 e3 e4)) : PX X PK pp ρ (.Subscript a (.Constant (.int 3) j p') pos) (bnd w fun x => ret x.2.2.2) e4 :=
  (pe_ix ix_list h pe_int (fun _ _ => rfl)).weak fun σ H Q ⟨O, Φ, c, S, hw, k⟩ => ⟨O, _, c, S, hw, fun x v H' c' p ch S' r => by
    obtain ⟨a, u1, u2, u3, u4, rfl, l, q1, q2, q3, q4⟩ := r
    exact ⟨a, [u1, u2, u3, u4], 3, u4, rfl, rfl, l.sq, rfl, k _ _ H' c' p ch S' q4⟩⟩
/-- the first two, alike -/
theorem xqS {f3 : En X.K γ} {f4 : En X.K δ} {w : W (α × α × γ × δ)} {j p' p2} (h : PX X PK pp ρ a w (eQ e1 e1 f3 f4)) : PX X PK pp ρ (.Subscript a (.Slice none (some (.Constant (.int 2) j p')) none p2) pos) (bnd w fun x => ret [x.1, x.2.1]) (eL e1) :=
  (pe_slice sl_list h po_none (po_some pe_int)).weak fun σ H Q ⟨O, Φ, c, S, hw, k⟩ => ⟨O, _, c, S, hw, fun x v H1 c1 p1 ch1 S1 r1 => by
    obtain ⟨a, u1, u2, u3, u4, rfl, l, q1, q2, q3, q4⟩ := r1
    refine ⟨2, rfl, a, [u1, u2, u3, u4], rfl, l.sq, fun p np => ?_⟩
    have s := same_new (o := .lst (cutV [u1, u2, u3, u4] none (some 2))) np
    exact k _ _ _ c1 p1 (ch1.trans (.of s)) (S1.same s) ⟨p, [u1, u2], rfl, ⟨new_at S1.av np, upd_same⟩, .cons (e1.mono (Mv.same s) q1) (.cons (e1.mono (Mv.same s) q2) .nil)⟩⟩
end
end Dc
/-! DcV: != of instances by an own __eq__; zip kept in a name. -/
namespace Dc
open PySem PySem.Spec L2 PyProof.Rows
/-! ### != -/
section
variable {X : Cx} {PK : PoolK} {pp : PP} {ρ : List (Sl X.K)} {α β γ δ : Type} {e a b : Expr} {es : List Expr} {pos : Pos}
/-- a class without an own __ne__ -/
structure NeO (K : PySem.W.Frag) (C : Addr) : Prop where
  at_ : PySem.W.findIn K (.ref C) "__ne__" = some (some (.builtin "object.__ne__"))
  ob : PySem.W.mroIn K C (.type "object") = some true
theorem eq_in {k : Nat} {C f : Addr} {fd : FuncData} {ps : List Str} {sp : Sp} {A : Around} {pins : List (Addr × Obj)} {s : Shared} {σ : L2.St} {H : Hp} {Q : VK} {a b dx : Addr} {fs : List (Str × V)} (q : EqO X.K C f) (F : FnOk X.prog X.w X.K X.mg X.base CX0 k f fd ps sp) (sb : Sub X k A) (hb : Binds X.K fd ps [])
    (I : Inv X pins σ H s) (ha : H a = some (.ins C dx fs)) (hsp : sp [.ref a, .ref b] H (fun v H' => (∃ t, v = .bl t) ∧ Q v H') E0) : wpAny (model X.prog X.w) A (callSpecialIfBound? (.ref a) "__eq__" [.ref b]) (fun r s' => ∃ t H', r = some (.bool t) ∧ Inv X pins σ H' s' ∧ Q (.bl t) H') X.xe s := by
  obtain ⟨mA, J, _⟩ := ins_get I.hok ha
  obtain ⟨od, J, _⟩ := J.look
  have hl := F.len _ _ _ _ hsp
  have r2 : Vals [V.ref a, V.ref b] [Value.ref a, Value.ref b] := .cons rfl (.cons rfl .nil)
  have e0 : Env0 X.prog X.w X.K X.mg X.base A X.stack s H := by
    have e := I.env0
    exact ⟨by rw [sb.fr]; exact e.frames, e.mod, e.bs, e.bsz, e.funs, e.frf, e.hok, e.bare⟩
  refine PySem.W.ifBound_K I.kIn J q.at_ q.fn (wpAny_call (codeAny_mono (F.run A X.stack s H ⟨[.ref a, .ref b], []⟩ [.ref a, .ref b] [.ref a, .ref b] _ E0 sb.room e0 (by
    have := hb s [.ref a, .ref b] I.kIn (by simpa using hl)
    simpa using this) r2 hsp) fun r s' hq => ?_))
  cases r with
  | error e => exact pass0 pins σ H s e s' I hq
  | ok fl =>
    cases fl with
    | ret w =>
      obtain ⟨z, H', I', rz, ⟨t, ez⟩, ex⟩ := I.after hq
      subst ez
      cases rz
      exact ⟨t, H', rfl, I', ex⟩
    | next => exact False.elim hq
    | brk => exact False.elim hq
    | cont => exact False.elim hq
theorem ifBound_ne {M : Model} {A : Around} {E : Value → Shared → Prop} {s : Shared} {K : PySem.W.Frag} {x C : Addr} {ox : Obj} {od : Option Obj} {args : List Value} {Q : Option Value → Shared → Prop} (XK : K.In s.heap) (I : PySem.W.InstAt s.heap x ox C od) (hs : PySem.W.findIn K (.ref C) "__ne__" = some (some (.builtin "object.__ne__")))
    (h : wpAny M A (call (.builtin "object.__ne__") (.ref x :: args)) (fun v => Q (some v)) E s) : wpAny M A (callSpecialIfBound? (.ref x) "__ne__" args) Q E s := by
  simp only [callSpecialIfBound?, bindSpecialIfBound?]
  refine wpAny_holding (wpAny_bind (wpAny_bind (wpAny_bind (I.type.here ((PySem.W.looks_findIn XK hs).here ?_)))))
  refine wpAny_bind (wpAny_askSetting (wpAny_ite ?_))
  have go : wpAny M A (call (.builtin "object.__ne__") ([.ref x] ++ args) >>= fun v => pure (some v)) Q E s := wpAny_bind (wpAny_mono h (fun v t q => wpAny_pure q) fun _ _ z => z)
  split
  · exact wpAny_bind (wpAny_of_eq (F.cmp_object.ne.bind _) (wpAny_pure (by exact go)))
  · exact wpAny_tryCatch (wpAny_bind (wpAny_of_eq (F.cmp_object.ne.bind _) (wpAny_pure (by exact go))))
def rNeO (C : Addr) (sp : Sp) : R2 := fun x y H Q => ∃ a b dx dy fs gs, x = .ref a ∧ y = .ref b ∧ H a = some (.ins C dx fs) ∧ H b = some (.ins C dy gs) ∧ sp [.ref a, .ref b] H (fun v H' => (∃ t, v = .bl t) ∧ ∀ t, v = .bl t → Q (.bl (!t)) H') E0
theorem ne_one {k : Nat} {C f : Addr} {fd : FuncData} {ps : List Str} {sp : Sp} {pins : List (Addr × Obj)} {s : Shared} {σ : L2.St} {H : Hp} {Q : VK} {a b dx : Addr} {fs : List (Str × V)} (q : EqO X.K C f) (nq : NeO X.K C) (G : FnOk X.prog X.w X.K X.mg X.base CX0 k f fd ps sp) (hr : Room (k + 1) X.A) (hb : Binds X.K fd ps [])
    (I : Inv X pins σ H s) (ha : H a = some (.ins C dx fs)) (hsp : sp [.ref a, .ref b] H (fun v H' => (∃ t, v = .bl t) ∧ ∀ t, v = .bl t → Q (.bl (!t)) H') E0) : wpAny (model X.prog X.w) X.A (tryCompare (.ref a) "__ne__" (.ref b)) (fun r s' => ∃ t H', r = some (.bool t) ∧ Inv X pins σ H' s' ∧ Q (.bl t) H') X.xe s := by
  obtain ⟨mA, J, _⟩ := ins_get I.hok ha
  obtain ⟨od, J, _⟩ := J.look
  have sb : Sub X (k + 1) X.A := ⟨hr, rfl⟩
  unfold tryCompare
  refine wpAny_bind (ifBound_ne I.kIn J nq.at_ (wpAny_call (codeAny_call_builtin F.cmp_object.ne.plain F.cmpEntry_ne (PySem.W.check_slot F.cmpKind_ne F.cmpSplit_ne (J.type.andThen (PySem.W.looks_mroIn I.kIn nq.ob)) (F.cmpArgs_ne _ _) ?_))))
  unfold Builtin.«object.__ne__»
  refine wpAny_bind (m := slotArgs "__ne__" 1 _) (wpAny_of_eq (a := (Value.ref a, [Value.ref b])) (by first | rfl | (simp only [slotArgs]; rfl)) ?_)
  dsimp only
  refine wpAny_bind (wpAny_cRoomFor sb.in1.room.units0 ?_)
  refine wpAny_bind (wpAny_mono (eq_in q G sb.in1 hb I ha (Q := fun v H' => ∀ t, v = .bl t → Q (.bl (!t)) H') hsp) (fun r s' z => ?_) fun _ _ z => z)
  obtain ⟨t, H', rfl, I', ex⟩ := z
  dsimp only
  refine wpAny_bind (wpAny_truthy_bool ?_)
  exact wpAny_pure (wpAny_pure ⟨!t, H', rfl, I', ex t rfl⟩)
theorem op_neO {k : Nat} {C f : Addr} {fd : FuncData} {ps : List Str} {sp : Sp} (q : EqO X.K C f) (nq : NeO X.K C) (G : FnOk X.prog X.w X.K X.mg X.base CX0 k f fd ps sp) (hr : Room (k + 1) X.A) (hb : Binds X.K fd ps []) : OpR X (compareOp .NotEq) (rNeO C sp) := by
  intro pins s σ H x y v u Q I rx ry h
  obtain ⟨a, b, dx, dy, fs, gs, rfl, rfl, ha, hb', hsp⟩ := h
  cases rx
  cases ry
  show wpAny (model X.prog X.w) X.A (richCompare .NotEq (.ref a) (.ref b)) (EP X pins σ Q) X.xe s
  have one := ne_one q nq G hr hb I ha hsp
  obtain ⟨mA, J, _⟩ := ins_get I.hok ha
  obtain ⟨mB, J', _⟩ := ins_get I.hok hb'
  obtain ⟨od, J, _⟩ := J.look
  obtain ⟨od', J', _⟩ := J'.look
  unfold richCompare
  simp only [oneThing_ref]
  refine wpAny_holding (wpAny_bind (wpAny_cRoomFor hr.units0 ?_))
  refine wpAny_bind (J.type.here (wpAny_bind (J'.type.here ?_)))
  split
  · rename_i z
    simp at z
  · refine wpAny_bind (wpAny_pure ?_)
    simp only [Bool.false_eq_true, if_false]
    refine wpAny_bind (wpAny_mono one (fun r s' z => ?_) fun _ _ z => z)
    obtain ⟨t, H', rfl, I', ex⟩ := z
    exact wpAny_pure ⟨.bl t, H', I', rfl, ex⟩
theorem rd_neO {C : Addr} {ns : List Str} {t : FE X.K α} {wa wb : W α} {fw : α × α × Unit → W Bool} {σ : L2.St} {H : Hp} {Q : V → Hp → Prop} {O : AS} {c : Nat} {Φ : Bool → WB} (S : Sat PK O pp ρ c σ H) (hw : (bnd wa fun x => bnd wb fun y => bnd (fw (x, y, ())) fun z => ret (!z)) Φ noX c) (k : ∀ x v H' c', Φ x c' → Chg pp H H' → Sat PK O pp ρ c' σ H' → v = .bl x → Q v H') :
    rdE PK pp ρ wa (eIns C ns t) σ H fun v H1 => rdE PK pp ρ wb (eIns C ns t) σ H1 fun u H2 => rNeO C (spW PK (aC (eIns C ns t) (aC (eIns C ns t) aN)) fw eB) v u H2 Q :=
  two S hw fun x y v u H2 c2 p2 ch2 S2 r1 r2 => by
    have q1 := r1
    have q2 := r2
    obtain ⟨a, dx, fs, e1, nO, hH, _⟩ := r1
    obtain ⟨b, dy, gs, e2, nO2, hH2, _⟩ := r2
    subst e1 e2
    refine ⟨a, b, dx, dy, fs, gs, rfl, rfl, hH, hH2, pp, Av O pp ρ, (x, y, ()), _, c2, S2.av, fun a h => .inr (.inl h), S2.pool, ⟨_, _, rfl, q1, _, _, rfl, q2, rfl⟩, p2, fun z v H3 c3 p3 ch3 pl3 rz => ⟨⟨z, rz⟩, fun t et => ?_⟩⟩
    have e3 : z = t := V.bl.inj ((show v = V.bl z from rz).symm.trans et)
    subst e3
    exact k (!z) _ H3 c3 p3 (ch2.trans ch3) (S2.chg ch3 pl3) rfl
theorem xneO {k : Nat} {C f : Addr} {fd : FuncData} {ps : List Str} {ns : List Str} {t : FE X.K α} {wa wb : W α} {fw : α × α × Unit → W Bool} (q : EqO X.K C f) (nq : NeO X.K C) (G : FnOk X.prog X.w X.K X.mg X.base CX0 k f fd ps (spW PK (aC (eIns C ns t) (aC (eIns C ns t) aN)) fw eB)) (hr : Room (k + 1) X.A) (hb : Binds X.K fd ps [])
    (ha : PX X PK pp ρ a wa (eIns C ns t)) (hb2 : PX X PK pp ρ b wb (eIns C ns t)) (hm : behindInMarks .NotEq b = false := by first | exact nomark _ | rfl) : PX X PK pp ρ (.Compare a [.NotEq] [b] pos) (bnd wa fun x => bnd wb fun y => bnd (fw (x, y, ())) fun z => ret (!z)) eB :=
  (pe_cmpR (op_neO q nq G hr hb) ha hb2 hm).weak fun σ H Q ⟨O, Φ, c, S, hw, kk⟩ => rd_neO S hw fun x v H' c' p ch S' e => kk x v H' c' p ch S' e
/-! ### list(range(n)) -/
theorem rgV_F2 {K : PySem.W.Frag} {O : AS} {H : Hp} (n : Nat) : F2 ((eI : En K Int).r O H) (rgV 0 (n : Int)) (rangeF 0 n) := by
  have e : rgV 0 (n : Int) = (rangeF 0 n).map V.int := by
    unfold rgV
    have : ∀ m lo : Nat, ((List.range' lo m).map fun i => V.int (0 + (i : Nat))) = (rangeF (lo : Int) m).map V.int := fun m => by
      induction m with
      | zero => intro lo; rfl
      | succ m ih =>
        intro lo
        rw [List.range'_succ, List.map_cons, ih (lo + 1)]
        show _ = V.int (lo : Int) :: (rangeF ((lo : Int) + 1) m).map V.int
        rw [Int.zero_add]
        rfl
    rw [show ((n : Int) - 0).toNat = n by omega, List.range_eq_range']
    exact this n 0
  rw [e]
  generalize rangeF 0 n = l
  induction l with
  | nil => exact .nil
  | cons x r ih => exact .cons rfl ih
theorem xlistRg {p p2 pos2 : Pos} {w : W Int} (hc : X.calm = true) (hm : X.mg "list" = none) (hm2 : X.mg "range" = none) (h : PX X PK pp ρ a w eI) (hg : Gl X "list" := by rfl) (hg2 : Gl X "range" := by rfl) (na : starEach [a] X.env = (false, eval a X.env) :: starEach [] X.env := by rfl)
    (he : starEach [Expr.Call (.Name "range" p2) [a] [] pos2] X.env = (false, eval (.Call (.Name "range" p2) [a] [] pos2) X.env) :: starEach [] X.env := by rfl) :
    PX X PK pp ρ (.Call (.Name "list" p) [.Call (.Name "range" p2) [a] [] pos2] [] pos) (bnd w fun x => grd (rngOk 0 x) (ret (rangeF 0 x.toNat))) (eL eI) :=
  (pe_listRg hc hg hm (prg_1 hg2 hm2 h na)).weak fun σ H Q ⟨O, Φ, c, S, hw, k⟩ => ⟨O, _, c, S, hw, fun x v H1 c1 p1 ch S1 r1 => by
    obtain ⟨q0, q2⟩ := p1
    simp only [rngOk, Bool.and_eq_true, decide_eq_true_eq] at q0
    refine ⟨x, r1, ⟨by omega, by omega, by omega, by omega, by omega⟩, fun q nq => ?_⟩
    have s := same_new (o := .lst (rgV 0 x)) nq
    refine k _ _ _ c1 q2 (ch.trans (.of s)) (S1.same s) ⟨q, _, rfl, ⟨new_at S1.av nq, upd_same⟩, ?_⟩
    by_cases h0 : 0 ≤ x
    · obtain ⟨n, rfl⟩ : ∃ n : Nat, x = (n : Int) := ⟨x.toNat, by omega⟩
      exact rgV_F2 n
    · have e1 : rgV 0 x = [] := by
        unfold rgV
        rw [show (x - 0).toNat = 0 by omega]
        rfl
      have e2 : x.toNat = 0 := by omega
      rw [e1, e2]
      exact .nil⟩
end
end Dc
/-! DcW: zip of two lists kept in a name, walked once behind it. -/
namespace Dc
open PySem PySem.Spec L2 PyProof.Rows
/-! ### the five things of a zip object, tracked -/
def zO (n : Nat) : HO := .ext fun h => IsZip h (n + 4) (n + 2) (n + 3) .none
def pO (p : Nat) (x y : Value) : HO := .ext fun h => IsPair h p x y
def iO (i l : Nat) : HO := .ext fun h => h.IsListIter i l 0
def up1 (H : Hp) (n a : Nat) : Hp := upd H n (iO n a)
def up2 (H : Hp) (n a b : Nat) : Hp := upd (up1 H n a) (n + 1) (iO (n + 1) b)
def up3 (H : Hp) (n a b : Nat) : Hp := upd (up2 H n a b) (n + 2) (pO (n + 2) (.ref n) (.ref (n + 1)))
def up4 (H : Hp) (n a b : Nat) : Hp := upd (up3 H n a b) (n + 3) (pO (n + 3) .none .none)
def up5 (H : Hp) (n a b : Nat) : Hp := upd (up4 H n a b) (n + 4) (zO n)
structure No5 (H : Hp) (n : Nat) : Prop where
  n0 : H n = none
  n1 : H (n + 1) = none
  n2 : H (n + 2) = none
  n3 : H (n + 3) = none
  n4 : H (n + 4) = none
section
variable {H : Hp} {n a b c : Nat}
theorem up5_lt (h : c < n) : up5 H n a b c = H c := by
  unfold up5 up4 up3 up2 up1
  rw [upd_ne (show c ≠ n + 4 by omega), upd_ne (show c ≠ n + 3 by omega), upd_ne (show c ≠ n + 2 by omega), upd_ne (show c ≠ n + 1 by omega), upd_ne (show c ≠ n by omega)]
theorem up5_other (n5 : No5 H n) {o : HO} (h : H c = some o) : up5 H n a b c = some o := by
  have h0 : c ≠ n := ne_of_none h n5.n0
  have h1 : c ≠ n + 1 := ne_of_none h n5.n1
  have h2 : c ≠ n + 2 := ne_of_none h n5.n2
  have h3 : c ≠ n + 3 := ne_of_none h n5.n3
  have h4 : c ≠ n + 4 := ne_of_none h n5.n4
  unfold up5 up4 up3 up2 up1
  rw [upd_ne h4, upd_ne h3, upd_ne h2, upd_ne h1, upd_ne h0]
  exact h
theorem up5_cases {o : HO} (h : up5 H n a b c = some o) : (c = n + 4 ∧ o = zO n) ∨ (c = n + 3 ∧ o = pO (n + 3) .none .none) ∨ (c = n + 2 ∧ o = pO (n + 2) (.ref n) (.ref (n + 1))) ∨ (c = n + 1 ∧ o = iO (n + 1) b) ∨ (c = n ∧ o = iO n a) ∨ H c = some o := by
  by_cases h4 : c = n + 4
  · subst h4; unfold up5 at h; rw [upd_same] at h; exact .inl ⟨rfl, (Option.some.inj h).symm⟩
  by_cases h3 : c = n + 3
  · subst h3; unfold up5 up4 at h; rw [upd_ne h4, upd_same] at h; exact .inr (.inl ⟨rfl, (Option.some.inj h).symm⟩)
  by_cases h2 : c = n + 2
  · subst h2; unfold up5 up4 up3 at h; rw [upd_ne h4, upd_ne h3, upd_same] at h; exact .inr (.inr (.inl ⟨rfl, (Option.some.inj h).symm⟩))
  by_cases h1 : c = n + 1
  · subst h1; unfold up5 up4 up3 up2 at h; rw [upd_ne h4, upd_ne h3, upd_ne h2, upd_same] at h; exact .inr (.inr (.inr (.inl ⟨rfl, (Option.some.inj h).symm⟩)))
  by_cases h0 : c = n
  · subst h0; unfold up5 up4 up3 up2 up1 at h; rw [upd_ne h4, upd_ne h3, upd_ne h2, upd_ne h1, upd_same] at h; exact .inr (.inr (.inr (.inr (.inl ⟨rfl, (Option.some.inj h).symm⟩))))
  · unfold up5 up4 up3 up2 up1 at h; rw [upd_ne h4, upd_ne h3, upd_ne h2, upd_ne h1, upd_ne h0] at h; exact .inr (.inr (.inr (.inr (.inr h))))
end
section
variable {X : Cx} {pins : List (Addr × Obj)} {σ : L2.St} {H : Hp} {s : Shared} {n a b : Nat}
theorem inv_zip {h' : Heap} {t' : Nat} (I : Inv X pins σ H s) (en : s.heap.objs.size = n) (hz : IsZip h' (n + 4) (n + 2) (n + 3) .none) (hTI : IsPair h' (n + 2) (.ref n) (.ref (n + 1))) (hTO : IsPair h' (n + 3) .none .none)
    (h1 : h'.IsListIter n a 0) (h2 : h'.IsListIter (n + 1) b 0) (hk : ∀ c o, s.heap.get? c = some o → h'.get? c = some o) : No5 H n ∧ Inv X pins σ (up5 H n a b) { s with heap := h', toks := t' } := by
  have fr : ∀ k, H (n + k) = none := fun k => I.hok.fresh (by omega)
  have n5 : No5 H n := ⟨fr 0, fr 1, fr 2, fr 3, fr 4⟩
  refine ⟨n5, I.un ⟨fun c o e _ _ _ => hk c o e, fun c o e _ _ _ => ⟨o.slots, hk c o e⟩, fun c o e z _ => by rw [up5_lt (by rw [← en]; exact Heap.lt_size e)]; exact z, fun c o e _ => ⟨o, hk c o e⟩, fun c xs z => up5_other n5 z, fun c o x z => up5_other n5 z, fun c ps z => ⟨#[], by rw [up5_other n5 z]; simp⟩⟩ fun c u e => ?_⟩
  rcases up5_cases e with ⟨rfl, rfl⟩ | ⟨rfl, rfl⟩ | ⟨rfl, rfl⟩ | ⟨rfl, rfl⟩ | ⟨rfl, rfl⟩ | e
  · exact ⟨hz, ⟨_, hz⟩, fun h1 h2 q k => k _ q⟩
  · exact ⟨hTO, ⟨_, hTO⟩, fun h1 h2 q k => k _ q⟩
  · exact ⟨hTI, ⟨_, hTI⟩, fun h1 h2 q k => k _ q⟩
  · obtain ⟨o, eo, q⟩ := id h2
    exact ⟨h2, ⟨o, eo⟩, fun h1 h2 ⟨o, eo, q⟩ k => ⟨o, k _ eo, q⟩⟩
  · obtain ⟨o, eo, q⟩ := id h1
    exact ⟨h1, ⟨o, eo⟩, fun h1 h2 ⟨o, eo, q⟩ k => ⟨o, k _ eo, q⟩⟩
  · exact (I.hok c u e).stay (fun b o _ z => hk b o z) (fun d z => up5_other n5 z) fun d xs z => up5_other n5 z
theorem inv_off {G : Hp} {c : Addr} {φ : Heap → Prop} (I : Inv X pins σ (upd G c (.ext φ)) s) (hG : G c = none) : Inv X pins σ G s := by
  have J := ItX.inv_drop I upd_same
  rw [ItX.dropH_upd hG] at J
  exact J
theorem fp_off {G H0 : Hp} {c : Addr} {u : HO} (I : Inv X pins σ (upd G c u) s) (hn : X.s_0.heap.objs.size ≤ c) (h0 : H0 c = none) : FpOk X pins H0 c :=
  ⟨h0, (ItX.inv_fp I upd_same hn).2⟩
theorem up4_none (n5 : No5 H n) : up4 H n a b (n + 4) = none := by
  unfold up4 up3 up2 up1
  rw [upd_ne (show n + 4 ≠ n + 3 by omega), upd_ne (show n + 4 ≠ n + 2 by omega), upd_ne (show n + 4 ≠ n + 1 by omega), upd_ne (show n + 4 ≠ n by omega)]
  exact n5.n4
theorem up3_none (n5 : No5 H n) : up3 H n a b (n + 3) = none := by
  unfold up3 up2 up1
  rw [upd_ne (show n + 3 ≠ n + 2 by omega), upd_ne (show n + 3 ≠ n + 1 by omega), upd_ne (show n + 3 ≠ n by omega)]
  exact n5.n3
theorem up2_none (n5 : No5 H n) : up2 H n a b (n + 2) = none := by
  unfold up2 up1
  rw [upd_ne (show n + 2 ≠ n + 1 by omega), upd_ne (show n + 2 ≠ n by omega)]
  exact n5.n2
theorem up1_none (n5 : No5 H n) : up1 H n a (n + 1) = none := by
  unfold up1
  rw [upd_ne (show n + 1 ≠ n by omega)]
  exact n5.n1
theorem inv_unzip (n5 : No5 H n) (I : Inv X pins σ (up5 H n a b) s) (hn : X.s_0.heap.objs.size ≤ n) : Inv X pins σ H s ∧ (IsZip s.heap (n + 4) (n + 2) (n + 3) .none ∧ IsPair s.heap (n + 2) (.ref n) (.ref (n + 1)) ∧ (∃ x y, IsPair s.heap (n + 3) x y) ∧ s.heap.IsListIter n a 0 ∧ s.heap.IsListIter (n + 1) b 0) ∧
    ∀ c ∈ [n + 4, n + 2, n + 3, n, n + 1], FpOk X pins H c := by
  have e5 := (I.hok (n + 4) (zO n) upd_same).1
  have f5 := fp_off I (Nat.le_trans hn (Nat.le_add_right _ _)) n5.n4
  have I4 : Inv X pins σ (up4 H n a b) s := inv_off I (up4_none n5)
  have e4 := (I4.hok (n + 3) (pO (n + 3) .none .none) upd_same).1
  have f4 := fp_off I4 (Nat.le_trans hn (Nat.le_add_right _ _)) n5.n3
  have I3 : Inv X pins σ (up3 H n a b) s := inv_off I4 (up3_none n5)
  have e3 := (I3.hok (n + 2) (pO (n + 2) (.ref n) (.ref (n + 1))) upd_same).1
  have f3 := fp_off I3 (Nat.le_trans hn (Nat.le_add_right _ _)) n5.n2
  have I2 : Inv X pins σ (up2 H n a b) s := inv_off I3 (up2_none n5)
  have e2 := (I2.hok (n + 1) (iO (n + 1) b) upd_same).1
  have f2 := fp_off I2 (Nat.le_trans hn (Nat.le_add_right _ _)) n5.n1
  have I1 : Inv X pins σ (up1 H n a) s := inv_off I2 (up1_none n5)
  have e1 := (I1.hok n (iO n a) upd_same).1
  have f1 := fp_off I1 hn n5.n0
  refine ⟨inv_off I1 n5.n0, ⟨e5, e3, ⟨_, _, e4⟩, e1, e2⟩, fun c hc => ?_⟩
  have e' : c = n + 4 ∨ c = n + 2 ∨ c = n + 3 ∨ c = n ∨ c = n + 1 := by simpa using hc
  rcases e' with rfl | rfl | rfl | rfl | rfl
  · exact f5
  · exact f3
  · exact f4
  · exact f1
  · exact f2
end
/-! ### zip(a, b) as a value -/
section
variable {X : Cx} {e e2 : Expr} {ta : TA} {p pos tpos : Pos} {elts : List Expr} {kk : Nat}
theorem pe_zipv (hg : Gl X "zip") (hm : X.mg "zip" = none) (ha : PA X [e, e2] ta)
    (hs : starEach [e, e2] X.env = (false, eval e X.env) :: starEach [e2] X.env := by rfl) (hpl : (backTo pos (starEach [e2] X.env)).any (·.1) = false := by rfl) :
    PE X (.Call (.Name "zip" p) [e, e2] [] pos) (fun σ H Q => ta σ H fun vs H1 => ∃ a b xs ys, vs = [.ref a, .ref b] ∧ SqL X.K H1 a xs ∧ SqL X.K H1 b ys ∧ ∀ n, No5 H1 n → X.s_0.heap.objs.size ≤ n → a < n → b < n → Q (.ref (n + 4)) (up5 H1 n a b)) := by
  refine ⟨fun pins s σ H Q I h => ?_⟩
  refine Call_ (ld_blt I hg hm PyProof.Rows.boot_zip (PyProof.Rows.callWith_type1 (thn (ha.run pos pins s σ H _ I h) fun us s1 ⟨vs, H1, I1, r1, q1⟩ => ?_) hs hpl))
  obtain ⟨a, b, xs, ys, ex, hqx, hqy, q⟩ := q1
  subst ex
  cases r1 with
  | cons r rr =>
    cases rr with
    | cons r' rr =>
      cases rr
      cases r
      cases r'
      obtain ⟨its, rv, p1, _⟩ := I1.list hqx
      obtain ⟨its2, rv2, p2, _⟩ := I1.list hqy
      have la : a < s1.heap.objs.size := p1.lt
      have lb : b < s1.heap.objs.size := p2.lt
      refine call_zip_2 p1.isList p2.isList fun h' hz hTI hTO h1 h2 hsz hk => ?_
      obtain ⟨n5, I2⟩ := inv_zip (a := a) (b := b) (t' := s1.toks) I1 rfl hz hTI hTO h1 h2 hk
      exact ⟨.ref (s1.heap.objs.size + 4), _, I2, rfl, q _ n5 I1.sz la lb⟩
/-- walked by its name, once; behind the walk it is forgotten -/
def iZv (K : PySem.W.Frag) (m i : Nat) : TI := fun σ H R => ∃ n a b H0, H = up5 H0 n a b ∧ No5 H0 n ∧ m ≤ n ∧ a < n ∧ b < n ∧ σ[i]? = some (some (.ref (n + 4))) ∧ R (Itz K a b) H0
theorem pi_zv {i : Nat} {x : Str} (hN : X.N[i]? = some x) (hv : Vis X.env.scope x) (hd : (x == ("__debug__" : Str)) = false := by decide) (hcd : (x == ("__classdict__" : Str)) = false := by decide) : PI X (.Tuple elts kk tpos) (.Name x p) (iZv X.K X.s_0.heap.objs.size i) := by
  refine ⟨fun pins s σ H R I h => ?_⟩
  obtain ⟨n, a, b, H0, rfl, n5, hn, la, lb, hs, q⟩ := h
  refine thn ((pe_var (pos := p) (i := i) hN hv hd hcd).run pins s σ _ (fun v H1 => v = .ref (n + 4) ∧ H1 = up5 H0 n a b) I ⟨_, hs, rfl, rfl⟩) fun u s1 ⟨v, H1, I1, r1, ev, eH⟩ => ?_
  subst ev
  rw [eH] at I1
  cases r1
  obtain ⟨I2, st, fp⟩ := inv_unzip n5 I1 hn
  exact wpAny_pyIter_zip st.1 ⟨n + 4, [n + 4, n + 2, n + 3, n, n + 1], _, _, H0, rfl, I2, turn_zip (PySem.W.ktu_apart n a b la lb), st, fp, q⟩
end
/-! ### typed -/
section
variable {X : Cx} {PK : PoolK} {pp : PP} {ρ : List (Sl X.K)} {α β γ δ ι : Type} {e a b : Expr} {es : List Expr} {pos : Pos}
theorem Sat.junk {K : PySem.W.Frag} {PK : PoolK} {pp : PP} {ρ : List (Sl K)} {O : AS} {c : Nat} {σ : L2.St} {H : Hp} {i : Nat} {v : V} (S : Sat PK O pp ρ c σ H) (hn : get ρ i = .nil) : Sat PK O pp ρ c (σ.set i (some v)) H := by
  refine ⟨by rw [List.length_set]; exact S.len, S.nd, S.new, S.dom, S.pool, fun j => ?_⟩
  by_cases hj : j = i
  · subst hj; rw [hn]; exact True.intro
  · have q := S.slots j
    cases e : get ρ j with
    | nil => exact True.intro
    | sh en2 y =>
      rw [e] at q
      obtain ⟨v2, e2, r2⟩ := q
      exact ⟨v2, by rw [List.getElem?_set_ne (Ne.symm hj)]; exact e2, r2⟩
    | ow a on y =>
      rw [e] at q
      exact ⟨by rw [List.getElem?_set_ne (Ne.symm hj)]; exact q.1, q.2⟩
    | pl =>
      rw [e] at q
      obtain ⟨a, b, e2, e3⟩ := q
      exact ⟨a, b, e2, by rw [List.getElem?_set_ne (Ne.symm hj)]; exact e3⟩
/-- a comprehension's whole from a source that is there -/
theorem lc_body {own : List (Str × Nat)} {ext : List (Sl X.K) → α → List (Sl X.K)} {js : List Nat} {g : TG} {f : α → W β} {en : En X.K β} {xs : List α} {J : It} {O : AS} {σ : L2.St} {H1 : Hp} {c1 : Nat} {Φ : List β → WB} {Q : V → Hp → Prop} (hj : ∀ j ∈ js, j ∈ own.map (·.2)) (hn : ∀ i ∈ own.map (·.2), get ρ i = .nil) (ho : ∀ x, owns (ext ρ x) = owns ρ)
    (S1 : Sat PK O pp ρ c1 σ H1) (p1 : mapW f xs Φ noX c1) (src : Src PK xs ext js g J (Av O pp ρ) H1) (hz : xs.length ≤ sizeLine)
    (k : ∀ ys p vs H' c', Φ ys c' → H1 p = none → Chg pp H1 H' → Sat PK (Ox O p) pp ρ c' σ H' → H' p = some (.lst vs) → F2 (en.r (Av (Ox O p) pp ρ) H') vs ys → Q (.ref p) H') (D : Addr) (hD : H1 D = none) :
    ∃ W : Nat → Nat → Hp → Prop, (∃ m, W 0 m (upd H1 D (.lst []))) ∧ ∀ i m H, W i m H →
      (J.stop i H ∧ Q (.ref D) H) ∨ (J.go i H ∧ ∃ Nx : Hp → Prop, (∀ H', Nx H' → ∃ m', m' < m ∧ W (i + 1) m' H') ∧ ∀ x H', J.yld i H x H' → g x (wipe σ (own.map (·.2))) H' fun σ2 H2 => wipe σ2 (own.map (·.2)) = wipe σ (own.map (·.2)) ∧ tYes σ2 H2 fun b H3 =>
        if b = true then (∃ y, rdE PK pp (ext ρ y) (f y) en σ2 H3 fun y H4 => ∃ acc, H4 D = some (.lst acc) ∧ acc.length < sizeLine ∧ Nx (upd H4 D (.lst (acc ++ [y])))) else Nx H3) := by
  have nf := nfoot S1 hD
  have mv0 : Mv (Av O pp ρ) (Av (Ox O D) pp ρ) H1 (upd H1 D (.lst [])) := Mv.newA hD
  refine ⟨fun i m H' => m = xs.length - i ∧ i ≤ xs.length ∧ ∃ acc vs c', H' D = some (.lst vs) ∧ F2 (en.r (Av (Ox O D) pp ρ) H') vs acc ∧ vs.length ≤ i ∧ Chg pp (upd H1 D (.lst [])) (upd H' D (.lst [])) ∧ Sat PK (Ox O D) pp ρ c' σ H' ∧ mapW f (xs.drop i) (fun ys c => Φ (acc ++ ys) c) noX c',
    ⟨xs.length, by simp, Nat.zero_le _, [], [], c1, upd_same, .nil, Nat.zero_le _, by rw [upd_upd]; exact .refl, S1.newO hD, by simpa using p1⟩, ?_⟩
  rintro i m H' ⟨rfl, hi', acc, vs, c', eD, fD, lD, chD, S', hw'⟩
  have mv : Mv (Av O pp ρ) (Av (Ox O D) pp ρ) H1 H' := fun a o n e => by
    obtain ⟨e1, n1⟩ := mv0 a o n e
    have ne : a ≠ D := ne_of_none e hD
    have := chD a o e1 fun z => n (.inr (.inl z))
    rw [upd_ne ne] at this
    exact ⟨this, n1⟩
  by_cases hlt : i < xs.length
  · refine .inr ⟨src.go i H' _ hlt mv, fun H3 => ∃ acc vs c', H3 D = some (.lst vs) ∧ F2 (en.r (Av (Ox O D) pp ρ) H3) vs acc ∧ vs.length ≤ i + 1 ∧ Chg pp (upd H1 D (.lst [])) (upd H3 D (.lst [])) ∧ Sat PK (Ox O D) pp ρ c' σ H3 ∧ mapW f (xs.drop (i + 1)) (fun ys c => Φ (acc ++ ys) c) noX c', fun H3 q => ⟨xs.length - (i + 1), by omega, rfl, hlt, q⟩, fun v H2 y => ?_⟩
    obtain ⟨us, H3, eus, sm, S3, hQ⟩ := src.yld i xs[i] H' v H2 pp ρ (Ox O D) c' (wipe σ (own.map (·.2))) (List.getElem?_eq_getElem hlt) mv (S'.wipe hn) y
    refine hQ _ ⟨wipe_setAll fun u hu => hj _ (by rw [← eus]; exact List.mem_map.mpr ⟨u, hu, rfl⟩), ?_⟩
    unfold tYes
    simp only [if_true]
    rw [List.drop_eq_getElem_cons hlt] at hw'
    refine ⟨xs[i], Ox O D, _, c', S3, hw', fun y v4 H4 c4 q ch4 S4 r4 => ?_⟩
    have e4 : H4 D = some (.lst vs) := ch4 D _ (sm D _ eD) nf
    refine ⟨vs, e4, Nat.lt_of_le_of_lt lD (Nat.lt_of_lt_of_le hlt hz), acc ++ [y], vs ++ [v4], c4, upd_same, ?_, by rw [List.length_append]; exact Nat.succ_le_succ lD, ?_, ?_, ?_⟩
    · have mv4 : Mv (Av (Ox O D) pp ρ) (Av (Ox O D) pp ρ) H' (upd H4 D (.lst (vs ++ [v4]))) := fun a o n e => by
        have ne : a ≠ D := fun z => n (by rw [z]; exact .inl (.inr rfl))
        rw [upd_ne ne]
        exact ⟨ch4 a o (sm a o e) fun z => n (.inr (.inl z)), n⟩
      have mv5 : Mv (Av (Ox O D) pp (ext ρ xs[i])) (Av (Ox O D) pp ρ) H4 (upd H4 D (.lst (vs ++ [v4]))) := fun a o n e => by
        have ne : a ≠ D := fun z => n (by rw [z]; exact .inl (.inr rfl))
        rw [upd_ne ne]
        refine ⟨e, fun z => n ?_⟩
        rcases z with z | z | z
        · exact .inl z
        · exact .inr (.inl z)
        · exact .inr (.inr (by rw [ho]; exact z))
      exact (fD.imp fun _ _ => en.mono mv4).append (.cons (en.mono mv5 r4) .nil)
    · intro a o e hf
      have z := chD a o e hf
      rw [upd_upd]
      by_cases ne : a = D
      · subst ne; rw [upd_same] at z ⊢; exact z
      · rw [upd_ne ne] at z ⊢
        exact ch4 a o (sm a o z) hf
    · exact (S'.chg (fun a o e hf => ch4 a o (sm a o e) hf) S4.pool).updO (.inr rfl) nf
    · have q2 : mapW f (xs.drop (i + 1)) (fun ys c => Φ (acc ++ (y :: ys)) c) noX c4 := q
      simpa [List.append_assoc] using q2
  · have e : i = xs.length := by omega
    subst e
    rw [List.drop_length] at hw'
    have hw2 : Φ (acc ++ []) c' := hw'
    rw [List.append_nil] at hw2
    refine .inl ⟨src.stop H' _ mv, k acc D vs H' c' hw2 hD (fun a o e hf => ?_) S' eD fD⟩
    have ne : a ≠ D := ne_of_none e hD
    have z := chD a o (by rw [upd_ne ne]; exact e) hf
    rw [upd_ne ne] at z
    exact z
theorem src_zip {K : PySem.W.Frag} {PK : PoolK} {O : AS} {pp : PP} {ρ : List (Sl K)} {H1 : Hp} {a b : Addr} {vs us : List V} {xs : List α} {ys : List β} {e1 : En K α} {e2 : En K β} (i j : Nat) (l : LstAt (Av O pp ρ) H1 a vs) (f : F2 (e1.r (Av O pp ρ) H1) vs xs) (l2 : LstAt (Av O pp ρ) H1 b us) (f2 : F2 (e2.r (Av O pp ρ) H1) us ys) :
    Src (K := K) PK (xs.zip ys) (fun ρ x => put (put ρ i (.sh e1 x.1)) j (.sh e2 x.2)) [i, j] (gTup K 2 (gCons (gName i) (gCons (gName j) gNil))) (Itz K a b) (Av O pp ρ) H1 := by
  have hl := f.length
  have hl2 := f2.length
  refine ⟨fun j H' A' hj m => ?_, fun H' A' m => ?_, fun _ _ _ z => own_put_sh (own_put_sh z), fun j y H' v H'' pp' ρ' O' c' σ' hx m S' yy => ?_⟩
  · rw [List.length_zip] at hj
    have h1 : j < vs.length := by omega
    have h2 : j < us.length := by omega
    exact ⟨vs, us, vs[j], us[j], (l.mv m).sq, (l2.mv m).sq, List.getElem?_eq_getElem h1, List.getElem?_eq_getElem h2⟩
  · refine ⟨vs, us, (l.mv m).sq, (l2.mv m).sq, ?_⟩
    rw [List.length_zip]
    omega
  · obtain ⟨T, u, w, rfl, nT, rfl, hu, hw'⟩ := yy
    rw [List.getElem?_zip_eq_some] at hx
    obtain ⟨u1, g1, q1⟩ := f.get hx.1
    obtain ⟨u2, g2, q2⟩ := f2.get hx.2
    have z1 := hu vs (l.mv m).sq
    have z2 := hw' us (l2.mv m).sq
    rw [g1] at z1
    rw [g2] at z2
    cases z1
    cases z2
    exact gpair S' nT (e1.mono m q1) (e2.mono m q2)
/-- the state behind x = zip(..), ahead of the walk; W: what is wished from there -/
def atZ {K : PySem.W.Frag} (m i : Nat) (PK : PoolK) (pp : PP) (ρ : List (Sl K)) (e1 : En K α) (e2 : En K β) (w : List (α × β) → W γ) (N : AS → Hp → γ → Nat → Prop) (σ : L2.St) (H : Hp) : Prop :=
  ∃ n a b H0 O Φ c vs us xs ys, H = up5 H0 n a b ∧ No5 H0 n ∧ m ≤ n ∧ a < n ∧ b < n ∧ σ[i]? = some (some (.ref (n + 4))) ∧ Sat PK O pp ρ c σ H0 ∧ LstAt (Av O pp ρ) H0 a vs ∧ F2 (e1.r (Av O pp ρ) H0) vs xs ∧ LstAt (Av O pp ρ) H0 b us ∧ F2 (e2.r (Av O pp ρ) H0) us ys ∧
    (xs.zip ys).length ≤ sizeLine ∧ w (xs.zip ys) Φ noX c ∧ ∀ y H' c', Φ y c' → Chg pp H0 H' → Sat PK O pp ρ c' σ H' → N O H' y c'
/-- x = zip(a, b); return C([elt for p, q in x]) -/
theorem szip (i j1 j2 : Nat) {C g : Addr} {ns : List Str} {t : FE X.K δ} {k : Nat} {fd : FuncData} {ps : List Str} {x cn : Str} {p0 p1 p2 p3 pos1 pos2 pos3 pos4 pos5 tpos : Pos} {elts : List Expr} {kk : Nat} {elt : Expr} {scope : Scope} {own : List (Str × Nat)} {rest : List Stmt}
    {wa : W (List α × List β × Unit)} {e1 : En X.K α} {e2 : En X.K β} {f : α × β → W γ} {en : En X.K γ} {fw : List γ × Unit → W δ} {ι' κ : Type} {ρ' : ι' → List (Sl X.K)} {ρl : κ → List (Sl X.K)}
    (hc : X.calm = true) (hN : X.N.Nodup) (hnil : get ρ i = .nil) (hm : X.mg "zip" = none) (hz : PAX X PK pp ρ [a, b] wa (a2 (eL e1) (eL e2)))
    (M : Mk X.K C g) (F : FnOk X.prog X.w X.K X.mg X.base CX0 k g fd ps (spI PK C ns t (aC (eL en) aN) fw)) (hr : Room (k + 1) X.A) (hmC : X.mg cn = some (.ref C)) (hb : Binds X.K fd ps [])
    (ok : BlkOk X.N X.env.scope scope own) (hj : ∀ j ∈ [j1, j2], j ∈ own.map (·.2)) (hn : ∀ i ∈ own.map (·.2), get ρ i = .nil) (ho : ∀ x : α × β, owns (put (put ρ j1 (.sh e1 x.1)) j2 (.sh e2 x.2)) = owns ρ)
    (hgt : ∀ (s : Shared) (H : Hp) (C : Addr) (cl : List (Str × Addr)) (fp : List Addr), PG (X.blk s H scope (compEnvC scope cl C X.env) fp) (.Tuple elts kk tpos) (gTup X.K 2 (gCons (gName j1) (gCons (gName j2) gNil))))
    (he : ∀ (s : Shared) (H : Hp) (C : Addr) (cl : List (Str × Addr)) (fp : List Addr) (x : α × β), PX (X.blk s H scope (compEnvC scope cl C X.env) fp) PK pp (put (put ρ j1 (.sh e1 x.1)) j2 (.sh e2 x.2)) elt (f x) en)
    (hlr : Nat.blt i ρ.length = true := by rfl) (hi : X.N[i]? = some x := by rfl) (hx : Loc X.env.scope x := by first | exact Or.inl rfl | exact Or.inr rfl) (hv : Vis X.env.scope x := by first | exact Or.inl rfl | exact Or.inr rfl) (hs : swapsWith (.Call (.Name "zip" p1) [a, b] [] pos1) (some (.Name x p0)) pos2.line X.env = pure false := by rfl)
    (hf : X.fn x = true ∨ X.env.scope.names.lookup x = some .local := by first | exact .inl rfl | exact .inr rfl)
    (hg : Gl X "zip" := by rfl) (hgC : Gl X cn := by rfl) (hd : (x == ("__debug__" : Str)) = false := by decide) (hcd : (x == ("__classdict__" : Str)) = false := by decide) (hdb : (cn == ("__debug__" : Str)) = false := by decide)
    (hs1 : starEach [a, b] X.env = (false, eval a X.env) :: starEach [b] X.env := by rfl) (hpl : (backTo pos1 (starEach [b] X.env)).any (·.1) = false := by rfl)
    (hse : ∀ y, foldedSetIterable (.Name x p3) X.env y = pure y := by intro _; rfl) (hst : starEach [.ListComp elt [⟨.Tuple elts kk tpos, .Name x p3, [], 0⟩] scope pos3] X.env = (false, eval (.ListComp elt [⟨.Tuple elts kk tpos, .Name x p3, [], 0⟩] scope pos3) X.env) :: starEach [] X.env := by rfl) :
    PSX X PK pp ρ (.Assign [.Name x p0] (.Call (.Name "zip" p1) [a, b] [] pos1) pos2 :: .Return (some (.Call (.Name cn p2) [.ListComp elt [⟨.Tuple elts kk tpos, .Name x p3, [], 0⟩] scope pos3] [] pos4)) pos5 :: rest)
      (bnd wa fun z => bnd (mapW f (z.1.zip z.2.1)) fun l => bnd (fw (l, ())) fun y => ret (.rt y)) ρ' ρl (eIns C ns t) := by
  have lc := pe_lc (te := fun σ H Q => ∃ y : α × β, rdE PK pp (put (put ρ j1 (.sh e1 y.1)) j2 (.sh e2 y.2)) (f y) en σ H Q) hc hN (pi_zv (p := p3) (elts := elts) (kk := kk) (tpos := tpos) hi hv hd hcd) ok hgt (fun _ _ _ _ _ => pts_nil) (fun s H C cl fp => ⟨fun pins s' σ H Q I ⟨x, q⟩ => (he s _ C cl fp x).run pins s' σ H Q I q⟩) hse (pos := pos3)
  have mk := pe_make (pos := pos4) (p := p2) M F hr hgC hmC hb .nil pass0 (pa_cons lc pa_nil hst) hdb hst (by rfl)
  refine (pss_cons (ps_set (pos := pos2) (pos' := p0) hN hi hx (pe_zipv hg hm (pa_len hz) hs1 hpl) hs hf) (pss_cons (ps_ret (pos := pos5) mk) pss_never)).weak fun D σ H ⟨O, Φ, c, S, hw, kD⟩ => ?_
  refine ⟨O, _, c, S, hw, fun z vs0 H1 c1 q1 ch S1 r1 hlen => ?_⟩
  obtain ⟨_, _, rfl, ⟨a', vs, rfl, l, f1⟩, _, _, rfl, ⟨b', us, rfl, l2, f2⟩, rfl⟩ := r1
  refine ⟨a', b', vs, us, rfl, l.sq, l2.sq, fun n n5 hsz la lb => ?_⟩
  have hlz : (z.1.zip z.2.1).length ≤ sizeLine := by
    have := hlen a' vs (by simp) l.sq
    have hl := f1.length
    rw [List.length_zip]
    omega
  have hli : (σ.set i (some (.ref (n + 4))))[i]? = some (some (.ref (n + 4))) := by
    exact List.getElem?_set_self (by rw [S1.len]; exact Nat.blt_eq ▸ hlr)
  have body := lc_body (Q := fun v H2 => ∀ (q dx : Addr), H2 q = none → H2 dx = none → dx ≠ q → spI PK C ns t (aC (eL en) aN) fw (V.ref q :: [v]) (upd (upd H2 dx (.own q)) q (.ins C dx [])) (fun u H3 => u = V.non ∧ D.rt (V.ref q) H3) E0) (σ := σ.set i (some (.ref (n + 4)))) (en := en) hj hn ho (S1.junk hnil) q1 (src_zip j1 j2 l f1 l2 f2) hlz (fun ys p vs' H' c' q hp ch2 S2 ep fp => ?_)
  exact ⟨n, a', b', H1, rfl, n5, hsz, la, lb, hli, fun D1 hD1 => body D1 hD1⟩
  intro q3 dx hq hdx hne
  have less : ∀ a, Av O pp ρ a → Av (Ox O p) pp ρ a := fun a h => by
    rcases h with h | h | h
    · exact .inl (.inl h)
    · exact .inr (.inl h)
    · exact .inr (.inr h)
  have S3 : Sat PK O pp ρ c' _ H' := S2.lessO
  have r3 : (eL en).r (Av O pp ρ) H' (.ref p) ys := ⟨p, vs', rfl, ⟨fun z => S1.av p z hp, ep⟩, fp.imp fun _ _ => en.mono (Mv.less less)⟩
  have sm : ∀ b o, H' b = some o → upd (upd H' dx (.own q3)) q3 (.ins C dx []) b = some o := fun b o eb => by
    rw [upd_ne (ne_of_none eb hq), upd_ne (ne_of_none eb hdx)]; exact eb
  have nq : ¬ Av O pp ρ q3 := fun z => S3.av q3 z hq
  refine ⟨pp, Av O pp ρ, q3, dx, [V.ref p], (ys, ()), _, c', rfl, upd_same, fun b hb => ?_, nq, fun b h => .inr (.inl h), ?_, ?_, q, fun z H4 c4 p4 keep pl rz => ⟨rfl, ?_⟩⟩
  · intro z
    have := S3.av b hb
    cases e1 : H' b with
    | none => exact this e1
    | some o => rw [sm b o e1] at z; cases z
  · exact (S3.same sm).pool
  · exact (aC (eL en) aN).mono (fun b o n eb => ⟨sm b o eb, fun z => by
      rcases z with z | z
      · exact n z
      · rw [z, hq] at eb; cases eb⟩) (show (aC (eL en) aN).r pp (Av O pp ρ) H' [V.ref p] (ys, ()) from ⟨_, _, rfl, r3, rfl⟩)
  · have ch4 : Chg pp H' H4 := fun b o eb nf => keep b o (sm b o eb) nf (ne_of_none eb hq)
    have ch5 := (ch.trans ch2).trans ch4
    exact kD (.rt z) H4 c4 p4 (V.ref q3) (fun a o e n _ => ch5 a o e n) pl ((eIns C ns t).mono (Mv.less fun a h => by
      rcases h with h | h
      · exact .inl h
      · exact .inr (.inl h)) rz)
end
end Dc
/-! DcX: an object that keeps a list of its own, made, and put to by a method, row by row. -/
namespace Dc
open PySem PySem.Spec L2 PyProof.Rows
/-! ### bodies whose return does something more -/
def Tau := (V → Hp → Prop) → V → Hp → Prop
def tt (τ : Tau) (D : Ends) : Ends := { D with rt := τ D.rt }
section
variable {X : Cx} {PK : PoolK} {pp : PP} {ρ : List (Sl X.K)} {α β γ δ ι : Type} {τ : Tau}
abbrev PST (X : Cx) (τ : Tau) (PK : PoolK) (pp : PP) (ρ : List (Sl X.K)) (ss : List Stmt) (w : W (Fl γ δ β)) (ρ' : γ → List (Sl X.K)) (ρl : δ → List (Sl X.K)) (er : En X.K β) : Prop := PSs X ss (fun D => rdS PK pp ρ w ρ' ρl er (tt τ D))
variable {st : Stmt} {rest : List Stmt} {e : Expr} {pos : Pos} {ρ' : γ → List (Sl X.K)} {ρl : δ → List (Sl X.K)} {er : En X.K β}
theorem reT {ss : List Stmt} {w : W (Fl γ δ β)} (ρ1 : List (Sl X.K)) (h : ρ = ρ1) (k : PST X τ PK pp ρ1 ss w ρ' ρl er) : PST X τ PK pp ρ ss w ρ' ρl er := by
  rw [h]; exact k
theorem snilT {s : γ} (f : Fit ρ (ρ' s)) : PST X τ PK pp ρ [] (ret (.nx s)) ρ' ρl er := (pss_nil).weak fun D σ H ⟨O, Φ, c, S, hw, k⟩ => k _ H c hw σ f.stp (S.fit f)
theorem sxT {γ1 : Type} {w : W γ1} {ρ1 : ι → γ1 → List (Sl X.K)} {kk : γ1 → W (Fl γ δ β)} (h : PS X st (rdN PK pp ρ w ρ1)) (h2 : ∀ i s, PST X τ PK pp (ρ1 i s) rest (kk s) ρ' ρl er) : PST X τ PK pp ρ (st :: rest) (bnd w kk) ρ' ρl er :=
  (pss_cons h (PSs.ex fun p : ι × γ1 => h2 p.1 p.2)).weak fun D σ H ⟨O, Φ, c, S, hw, k⟩ => ⟨O, _, c, S, hw, fun i s H' c' p σ' t S' => ⟨(i, s), O, Φ, c', S', p, fun fl H2 c2 q => (k fl H2 c2 q).mono t⟩⟩
theorem sq_T {γ1 : Type} {w : W (Fl γ1 δ β)} {ρ1 : γ1 → List (Sl X.K)} {kk : γ1 → W (Fl γ δ β)} (h : PS X st (fun D => rdS PK pp ρ w ρ1 ρl er (tt τ D))) (h2 : ∀ s, PST X τ PK pp (ρ1 s) rest (kk s) ρ' ρl er) : PST X τ PK pp ρ (st :: rest) (bnd w (sq kk)) ρ' ρl er :=
  (pss_cons h (PSs.ex fun s : γ1 => h2 s)).weak fun D σ H ⟨O, Φ, c, S, hw, k⟩ => ⟨O, _, c, S, hw, fun fl H' c' p => by
    cases fl with
    | nx s => exact fun σ' t S' => ⟨s, O, Φ, c', S', p, fun fl H2 c2 q => (k fl H2 c2 q).mono t⟩
    | bk s => exact k (.bk s) H' c' p
    | ct s => exact k (.ct s) H' c' p
    | rt r => exact k (.rt r) H' c' p⟩
theorem nif0T {c : Expr} {a : List Stmt} {w : W Bool} {u : W (Fl Unit δ β)} (hc : PTX X PK pp ρ c w) (ha : PST X τ PK pp ρ a u (fun _ : Unit => ρ) ρl er) :
    PS X (.If c a [] pos) (fun D => rdS PK pp ρ (bnd w fun x => ite x u (ret (Fl.nx ()))) (fun _ : Unit => ρ) ρl er (tt τ D)) :=
  (ps_if hc ha (snilT (τ := τ) (er := er) (ρl := ρl) (ρ' := fun _ : Unit => ρ) (s := ()) Fit.refl)).weak fun D σ H ⟨O, Φ, c, S, hw, k⟩ => ⟨O, _, c, S, hw, fun x H' c' p ch S' => by
    have st : Stp pp ρ ρ H H' := .of_chg ch fun _ z => z
    cases x with
    | true => exact ⟨O, Φ, c', S', p, fun fl H2 c2 q => (k fl H2 c2 q).mono st⟩
    | false => exact ⟨O, Φ, c', S', by simpa [ite] using p, fun fl H2 c2 q => (k fl H2 c2 q).mono st⟩⟩
theorem nforT (F : List (Sl X.K) → γ → List (Sl X.K)) {iter tg : Expr} {body : List Stmt} {wi : W (List α)} {ext : List (Sl X.K) → α → List (Sl X.K)} {js : List Nat} {g : TG} {f : γ → α → W (Fl γ γ β)} {s0 : γ}
    (hp : PassesOwn (model X.prog X.w) X.A X.env X.xe) (hc : X.calm = true) (hi : PI X tg iter (rdI PK pp ρ wi ext js g)) (hg : PG X tg g) (hf : Fit ρ (F ρ s0)) (hb : ∀ s x, PST X τ PK pp (ext (F ρ s) x) body (f s x) (F ρ) (F ρ) er)
    (hs : ∀ x, foldedSetIterable iter X.env x = pure x := by intro _; rfl) : PS X (.For tg iter body [] pos) (fun D => rdS PK pp ρ (bnd wi fun xs => forW f s0 xs) (F ρ) ρl er (tt τ D)) :=
  (ps_for hp hc hi hg (PSs.ex fun z : γ × α => hb z.1 z.2) hs).weak fun D σ H ⟨O, Φ, c, S, hw, k⟩ => ⟨O, _, c, S, hw, fun xs J H1 c1 p1 ch S1 src hz => by
    have st0 : Stp pp ρ (F ρ s0) H H1 := (Stp.of_chg ch fun _ z => z).trans hf.stp
    refine ⟨fun i m σ' H' => m = xs.length - i ∧ i ≤ xs.length ∧ ∃ s c', Stp pp ρ (F ρ s) H1 H' ∧ Sat PK O pp (F ρ s) c' σ' H' ∧ forW f s (xs.drop i) Φ noX c', ⟨xs.length, by simp, Nat.zero_le _, s0, c1, hf.stp, S1.fit hf, p1⟩, ?_⟩
    rintro i m σ' H' ⟨rfl, hi, s, c', st, S', hw'⟩
    have ch1 : Stp pp ρ ρ H H1 := Stp.of_chg ch fun _ z => z
    by_cases hlt : i < xs.length
    · refine .inr ⟨src.go i H' _ hlt (st.mv (O := O)), fun σ3 H3 => ∃ s c', Stp pp ρ (F ρ s) H1 H3 ∧ Sat PK O pp (F ρ s) c' σ3 H3 ∧ forW f s (xs.drop (i + 1)) Φ noX c', fun σ3 H3 q => ⟨xs.length - (i + 1), by omega, rfl, hlt, q⟩, fun v H2 y => ?_⟩
      obtain ⟨us, H3, _, sm, S3, hQ⟩ := src.yld i xs[i] H' v H2 pp (F ρ s) O c' σ' (List.getElem?_eq_getElem hlt) st.mv S' y
      refine hQ _ ?_
      rw [List.drop_eq_getElem_cons hlt] at hw'
      have st3 : Stp pp (F ρ s) (ext (F ρ s) xs[i]) H' H3 := .of_chg (.of sm) (src.eown _ _)
      refine ⟨(s, xs[i]), O, _, c', S3, hw', fun fl H4 c4 q => ?_⟩
      cases fl with
      | nx s' => exact fun σ4 t S4 => ⟨s', c4, (st.trans st3).trans t, S4, q⟩
      | ct s' => exact fun σ4 t S4 => ⟨s', c4, (st.trans st3).trans t, S4, q⟩
      | bk s' => exact fun σ4 t S4 => k (.nx s') H4 c4 q σ4 (((ch1.trans st).trans st3).trans t) S4
      | rt r => exact ((k (.rt r) H4 c4 q).mono ((ch1.trans st).trans st3))
    · have e : i = xs.length := by omega
      subst e
      rw [List.drop_length] at hw'
      exact .inl ⟨src.stop H' _ (st.mv (O := O)), k (.nx s) H' c' hw' σ' (ch1.trans st) S'⟩⟩
/-! ### an object at a, with the list at l -/
def eBas {K : PySem.W.Frag} (C a l : Addr) (f : Str) (en : En K α) : En K (List α) := ⟨fun O H v xs => v = .ref a ∧ ∃ dx vs, ¬ O a ∧ H a = some (.ins C dx [(f, .ref l)]) ∧ ¬ O l ∧ H l = some (.lst vs) ∧ F2 (en.r O H) vs xs,
  fun m ⟨e, dx, vs, n, h, n2, h2, q⟩ => ⟨e, dx, vs, (m a _ n h).2, (m a _ n h).1, (m l _ n2 h2).2, (m l _ n2 h2).1, q.imp fun _ _ => en.mono m⟩⟩
theorem bas_ins {C a l : Addr} {f : Str} {en : En X.K α} {O : AS} {H : Hp} {v : V} {xs : List α} (h : (eBas C a l f en).r O H v xs) : (eIns C [f] (fC f (eL en) fN)).r O H v (xs, ()) := by
  obtain ⟨e, dx, vs, n, h, n2, h2, q⟩ := h
  exact ⟨a, dx, _, e, n, h, rfl, ⟨.ref l, by simp [List.lookup], l, vs, rfl, ⟨n2, h2⟩, q⟩, True.intro⟩
/-- read as any object of its class -/
theorem xbas {C a l : Addr} {f : Str} {en : En X.K α} {w : W (List α)} (h : PX X PK pp ρ e w (eBas C a l f en)) : PX X PK pp ρ e (bnd w fun xs => ret (xs, ())) (eIns C [f] (fC f (eL en) fN)) :=
  h.weak fun σ H Q ⟨O, Φ, c, S, hw, k⟩ => ⟨O, _, c, S, hw, fun x v H' c' p ch S' r => k _ v H' c' p ch S' (bas_ins r)⟩
/-- what put's return stands for: None: False; a line: it is kept, and True -/
def tauP (l : Addr) : Tau := fun rt v H' => (v = .non ∧ rt (.bl false) H') ∨ (v ≠ .non ∧ ∀ lv, H' l = some (.lst lv) → rt (.bl true) (upd H' l (.lst (lv ++ [v]))))
/-- return False -/
theorem sfalT {l : Addr} {pos' : Pos} {j} {en : En X.K α} {ρ' : γ → List (Sl X.K)} {ρl : δ → List (Sl X.K)} : PST X (tauP l) PK pp ρ (.Return (some (.Constant (.bool false) j pos')) pos :: rest) (ret (.rt (none : Option α))) ρ' ρl (eO en) :=
  (pss_cons (ps_ret pe_bl) pss_never).weak fun D σ H ⟨O, Φ, c, S, hw, k⟩ => by
    rcases k (.rt none) H c hw .non (fun a o e _ _ => e) S.pool rfl with q | q
    · exact q.2
    · exact absurd rfl q.1
/-- self.f.append(e); return True -/
theorem sappT (i : Nat) {C a l : Addr} {f x : Str} {p' fpos apos cpos pos pos2 pos3 : Pos} {j} {xe : Expr} {en : En X.K α} {ls : List α} {w : W α} {ρ' : γ → List (Sl X.K)} {ρl : δ → List (Sl X.K)} (hc : Cls X.K C) (hnA : NoAttr X.K C f) (hg : get ρ i = .sh (eBas C a l f en) ls) (hen : ∀ O H v y, en.r O H v y → v ≠ .non) (h : PX X PK pp ρ xe w en) (hN : X.N[i]? = some x := by rfl)
    (hv : Vis X.env.scope x := by first | exact Or.inl rfl | exact Or.inr (Or.inl rfl) | exact Or.inr (Or.inr rfl)) (hd : (x == ("__debug__" : Str)) = false := by decide) (hcd : (x == ("__classdict__" : Str)) = false := by decide)
    (hab : attributeBase (.Name x p') f X.env (eval (.Name x p') X.env) = eval (.Name x p') X.env := by rfl)
    (hbase : attributeBase (.Attribute (.Name x p') f fpos) "append" X.env (eval (.Attribute (.Name x p') f fpos) X.env) = eval (.Attribute (.Name x p') f fpos) X.env := by rfl)
    (hfew : ((backTo cpos (starEach [xe] X.env)).all (fun x => !x.1) && (backToKw cpos (keywordEach [] X.env)).all (fun x => x.1.isSome) && decide ([xe].length + ([] : List Keyword).length + (if ([] : List Keyword).isEmpty then 0 else 1) < 30)) = true := by rfl)
    (hline : (apos.endLine == cpos.line) = true := by rfl) (hs : starEach [xe] X.env = (false, eval xe X.env) :: starEach [] X.env := by rfl) (hplain : (backTo cpos (starEach [] X.env)).any (·.1) = false := by rfl)
    (hsw : swapsWith (.Call (.Attribute (.Attribute (.Name x p') f fpos) "append" apos) [xe] [] cpos) none pos.line X.env = pure false := by rfl) :
    PST X (tauP l) PK pp ρ (.Expr (.Call (.Attribute (.Attribute (.Name x p') f fpos) "append" apos) [xe] [] cpos) pos :: .Return (some (.Constant (.bool true) j pos3)) pos2 :: rest) (bnd w fun y => grd (decide (ls.length < 16777216)) (ret (.rt (some y)))) ρ' ρl (eO en) :=
  (pss_cons (ps_expr (pe_bm PySem.F.plainAttrs_list PySem.F.slot_list_append PySem.F.type_list_append mt_append (pe_fld (pe_var hN hv hd hcd) hab) (pa_cons h pa_nil hs) hbase hfew hline hs hplain) hsw) (pss_cons (ps_ret pe_bl) pss_never)).weak fun D σ H ⟨O, Φ, c, S, hw, k⟩ => by
    have q := S.slots i
    rw [hg] at q
    obtain ⟨v0, e1, e0, dx, vs, n1, h1, n2, h2, f2⟩ := q
    subst e0
    refine ⟨_, e1, a, C, dx, _, .ref l, rfl, h1, hc, hnA, by simp [List.lookup], .inl ⟨rfl, _, SqL.of h2⟩, O, _, c, S, hw, fun y v H1 c1 p1 ch S1 r => ?_⟩
    have q := S1.slots i
    rw [hg] at q
    obtain ⟨v1, e1, e0, dx1, vs1, n1, h1, n2, h2, f2⟩ := q
    refine ⟨l, vs1, v, rfl, rfl, h2, by rw [f2.length, sizeLine_eq]; exact of_decide_eq_true p1.1, ?_⟩
    have less : ∀ a, (O a ∨ foot pp a) → Av O pp ρ a := fun a h => by
      rcases h with h | h
      · exact .inl h
      · exact .inr (.inl h)
    have r2 := hen _ _ _ _ r
    rcases k (.rt (some y)) H1 c1 p1.2 v (fun a o e n _ => ch a o e n) S1.pool ⟨en.mono (Mv.less less) r, r2⟩ with q | q
    · exact absurd q.1 r2
    · exact q.2 vs1 h2
end
section
variable {P : Program} {w : World} {K : PySem.W.Frag} {mg : Str → Option Value} {base : Heap} {PK : PoolK} {α β γ : Type}
/-- what put does: self (at a, its list at l, holding ls) and the rest x -/
def spPut (PK : PoolK) (C : Addr) (f : Str) (en : En K β) (ea : EA K α) (fw : List β × α → W (Option β)) : Sp := fun vs H Q _ => ∃ pp O a l dx lv rest ls x Φ c, vs = .ref a :: rest ∧ Dom O H ∧ (∀ b, foot pp b → O b) ∧ PoolOk PK pp H c ∧ ¬ O a ∧ H a = some (.ins C dx [(f, .ref l)]) ∧ ¬ O l ∧ H l = some (.lst lv) ∧ F2 (en.r O H) lv ls ∧ ea.r pp O H rest x ∧ fw (ls, x) Φ noX c ∧
  ∀ r H' c', Φ r c' → Chg pp H H' → PoolOk PK pp H' c' → match r with
    | none => Q (.bl false) H'
    | some y => ∀ v lv', en.r O H' v y → H' l = some (.lst lv') → Q (.bl true) (upd H' l (.lst (lv' ++ [v])))
end
section
variable {P : Program} {w : World} {K : PySem.W.Frag} {mg : Str → Option Value} {base : Heap} {PK : PoolK} {α β γ : Type}
theorem fn_P {x qual : Str} {st : Stmt} {g C : Addr} {f : Str} {fd : FuncData} {N ps : List Str} {k : Nat} {ea : EA K α} {en : En K β} {wb : List β × α → W (Fl Empty Empty (Option β))} {ρ' : Empty → List (Sl K)} (F : Fun K x qual st g fd) (S : FnScope N ps (defScope st)) (hl : ea.len + 1 = ps.length) (hN : ea.len + 1 ≤ N.length)
    (hbody : ∀ (cdv : Value) (A : Around) (outer : List Env) (s : Shared) (H : Hp) (E : XK) (pp : PP) (a l : Addr) (x : List β × α), Room k (A.deeper (envOfC qual (defScope st) s.heap.objs.size g cdv)) →
      PST (cxOf CX0 P w K mg base N qual (defScope st) g cdv A outer s H E).nox (tauP l) PK pp ((aC (eBas C a l f en) ea).ents x ++ List.replicate (N.length - (ea.len + 1)) .nil) (defBody st) (wb x) ρ' (fun z : Empty => nomatch z) (eO en)) :
    FnOk P w K mg base CX0 (k + 1) g fd ps (spPut PK C f en ea (fun x => fnR (wb x))) := by
  refine F.ok S (fun vs H Q E h => ?_) (fun cdv A outer s H vs Q E hr h => ?_)
  · obtain ⟨pp, O, a, l, dx, lv, rest, ls, x, Φ, c, rfl, _, _, _, _, _, _, _, _, r, _⟩ := h
    rw [List.length_cons, ea.hlen r, hl]
  · obtain ⟨pp, O, a, l, dx, lv, rest, ls, x, Φ, c, rfl, hd, hf, hp, na, ha, nl, hl', f2, r, hw, q⟩ := h
    refine ⟨_, hbody cdv A outer s H E pp a l (ls, x) hr, O, _, c, sat_start (ea := aC (eBas C a l f en) ea) (x := (ls, x)) hd hf hp ⟨_, _, rfl, ⟨rfl, dx, lv, na, ha, nl, hl', f2⟩, r⟩ hN, hw, fun fl H' c' p => ?_⟩
    cases fl with
    | rt o =>
      intro v ch pl rv
      have ch' : Chg pp H H' := fun a o e n => ch a o e n (own0 (ea := aC (eBas C a l f en) ea))
      have z := q o H' c' p ch' pl
      cases o with
      | none =>
        have rv : v = .non := rv
        exact .inl ⟨rv, z⟩
      | some y =>
        have rv : en.r _ H' v y ∧ v ≠ .non := rv
        exact .inr ⟨rv.2, fun lv' e => z v lv' (en.mono (Mv.less fun a h => .inl h) rv.1) e⟩
    | nx z => exact nomatch z
    | bk z => exact nomatch z
    | ct z => exact nomatch z
end
end Dc
/-! DcY: b = B(); x = [b.put(r) for r in rows]. -/
namespace Dc
open PySem PySem.Spec L2 PyProof.Rows
section
variable {P : Program} {w : World} {K : PySem.W.Frag} {mg : Str → Option Value} {base : Heap} {PK : PoolK} {α β γ : Type}
/-- __init__: the object gets a new list -/
def spB0 (C : Addr) (f : Str) : Sp := fun vs H Q _ => ∃ a dx, vs = [.ref a] ∧ H a = some (.ins C dx []) ∧ ∀ l, H l = none → Q .non (upd (upd H l (.lst [])) a (.ins C dx [(f, .ref l)]))
theorem fn_B0 {x qual : Str} {st : Stmt} {g C : Addr} {f y : Str} {fd : FuncData} {N : List Str} {p1 p2 p3 p4 : Pos} (F : Fun K x qual st g fd) (S : FnScope N [y] (defScope st)) (hc : Cls K C) (hn : NoAttr K C f) (hN0 : N[0]? = some y)
    (hb : defBody st = [.Assign [.Attribute (.Name y p1) f p2] (.List [] p3) p4])
    (hv : ∀ cdv A outer s H E, Vis (cxOf CX0 P w K mg base N qual (defScope st) g cdv A outer s H E).nox.env.scope y)
    (hs : ∀ cdv A outer s H E, swapsWith (.List [] p3) (some (.Attribute (.Name y p1) f p2)) p4.line (cxOf CX0 P w K mg base N qual (defScope st) g cdv A outer s H E).nox.env = pure false) (hd : (y == ("__debug__" : Str)) = false := by decide) (hcd : (y == ("__classdict__" : Str)) = false := by decide) (k : Nat) :
    FnOk P w K mg base CX0 (k + 1) g fd [y] (spB0 C f) := by
  refine F.ok S (fun vs H Q E h => ?_) (fun cdv A outer s H vs Q E hr h => ?_)
  · obtain ⟨a, dx, rfl, _⟩ := h
    rfl
  · obtain ⟨a, dx, rfl, ha, q⟩ := h
    rw [hb]
    refine ⟨_, pss_cons (ps_fld (pe_var (i := 0) hN0 (hv cdv A outer s H E) hd hcd) (pe_lst pa_nil) (hs cdv A outer s H E)) pss_nil, ?_⟩
    refine ⟨by show 0 ≤ sizeLine; decide, fun l hl => ?_⟩
    have ne : a ≠ l := ne_of_none ha hl
    refine ⟨.ref a, ?_, a, C, dx, [], rfl, by rw [upd_ne ne]; exact ha, hc, hn, by show 0 < 1000; decide, q l hl⟩
    have hl0 : 0 < N.length := by
      rcases Nat.eq_zero_or_pos N.length with z | z
      · rw [List.length_eq_zero_iff.mp z] at hN0; cases hN0
      · exact z
    show (([V.ref a].map some) ++ List.replicate (N.length - 1) none)[0]? = _
    rfl
def putsW (gd : β → Bool) (fw : List β × α × Unit → W (Option β)) : List β → List α → W (List β × List Bool)
  | ls, [] => ret (ls, [])
  | ls, x :: r => bnd (fw (ls, x, ())) fun o => grd (o.all gd) (bnd (putsW gd fw (ls ++ o.toList) r) fun z => ret (z.1, o.isSome :: z.2))
end
section
variable {X : Cx} {PK : PoolK} {pp : PP} {ρ : List (Sl X.K)} {α β γ δ ι : Type}
variable {rest : List Stmt} {ρ' : γ → List (Sl X.K)} {ρl : δ → List (Sl X.K)} {er : En X.K ι}
theorem sbas (i j jr : Nat) {C g0 : Addr} {f m x y r cn : Str} {p0 p1 p2 p3 p4 p8 p9 tp : Pos} {elt iter : Expr} {scope : Scope} {k0 : Nat} {fd0 : FuncData} {ps0 : List Str} {wi : W (List α)} {en : En X.K β} {ea : En X.K α} {gd : β → Bool} {fw : List β × α × Unit → W (Option β)} {kk : List β × List Bool → W (Fl γ δ ι)}
    (hc : X.calm = true) (hN : X.N.Nodup) (hni : get ρ i = .nil) (hnj : get ρ j = .nil) (hnr : get ρ jr = .nil) (hij : j ≠ i) (hir : i ≠ jr)
    (M : Mk X.K C g0) (F0 : FnOk X.prog X.w X.K X.mg X.base CX0 k0 g0 fd0 ps0 (spB0 C f)) (hr0 : Room (k0 + 1) X.A) (hmC : X.mg cn = some (.ref C)) (hb0 : Binds X.K fd0 ps0 [])
    (hi : PI X (.Name r tp) iter (rdI PK pp ρ wi (fun ρ x => put ρ jr (.sh ea x)) [jr] (gName jr))) (ok : BlkOk X.N X.env.scope scope [(r, jr)])
    (hgt : ∀ (s : Shared) (H : Hp) (C : Addr) (cl : List (Str × Addr)) (fp : List Addr), PG (X.blk s H scope (compEnvC scope cl C X.env) fp) (.Name r tp) (gName jr))
    (he : ∀ (s : Shared) (H : Hp) (C' : Addr) (cl : List (Str × Addr)) (fp : List Addr), PE (X.blk s H scope (compEnvC scope cl C' X.env) fp) elt (tMeth C m (spPut PK C f en (aC ea aN) fw) [] E0 (tVar i) (tCons (tVar jr) tNil)))
    (hm : (f == m) = false) (hmf : (m == f) = false)
    (hgr : ∀ x, get (put ρ jr (.sh ea x)) jr = .sh ea x) (ho : ∀ x : α, owns (put ρ jr (.sh ea x)) = owns ρ)
    (hap : ∀ (O : AS) (H : Hp) (v : V) (y : β) (l : Addr) (lv : List V), en.r O H v y → gd y = true → H l = some (.lst lv) → (∀ u ∈ lv, ∃ t, u = V.ref t) → en.r (fun b => O b ∨ b = l) H v y) (hrf : ∀ (O : AS) (H : Hp) (v : V) (y : β), en.r O H v y → ∃ t, v = V.ref t)
    (hs2 : swapsWith (.ListComp elt [⟨.Name r tp, iter, [], 0⟩] scope p8) (some (.Name y p4)) p9.line X.env = pure true)
    (h2 : ∀ z : List β × List Bool, PSX X PK pp (put (put ρ i (.sh (eIns C [f] (fC f (eL en) fN)) (z.1, ()))) j (.sh (eL eB) z.2)) rest (kk z) ρ' ρl er)
    (hlr : Nat.blt i ρ.length = true := by rfl) (hxi : X.N[i]? = some x := by rfl) (hxj : X.N[j]? = some y := by rfl)
    (hx : Loc X.env.scope x := by first | exact Or.inl rfl | exact Or.inr rfl)
    (hf : X.fn x = true ∨ X.env.scope.names.lookup x = some .local := by first | exact .inl rfl | exact .inr rfl)
    (hgC : Gl X cn := by rfl) (hdb : (cn == ("__debug__" : Str)) = false := by decide)
    (hs : swapsWith (.Call (.Name cn p1) [] [] p2) (some (.Name x p0)) p3.line X.env = pure false := by rfl)
    (hyl : X.env.scope.names.lookup y = some .local := by rfl)
    (hse : ∀ y, foldedSetIterable iter X.env y = pure y := by intro _; rfl) :
    PSX X PK pp ρ (.Assign [.Name x p0] (.Call (.Name cn p1) [] [] p2) p3 :: .Assign [.Name y p4] (.ListComp elt [⟨.Name r tp, iter, [], 0⟩] scope p8) p9 :: rest) (bnd wi fun xs => bnd (putsW gd fw [] xs) kk) ρ' ρl er := by
  have mk := pe_make0 (pos := p2) (p := p1) M F0 hr0 hgC hmC hb0 .nil pass0 hdb
  have lc := ps_setLc (pos := p8) (py := p4) hc hN hxj hyl hs2 hi ok hgt (fun _ _ _ _ _ => pts_nil) he hse
  refine (pss_cons (ps_set (pos := p3) (pos' := p0) hN hxi hx mk hs hf) (pss_cons lc (PSs.ex h2))).weak fun D σ H ⟨O, Φ, c, S, hw, kD⟩ => ?_
  intro a dx ha hdx hne
  have nda : a ≠ dx := Ne.symm hne
  refine ⟨a, dx, rfl, upd_same, fun l hl => ⟨rfl, ?_⟩⟩
  have nla : l ≠ a := fun z => by rw [z, upd_same] at hl; cases hl
  have nld : l ≠ dx := fun z => by rw [z, upd_ne hne, upd_same] at hl; cases hl
  have hl0 : H l = none := by rw [upd_ne nla, upd_ne nld] at hl; exact hl
  have fa := nfoot S ha
  have fl := nfoot S hl0
  -- the state ahead of the walk
  have S0 := S.junk (v := .ref a) hni
  have Sd := S0.same (same_new (o := HO.own a) hdx)
  have ha1 : upd H dx (.own a) a = none := by rw [upd_ne nda]; exact ha
  have Sa := Sd.newO (o := .ins C dx []) ha1
  have Sl1 := Sa.newO (o := .lst []) hl
  have S2 := Sl1.updO (o := .ins C dx [(f, .ref l)]) (.inl (.inr rfl)) fa
  generalize hH2 : upd (upd (upd (upd H dx (.own a)) a (.ins C dx [])) l (.lst [])) a (.ins C dx [(f, .ref l)]) = H2 at S2
  have e2a : H2 a = some (.ins C dx [(f, .ref l)]) := by rw [← hH2, upd_same]
  have e2l : H2 l = some (.lst []) := by rw [← hH2, upd_ne nla, upd_same]
  have e2 : ∀ b o, H b = some o → H2 b = some o := fun b o e => by
    have n1 : b ≠ a := ne_of_none e ha
    have n2 : b ≠ l := ne_of_none e hl0
    have n3 : b ≠ dx := ne_of_none e hdx
    rw [← hH2, upd_ne n1, upd_ne n2, upd_ne n1, upd_ne n3]; exact e
  have hσ : (σ.set i (some (.ref a)))[i]? = some (some (.ref a)) := List.getElem?_set_self (by rw [S.len]; exact Nat.blt_eq ▸ hlr)
  generalize hs0 : σ.set i (some (V.ref a)) = σ2 at S2 hσ
  show gName i (.ref a) σ H2 _
  show rdI PK pp ρ wi _ _ _ (σ.set i (some (.ref a))) H2 _
  rw [hs0]
  refine ⟨Ox (Ox O a) l, _, c, S2, hw, fun xs J H1 c1 p1 ch1 S1 src hz Dd hD => ?_⟩
  have e1a := ch1 a _ e2a fa
  have e1l := ch1 l _ e2l fl
  have nDa : a ≠ Dd := ne_of_none e1a hD
  have nDl : l ≠ Dd := ne_of_none e1l hD
  have fD := nfoot S1 hD
  have nAD : ¬ Av O pp ρ Dd := fun h => S1.av Dd (by
    rcases h with h | h | h
    · exact .inl (.inl (.inl h))
    · exact .inr (.inl h)
    · exact .inr (.inr h)) hD
  have nAa : ¬ Av O pp ρ a := fun h => S.av a h ha
  have nAl : ¬ Av O pp ρ l := fun h => S.av l h hl0
  have refs : ∀ {A : AS} {H' : Hp} {lv : List V} {ls : List β}, F2 (en.r A H') lv ls → ∀ u ∈ lv, ∃ t, u = V.ref t := fun {A H' lv ls} q => by
    induction q with
    | nil => intro u hu; cases hu
    | cons q1 _ ih =>
      intro u hu
      rcases List.mem_cons.mp hu with z | z
      · rw [z]; exact hrf _ _ _ _ q1
      · exact ih u z
  refine ⟨fun n m H' => m = xs.length - n ∧ n ≤ xs.length ∧ ∃ acc ls lv c', H' Dd = some (.lst (acc.map V.bl)) ∧ acc.length ≤ n ∧ H' a = some (.ins C dx [(f, .ref l)]) ∧ H' l = some (.lst lv) ∧ F2 (en.r (fun b => Av (Ox O Dd) pp ρ b ∨ b = l) H') lv ls ∧ (∀ b o, H1 b = some o → ¬ foot pp b → b ≠ l → H' b = some o) ∧ Sat PK (Ox (Ox (Ox O a) l) Dd) pp ρ c' σ2 H' ∧ putsW gd fw ls (xs.drop n) (fun z c => kk (z.1, acc ++ z.2) Φ noX c) noX c',
    ⟨xs.length, by simp, Nat.zero_le _, [], [], [], c1, upd_same, Nat.zero_le _, by rw [upd_ne nDa]; exact e1a, by rw [upd_ne nDl]; exact e1l, .nil, fun b o e _ _ => by rw [upd_ne (ne_of_none e hD)]; exact e, S1.newO hD, p1⟩, ?_⟩
  rintro n m H' ⟨rfl, hn, acc, ls, lv, c', eD, lD, ea', el', fL, kp, S', hw'⟩
  have mv : Mv (Av (Ox (Ox O a) l) pp ρ) (Av (Ox (Ox (Ox O a) l) Dd) pp ρ) H1 H' := fun b o nb e => by
    refine ⟨kp b o e (fun z => nb (.inr (.inl z))) fun z => nb (.inl (.inr z)), fun z => ?_⟩
    rcases z with z | z | z
    · rcases z with z | z
      · exact nb (.inl z)
      · exact ne_of_none e hD z
    · exact nb (.inr (.inl z))
    · exact nb (.inr (.inr z))
  by_cases hlt : n < xs.length
  · obtain ⟨NX, hNX⟩ : ∃ NX : Hp → Prop, NX = fun H3 => ∃ acc ls lv c', H3 Dd = some (.lst (acc.map V.bl)) ∧ acc.length ≤ n + 1 ∧ H3 a = some (.ins C dx [(f, .ref l)]) ∧ H3 l = some (.lst lv) ∧ F2 (en.r (fun b => Av (Ox O Dd) pp ρ b ∨ b = l) H3) lv ls ∧ (∀ b o, H1 b = some o → ¬ foot pp b → b ≠ l → H3 b = some o) ∧ Sat PK (Ox (Ox (Ox O a) l) Dd) pp ρ c' σ2 H3 ∧ putsW gd fw ls (xs.drop (n + 1)) (fun z c => kk (z.1, acc ++ z.2) Φ noX c) noX c' := ⟨_, rfl⟩
    refine .inr ⟨src.go n H' _ hlt mv, NX, fun H3 q => ⟨xs.length - (n + 1), by omega, rfl, hlt, by rw [hNX] at q; exact q⟩, fun v H2' yy => ?_⟩
    have hnw : ∀ q ∈ [jr], get ρ q = .nil := nil1 hnr
    obtain ⟨us, H3, eus, sm, S3, hQ⟩ := src.yld n xs[n] H' v H2' pp ρ (Ox (Ox (Ox O a) l) Dd) c' (wipe σ2 [jr]) (List.getElem?_eq_getElem hlt) mv (S'.wipe hnw) yy
    have hin : ∀ u ∈ us, u.1 ∈ [jr] := fun u hu => by rw [← eus]; exact List.mem_map.mpr ⟨u, hu, rfl⟩
    refine hQ _ ⟨wipe_setAll hin, ?_⟩
    unfold tYes
    simp only [if_true]
    have e3a := sm _ _ ea'
    have e3l := sm _ _ el'
    have e3D := sm _ _ eD
    have hσ3 : (setAll (wipe σ2 [jr]) us)[i]? = some (some (.ref a)) := by
      rw [(setAll_get hin).2 i (by simpa using hir), wipe_get, if_neg (by simpa using hir)]
      exact hσ
    have q3 := S3.slots jr
    rw [hgr] at q3
    obtain ⟨v3, hv3, r3⟩ := q3
    rw [List.drop_eq_getElem_cons hlt] at hw'
    have less1 : ∀ b, Av (Ox O Dd) pp ρ b → Av (Ox (Ox (Ox O a) l) Dd) pp (put ρ jr (.sh ea xs[n])) b := fun b h => by
      rcases h with h | h | h
      · rcases h with h | h
        · exact .inl (.inl (.inl (.inl h)))
        · exact .inl (.inr h)
      · exact .inr (.inl h)
      · exact .inr (.inr (by rw [ho]; exact h))
    have nOa : ¬ Av (Ox O Dd) pp ρ a := fun h => by
      rcases h with h | h | h
      · rcases h with h | h
        · exact nAa (.inl h)
        · exact nDa h
      · exact fa h
      · exact nAa (.inr (.inr h))
    have nOl : ¬ Av (Ox O Dd) pp ρ l := fun h => by
      rcases h with h | h | h
      · rcases h with h | h
        · exact nAl (.inl h)
        · exact nDl h
      · exact fl h
      · exact nAl (.inr (.inr h))
    have f3 : F2 (en.r (Av (Ox O Dd) pp ρ) H3) lv ls := fL.imp fun _ _ => en.mono fun b o nb e => ⟨sm b o e, fun z => nb (.inl z)⟩
    refine ⟨.ref a, hσ3, a, dx, [(f, .ref l)], rfl, e3a, by simp only [List.lookup, hmf], v3, hv3, ?_⟩
    show spPut PK C f en (aC ea aN) fw [.ref a, v3] H3 (fun y H4 => ∃ acc0, H4 Dd = some (.lst acc0) ∧ acc0.length < sizeLine ∧ NX (upd H4 Dd (.lst (acc0 ++ [y])))) E0
    refine ⟨pp, Av (Ox O Dd) pp ρ, a, l, dx, lv, [v3], ls, (xs[n], ()), _, c', rfl, fun b hb => S3.av b (less1 b hb), fun b h => .inr (.inl h), S3.pool, nOa, e3a, nOl, e3l, f3, ⟨v3, [], rfl, ea.mono (Mv.less less1) r3, rfl⟩, hw', fun o H4 c4 p4 ch4 pl4 => ?_⟩
    have e4a := ch4 a _ e3a fa
    have e4l := ch4 l _ e3l fl
    have e4D := ch4 Dd _ e3D fD
    have S4 := (S'.same sm).chg ch4 pl4
    have len : acc.length < sizeLine := Nat.lt_of_le_of_lt lD (Nat.lt_of_lt_of_le hlt hz)
    have drops : ∀ {Hn : Hp}, (∀ b, b ≠ Dd → b ≠ l → Hn b = H4 b) → Mv (fun b => Av (Ox O Dd) pp ρ b ∨ b = l) (fun b => Av (Ox O Dd) pp ρ b ∨ b = l) H4 Hn := fun {Hn} hH b o nb e => ⟨by rw [hH b (fun z => nb (.inl (.inl (.inr z)))) fun z => nb (.inr z)]; exact e, nb⟩
    have mv4 : Mv (fun b => Av (Ox O Dd) pp ρ b ∨ b = l) (fun b => Av (Ox O Dd) pp ρ b ∨ b = l) H' H4 := fun b o nb e => ⟨ch4 b o (sm b o e) fun z => nb (.inl (.inr (.inl z))), nb⟩
    have kp4 : ∀ b o, H1 b = some o → ¬ foot pp b → b ≠ l → H4 b = some o := fun b o e n1 n2 => ch4 b o (sm b o (kp b o e n1 n2)) n1
    cases o with
    | none =>
      have p5 : putsW gd fw ls (xs.drop (n + 1)) (fun z c => kk (z.1, acc ++ (false :: z.2)) Φ noX c) noX c4 := by
        have z : bnd (putsW gd fw ls (xs.drop (n + 1))) (fun z => ret (z.1, false :: z.2)) (fun z c => kk (z.1, acc ++ z.2) Φ noX c) noX c4 := by simpa using p4.2
        exact z
      refine ⟨acc.map V.bl, e4D, by rw [List.length_map]; exact len, by rw [hNX]; exact ⟨acc ++ [false], ls, lv, c4, by rw [upd_same, List.map_append]; rfl, by rw [List.length_append]; exact Nat.succ_le_succ lD, by rw [upd_ne nDa]; exact e4a, by rw [upd_ne nDl]; exact e4l, fL.imp fun _ _ => en.mono (mv4.trans (drops fun b n1 _ => upd_ne n1)), fun b o e n1 n2 => by rw [upd_ne (ne_of_none e hD)]; exact kp4 b o e n1 n2, S4.updO (.inr rfl) fD, by simpa [List.append_assoc] using p5⟩⟩
    | some y2 =>
      intro v4 lv' r4 e4'
      rw [e4l] at e4'
      have e5 : lv = lv' := by
        have z := Option.some.inj e4'
        exact HO.lst.inj z
      subst e5
      obtain ⟨pg, p5⟩ := p4
      have pg : gd y2 = true := by simpa using pg
      have p5 : putsW gd fw (ls ++ [y2]) (xs.drop (n + 1)) (fun z c => kk (z.1, acc ++ (true :: z.2)) Φ noX c) noX c4 := by
        have z : bnd (putsW gd fw (ls ++ [y2]) (xs.drop (n + 1))) (fun z => ret (z.1, true :: z.2)) (fun z c => kk (z.1, acc ++ z.2) Φ noX c) noX c4 := by simpa using p5
        exact z
      have r5 := hap _ _ _ _ l lv r4 pg e4l (refs f3)
      have hH : ∀ b, b ≠ Dd → b ≠ l → upd (upd H4 l (.lst (lv ++ [v4]))) Dd (.lst (acc.map V.bl ++ [V.bl true])) b = H4 b := fun b n1 n2 => by rw [upd_ne n1, upd_ne n2]
      refine ⟨acc.map V.bl, by rw [upd_ne (Ne.symm nDl)]; exact e4D, by rw [List.length_map]; exact len, by rw [hNX]; exact ⟨acc ++ [true], ls ++ [y2], lv ++ [v4], c4, by rw [upd_same, List.map_append]; rfl, by rw [List.length_append]; exact Nat.succ_le_succ lD, by rw [hH a nDa (Ne.symm nla)]; exact e4a, by rw [upd_ne nDl, upd_same], ((fL.imp fun _ _ => en.mono (mv4.trans (drops hH))).append (.cons (en.mono (drops hH) r5) .nil)), fun b o e n1 n2 => by rw [hH b (ne_of_none e hD) n2]; exact kp4 b o e n1 n2, (S4.updO (.inl (.inr rfl)) fl).updO (.inr rfl) fD, by simpa [List.append_assoc] using p5⟩⟩
  · have e : n = xs.length := by omega
    subst e
    rw [List.drop_length] at hw'
    have hw2 : kk (ls, acc) Φ noX c' := by
      have z : kk (ls, acc ++ []) Φ noX c' := hw'
      rwa [List.append_nil] at z
    refine .inl ⟨src.stop H' _ mv, ?_⟩
    have S6 := S'.lessO.lessO.lessO
    have lessO : ∀ b, Av O pp ρ b → (Av (Ox O Dd) pp ρ b ∨ b = l) := fun b h => .inl (by
      rcases h with h | h | h
      · exact .inl (.inl h)
      · exact .inr (.inl h)
      · exact .inr (.inr h))
    have r1 : (eIns C [f] (fC f (eL en) fN)).r (Av O pp ρ) H' (.ref a) (ls, ()) := bas_ins (a := a) (l := l) ⟨rfl, dx, lv, nAa, ea', nAl, el', fL.imp fun _ _ => en.mono (Mv.less lessO)⟩
    have S7 := S6.put (i := i) r1
    have hset : σ2.set i (some (.ref a)) = σ2 := by rw [← hs0, List.set_set]
    rw [hset] at S7
    have fb : F2 ((eB : En X.K Bool).r (Av O pp (put ρ i (.sh (eIns C [f] (fC f (eL en) fN)) (ls, ()))) ) H') (acc.map V.bl) acc := by
      generalize acc = l0
      induction l0 with
      | nil => exact .nil
      | cons b r ih => exact .cons rfl ih
    have S8 := S7.put (i := j) (en := eL eB) (x := acc) (v := .ref Dd) ⟨Dd, _, rfl, ⟨fun z => nAD (by
      rcases z with z | z | z
      · exact .inl z
      · exact .inr (.inl z)
      · exact .inr (.inr (own_put_sh z))), eD⟩, fb⟩
    refine ⟨(ls, acc), O, Φ, c', S8, hw2, fun fl H4 c4 q => (kD fl H4 c4 q).mono ⟨fun b o e n1 _ => kp b o (ch1 b o (e2 b o e) n1) n1 (ne_of_none e hl0), fun b hb => .inl (own_put_sh (own_put_sh hb))⟩⟩
end
end Dc
/-! DcZ: three at once, None or a value, data told as whole numbers, tuples of data, pop. -/
namespace Dc
open PySem PySem.Spec L2 PyProof.Rows
section
variable {X : Cx} {PK : PoolK} {pp : PP} {ρ : List (Sl X.K)} {α β γ δ ι : Type} {e a b : Expr} {es : List Expr} {pos : Pos} {e1 : En X.K α} {e2 : En X.K β} {e3 : En X.K γ}
theorem xtup3 {w : W (α × β × γ × Unit)} {x1} (h : PAX X PK pp ρ es w (aC e1 (aC e2 (aC e3 aN)))) : PX X PK pp ρ (.Tuple es x1 pos) (bnd w fun x => ret (x.1, x.2.1, x.2.2.1)) (eP3 e1 e2 e3) := (pe_tup h).weak fun σ H Q ⟨O, Φ, c, S, hw, k⟩ =>
  ⟨O, _, c, S, hw, fun x vs H1 c1 p1 ch1 S1 r1 => by
    obtain ⟨u1, _, rfl, q1, u2, _, rfl, q2, u3, _, rfl, q3, rfl⟩ := r1
    refine ⟨by show 3 ≤ sizeLine; decide, fun p np => ?_⟩
    have s := same_new (o := .tup [u1, u2, u3]) np
    exact k _ _ _ c1 p1 (ch1.trans (.of s)) (S1.same s) ⟨p, u1, u2, u3, rfl, .inl ⟨fun z => S1.av p z np, .inl upd_same⟩, e1.mono (Mv.same s) q1, e2.mono (Mv.same s) q2, e3.mono (Mv.same s) q3⟩⟩
theorem npair3 (i j l : Nat) {x y z : Str} {px py pz pt : Pos} {kt} {w : W (α × β × γ)} (hc : X.calm = true) (hN : X.N.Nodup) (h : PX X PK pp ρ e w (eP3 e1 e2 e3)) (hi : X.N[i]? = some x := by rfl) (hj : X.N[j]? = some y := by rfl) (hl : X.N[l]? = some z := by rfl)
    (hx : Loc X.env.scope x := by first | exact Or.inl rfl | exact Or.inr rfl) (hy : Loc X.env.scope y := by first | exact Or.inl rfl | exact Or.inr rfl) (hz : Loc X.env.scope z := by first | exact Or.inl rfl | exact Or.inr rfl)
    (hf : X.fn x = true ∨ X.env.scope.names.lookup x = some .local := by first | exact .inl rfl | exact .inr rfl) (hf2 : X.fn y = true ∨ X.env.scope.names.lookup y = some .local := by first | exact .inl rfl | exact .inr rfl) (hf3 : X.fn z = true ∨ X.env.scope.names.lookup z = some .local := by first | exact .inl rfl | exact .inr rfl)
    (hs1 : (assignEach [Expr.Name x px, Expr.Name y py, Expr.Name z pz] X.env).map (·.2) = assign (.Name x px) X.env :: (assignEach [Expr.Name y py, Expr.Name z pz] X.env).map (·.2) := by rfl) (hs2 : (assignEach [Expr.Name y py, Expr.Name z pz] X.env).map (·.2) = assign (.Name y py) X.env :: (assignEach [Expr.Name z pz] X.env).map (·.2) := by rfl) (hs3 : (assignEach [Expr.Name z pz] X.env).map (·.2) = assign (.Name z pz) X.env :: (assignEach [] X.env).map (·.2) := by rfl)
    (hn : (assignEach [Expr.Name x px, Expr.Name y py, Expr.Name z pz] X.env).length = 3 := by rfl) (hst : (assignEach [Expr.Name x px, Expr.Name y py, Expr.Name z pz] X.env).findIdx? (·.1) = none := by rfl)
    (hsw : swapsWithSole [.Tuple [.Name x px, .Name y py, .Name z pz] kt pt] e pos.line X.env = pure false := by rfl) (hww : swappedStores [.Tuple [.Name x px, .Name y py, .Name z pz] kt pt] e X.env = pure none := by rfl) (h1 : (assignEach [.Tuple [.Name x px, .Name y py, .Name z pz] kt pt] X.env).map (·.2) = [assign (.Tuple [.Name x px, .Name y py, .Name z pz] kt pt) X.env] := by rfl) :
    PS X (.Assign [.Tuple [.Name x px, .Name y py, .Name z pz] kt pt] e pos) (rdN PK pp ρ w fun (_ : Unit) z => put (put (put ρ i (.sh e1 z.1)) j (.sh e2 z.2.1)) l (.sh e3 z.2.2)) :=
  (ps_asg h (pg_tup hc (pgs_cons (pg_name hN hi hx hf) (pgs_cons (pg_name hN hj hy hf2) (pgs_cons (pg_name hN hl hz hf3) pgs_nil hs3) hs2) hs1) hn hst) hsw hww h1).weak fun D σ H ⟨O, Φ, c, S, hw, k⟩ => ⟨O, _, c, S, hw, fun z v H1 c1 p1 ch S1 r => by
    obtain ⟨a, u, w, y, rfl, t, q1, q2, q3⟩ := r
    have less : ∀ {ρ : List (Sl X.K)} {α : Type} {i : Nat} {e1 : En X.K α} {x : α} (a), Av O pp (put ρ i (.sh e1 x)) a → Av O pp ρ a := fun a z => by
      rcases z with z | z | z
      · exact .inl z
      · exact .inr (.inl z)
      · exact .inr (.inr (own_put_sh z))
    exact ⟨a, [u, w, y], rfl, t.sq, rfl, u, [w, y], rfl, w, [y], rfl, y, [], rfl, rfl, k () z H1 c1 p1 _ (.of_chg ch fun a z => own_put_sh (own_put_sh (own_put_sh z))) (((S1.put q1).put (e2.mono (Mv.less less) q2)).put (e3.mono ((Mv.less less).trans (Mv.less less)) q3))⟩⟩
/-! ### None or a value -/
def someW {α : Type} : Option α → W α
  | some y => ret y
  | none => stuck
def someL {α : Type} (xs : List (Option α)) : W (List α) := grd (xs.all (·.isSome)) (ret (xs.filterMap id))
theorem xunO {w : W (Option α)} {en : En X.K α} (h : PX X PK pp ρ e w (eO en)) : PX X PK pp ρ e (bnd w someW) en :=
  h.weak fun σ H Q ⟨O, Φ, c, S, hw, k⟩ => ⟨O, _, c, S, hw, fun x v H' c' p ch S' r => by
    cases x with
    | none => exact p.elim
    | some y => exact k y v H' c' p ch S' r.1⟩
theorem someL_F2 {K : PySem.W.Frag} {en : En K α} {O : AS} {H : Hp} {vs : List V} {xs : List (Option α)} (f : F2 ((eO en).r O H) vs xs) (h : xs.all (·.isSome) = true) : F2 (en.r O H) vs (xs.filterMap id) := by
  induction f with
  | nil => exact .nil
  | @cons v x vs xs r _ ih =>
    rw [List.all_cons, Bool.and_eq_true] at h
    cases x with
    | none => cases h.1
    | some y => exact .cons (r : en.r O H v y ∧ _).1 (ih h.2)
theorem xunOL {w : W (List (Option α))} {en : En X.K α} (h : PX X PK pp ρ e w (eL (eO en))) : PX X PK pp ρ e (bnd w someL) (eL en) :=
  h.weak fun σ H Q ⟨O, Φ, c, S, hw, k⟩ => ⟨O, _, c, S, hw, fun x v H' c' p ch S' r => by
    obtain ⟨a, vs, e, l, f⟩ := r
    exact k _ v H' c' p.2 ch S' ⟨a, vs, e, l, someL_F2 f p.1⟩⟩
theorem xsomeL {w : W (List α)} {en : En X.K α} (h : PX X PK pp ρ e w (eL en)) : PX X PK pp ρ e (bnd w fun x => ret (some x)) (eO (eL en)) :=
  h.weak fun σ H Q ⟨O, Φ, c, S, hw, k⟩ => ⟨O, _, c, S, hw, fun x v H' c' p ch S' r => k (some x) v H' c' p ch S' ⟨r, by
    obtain ⟨a, vs, e, _⟩ := r
    rw [e]
    intro z
    cases z⟩⟩
theorem xnonO {en : En X.K α} {j} : PX X PK pp ρ (.Constant .none j pos) (ret (none : Option α)) (eO en) := pe_non.weak fun σ H Q ⟨O, Φ, c, S, hw, k⟩ => k none _ H c hw .refl S rfl
theorem tisNL {j pos'} {w : W (List α)} {en : En X.K α} (h : PX X PK pp ρ a w (eL en)) : PTX X PK pp ρ (.Compare a [.Is] [.Constant .none j pos'] pos) (bnd w fun _ => ret false) :=
  (tisN (xsomeL h)).weak fun σ H Q ⟨O, Φ, c, S, hw, k⟩ => ⟨O, Φ, c, S, hw, k⟩
theorem snarrow (i : Nat) {y : Option α} {en : En X.K α} {ss : List Stmt} {w0 : W (Fl γ δ ι)} {w1 : α → W (Fl γ δ ι)} {ρ' : γ → List (Sl X.K)} {ρl : δ → List (Sl X.K)} {er : En X.K ι} (hg : get ρ i = .sh (eO en) y) (h0 : get ρ i = .sh (eO en) none → PSX X PK pp ρ ss w0 ρ' ρl er) (h1 : ∀ z, PSX X PK pp (put ρ i (.sh en z)) ss (w1 z) ρ' ρl er) :
    PSX X PK pp ρ ss (match y with | none => w0 | some z => w1 z) ρ' ρl er := by
  cases y with
  | none => exact h0 hg
  | some z =>
    refine (h1 z).weak fun D σ H ⟨O, Φ, c, S, hw, k⟩ => ?_
    have q := S.slots i
    rw [hg] at q
    obtain ⟨v, e, r⟩ := q
    have S2 := S.put (i := i) (en := en) (x := z) (v := v) r.1
    have hs : σ.set i (some v) = σ := by
      apply List.ext_getElem?
      intro j
      by_cases hj : j = i
      · subst hj
        have hl : j < σ.length := by
          rcases Nat.lt_or_ge j σ.length with q | q
          · exact q
          · rw [List.getElem?_eq_none q] at e; cases e
        rw [List.getElem?_set_self hl, e]
      · rw [List.getElem?_set_ne (Ne.symm hj)]
    rw [hs] at S2
    exact ⟨O, Φ, c, S2, hw, fun fl H2 c2 q => (k fl H2 c2 q).mono ⟨fun _ _ e _ _ => e, fun a z => .inl (own_put_sh z)⟩⟩
/-! ### data -/
def isIntD : D → Bool
  | .int _ => true
  | _ => false
def intD : D → Int
  | .int i => i
  | _ => 0
theorem xDi {w : W D} (h : PX X PK pp ρ e w eD) : PX X PK pp ρ e (bnd w fun x => grd (isIntD x) (ret (intD x))) eI :=
  h.weak fun σ H Q ⟨O, Φ, c, S, hw, k⟩ => ⟨O, _, c, S, hw, fun x v H' c' p ch S' r => by
    cases x with
    | int i => exact k i v H' c' p.2 ch S' r
    | _ => cases p.1⟩
theorem xtupD {w : W (List D)} {n : Nat} {x1} (h : PAX X PK pp ρ es w (aL eD n)) (hn : n ≤ 1000000 := by decide) : PX X PK pp ρ (.Tuple es x1 pos) (bnd w fun x => ret (.tup x)) eD := (pe_tup h).weak fun σ H Q ⟨O, Φ, c, S, hw, k⟩ =>
  ⟨O, _, c, S, hw, fun x vs H1 c1 p1 ch1 S1 r1 => ⟨by have := r1.2; rw [sizeLine_eq]; omega, fun p np => by
    have s := same_new (o := .tup vs) np
    have f := tdAll (tdD (K := X.K)) (r1.1.imp fun _ _ => eD.mono (Mv.same s))
    rw [List.map_id'] at f
    exact k _ _ _ c1 p1 (ch1.trans (.of s)) (S1.same s) (by
      show rD X.K _ _ (.ref p) (.tup x)
      simp only [rD]
      exact ⟨p, vs, rfl, .inl ⟨fun z => S1.av p z np, .inl upd_same⟩, f⟩)⟩⟩
/-! ### xs.append(ys.pop(k)), both one's own -/
theorem F2.era {α β : Type} {R : α → β → Prop} {l : List α} {m : List β} (h : F2 R l m) : ∀ i : Nat, F2 R (l.eraseIdx i) (m.eraseIdx i) := by
  induction h with
  | nil => intro i; exact .nil
  | cons r h ih =>
    intro i
    cases i with
    | zero => exact h
    | succ i => exact .cons r (ih i)
def popOk {α : Type} (xs ys : List α) (k : Int) : Bool := ixOk ys k && decide (-(2 ^ 63) ≤ k) && decide (k < 2 ^ 63) && decide (xs.length < 16777216)
theorem nappop [Inhabited α] (i j : Nat) {x y : Str} {ix : Expr} {p' q' apos bpos cpos dpos : Pos} {wx : W Int} {en : En X.K α} {p q : Addr} {xs ys : List α} (hij : i ≠ j) (hg : get ρ i = .ow p (oL en) xs) (hg2 : get ρ j = .ow q (oL en) ys) (h : PX X PK pp ρ ix wx eI) (hN : X.N[i]? = some x := by rfl) (hN2 : X.N[j]? = some y := by rfl)
    (hv : Vis X.env.scope x := by first | exact Or.inl rfl | exact Or.inr (Or.inl rfl) | exact Or.inr (Or.inr rfl)) (hv2 : Vis X.env.scope y := by first | exact Or.inl rfl | exact Or.inr (Or.inl rfl) | exact Or.inr (Or.inr rfl)) (hd : (x == ("__debug__" : Str)) = false := by decide) (hcd : (x == ("__classdict__" : Str)) = false := by decide) (hd2 : (y == ("__debug__" : Str)) = false := by decide) (hcd2 : (y == ("__classdict__" : Str)) = false := by decide)
    (hbase : attributeBase (.Name x p') "append" X.env (eval (.Name x p') X.env) = eval (.Name x p') X.env := by rfl) (hbase2 : attributeBase (.Name y q') "pop" X.env (eval (.Name y q') X.env) = eval (.Name y q') X.env := by rfl)
    (hfew : ((backTo cpos (starEach [Expr.Call (.Attribute (.Name y q') "pop" bpos) [ix] [] dpos] X.env)).all (fun x => !x.1) && (backToKw cpos (keywordEach [] X.env)).all (fun x => x.1.isSome) && decide ([Expr.Call (.Attribute (.Name y q') "pop" bpos) [ix] [] dpos].length + ([] : List Keyword).length + (if ([] : List Keyword).isEmpty then 0 else 1) < 30)) = true := by rfl)
    (hfew2 : ((backTo dpos (starEach [ix] X.env)).all (fun x => !x.1) && (backToKw dpos (keywordEach [] X.env)).all (fun x => x.1.isSome) && decide ([ix].length + ([] : List Keyword).length + (if ([] : List Keyword).isEmpty then 0 else 1) < 30)) = true := by rfl)
    (hline : (apos.endLine == cpos.line) = true := by rfl) (hline2 : (bpos.endLine == dpos.line) = true := by rfl) (hs : starEach [Expr.Call (.Attribute (.Name y q') "pop" bpos) [ix] [] dpos] X.env = (false, eval (.Call (.Attribute (.Name y q') "pop" bpos) [ix] [] dpos) X.env) :: starEach [] X.env := by rfl) (hs2 : starEach [ix] X.env = (false, eval ix X.env) :: starEach [] X.env := by rfl) (hplain : (backTo cpos (starEach [] X.env)).any (·.1) = false := by rfl) (hplain2 : (backTo dpos (starEach [] X.env)).any (·.1) = false := by rfl)
    (hsw : swapsWith (.Call (.Attribute (.Name x p') "append" apos) [.Call (.Attribute (.Name y q') "pop" bpos) [ix] [] dpos] [] cpos) none pos.line X.env = pure false := by rfl) :
    PS X (.Expr (.Call (.Attribute (.Name x p') "append" apos) [.Call (.Attribute (.Name y q') "pop" bpos) [ix] [] dpos] [] cpos) pos) (rdN PK pp ρ (bnd wx fun k => grd (popOk xs ys k) (ret k)) fun (_ : Unit) k => put (put ρ j (.ow q (oL en) (ys.eraseIdx ((ixN ys.length k).getD 0)))) i (.ow p (oL en) (xs ++ [ixAt ys k]))) :=
  (ps_expr (pe_bm PySem.F.plainAttrs_list PySem.F.slot_list_append PySem.F.type_list_append mt_append (pe_var hN hv hd hcd) (pa_cons (pe_bm PySem.F.plainAttrs_list PySem.F.slot_list_pop PySem.F.type_list_pop mt_popAt (pe_var hN2 hv2 hd2 hcd2) (pa_cons h pa_nil hs2) hbase2 hfew2 hline2 hs2 hplain2) pa_nil hs) hbase hfew hline hs hplain) hsw).weak fun D σ H ⟨O, Φ, c, S, hw, kk⟩ => by
    have z := S.slots i
    rw [hg] at z
    obtain ⟨e1, vs, e2, f2⟩ := z
    have z := S.slots j
    rw [hg2] at z
    obtain ⟨e3, us, e4, f4⟩ := z
    refine ⟨_, e1, .inl ⟨rfl, _, SqL.of e2⟩, _, e3, .inl ⟨rfl, _, SqL.of e4⟩, O, _, c, S, hw, fun k v H1 c1 p1 ch S1 r => ?_⟩
    have r : v = .int k := r
    subst r
    have z := S1.slots i
    rw [hg] at z
    obtain ⟨_, vs, e2, f2⟩ := z
    have z := S1.slots j
    rw [hg2] at z
    obtain ⟨_, us, e4, f4⟩ := z
    obtain ⟨g1, p2⟩ := p1
    simp only [popOk, Bool.and_eq_true, decide_eq_true_eq] at g1
    obtain ⟨m, hm⟩ := Option.isSome_iff_exists.mp g1.1.1.1
    have hlt := ixN_lt hm
    obtain ⟨v1, gv, rv⟩ := f4.get (List.getElem?_eq_getElem hlt)
    have hm2 : ixN us.length k = some m := by rw [f4.length]; exact hm
    refine ⟨q, us, k, m, v1, rfl, rfl, e4, g1.1.1.2, g1.1.2, (ixN_seq hm2).1, gv, ?_⟩
    have mv : Mv (Av O pp ρ) (Av O pp ρ) H1 (upd H1 q (.lst (us.eraseIdx m))) := fun b o n e => ⟨by rw [upd_ne (fun z => n (by rw [z]; exact .inr (.inr (owns_mem hg2))))]; exact e, n⟩
    obtain ⟨S2, st⟩ := S1.chgOwn (o := .lst (us.eraseIdx m)) (on' := oL en) (y := ys.eraseIdx m) hg2 ⟨_, upd_same, (f4.era m).imp fun _ _ => en.mono mv⟩
    have hg3 : get (put ρ j (.ow q (oL en) (ys.eraseIdx m))) i = .ow p (oL en) xs := by rw [get_put_ne hij]; exact hg
    have z := S2.slots i
    rw [hg3] at z
    obtain ⟨_, vs, e2, f2⟩ := z
    have av : ∀ a, Av O pp (put ρ j (.ow q (oL en) (ys.eraseIdx m))) a → Av O pp ρ a := fun a z => by
      rcases z with z | z | z
      · exact .inl z
      · exact .inr (.inl z)
      · rw [owns_same hg2] at z; exact .inr (.inr z)
    have r1 : en.r (Av O pp (put ρ j (.ow q (oL en) (ys.eraseIdx m)))) (upd H1 q (.lst (us.eraseIdx m))) v1 (ixAt ys k) := by
      have e5 : ixAt ys k = ys[m] := by
        unfold ixAt
        rw [hm, Option.getD_some, List.getD_eq_getElem?_getD, List.getElem?_eq_getElem hlt]
        rfl
      rw [e5]
      exact en.mono (mv.trans (Mv.less av)) rv
    refine ⟨p, vs, v1, rfl, rfl, e2, by rw [f2.length, sizeLine_eq]; exact g1.2, ?_⟩
    have mv3 : Mv (Av O pp (put ρ j (.ow q (oL en) (ys.eraseIdx m)))) (Av O pp (put ρ j (.ow q (oL en) (ys.eraseIdx m)))) (upd H1 q (.lst (us.eraseIdx m))) (upd (upd H1 q (.lst (us.eraseIdx m))) p (.lst (vs ++ [v1]))) := fun b o n e => ⟨by rw [upd_ne (fun z => n (by rw [z]; exact .inr (.inr (owns_mem hg3))))]; exact e, n⟩
    obtain ⟨S3, st3⟩ := S2.chgOwn (o := .lst (vs ++ [v1])) (on' := oL en) (y := xs ++ [ixAt ys k]) hg3 ⟨_, upd_same, (f2.append (.cons r1 .nil)).imp fun _ _ => en.mono mv3⟩
    refine kk () k _ c1 p2 σ ?_ ?_
    · dsimp only
      rw [hm]
      exact ((Stp.of_chg ch fun _ z => z).trans st).trans st3
    · dsimp only
      rw [hm]
      exact S3
/-- list(xs), new -/
theorem xlistF {w : W (List α)} {en : En X.K α} {p : Pos} (hm : X.mg "list" = none) (h : PX X PK pp ρ a w (eR en)) (hg : Gl X "list" := by rfl) (he : starEach [a] X.env = (false, eval a X.env) :: starEach [] X.env := by rfl) (hpl : (backTo pos (starEach [] X.env)).any (·.1) = false := by rfl) :
    PE X (.Call (.Name "list" p) [a] [] pos) (rdF PK pp ρ w en) :=
  (pe_callTy call_list_of hg hm (by decide +kernel) (pa_cons h pa_nil he) (by decide) (by decide) he hpl).weak fun σ H Q ⟨O, Φ, c, S, hw, k⟩ => ⟨O, Φ, c, S, hw, fun xs v H1 c1 p1 ch S1 r => by
    obtain ⟨b, vs, rfl, l, f⟩ := r
    exact ⟨b, vs, rfl, .inl l.sq, fun q nq => k xs q vs _ c1 p1 (chg_none S1 ch nq) (ch.trans (.of (same_new nq))) (S1.newO nq) upd_same (f.imp fun _ _ => en.mono (Mv.newA nq))⟩⟩
/-- x, ys = xs, [], both one's own -/
theorem nparOO (i j : Nat) {x y : Str} {px py pt : Pos} {kt k2 pt2} {lp : Pos} {w : W (List α)} {en1 : En X.K α} (en : En X.K β) (hc : X.calm = true) (hN : X.N.Nodup) (h : PE X a (rdF PK pp ρ w en1)) (hij : i ≠ j := by decide) (hi : X.N[i]? = some x := by rfl) (hj : X.N[j]? = some y := by rfl)
    (hx : X.env.scope.names.lookup x = some .local := by rfl) (hy : X.env.scope.names.lookup y = some .local := by rfl) (hw : swappedStores [.Tuple [.Name x px, .Name y py] kt pt] (.Tuple [a, .List [] lp] k2 pt2) X.env = pure (some [x, y]) := by rfl)
    (hs : swapsWithSole [.Tuple [.Name x px, .Name y py] kt pt] (.Tuple [a, .List [] lp] k2 pt2) pos.line X.env = pure false := by rfl)
    (hs1 : starEach [a, .List [] lp] X.env = (false, eval a X.env) :: starEach [.List [] lp] X.env := by rfl) (hs2 : starEach [Expr.List [] lp] X.env = (false, eval (.List [] lp) X.env) :: starEach [] X.env := by rfl) :
    PS X (.Assign [.Tuple [.Name x px, .Name y py] kt pt] (.Tuple [a, .List [] lp] k2 pt2) pos) (rdN PK pp ρ w fun (pq : Addr × Addr) z => put (put ρ i (.ow pq.1 (oL en1) z)) j (.ow pq.2 (oL en) [])) :=
  (ps_par hc hN hi hj hij hx hy (pa_cons h (pa_cons (pe_lst pa_nil) pa_nil hs2) hs1) hw hs).weak fun D σ H ⟨O, Φ, c, S, hw, k⟩ => ⟨O, _, c, S, hw, fun z p vs H1 c1 p1 hp ch S1 e f => ⟨Nat.zero_le _, fun q nq => by
    have fp := nfoot S hp
    have S2 := S1.own (i := i) (on := oL en1) (x := z) fp (fun z => S.av p (.inl z) hp) ⟨vs, e, f⟩
    have fq := nfoot S2 nq
    have nOq : ¬ O q := fun z => S2.av q (.inl z) nq
    have S3 := (S2.newO (o := .lst []) nq).own (i := j) (on := oL en) (x := []) fq nOq ⟨[], upd_same, .nil⟩
    have hq : H q = none := by
      cases e1 : H q with
      | none => rfl
      | some o =>
        have := ch q o e1 fq
        rw [nq] at this; cases this
    refine ⟨.ref p, .ref q, rfl, k (p, q) z _ c1 p1 _ ⟨fun b o e n _ => ?_, fun b z => ?_⟩ S3⟩
    · rw [upd_ne (ne_of_none e hq)]; exact ch b o e n
    · rcases owns_put z with z | z
      · have z : b = q := by simpa [own1] using z
        rw [z]; exact .inr ⟨hq, fq⟩
      · rcases owns_put z with z | z
        · have z : b = p := by simpa [own1] using z
          rw [z]; exact .inr ⟨hp, fp⟩
        · exact .inl z⟩⟩
end
/-! ### lines: a place and whole numbers -/
section
variable {K : PySem.W.Frag} {α β : Type}
theorem rf_pair {e1 : En K α} {e2 : En K β} : ∀ (O : AS) (H : Hp) (v : V) (y : α × β), (eP e1 e2).r O H v y → ∃ t, v = V.ref t := fun O H v y ⟨a, _, _, e, _⟩ => ⟨a, e⟩
theorem ne_pair {e1 : En K α} {e2 : En K β} : ∀ (O : AS) (H : Hp) (v : V) (y : α × β), (eP e1 e2).r O H v y → v ≠ .non := fun O H v y ⟨a, _, _, e, _⟩ => by
  rw [e]
  intro z
  cases z
def gdL (y : Int × List Int) : Bool := !y.2.isEmpty
theorem ap_line : ∀ (O : AS) (H : Hp) (v : V) (y : Int × List Int) (l : Addr) (lv : List V), (eP eI (eL eI) : En K (Int × List Int)).r O H v y → gdL y = true → H l = some (.lst lv) → (∀ u ∈ lv, ∃ t, u = V.ref t) → (eP eI (eL eI) : En K (Int × List Int)).r (fun b => O b ∨ b = l) H v y := by
  intro O H v y l lv ⟨a, u, w, e, t, q1, ⟨p, vs, e2, ⟨np, hp⟩, f⟩⟩ hg hl hr
  refine ⟨a, u, w, e, ?_, q1, p, vs, e2, ⟨fun z => ?_, hp⟩, f⟩
  · rcases t with ⟨na, t⟩ | t
    · refine .inl ⟨fun z => ?_, t⟩
      rcases z with z | z
      · exact na z
      · subst z
        rcases t with t | ⟨o, t⟩ <;> (rw [hl] at t; cases t)
    · exact .inr t
  · rcases z with z | z
    · exact np z
    · subst z
      rw [hl] at hp
      have e3 : lv = vs := HO.lst.inj (Option.some.inj hp)
      subst e3
      have hg : (!y.2.isEmpty) = true := hg
      generalize y.2 = ys at f hg
      cases f with
      | nil => simp at hg
      | cons r _ =>
        obtain ⟨t, e4⟩ := hr _ List.mem_cons_self
        rw [e4] at r
        cases r
end
end Dc
/-! Dm: fractions as pairs, by the library's Rat (no program in sight). -/
namespace Dc
abbrev Fr := Int × Int
def toQ (x : Fr) : Rat := Rat.divInt x.1 x.2
def ofQ (q : Rat) : Fr := (q.num, (q.den : Int))
theorem toQ_ofQ (q : Rat) : toQ (ofQ q) = q := Rat.num_divInt_den q
theorem ofQ_inj {q r : Rat} (h : ofQ q = ofQ r) : q = r := by rw [← toQ_ofQ q, h, toQ_ofQ]
def Red (x : Fr) : Prop := 1 ≤ x.2 ∧ Nat.gcd x.1.natAbs x.2.natAbs = 1
theorem red_ofQ (q : Rat) : Red (ofQ q) := ⟨by have := q.den_pos; show (1 : Int) ≤ (q.den : Int); omega, by
  have := q.reduced
  show Nat.gcd q.num.natAbs ((q.den : Int)).natAbs = 1
  rw [Int.natAbs_natCast]; exact this⟩
theorem low_pos {a b : Int} (h : 0 < b) : (a / ((Nat.gcd a.natAbs b.natAbs : Nat) : Int), b / ((Nat.gcd a.natAbs b.natAbs : Nat) : Int)) = ofQ (Rat.divInt a b) := by
  have e1 := Rat.num_divInt a b
  have e2 := Rat.den_divInt a b
  have hb : b ≠ 0 := by omega
  have hg : b.gcd a = Nat.gcd a.natAbs b.natAbs := by rw [Int.gcd, Nat.gcd_comm]
  rw [hg, Int.sign_eq_one_of_pos h, Int.one_mul] at e1
  rw [hg, if_neg hb] at e2
  unfold ofQ
  rw [e1, e2, Int.natCast_ediv, Int.natAbs_of_nonneg (by omega)]
theorem low_neg {a b : Int} (h : b < 0) : (-a / ((Nat.gcd a.natAbs b.natAbs : Nat) : Int), -b / ((Nat.gcd a.natAbs b.natAbs : Nat) : Int)) = ofQ (Rat.divInt a b) := by
  have := low_pos (a := -a) (b := -b) (by omega)
  rw [Int.natAbs_neg, Int.natAbs_neg, Rat.neg_divInt_neg] at this
  exact this
theorem ofQ_toQ {x : Fr} (h : Red x) : ofQ (toQ x) = x := by
  have := low_pos (a := x.1) (b := x.2) (by have := h.1; omega)
  rw [h.2] at this
  rw [toQ, ← this]
  simp
theorem red_iff {x : Fr} : Red x ↔ ofQ (toQ x) = x := ⟨ofQ_toQ, fun h => h ▸ red_ofQ _⟩
/-- how great the parts are -/
theorem low_le {a b : Int} (h : b ≠ 0) : (ofQ (Rat.divInt a b)).1.natAbs ≤ a.natAbs ∧ (ofQ (Rat.divInt a b)).2.natAbs ≤ b.natAbs := by
  have hd : ∀ (m n : Int) (g : Nat), (m / (g : Int)).natAbs ≤ m.natAbs := fun m n g => Int.natAbs_ediv_le_natAbs _ _
  rcases Int.lt_or_gt_of_ne h with q | q
  · rw [← low_neg q]
    exact ⟨by simpa using hd (-a) 0 _, by simpa using hd (-b) 0 _⟩
  · rw [← low_pos q]
    exact ⟨hd a 0 _, hd b 0 _⟩
theorem toQ_add {x y : Fr} (hx : x.2 ≠ 0) (hy : y.2 ≠ 0) : Rat.divInt (x.1 * y.2 + y.1 * x.2) (x.2 * y.2) = toQ x + toQ y := (Rat.divInt_add_divInt _ _ hx hy).symm
theorem toQ_mul (x y : Fr) : Rat.divInt (x.1 * y.1) (x.2 * y.2) = toQ x * toQ y := (Rat.divInt_mul_divInt _ _).symm
theorem toQ_neg (x : Fr) : toQ (-x.1, x.2) = - toQ x := (Rat.neg_divInt _ _).symm
theorem ofQ_neg (q : Rat) : ofQ (-q) = (-(ofQ q).1, (ofQ q).2) := rfl
theorem red_ne {x : Fr} (h : Red x) : x.2 ≠ 0 := by have := h.1; omega
/-- scaling by a common denominator -/
theorem divInt_of_mul {a b m : Int} (hm : m ≠ 0) : Rat.divInt (a * m) (b * m) = Rat.divInt a b := Rat.divInt_mul_right hm
theorem red_neg {x : Fr} (h : Red x) : Red (-x.1, x.2) := ⟨h.1, by simpa using h.2⟩
theorem red_zero : Red (0, 1) := ⟨by decide, by decide⟩
theorem red_int (n : Int) : Red (n, 1) := ⟨by show (1 : Int) ≤ 1; omega, by simp⟩
theorem toQ_int (n : Int) : toQ (n, 1) = (n : Rat) := by
  have := Rat.num_divInt_den (n : Rat)
  show Rat.divInt n 1 = _
  simpa using this
end Dc
set_option maxHeartbeats 4000000
namespace Dc
open PySem PySem.Spec L2
def topS (i : Nat) : Stmt := PySem.Challenge.pw_toldproducts_k12_whole_over_another_basi.main.body.getD i (.Pass ⟨0, 0, 0, 0⟩)
abbrev s_law_pool : Stmt := topS 36
abbrev N_law_pool : List Str := [Str.ofString "_law_script", Str.ofString "_law_mark", Str.ofString "_law_great", Str.ofString "_law_spot", Str.ofString "_law_cell"]
abbrev P_law_pool : List Str := [Str.ofString "_law_script"]
theorem sc_law_pool : FnScope N_law_pool P_law_pool (defScope s_law_pool) := ⟨rfl, rfl, rfl, by decide +kernel, rfl, by decide +kernel, by decide +kernel⟩
abbrev s_law_pick : Stmt := topS 37
abbrev N_law_pick : List Str := [Str.ofString "_law_pool_here", Str.ofString "_law_many", Str.ofString "_law_found", Str.ofString "_law_stir"]
abbrev P_law_pick : List Str := [Str.ofString "_law_pool_here", Str.ofString "_law_many"]
theorem sc_law_pick : FnScope N_law_pick P_law_pick (defScope s_law_pick) := ⟨rfl, rfl, rfl, by decide +kernel, rfl, by decide +kernel, by decide +kernel⟩
abbrev s_lowest : Stmt := topS 10
abbrev N_lowest : List Str := [Str.ofString "above", Str.ofString "below", Str.ofString "common"]
abbrev P_lowest : List Str := [Str.ofString "above", Str.ofString "below"]
theorem sc_lowest : FnScope N_lowest P_lowest (defScope s_lowest) := ⟨rfl, rfl, rfl, by decide +kernel, rfl, by decide +kernel, by decide +kernel⟩
abbrev s_sum_two : Stmt := topS 11
abbrev N_sum_two : List Str := [Str.ofString "one", Str.ofString "other"]
abbrev P_sum_two : List Str := [Str.ofString "one", Str.ofString "other"]
theorem sc_sum_two : FnScope N_sum_two P_sum_two (defScope s_sum_two) := ⟨rfl, rfl, rfl, by decide +kernel, rfl, by decide +kernel, by decide +kernel⟩
abbrev s_product_two : Stmt := topS 12
abbrev N_product_two : List Str := [Str.ofString "one", Str.ofString "other"]
abbrev P_product_two : List Str := [Str.ofString "one", Str.ofString "other"]
theorem sc_product_two : FnScope N_product_two P_product_two (defScope s_product_two) := ⟨rfl, rfl, rfl, by decide +kernel, rfl, by decide +kernel, by decide +kernel⟩
abbrev s_is_number : Stmt := topS 13
abbrev N_is_number : List Str := [Str.ofString "value"]
abbrev P_is_number : List Str := [Str.ofString "value"]
theorem sc_is_number : FnScope N_is_number P_is_number (defScope s_is_number) := ⟨rfl, rfl, rfl, by decide +kernel, rfl, by decide +kernel, by decide +kernel⟩
abbrev s_checked : Stmt := topS 14
abbrev N_checked : List Str := [Str.ofString "value"]
abbrev P_checked : List Str := [Str.ofString "value"]
theorem sc_checked : FnScope N_checked P_checked (defScope s_checked) := ⟨rfl, rfl, rfl, by decide +kernel, rfl, by decide +kernel, by decide +kernel⟩
abbrev s_check_numbers : Stmt := topS 15
abbrev N_check_numbers : List Str := [Str.ofString "numbers", Str.ofString "number"]
abbrev P_check_numbers : List Str := [Str.ofString "numbers"]
theorem sc_check_numbers : FnScope N_check_numbers P_check_numbers (defScope s_check_numbers) := ⟨rfl, rfl, rfl, by decide +kernel, rfl, by decide +kernel, by decide +kernel⟩
abbrev s_integers_of : Stmt := topS 16
abbrev N_integers_of : List Str := [Str.ofString "row", Str.ofString "below", Str.ofString "number"]
abbrev P_integers_of : List Str := [Str.ofString "row"]
theorem sc_integers_of : FnScope N_integers_of P_integers_of (defScope s_integers_of) := ⟨rfl, rfl, rfl, by decide +kernel, rfl, by decide +kernel, by decide +kernel⟩
abbrev s_numbers_of : Stmt := topS 17
abbrev N_numbers_of : List Str := [Str.ofString "integers", Str.ofString "below", Str.ofString "integer"]
abbrev P_numbers_of : List Str := [Str.ofString "integers", Str.ofString "below"]
theorem sc_numbers_of : FnScope N_numbers_of P_numbers_of (defScope s_numbers_of) := ⟨rfl, rfl, rfl, by decide +kernel, rfl, by decide +kernel, by decide +kernel⟩
abbrev s_fresh : Stmt := topS 18
abbrev N_fresh : List Str := [Str.ofString "thing", Str.ofString "piece"]
abbrev P_fresh : List Str := [Str.ofString "thing"]
theorem sc_fresh : FnScope N_fresh P_fresh (defScope s_fresh) := ⟨rfl, rfl, rfl, by decide +kernel, rfl, by decide +kernel, by decide +kernel⟩
abbrev s_plus_row : Stmt := topS 20
abbrev N_plus_row : List Str := [Str.ofString "one", Str.ofString "other", Str.ofString "left", Str.ofString "right"]
abbrev P_plus_row : List Str := [Str.ofString "one", Str.ofString "other"]
theorem sc_plus_row : FnScope N_plus_row P_plus_row (defScope s_plus_row) := ⟨rfl, rfl, rfl, by decide +kernel, rfl, by decide +kernel, by decide +kernel⟩
abbrev s_scaled_row : Stmt := topS 21
abbrev N_scaled_row : List Str := [Str.ofString "factor", Str.ofString "row", Str.ofString "number"]
abbrev P_scaled_row : List Str := [Str.ofString "factor", Str.ofString "row"]
theorem sc_scaled_row : FnScope N_scaled_row P_scaled_row (defScope s_scaled_row) := ⟨rfl, rfl, rfl, by decide +kernel, rfl, by decide +kernel, by decide +kernel⟩
abbrev s_combination : Stmt := topS 22
abbrev N_combination : List Str := [Str.ofString "numbers", Str.ofString "rows", Str.ofString "size", Str.ofString "factors", Str.ofString "common", Str.ofString "found", Str.ofString "row", Str.ofString "number", Str.ofString "totals", Str.ofString "at", Str.ofString "factor", Str.ofString "place", Str.ofString "integer"]
abbrev P_combination : List Str := [Str.ofString "numbers", Str.ofString "rows", Str.ofString "size"]
theorem sc_combination : FnScope N_combination P_combination (defScope s_combination) := ⟨rfl, rfl, rfl, by decide +kernel, rfl, by decide +kernel, by decide +kernel⟩
abbrev s_divided : Stmt := topS 23
abbrev N_divided : List Str := [Str.ofString "integers", Str.ofString "common", Str.ofString "integer"]
abbrev P_divided : List Str := [Str.ofString "integers"]
theorem sc_divided : FnScope N_divided P_divided (defScope s_divided) := ⟨rfl, rfl, rfl, by decide +kernel, rfl, by decide +kernel, by decide +kernel⟩
abbrev s_cleared : Stmt := topS 24
abbrev N_cleared : List Str := [Str.ofString "integers", Str.ofString "head", Str.ofString "place", Str.ofString "common", Str.ofString "scale", Str.ofString "share", Str.ofString "one", Str.ofString "two"]
abbrev P_cleared : List Str := [Str.ofString "integers", Str.ofString "head", Str.ofString "place"]
theorem sc_cleared : FnScope N_cleared P_cleared (defScope s_cleared) := ⟨rfl, rfl, rfl, by decide +kernel, rfl, by decide +kernel, by decide +kernel⟩
abbrev s_Basis_init : Stmt := inClass (topS 25) 0
abbrev N_Basis_init : List Str := [Str.ofString "self"]
abbrev P_Basis_init : List Str := [Str.ofString "self"]
theorem sc_Basis_init : FnScope N_Basis_init P_Basis_init (defScope s_Basis_init) := ⟨rfl, rfl, rfl, by decide +kernel, rfl, by decide +kernel, by decide +kernel⟩
abbrev s_Basis_rest : Stmt := inClass (topS 25) 1
abbrev N_Basis_rest : List Str := [Str.ofString "self", Str.ofString "row", Str.ofString "integers", Str.ofString "own", Str.ofString "size", Str.ofString "many", Str.ofString "line", Str.ofString "kept", Str.ofString "place"]
abbrev P_Basis_rest : List Str := [Str.ofString "self", Str.ofString "row"]
theorem sc_Basis_rest : FnScope N_Basis_rest P_Basis_rest (defScope s_Basis_rest) := ⟨rfl, rfl, rfl, by decide +kernel, rfl, by decide +kernel, by decide +kernel⟩
abbrev s_Basis_put : Stmt := inClass (topS 25) 2
abbrev N_Basis_put : List Str := [Str.ofString "self", Str.ofString "row", Str.ofString "integers", Str.ofString "own", Str.ofString "shares", Str.ofString "place", Str.ofString "integer"]
abbrev P_Basis_put : List Str := [Str.ofString "self", Str.ofString "row"]
theorem sc_Basis_put : FnScope N_Basis_put P_Basis_put (defScope s_Basis_put) := ⟨rfl, rfl, rfl, by decide +kernel, rfl, by decide +kernel, by decide +kernel⟩
abbrev s_Basis_told : Stmt := inClass (topS 25) 3
abbrev N_Basis_told : List Str := [Str.ofString "self", Str.ofString "row", Str.ofString "integers", Str.ofString "own", Str.ofString "shares", Str.ofString "integer", Str.ofString "share"]
abbrev P_Basis_told : List Str := [Str.ofString "self", Str.ofString "row"]
theorem sc_Basis_told : FnScope N_Basis_told P_Basis_told (defScope s_Basis_told) := ⟨rfl, rfl, rfl, by decide +kernel, rfl, by decide +kernel, by decide +kernel⟩
abbrev s_check_rows : Stmt := topS 26
abbrev N_check_rows : List Str := [Str.ofString "rows", Str.ofString "size", Str.ofString "row"]
abbrev P_check_rows : List Str := [Str.ofString "rows", Str.ofString "size"]
theorem sc_check_rows : FnScope N_check_rows P_check_rows (defScope s_check_rows) := ⟨rfl, rfl, rfl, by decide +kernel, rfl, by decide +kernel, by decide +kernel⟩
abbrev s_sum_of : Stmt := topS 27
abbrev N_sum_of : List Str := [Str.ofString "one", Str.ofString "other"]
abbrev P_sum_of : List Str := [Str.ofString "one", Str.ofString "other"]
theorem sc_sum_of : FnScope N_sum_of P_sum_of (defScope s_sum_of) := ⟨rfl, rfl, rfl, by decide +kernel, rfl, by decide +kernel, by decide +kernel⟩
abbrev s_times : Stmt := topS 28
abbrev N_times : List Str := [Str.ofString "number", Str.ofString "row"]
abbrev P_times : List Str := [Str.ofString "number", Str.ofString "row"]
theorem sc_times : FnScope N_times P_times (defScope s_times) := ⟨rfl, rfl, rfl, by decide +kernel, rfl, by decide +kernel, by decide +kernel⟩
abbrev s_combined : Stmt := topS 29
abbrev N_combined : List Str := [Str.ofString "numbers", Str.ofString "rows", Str.ofString "size"]
abbrev P_combined : List Str := [Str.ofString "numbers", Str.ofString "rows", Str.ofString "size"]
theorem sc_combined : FnScope N_combined P_combined (defScope s_combined) := ⟨rfl, rfl, rfl, by decide +kernel, rfl, by decide +kernel, by decide +kernel⟩
abbrev s_told_by : Stmt := topS 30
abbrev N_told_by : List Str := [Str.ofString "row", Str.ofString "rows", Str.ofString "basis", Str.ofString "free", Str.ofString "one", Str.ofString "shares", Str.ofString "found", Str.ofString "at", Str.ofString "place", Str.ofString "kept"]
abbrev P_told_by : List Str := [Str.ofString "row", Str.ofString "rows"]
theorem sc_told_by : FnScope N_told_by P_told_by (defScope s_told_by) := ⟨rfl, rfl, rfl, by decide +kernel, rfl, by decide +kernel, by decide +kernel⟩
abbrev s_Table_init : Stmt := inClass (topS 32) 0
abbrev N_Table_init : List Str := [Str.ofString "self", Str.ofString "products", Str.ofString "rows", Str.ofString "row", Str.ofString "size", Str.ofString "right", Str.ofString "integers", Str.ofString "number", Str.ofString "starts", Str.ofString "start"]
abbrev P_Table_init : List Str := [Str.ofString "self", Str.ofString "products"]
theorem sc_Table_init : FnScope N_Table_init P_Table_init (defScope s_Table_init) := ⟨rfl, rfl, rfl, by decide +kernel, rfl, by decide +kernel, by decide +kernel⟩
abbrev s_Table_size : Stmt := inClass (topS 32) 1
abbrev N_Table_size : List Str := [Str.ofString "self"]
abbrev P_Table_size : List Str := [Str.ofString "self"]
theorem sc_Table_size : FnScope N_Table_size P_Table_size (defScope s_Table_size) := ⟨rfl, rfl, rfl, by decide +kernel, rfl, by decide +kernel, by decide +kernel⟩
abbrev s_Table_products : Stmt := inClass (topS 32) 2
abbrev N_Table_products : List Str := [Str.ofString "self"]
abbrev P_Table_products : List Str := [Str.ofString "self"]
theorem sc_Table_products : FnScope N_Table_products P_Table_products (defScope s_Table_products) := ⟨rfl, rfl, rfl, by decide +kernel, rfl, by decide +kernel, by decide +kernel⟩
abbrev s_Table_eq : Stmt := inClass (topS 32) 3
abbrev N_Table_eq : List Str := [Str.ofString "self", Str.ofString "other"]
abbrev P_Table_eq : List Str := [Str.ofString "self", Str.ofString "other"]
theorem sc_Table_eq : FnScope N_Table_eq P_Table_eq (defScope s_Table_eq) := ⟨rfl, rfl, rfl, by decide +kernel, rfl, by decide +kernel, by decide +kernel⟩
abbrev s_Table_product_without_checks : Stmt := inClass (topS 32) 5
abbrev N_Table_product_without_checks : List Str := [Str.ofString "self", Str.ofString "one", Str.ofString "other", Str.ofString "left", Str.ofString "left_below", Str.ofString "right", Str.ofString "right_below", Str.ofString "size", Str.ofString "totals", Str.ofString "i", Str.ofString "j", Str.ofString "share", Str.ofString "place", Str.ofString "integer"]
abbrev P_Table_product_without_checks : List Str := [Str.ofString "self", Str.ofString "one", Str.ofString "other"]
theorem sc_Table_product_without_checks : FnScope N_Table_product_without_checks P_Table_product_without_checks (defScope s_Table_product_without_checks) := ⟨rfl, rfl, rfl, by decide +kernel, rfl, by decide +kernel, by decide +kernel⟩
abbrev s_Table_call : Stmt := inClass (topS 32) 4
abbrev N_Table_call : List Str := [Str.ofString "self", Str.ofString "one", Str.ofString "other"]
abbrev P_Table_call : List Str := [Str.ofString "self", Str.ofString "one", Str.ofString "other"]
theorem sc_Table_call : FnScope N_Table_call P_Table_call (defScope s_Table_call) := ⟨rfl, rfl, rfl, by decide +kernel, rfl, by decide +kernel, by decide +kernel⟩
abbrev s_product_of : Stmt := topS 33
abbrev N_product_of : List Str := [Str.ofString "table", Str.ofString "one", Str.ofString "other"]
abbrev P_product_of : List Str := [Str.ofString "table", Str.ofString "one", Str.ofString "other"]
theorem sc_product_of : FnScope N_product_of P_product_of (defScope s_product_of) := ⟨rfl, rfl, rfl, by decide +kernel, rfl, by decide +kernel, by decide +kernel⟩
abbrev s_over : Stmt := topS 34
abbrev N_over : List Str := [Str.ofString "table", Str.ofString "rows", Str.ofString "size", Str.ofString "basis", Str.ofString "free", Str.ofString "row", Str.ofString "other", Str.ofString "one"]
abbrev P_over : List Str := [Str.ofString "table", Str.ofString "rows"]
theorem sc_over : FnScope N_over P_over (defScope s_over) := ⟨rfl, rfl, rfl, by decide +kernel, rfl, by decide +kernel, by decide +kernel⟩
abbrev s_law_low : Stmt := topS 38
abbrev N_law_low : List Str := [Str.ofString "_law_above", Str.ofString "_law_below", Str.ofString "_law_one", Str.ofString "_law_two"]
abbrev P_law_low : List Str := [Str.ofString "_law_above", Str.ofString "_law_below"]
theorem sc_law_low : FnScope N_law_low P_law_low (defScope s_law_low) := ⟨rfl, rfl, rfl, by decide +kernel, rfl, by decide +kernel, by decide +kernel⟩
abbrev s_law_add : Stmt := topS 39
abbrev N_law_add : List Str := [Str.ofString "_law_one", Str.ofString "_law_two"]
abbrev P_law_add : List Str := [Str.ofString "_law_one", Str.ofString "_law_two"]
theorem sc_law_add : FnScope N_law_add P_law_add (defScope s_law_add) := ⟨rfl, rfl, rfl, by decide +kernel, rfl, by decide +kernel, by decide +kernel⟩
abbrev s_law_mul : Stmt := topS 40
abbrev N_law_mul : List Str := [Str.ofString "_law_one", Str.ofString "_law_two"]
abbrev P_law_mul : List Str := [Str.ofString "_law_one", Str.ofString "_law_two"]
theorem sc_law_mul : FnScope N_law_mul P_law_mul (defScope s_law_mul) := ⟨rfl, rfl, rfl, by decide +kernel, rfl, by decide +kernel, by decide +kernel⟩
abbrev s_law_number : Stmt := topS 41
abbrev N_law_number : List Str := [Str.ofString "_law_pool_here", Str.ofString "_law_great", Str.ofString "_law_kind", Str.ofString "_law_most", Str.ofString "_law_above", Str.ofString "_law_below"]
abbrev P_law_number : List Str := [Str.ofString "_law_pool_here", Str.ofString "_law_great"]
theorem sc_law_number : FnScope N_law_number P_law_number (defScope s_law_number) := ⟨rfl, rfl, rfl, by decide +kernel, rfl, by decide +kernel, by decide +kernel⟩
abbrev s_law_alike : Stmt := topS 42
abbrev N_law_alike : List Str := [Str.ofString "_law_told", Str.ofString "_law_due", Str.ofString "_law_kind", Str.ofString "_law_k"]
abbrev P_law_alike : List Str := [Str.ofString "_law_told", Str.ofString "_law_due"]
theorem sc_law_alike : FnScope N_law_alike P_law_alike (defScope s_law_alike) := ⟨rfl, rfl, rfl, by decide +kernel, rfl, by decide +kernel, by decide +kernel⟩
abbrev s_law_products : Stmt := topS 43
abbrev N_law_products : List Str := [Str.ofString "_law_pool_here", Str.ofString "_law_size", Str.ofString "_law_great", Str.ofString "_law_kind", Str.ofString "_law_found", Str.ofString "_law_i", Str.ofString "_law_lines", Str.ofString "_law_j", Str.ofString "_law_line", Str.ofString "_law_k"]
abbrev P_law_products : List Str := [Str.ofString "_law_pool_here", Str.ofString "_law_size", Str.ofString "_law_great"]
theorem sc_law_products : FnScope N_law_products P_law_products (defScope s_law_products) := ⟨rfl, rfl, rfl, by decide +kernel, rfl, by decide +kernel, by decide +kernel⟩
abbrev s_law_times : Stmt := topS 44
abbrev N_law_times : List Str := [Str.ofString "_law_products_here", Str.ofString "_law_one", Str.ofString "_law_other", Str.ofString "_law_found", Str.ofString "_law_i", Str.ofString "_law_j", Str.ofString "_law_share", Str.ofString "_law_a", Str.ofString "_law_b"]
abbrev P_law_times : List Str := [Str.ofString "_law_products_here", Str.ofString "_law_one", Str.ofString "_law_other"]
theorem sc_law_times : FnScope N_law_times P_law_times (defScope s_law_times) := ⟨rfl, rfl, rfl, by decide +kernel, rfl, by decide +kernel, by decide +kernel⟩
abbrev s_law_copied : Stmt := topS 45
abbrev N_law_copied : List Str := [Str.ofString "_law_thing", Str.ofString "_law_part"]
abbrev P_law_copied : List Str := [Str.ofString "_law_thing"]
theorem sc_law_copied : FnScope N_law_copied P_law_copied (defScope s_law_copied) := ⟨rfl, rfl, rfl, by decide +kernel, rfl, by decide +kernel, by decide +kernel⟩
abbrev s_law_wholes : Stmt := topS 46
abbrev N_law_wholes : List Str := [Str.ofString "_law_thing", Str.ofString "_law_part"]
abbrev P_law_wholes : List Str := [Str.ofString "_law_thing"]
theorem sc_law_wholes : FnScope N_law_wholes P_law_wholes (defScope s_law_wholes) := ⟨rfl, rfl, rfl, by decide +kernel, rfl, by decide +kernel, by decide +kernel⟩
abbrev s_law_total : Stmt := topS 47
abbrev N_law_total : List Str := [Str.ofString "_law_fees", Str.ofString "_law_lines", Str.ofString "_law_size", Str.ofString "_law_found", Str.ofString "_law_fee", Str.ofString "_law_line", Str.ofString "_law_a", Str.ofString "_law_b"]
abbrev P_law_total : List Str := [Str.ofString "_law_fees", Str.ofString "_law_lines", Str.ofString "_law_size"]
theorem sc_law_total : FnScope N_law_total P_law_total (defScope s_law_total) := ⟨rfl, rfl, rfl, by decide +kernel, rfl, by decide +kernel, by decide +kernel⟩
abbrev s_law_moved : Stmt := topS 48
abbrev N_law_moved : List Str := [Str.ofString "_law_pool_here", Str.ofString "_law_lots", Str.ofString "_law_left", Str.ofString "_law_found", Str.ofString "_law_turn"]
abbrev P_law_moved : List Str := [Str.ofString "_law_pool_here", Str.ofString "_law_lots"]
theorem sc_law_moved : FnScope N_law_moved P_law_moved (defScope s_law_moved) := ⟨rfl, rfl, rfl, by decide +kernel, rfl, by decide +kernel, by decide +kernel⟩
abbrev s_law_moved_v2 : Stmt := topS 48
abbrev N_law_moved_v2 : List Str := [Str.ofString "_law_pool_here", Str.ofString "_law_lots", Str.ofString "_law_left", Str.ofString "_law_found", Str.ofString "_law_turn"]
abbrev P_law_moved_v2 : List Str := [Str.ofString "_law_pool_here", Str.ofString "_law_lots"]
theorem sc_law_moved_v2 : FnScope N_law_moved_v2 P_law_moved_v2 (defScope s_law_moved_v2) := ⟨rfl, rfl, rfl, by decide +kernel, rfl, by decide +kernel, by decide +kernel⟩
abbrev s_law_basis : Stmt := topS 49
abbrev N_law_basis : List Str := [Str.ofString "_law_pool_here", Str.ofString "_law_size", Str.ofString "_law_spots", Str.ofString "_law_lines", Str.ofString "_law_at", Str.ofString "_law_line", Str.ofString "_law_k"]
abbrev P_law_basis : List Str := [Str.ofString "_law_pool_here", Str.ofString "_law_size"]
theorem sc_law_basis : FnScope N_law_basis P_law_basis (defScope s_law_basis) := ⟨rfl, rfl, rfl, by decide +kernel, rfl, by decide +kernel, by decide +kernel⟩
abbrev s_law_term : Stmt := topS 50
abbrev N_law_term : List Str := [Str.ofString "_law_pool_here", Str.ofString "_law_depth", Str.ofString "_law_kind"]
abbrev P_law_term : List Str := [Str.ofString "_law_pool_here", Str.ofString "_law_depth"]
theorem sc_law_term : FnScope N_law_term P_law_term (defScope s_law_term) := ⟨rfl, rfl, rfl, by decide +kernel, rfl, by decide +kernel, by decide +kernel⟩
abbrev s_law_worth : Stmt := topS 51
abbrev N_law_worth : List Str := [Str.ofString "_law_made", Str.ofString "_law_term_here", Str.ofString "_law_lots", Str.ofString "_law_one", Str.ofString "_law_other"]
abbrev P_law_worth : List Str := [Str.ofString "_law_made", Str.ofString "_law_term_here", Str.ofString "_law_lots"]
theorem sc_law_worth : FnScope N_law_worth P_law_worth (defScope s_law_worth) := ⟨rfl, rfl, rfl, by decide +kernel, rfl, by decide +kernel, by decide +kernel⟩
abbrev s_law_over_right : Stmt := topS 52
abbrev N_law_over_right : List Str := [Str.ofString "_law_pool_here", Str.ofString "_law_made", Str.ofString "_law_products_here", Str.ofString "_law_lines", Str.ofString "_law_size", Str.ofString "_law_handed", Str.ofString "_law_told", Str.ofString "_law_found", Str.ofString "_law_i", Str.ofString "_law_j", Str.ofString "_law_lots", Str.ofString "_law_k", Str.ofString "_law_turn", Str.ofString "_law_full", Str.ofString "_law_line", Str.ofString "_law_term_here", Str.ofString "_law_units", Str.ofString "_law_spot", Str.ofString "_law_back", Str.ofString "_law_unit", Str.ofString "_law_again"]
abbrev P_law_over_right : List Str := [Str.ofString "_law_pool_here", Str.ofString "_law_made", Str.ofString "_law_products_here", Str.ofString "_law_lines"]
theorem sc_law_over_right : FnScope N_law_over_right P_law_over_right (defScope s_law_over_right) := ⟨rfl, rfl, rfl, by decide +kernel, rfl, by decide +kernel, by decide +kernel⟩
abbrev s_law : Stmt := topS 53
abbrev N_law : List Str := [Str.ofString "_law_script", Str.ofString "_law_pool_here", Str.ofString "_law_turn", Str.ofString "_law_size", Str.ofString "_law_great", Str.ofString "_law_products_here", Str.ofString "_law_made"]
abbrev P_law : List Str := [Str.ofString "_law_script"]
theorem sc_law : FnScope N_law P_law (defScope s_law) := ⟨rfl, rfl, rfl, by decide +kernel, rfl, by decide +kernel, by decide +kernel⟩
abbrev ns_Basis : List Str := [Str.ofString "_lines"]
abbrev fe_Basis (K : PySem.W.Frag) : FE K ((List (Int × (List Int))) × Unit) := (fC (Str.ofString "_lines") (eL (eP eI (eL eI))) fN)
abbrev ns_Table : List Str := [Str.ofString "_products", Str.ofString "_below", Str.ofString "_cells"]
abbrev fe_Table (K : PySem.W.Frag) : FE K ((List (List Int)) × Int × (List (List (List (Int × Int)))) × Unit) := (fC (Str.ofString "_cells") (eL (eL eI)) (fC (Str.ofString "_below") eI (fC (Str.ofString "_products") (eL (eL (eL eN))) fN)))
/-- where all stands -/
structure Txt (K : PySem.W.Frag) (mg : Str → Option Value) where
  a_law_pool : Addr
  d_law_pool : FuncData
  F_law_pool : Fun K (Str.ofString "_law_pool") (Str.ofString "_law_pool") s_law_pool a_law_pool d_law_pool
  m_law_pool : mg (Str.ofString "_law_pool") = some (.ref a_law_pool)
  a_law_pick : Addr
  d_law_pick : FuncData
  F_law_pick : Fun K (Str.ofString "_law_pick") (Str.ofString "_law_pick") s_law_pick a_law_pick d_law_pick
  m_law_pick : mg (Str.ofString "_law_pick") = some (.ref a_law_pick)
  a_lowest : Addr
  d_lowest : FuncData
  F_lowest : Fun K (Str.ofString "lowest") (Str.ofString "lowest") s_lowest a_lowest d_lowest
  m_lowest : mg (Str.ofString "lowest") = some (.ref a_lowest)
  a_sum_two : Addr
  d_sum_two : FuncData
  F_sum_two : Fun K (Str.ofString "sum_two") (Str.ofString "sum_two") s_sum_two a_sum_two d_sum_two
  m_sum_two : mg (Str.ofString "sum_two") = some (.ref a_sum_two)
  a_product_two : Addr
  d_product_two : FuncData
  F_product_two : Fun K (Str.ofString "product_two") (Str.ofString "product_two") s_product_two a_product_two d_product_two
  m_product_two : mg (Str.ofString "product_two") = some (.ref a_product_two)
  a_is_number : Addr
  d_is_number : FuncData
  F_is_number : Fun K (Str.ofString "is_number") (Str.ofString "is_number") s_is_number a_is_number d_is_number
  m_is_number : mg (Str.ofString "is_number") = some (.ref a_is_number)
  a_checked : Addr
  d_checked : FuncData
  F_checked : Fun K (Str.ofString "checked") (Str.ofString "checked") s_checked a_checked d_checked
  m_checked : mg (Str.ofString "checked") = some (.ref a_checked)
  a_check_numbers : Addr
  d_check_numbers : FuncData
  F_check_numbers : Fun K (Str.ofString "check_numbers") (Str.ofString "check_numbers") s_check_numbers a_check_numbers d_check_numbers
  m_check_numbers : mg (Str.ofString "check_numbers") = some (.ref a_check_numbers)
  a_integers_of : Addr
  d_integers_of : FuncData
  F_integers_of : Fun K (Str.ofString "integers_of") (Str.ofString "integers_of") s_integers_of a_integers_of d_integers_of
  m_integers_of : mg (Str.ofString "integers_of") = some (.ref a_integers_of)
  a_numbers_of : Addr
  d_numbers_of : FuncData
  F_numbers_of : Fun K (Str.ofString "numbers_of") (Str.ofString "numbers_of") s_numbers_of a_numbers_of d_numbers_of
  m_numbers_of : mg (Str.ofString "numbers_of") = some (.ref a_numbers_of)
  a_fresh : Addr
  d_fresh : FuncData
  F_fresh : Fun K (Str.ofString "fresh") (Str.ofString "fresh") s_fresh a_fresh d_fresh
  m_fresh : mg (Str.ofString "fresh") = some (.ref a_fresh)
  a_plus_row : Addr
  d_plus_row : FuncData
  F_plus_row : Fun K (Str.ofString "plus_row") (Str.ofString "plus_row") s_plus_row a_plus_row d_plus_row
  m_plus_row : mg (Str.ofString "plus_row") = some (.ref a_plus_row)
  a_scaled_row : Addr
  d_scaled_row : FuncData
  F_scaled_row : Fun K (Str.ofString "scaled_row") (Str.ofString "scaled_row") s_scaled_row a_scaled_row d_scaled_row
  m_scaled_row : mg (Str.ofString "scaled_row") = some (.ref a_scaled_row)
  a_combination : Addr
  d_combination : FuncData
  F_combination : Fun K (Str.ofString "combination") (Str.ofString "combination") s_combination a_combination d_combination
  m_combination : mg (Str.ofString "combination") = some (.ref a_combination)
  a_divided : Addr
  d_divided : FuncData
  F_divided : Fun K (Str.ofString "divided") (Str.ofString "divided") s_divided a_divided d_divided
  m_divided : mg (Str.ofString "divided") = some (.ref a_divided)
  a_cleared : Addr
  d_cleared : FuncData
  F_cleared : Fun K (Str.ofString "cleared") (Str.ofString "cleared") s_cleared a_cleared d_cleared
  m_cleared : mg (Str.ofString "cleared") = some (.ref a_cleared)
  a_Basis_init : Addr
  d_Basis_init : FuncData
  F_Basis_init : Fun K (Str.ofString "__init__") (Str.ofString "Basis.__init__") s_Basis_init a_Basis_init d_Basis_init
  a_Basis_rest : Addr
  d_Basis_rest : FuncData
  F_Basis_rest : Fun K (Str.ofString "_rest") (Str.ofString "Basis._rest") s_Basis_rest a_Basis_rest d_Basis_rest
  a_Basis_put : Addr
  d_Basis_put : FuncData
  F_Basis_put : Fun K (Str.ofString "put") (Str.ofString "Basis.put") s_Basis_put a_Basis_put d_Basis_put
  a_Basis_told : Addr
  d_Basis_told : FuncData
  F_Basis_told : Fun K (Str.ofString "told") (Str.ofString "Basis.told") s_Basis_told a_Basis_told d_Basis_told
  a_check_rows : Addr
  d_check_rows : FuncData
  F_check_rows : Fun K (Str.ofString "check_rows") (Str.ofString "check_rows") s_check_rows a_check_rows d_check_rows
  m_check_rows : mg (Str.ofString "check_rows") = some (.ref a_check_rows)
  a_sum_of : Addr
  d_sum_of : FuncData
  F_sum_of : Fun K (Str.ofString "sum_of") (Str.ofString "sum_of") s_sum_of a_sum_of d_sum_of
  m_sum_of : mg (Str.ofString "sum_of") = some (.ref a_sum_of)
  a_times : Addr
  d_times : FuncData
  F_times : Fun K (Str.ofString "times") (Str.ofString "times") s_times a_times d_times
  m_times : mg (Str.ofString "times") = some (.ref a_times)
  a_combined : Addr
  d_combined : FuncData
  F_combined : Fun K (Str.ofString "combined") (Str.ofString "combined") s_combined a_combined d_combined
  m_combined : mg (Str.ofString "combined") = some (.ref a_combined)
  a_told_by : Addr
  d_told_by : FuncData
  F_told_by : Fun K (Str.ofString "told_by") (Str.ofString "told_by") s_told_by a_told_by d_told_by
  m_told_by : mg (Str.ofString "told_by") = some (.ref a_told_by)
  a_Table_init : Addr
  d_Table_init : FuncData
  F_Table_init : Fun K (Str.ofString "__init__") (Str.ofString "Table.__init__") s_Table_init a_Table_init d_Table_init
  a_Table_size : Addr
  d_Table_size : FuncData
  F_Table_size : Fun K (Str.ofString "size") (Str.ofString "Table.size") s_Table_size a_Table_size d_Table_size
  a_Table_products : Addr
  d_Table_products : FuncData
  F_Table_products : Fun K (Str.ofString "products") (Str.ofString "Table.products") s_Table_products a_Table_products d_Table_products
  a_Table_eq : Addr
  d_Table_eq : FuncData
  F_Table_eq : Fun K (Str.ofString "__eq__") (Str.ofString "Table.__eq__") s_Table_eq a_Table_eq d_Table_eq
  a_Table_product_without_checks : Addr
  d_Table_product_without_checks : FuncData
  F_Table_product_without_checks : Fun K (Str.ofString "product_without_checks") (Str.ofString "Table.product_without_checks") s_Table_product_without_checks a_Table_product_without_checks d_Table_product_without_checks
  a_Table_call : Addr
  d_Table_call : FuncData
  F_Table_call : Fun K (Str.ofString "__call__") (Str.ofString "Table.__call__") s_Table_call a_Table_call d_Table_call
  a_product_of : Addr
  d_product_of : FuncData
  F_product_of : Fun K (Str.ofString "product_of") (Str.ofString "product_of") s_product_of a_product_of d_product_of
  m_product_of : mg (Str.ofString "product_of") = some (.ref a_product_of)
  a_over : Addr
  d_over : FuncData
  F_over : Fun K (Str.ofString "over") (Str.ofString "over") s_over a_over d_over
  m_over : mg (Str.ofString "over") = some (.ref a_over)
  a_law_low : Addr
  d_law_low : FuncData
  F_law_low : Fun K (Str.ofString "_law_low") (Str.ofString "_law_low") s_law_low a_law_low d_law_low
  m_law_low : mg (Str.ofString "_law_low") = some (.ref a_law_low)
  a_law_add : Addr
  d_law_add : FuncData
  F_law_add : Fun K (Str.ofString "_law_add") (Str.ofString "_law_add") s_law_add a_law_add d_law_add
  m_law_add : mg (Str.ofString "_law_add") = some (.ref a_law_add)
  a_law_mul : Addr
  d_law_mul : FuncData
  F_law_mul : Fun K (Str.ofString "_law_mul") (Str.ofString "_law_mul") s_law_mul a_law_mul d_law_mul
  m_law_mul : mg (Str.ofString "_law_mul") = some (.ref a_law_mul)
  a_law_number : Addr
  d_law_number : FuncData
  F_law_number : Fun K (Str.ofString "_law_number") (Str.ofString "_law_number") s_law_number a_law_number d_law_number
  m_law_number : mg (Str.ofString "_law_number") = some (.ref a_law_number)
  a_law_alike : Addr
  d_law_alike : FuncData
  F_law_alike : Fun K (Str.ofString "_law_alike") (Str.ofString "_law_alike") s_law_alike a_law_alike d_law_alike
  m_law_alike : mg (Str.ofString "_law_alike") = some (.ref a_law_alike)
  a_law_products : Addr
  d_law_products : FuncData
  F_law_products : Fun K (Str.ofString "_law_products") (Str.ofString "_law_products") s_law_products a_law_products d_law_products
  m_law_products : mg (Str.ofString "_law_products") = some (.ref a_law_products)
  a_law_times : Addr
  d_law_times : FuncData
  F_law_times : Fun K (Str.ofString "_law_times") (Str.ofString "_law_times") s_law_times a_law_times d_law_times
  m_law_times : mg (Str.ofString "_law_times") = some (.ref a_law_times)
  a_law_copied : Addr
  d_law_copied : FuncData
  F_law_copied : Fun K (Str.ofString "_law_copied") (Str.ofString "_law_copied") s_law_copied a_law_copied d_law_copied
  m_law_copied : mg (Str.ofString "_law_copied") = some (.ref a_law_copied)
  a_law_wholes : Addr
  d_law_wholes : FuncData
  F_law_wholes : Fun K (Str.ofString "_law_wholes") (Str.ofString "_law_wholes") s_law_wholes a_law_wholes d_law_wholes
  m_law_wholes : mg (Str.ofString "_law_wholes") = some (.ref a_law_wholes)
  a_law_total : Addr
  d_law_total : FuncData
  F_law_total : Fun K (Str.ofString "_law_total") (Str.ofString "_law_total") s_law_total a_law_total d_law_total
  m_law_total : mg (Str.ofString "_law_total") = some (.ref a_law_total)
  a_law_moved : Addr
  d_law_moved : FuncData
  F_law_moved : Fun K (Str.ofString "_law_moved") (Str.ofString "_law_moved") s_law_moved a_law_moved d_law_moved
  m_law_moved : mg (Str.ofString "_law_moved") = some (.ref a_law_moved)
  a_law_moved_v2 : Addr
  d_law_moved_v2 : FuncData
  F_law_moved_v2 : Fun K (Str.ofString "_law_moved") (Str.ofString "_law_moved") s_law_moved_v2 a_law_moved_v2 d_law_moved_v2
  m_law_moved_v2 : mg (Str.ofString "_law_moved") = some (.ref a_law_moved_v2)
  a_law_basis : Addr
  d_law_basis : FuncData
  F_law_basis : Fun K (Str.ofString "_law_basis") (Str.ofString "_law_basis") s_law_basis a_law_basis d_law_basis
  m_law_basis : mg (Str.ofString "_law_basis") = some (.ref a_law_basis)
  a_law_term : Addr
  d_law_term : FuncData
  F_law_term : Fun K (Str.ofString "_law_term") (Str.ofString "_law_term") s_law_term a_law_term d_law_term
  m_law_term : mg (Str.ofString "_law_term") = some (.ref a_law_term)
  a_law_worth : Addr
  d_law_worth : FuncData
  F_law_worth : Fun K (Str.ofString "_law_worth") (Str.ofString "_law_worth") s_law_worth a_law_worth d_law_worth
  m_law_worth : mg (Str.ofString "_law_worth") = some (.ref a_law_worth)
  a_law_over_right : Addr
  d_law_over_right : FuncData
  F_law_over_right : Fun K (Str.ofString "_law_over_right") (Str.ofString "_law_over_right") s_law_over_right a_law_over_right d_law_over_right
  m_law_over_right : mg (Str.ofString "_law_over_right") = some (.ref a_law_over_right)
  a_law : Addr
  d_law : FuncData
  F_law : Fun K (Str.ofString "law") (Str.ofString "law") s_law a_law d_law
  m_law : mg (Str.ofString "law") = some (.ref a_law)
  c_Basis : Addr
  m_Basis : mg (Str.ofString "Basis") = some (.ref c_Basis)
  cl_Basis : Cls K c_Basis
  na_Basis_lines : NoAttr K c_Basis (Str.ofString "_lines")
  mk_Basis : Mk K c_Basis a_Basis_init
  me_Basis_rest : Meth K c_Basis (Str.ofString "_rest") a_Basis_rest
  me_Basis_put : Meth K c_Basis (Str.ofString "put") a_Basis_put
  me_Basis_told : Meth K c_Basis (Str.ofString "told") a_Basis_told
  c_Table : Addr
  m_Table : mg (Str.ofString "Table") = some (.ref c_Table)
  cl_Table : Cls K c_Table
  na_Table_products : NoAttr K c_Table (Str.ofString "_products")
  na_Table_below : NoAttr K c_Table (Str.ofString "_below")
  na_Table_cells : NoAttr K c_Table (Str.ofString "_cells")
  ic_Table : C8.InsC K c_Table
  mk_Table : Mk K c_Table a_Table_init
  p_Table_size : Addr
  pr_Table_size : PropOf K c_Table (Str.ofString "size") p_Table_size a_Table_size
  p_Table_products : Addr
  pr_Table_products : PropOf K c_Table (Str.ofString "products") p_Table_products a_Table_products
  eq_Table : EqO K c_Table a_Table_eq
  me_Table_product_without_checks : Meth K c_Table (Str.ofString "product_without_checks") a_Table_product_without_checks
  co_Table : StX.CallO K c_Table a_Table_call
  z_abs : mg (Str.ofString "abs") = none
  z_all : mg (Str.ofString "all") = none
  z_any : mg (Str.ofString "any") = none
  z_bool : mg (Str.ofString "bool") = none
  z_enumerate : mg (Str.ofString "enumerate") = none
  z_int : mg (Str.ofString "int") = none
  z_isinstance : mg (Str.ofString "isinstance") = none
  z_len : mg (Str.ofString "len") = none
  z_list : mg (Str.ofString "list") = none
  z_range : mg (Str.ofString "range") = none
  z_tuple : mg (Str.ofString "tuple") = none
  z_zip : mg (Str.ofString "zip") = none
  m_gcd : mg (Str.ofString "gcd") = some (.builtin "math.gcd")
  m_lcm : mg (Str.ofString "lcm") = some (.builtin "math.lcm")
  c_NOUGHT : Addr
  m_NOUGHT : mg (Str.ofString "NOUGHT") = some (.ref c_NOUGHT)
  k_NOUGHT : kTup K c_NOUGHT [.int 0, .int 1]
abbrev e_Basis {K : PySem.W.Frag} {mg : Str → Option Value} (T : Txt K mg) : En K ((List (Int × (List Int))) × Unit) := eIns T.c_Basis ns_Basis (fe_Basis K)
abbrev e_Table {K : PySem.W.Frag} {mg : Str → Option Value} (T : Txt K mg) : En K ((List (List Int)) × Int × (List (List (List (Int × Int)))) × Unit) := eIns T.c_Table ns_Table (fe_Table K)
def wb_lowest (x : (Int × Int × Unit)) : W (Fl Empty Empty (Int × Int)) := (bnd (bnd (bnd (ret x.1) fun t4 => bnd (bnd (ret x.2.1) fun t2 => bnd (ret ()) fun t3 => ret (t2, t3)) fun t5 => ret (t4, t5)) fun t6 => grd true (ret ((Nat.gcd t6.1.natAbs t6.2.1.natAbs : Nat) : Int))) fun v1 => (bnd (bnd (bnd (ret x.2.1) fun t7 => bnd (ret (0 : Int)) fun t8 => ret (decide (t7 < t8))) fun b9 => ite b9 (bnd (bnd (ret v1) fun t11 => ret (-t11)) fun v10 => (ret (Fl.nx (v10)))) (ret (Fl.nx (v1)))) (sq fun (s12 : (Int)) => (bnd (bnd (bnd (bnd (ret x.1) fun t13 => bnd (ret s12) fun t14 => grd (fdivOk t13 t14) (ret (Int.fdiv t13 t14))) fun t19 => bnd (bnd (bnd (ret x.2.1) fun t15 => bnd (ret s12) fun t16 => grd (fdivOk t15 t16) (ret (Int.fdiv t15 t16))) fun t17 => bnd (ret ()) fun t18 => ret (t17, t18)) fun t20 => ret (t19, t20)) fun t21 => ret (t21.1, t21.2.1)) fun t22 => ret (Fl.rt t22)))))
def w_lowest (x : (Int × Int × Unit)) : W (Int × Int) := fnR (wb_lowest x)
def wb_sum_two (x : ((Int × Int) × (Int × Int) × Unit)) : W (Fl Empty Empty (Int × Int)) := (bnd (bnd (bnd (bnd (bnd (bnd (ret x.1) fun t29 => ret t29.1) fun t31 => bnd (bnd (ret x.2.1) fun t30 => ret t30.2) fun t32 => grd (mulOk t31 t32) (ret (t31 * t32))) fun t37 => bnd (bnd (bnd (ret x.2.1) fun t33 => ret t33.1) fun t35 => bnd (bnd (ret x.1) fun t34 => ret t34.2) fun t36 => grd (mulOk t35 t36) (ret (t35 * t36))) fun t38 => ret (t37 + t38)) fun t39 => bnd (bnd (bnd (bnd (ret x.1) fun t23 => ret t23.2) fun t25 => bnd (bnd (ret x.2.1) fun t24 => ret t24.2) fun t26 => grd (mulOk t25 t26) (ret (t25 * t26))) fun t27 => bnd (ret ()) fun t28 => ret (t27, t28)) fun t40 => ret (t39, t40)) w_lowest) fun t41 => ret (Fl.rt t41))
def w_sum_two (x : ((Int × Int) × (Int × Int) × Unit)) : W (Int × Int) := fnR (wb_sum_two x)
def wb_product_two (x : ((Int × Int) × (Int × Int) × Unit)) : W (Fl Empty Empty (Int × Int)) := (bnd (bnd (bnd (bnd (bnd (ret x.1) fun t48 => ret t48.1) fun t50 => bnd (bnd (ret x.2.1) fun t49 => ret t49.1) fun t51 => grd (mulOk t50 t51) (ret (t50 * t51))) fun t52 => bnd (bnd (bnd (bnd (ret x.1) fun t42 => ret t42.2) fun t44 => bnd (bnd (ret x.2.1) fun t43 => ret t43.2) fun t45 => grd (mulOk t44 t45) (ret (t44 * t45))) fun t46 => bnd (ret ()) fun t47 => ret (t46, t47)) fun t53 => ret (t52, t53)) w_lowest) fun t54 => ret (Fl.rt t54))
def w_product_two (x : ((Int × Int) × (Int × Int) × Unit)) : W (Int × Int) := fnR (wb_product_two x)
def wb_is_number (x : ((Int × Int) × Unit)) : W (Fl Empty Empty Bool) := (bnd (bnd (bnd (bnd (ret x.1) fun t55 => ret t55.2) fun t56 => bnd (ret (1 : Int)) fun t57 => ret (decide (t57 ≤ t56))) fun t67 => ite t67 (bnd (bnd (bnd (bnd (ret x.1) fun t58 => ret t58.1) fun t62 => bnd (bnd (bnd (ret x.1) fun t59 => ret t59.2) fun t60 => bnd (ret ()) fun t61 => ret (t60, t61)) fun t63 => ret (t62, t63)) fun t64 => grd true (ret ((Nat.gcd t64.1.natAbs t64.2.1.natAbs : Nat) : Int))) fun t65 => bnd (ret (1 : Int)) fun t66 => ret (decide (t65 = t66))) (ret false)) fun t68 => ret (Fl.rt t68))
def w_is_number (x : ((Int × Int) × Unit)) : W Bool := fnR (wb_is_number x)
def wb_checked (x : ((Int × Int) × Unit)) : W (Fl Empty Empty (Int × Int)) := (bnd (bnd (bnd (bnd (bnd (ret x.1) fun t69 => bnd (ret ()) fun t70 => ret (t69, t70)) w_is_number) fun t71 => ret (!t71)) fun b72 => ite b72 stuck (ret (Fl.nx ()))) (sq fun (_ : Unit) => (bnd (ret x.1) fun t73 => ret (Fl.rt t73))))
def w_checked (x : ((Int × Int) × Unit)) : W (Int × Int) := fnR (wb_checked x)
def wb_check_numbers (x : ((List (Int × Int)) × Unit)) : W (Fl Unit Empty Unit) := (bnd (bnd (ret x.1) fun xs => forW (fun (s74 : Unit) y75 => (bnd (bnd (bnd (bnd (bnd (ret y75) fun t76 => bnd (ret ()) fun t77 => ret (t76, t77)) w_is_number) fun t78 => ret (!t78)) fun b79 => ite b79 stuck (ret (Fl.nx ()))) (sq fun (_ : Unit) => (ret (Fl.nx ()))))) () xs) (sq fun (s80 : Unit) => (ret (Fl.nx ()))))
def w_check_numbers (x : ((List (Int × Int)) × Unit)) : W Unit := fnU (wb_check_numbers x)
def wb_integers_of (x : ((List (Int × Int)) × Unit)) : W (Fl Empty Empty ((List Int) × Int)) := (bnd (ret (1 : Int)) fun v81 => (bnd (bnd (ret x.1) fun xs => forW (fun (s82 : (Int)) y83 => (bnd (bnd (bnd (ret s82) fun t88 => bnd (bnd (bnd (ret y83) fun t85 => ret t85.2) fun t86 => bnd (ret ()) fun t87 => ret (t86, t87)) fun t89 => ret (t88, t89)) fun t90 => grd (lcmOk t90.1 t90.2.1) (ret ((Nat.lcm t90.1.natAbs t90.2.1.natAbs : Nat) : Int))) fun v84 => (ret (Fl.nx (v84))))) (v81) xs) (sq fun (s91 : (Int)) => (bnd (bnd (bnd (bnd (ret x.1) fun xs99 => mapW (fun y92 => (bnd (bnd (ret y92) fun t93 => ret t93.1) fun t97 => bnd (bnd (ret s91) fun t95 => bnd (bnd (ret y92) fun t94 => ret t94.2) fun t96 => grd (fdivOk t95 t96) (ret (Int.fdiv t95 t96))) fun t98 => grd (mulOk t97 t98) (ret (t97 * t98)))) xs99) fun t102 => bnd (bnd (ret s91) fun t100 => bnd (ret ()) fun t101 => ret (t100, t101)) fun t103 => ret (t102, t103)) fun t104 => ret (t104.1, t104.2.1)) fun t105 => ret (Fl.rt t105)))))
def w_integers_of (x : ((List (Int × Int)) × Unit)) : W ((List Int) × Int) := fnR (wb_integers_of x)
def wb_numbers_of (x : ((List Int) × Int × Unit)) : W (Fl Empty Empty (List (Int × Int))) := (bnd (bnd (ret x.1) fun xs111 => mapW (fun y106 => (bnd (bnd (ret y106) fun t109 => bnd (bnd (ret x.2.1) fun t107 => bnd (ret ()) fun t108 => ret (t107, t108)) fun t110 => ret (t109, t110)) w_lowest)) xs111) fun t112 => ret (Fl.rt t112))
def w_numbers_of (x : ((List Int) × Int × Unit)) : W (List (Int × Int)) := fnR (wb_numbers_of x)
def w_fresh : Nat → (D × Unit) → W D
  | 0, _ => stuck
  | n + 1, x => fnR ((bnd (bnd (bnd (ret x.1) fun t113 => ret (isD "list" t113)) fun b114 => ite b114 (bnd (bnd (bnd (bnd (ret x.1) fun t115 => grd (isLst t115) (ret (itemsD t115))) fun xs119 => mapW (fun y116 => (bnd (bnd (ret y116) fun t117 => bnd (ret ()) fun t118 => ret (t117, t118)) (w_fresh n))) xs119) fun t120 => ret (D.lst (List.map (fun z => z) t120))) fun t121 => ret (Fl.rt t121)) (ret (Fl.nx ()))) (sq fun (_ : Unit) => (bnd (bnd (bnd (ret x.1) fun t122 => ret (isD "tuple" t122)) fun b123 => ite b123 (bnd (bnd (bnd (bnd (bnd (ret x.1) fun t124 => grd (isTup t124 && decide ((itemsD t124).length ≤ 16777216)) (ret (itemsD t124))) fun xs128 => mapW (fun y125 => (bnd (bnd (ret y125) fun t126 => bnd (ret ()) fun t127 => ret (t126, t127)) (w_fresh n))) xs128) fun t129 => bnd (ret ()) fun t130 => ret (t129, t130)) fun t131 => grd true (ret (D.tup t131.1))) fun t132 => ret (Fl.rt t132)) (ret (Fl.nx ()))) (sq fun (_ : Unit) => (bnd (ret x.1) fun t133 => ret (Fl.rt t133)))))))
def wb_plus_row (x : ((List (Int × Int)) × (List (Int × Int)) × Unit)) : W (Fl Empty Empty (List (Int × Int))) := (bnd (bnd (bnd (bnd (ret x.1) fun t136 => bnd (bnd (ret x.2.1) fun t134 => bnd (ret ()) fun t135 => ret (t134, t135)) fun t137 => ret (t136, t137)) fun t138 => ret (t138.1.zip t138.2.1)) fun xs144 => mapW (fun y139 => (bnd (bnd (ret y139.1) fun t142 => bnd (bnd (ret y139.2) fun t140 => bnd (ret ()) fun t141 => ret (t140, t141)) fun t143 => ret (t142, t143)) w_sum_two)) xs144) fun t145 => ret (Fl.rt t145))
def w_plus_row (x : ((List (Int × Int)) × (List (Int × Int)) × Unit)) : W (List (Int × Int)) := fnR (wb_plus_row x)
def wb_scaled_row (x : ((Int × Int) × (List (Int × Int)) × Unit)) : W (Fl Empty Empty (List (Int × Int))) := (bnd (bnd (ret x.2.1) fun xs151 => mapW (fun y146 => (bnd (bnd (ret x.1) fun t149 => bnd (bnd (ret y146) fun t147 => bnd (ret ()) fun t148 => ret (t147, t148)) fun t150 => ret (t149, t150)) w_product_two)) xs151) fun t152 => ret (Fl.rt t152))
def w_scaled_row (x : ((Int × Int) × (List (Int × Int)) × Unit)) : W (List (Int × Int)) := fnR (wb_scaled_row x)
def wb_combination (x : ((List (Int × Int)) × (List (List (Int × Int))) × Int × Unit)) : W (Fl Empty Empty (List (Int × Int))) := (bnd (bnd (bnd (ret x.1) fun t154 => bnd (ret ()) fun t155 => ret (t154, t155)) w_integers_of) fun v153 => (bnd (bnd (bnd (bnd (ret x.2.1) fun xs => flatW (fun y157 => (ret y157)) (fun y157 y158 => (ret y158)) 0 xs) fun t159 => bnd (ret ()) fun t160 => ret (t159, t160)) w_integers_of) fun v156 => (bnd (bnd (bnd (ret (0 : Int)) fun t162 => bnd (ret ([] : List Int)) fun t163 => ret (t162 :: t163)) fun t164 => bnd (ret x.2.2.1) fun t165 => grd (repOk t164.length t165) (ret (List.replicate t165.toNat t164).flatten)) fun v161 => (bnd (bnd (bnd (bnd (ret v153.1) fun t167 => bnd (ret ()) fun t168 => ret (t167, t168)) fun t169 => ret (enumF 0 t169.1)) fun xs => forW (fun (s170 : ((List Int))) y171 => (bnd (bnd (bnd (ret y171.2) fun t172 => bnd (ret (0 : Int)) fun t173 => ret (!decide (t172 = t173))) fun b174 => ite b174 (bnd (bnd (bnd (bnd (bnd (bnd (ret v156) fun t175 => ret t175.1) fun t184 => bnd (bnd (bnd (ret y171.1) fun t176 => bnd (ret x.2.2.1) fun t177 => grd (mulOk t176 t177) (ret (t176 * t177))) fun t178 => ret (some t178)) fun t185 => bnd (bnd (bnd (bnd (ret y171.1) fun t179 => bnd (ret x.2.2.1) fun t180 => grd (mulOk t179 t180) (ret (t179 * t180))) fun t181 => bnd (ret x.2.2.1) fun t182 => ret (t181 + t182)) fun t183 => ret (some t183)) fun t186 => ret ((t184.drop (HT.sIx t184.length 0 t185)).take (HT.sIx t184.length t184.length t186 - HT.sIx t184.length 0 t185))) fun t187 => bnd (ret ()) fun t188 => ret (t187, t188)) fun t189 => ret (enumF 0 t189.1)) fun xs => forW (fun (s190 : ((List Int))) y191 => (bnd (bnd (ret y191.1) fun t195 => grd (ixOk s190 t195) (bnd (bnd (ret y171.2) fun t192 => bnd (ret y191.2) fun t193 => grd (mulOk t192 t193) (ret (t192 * t193))) fun t196 => grd true (ret (t195, ixAt s190 t195 + t196)))) fun v194 => (ret (Fl.nx ((s190.set ((ixN s190.length v194.1).getD 0) v194.2)))))) (s170) xs) (sq fun (s197 : ((List Int))) => (ret (Fl.nx (s197))))) (ret (Fl.nx (s170)))) (sq fun (s198 : ((List Int))) => (ret (Fl.nx (s198)))))) (v161) xs) (sq fun (s199 : ((List Int))) => (bnd (bnd (bnd (ret s199) fun t205 => bnd (bnd (bnd (ret v153.2) fun t201 => bnd (bnd (ret v156) fun t200 => ret t200.2) fun t202 => grd (mulOk t201 t202) (ret (t201 * t202))) fun t203 => bnd (ret ()) fun t204 => ret (t203, t204)) fun t206 => ret (t205, t206)) w_numbers_of) fun t207 => ret (Fl.rt t207)))))))
def w_combination (x : ((List (Int × Int)) × (List (List (Int × Int))) × Int × Unit)) : W (List (Int × Int)) := fnR (wb_combination x)
def wb_divided (x : ((List Int) × Unit)) : W (Fl Empty Empty (List Int)) := (bnd (ret (0 : Int)) fun v208 => (bnd (bnd (ret x.1) fun xs => forW (fun (s209 : (Int)) y210 => (bnd (bnd (bnd (ret s209) fun t214 => bnd (bnd (ret y210) fun t212 => bnd (ret ()) fun t213 => ret (t212, t213)) fun t215 => ret (t214, t215)) fun t216 => grd true (ret ((Nat.gcd t216.1.natAbs t216.2.1.natAbs : Nat) : Int))) fun v211 => (bnd (bnd (bnd (ret v211) fun t217 => bnd (ret (1 : Int)) fun t218 => ret (decide (t217 = t218))) fun b219 => ite b219 (bnd (ret x.1) fun t220 => ret (Fl.rt t220)) (ret (Fl.nx ()))) (sq fun (_ : Unit) => (ret (Fl.nx (v211))))))) (v208) xs) (sq fun (s221 : (Int)) => (bnd (bnd (bnd (ret s221) fun t222 => bnd (ret (0 : Int)) fun t223 => ret (decide (t223 < t222))) fun t228 => ite t228 (bnd (ret x.1) fun xs227 => mapW (fun y224 => (bnd (ret y224) fun t225 => bnd (ret s221) fun t226 => grd (fdivOk t225 t226) (ret (Int.fdiv t225 t226)))) xs227) (ret x.1)) fun t229 => ret (Fl.rt t229)))))
def w_divided (x : ((List Int) × Unit)) : W (List Int) := fnR (wb_divided x)
def wb_cleared (x : ((List Int) × (List Int) × Int × Unit)) : W (Fl Empty Empty (List Int)) := (bnd (bnd (bnd (bnd (ret x.1) fun t231 => bnd (ret x.2.2.1) fun t232 => grd (ixOk t231 t232) (ret (ixAt t231 t232))) fun t237 => bnd (bnd (bnd (ret x.2.1) fun t233 => bnd (ret x.2.2.1) fun t234 => grd (ixOk t233 t234) (ret (ixAt t233 t234))) fun t235 => bnd (ret ()) fun t236 => ret (t235, t236)) fun t238 => ret (t237, t238)) fun t239 => grd true (ret ((Nat.gcd t239.1.natAbs t239.2.1.natAbs : Nat) : Int))) fun v230 => (bnd (bnd (bnd (bnd (bnd (ret x.2.1) fun t241 => bnd (ret x.2.2.1) fun t242 => grd (ixOk t241 t242) (ret (ixAt t241 t242))) fun t243 => bnd (ret v230) fun t244 => grd (fdivOk t243 t244) (ret (Int.fdiv t243 t244))) fun t251 => bnd (bnd (bnd (bnd (ret x.1) fun t245 => bnd (ret x.2.2.1) fun t246 => grd (ixOk t245 t246) (ret (ixAt t245 t246))) fun t247 => bnd (ret v230) fun t248 => grd (fdivOk t247 t248) (ret (Int.fdiv t247 t248))) fun t249 => bnd (ret ()) fun t250 => ret (t249, t250)) fun t252 => ret (t251, t252)) fun t253 => ret (t253.1, t253.2.1)) fun v240 => (bnd (bnd (bnd (bnd (bnd (bnd (ret x.1) fun t256 => bnd (bnd (ret x.2.1) fun t254 => bnd (ret ()) fun t255 => ret (t254, t255)) fun t257 => ret (t256, t257)) fun t258 => ret (t258.1.zip t258.2.1)) fun xs266 => mapW (fun y259 => (bnd (bnd (ret v240.1) fun t260 => bnd (ret y259.1) fun t261 => grd (mulOk t260 t261) (ret (t260 * t261))) fun t264 => bnd (bnd (ret v240.2) fun t262 => bnd (ret y259.2) fun t263 => grd (mulOk t262 t263) (ret (t262 * t263))) fun t265 => ret (t264 - t265))) xs266) fun t267 => bnd (ret ()) fun t268 => ret (t267, t268)) w_divided) fun t269 => ret (Fl.rt t269))))
def w_cleared (x : ((List Int) × (List Int) × Int × Unit)) : W (List Int) := fnR (wb_cleared x)
def wb_Basis_rest (x : (((List (Int × (List Int))) × Unit) × (List (Int × Int)) × Unit)) : W (Fl Empty Empty ((List Int) × Int × (List Int))) := (bnd (bnd (bnd (ret x.2.1) fun t271 => bnd (ret ()) fun t272 => ret (t271, t272)) w_integers_of) fun v270 => (bnd (bnd (bnd (bnd (ret v270.1) fun t274 => bnd (ret ()) fun t275 => ret (t274, t275)) fun t276 => grd true (ret (t276.1.length : Int))) fun t283 => bnd (bnd (bnd (bnd (bnd (ret x.1) fun t277 => ret t277.1) fun t278 => bnd (ret ()) fun t279 => ret (t278, t279)) fun t280 => grd true (ret (t280.1.length : Int))) fun t281 => bnd (ret ()) fun t282 => ret (t281, t282)) fun t284 => ret (t283, t284)) fun v273 => (bnd (bnd (bnd (ret v270.1) fun t292 => bnd (bnd (bnd (ret (0 : Int)) fun t288 => bnd (ret ([] : List Int)) fun t289 => ret (t288 :: t289)) fun t290 => bnd (ret v273.2.1) fun t291 => grd (repOk t290.length t291) (ret (List.replicate t291.toNat t290).flatten)) fun t293 => grd (decide (t292.length + t293.length ≤ 16777216)) (ret (t292 ++ t293))) fun t296 => bnd (bnd (ret v270.2) fun t294 => bnd (ret ([] : List Int)) fun t295 => ret (t294 :: t295)) fun t297 => grd (decide (t296.length + t297.length ≤ 16777216)) (ret (t296 ++ t297))) fun v285 => (bnd (bnd (bnd (ret x.1) fun t298 => ret t298.1) fun xs => forW (fun (s299 : ((List Int))) y300 => (bnd (bnd (ret y300) fun t302 => ret t302.1) fun v301 => (bnd (bnd (bnd (bnd (ret s299) fun t303 => bnd (ret v301) fun t304 => grd (ixOk t303 t304) (ret (ixAt t303 t304))) fun t305 => bnd (ret (0 : Int)) fun t306 => ret (!decide (t305 = t306))) fun b307 => ite b307 (bnd (bnd (bnd (ret s299) fun t332 => bnd (bnd (bnd (bnd (ret y300) fun t311 => ret t311.2) fun t328 => bnd (bnd (bnd (ret (0 : Int)) fun t314 => bnd (ret ([] : List Int)) fun t315 => ret (t314 :: t315)) fun t326 => bnd (bnd (bnd (bnd (ret v273.1) fun t316 => bnd (ret v273.2.1) fun t317 => ret (t316 + t317)) fun t318 => bnd (ret (1 : Int)) fun t319 => ret (t318 + t319)) fun t324 => bnd (bnd (bnd (bnd (ret y300) fun t320 => ret t320.2) fun t321 => bnd (ret ()) fun t322 => ret (t321, t322)) fun t323 => grd true (ret (t323.1.length : Int))) fun t325 => ret (t324 - t325)) fun t327 => grd (repOk t326.length t327) (ret (List.replicate t327.toNat t326).flatten)) fun t329 => grd (decide (t328.length + t329.length ≤ 16777216)) (ret (t328 ++ t329))) fun t330 => bnd (bnd (ret v301) fun t309 => bnd (ret ()) fun t310 => ret (t309, t310)) fun t331 => ret (t330, t331)) fun t333 => ret (t332, t333)) w_cleared) fun v308 => (ret (Fl.nx (v308)))) (ret (Fl.nx (s299)))) (sq fun (s334 : ((List Int))) => (ret (Fl.nx (s334))))))) (v285) xs) (sq fun (s335 : ((List Int))) => (bnd (bnd (bnd (bnd (ret s335) fun t337 => bnd (ret none) fun t338 => bnd (bnd (ret v273.1) fun t336 => ret (some t336)) fun t339 => ret ((t337.drop (HT.sIx t337.length 0 t338)).take (HT.sIx t337.length t337.length t339 - HT.sIx t337.length 0 t338))) fun t353 => bnd (bnd (bnd (ret s335) fun t341 => bnd (bnd (ret (1 : Int)) fun t340 => ret (-t340)) fun t342 => grd (ixOk t341 t342) (ret (ixAt t341 t342))) fun t351 => bnd (bnd (bnd (ret s335) fun t346 => bnd (bnd (ret v273.1) fun t343 => ret (some t343)) fun t347 => bnd (bnd (bnd (ret (1 : Int)) fun t344 => ret (-t344)) fun t345 => ret (some t345)) fun t348 => ret ((t346.drop (HT.sIx t346.length 0 t347)).take (HT.sIx t346.length t346.length t348 - HT.sIx t346.length 0 t347))) fun t349 => bnd (ret ()) fun t350 => ret (t349, t350)) fun t352 => ret (t351, t352)) fun t354 => ret (t353, t354)) fun t355 => ret (t355.1, t355.2.1, t355.2.2.1)) fun t356 => ret (Fl.rt t356)))))))
def w_Basis_rest (x : (((List (Int × (List Int))) × Unit) × (List (Int × Int)) × Unit)) : W ((List Int) × Int × (List Int)) := fnR (wb_Basis_rest x)
def wb_Basis_put (x : ((List (Int × (List Int))) × (List (Int × Int)) × Unit)) : W (Fl Empty Empty (Option (Int × (List Int)))) := (bnd (bnd (bnd (ret x.1) fun t357 => ret (t357, ())) fun t358 => bnd (bnd (ret x.2.1) fun t360 => bnd (ret ()) fun t361 => ret (t360, t361)) fun t359 => w_Basis_rest (t358, t359)) fun v362 => (bnd (bnd (bnd (bnd (ret v362.1) fun t363 => bnd (ret ()) fun t364 => ret (t363, t364)) fun t365 => ret (enumF 0 t365.1)) fun xs => forW (fun (s366 : Unit) y367 => (bnd (bnd (bnd (ret y367.2) fun t368 => bnd (ret (0 : Int)) fun t369 => ret (!decide (t368 = t369))) fun b370 => ite b370 (bnd (bnd (bnd (ret y367.1) fun t379 => bnd (bnd (bnd (bnd (ret v362.1) fun t371 => bnd (ret v362.2.2) fun t372 => grd (decide (t371.length + t372.length ≤ 16777216)) (ret (t371 ++ t372))) fun t375 => bnd (bnd (ret v362.2.1) fun t373 => bnd (ret ([] : List Int)) fun t374 => ret (t373 :: t374)) fun t376 => grd (decide (t375.length + t376.length ≤ 16777216)) (ret (t375 ++ t376))) fun t377 => bnd (ret ()) fun t378 => ret (t377, t378)) fun t380 => ret (t379, t380)) fun t381 => ret (t381.1, t381.2.1)) fun t382 => grd (decide (x.1.length < 16777216)) (ret (Fl.rt (some t382)))) (ret (Fl.nx ()))) (sq fun (_ : Unit) => (ret (Fl.nx ()))))) () xs) (sq fun (s383 : Unit) => (ret (Fl.rt none)))))
def w_Basis_put (x : ((List (Int × (List Int))) × (List (Int × Int)) × Unit)) : W (Option (Int × (List Int))) := fnR (wb_Basis_put x)
def wb_Basis_told (x : (((List (Int × (List Int))) × Unit) × (List (Int × Int)) × Unit)) : W (Fl Empty Empty (Option (List (Int × Int)))) := (bnd (bnd (ret x.1) fun t384 => bnd (bnd (ret x.2.1) fun t386 => bnd (ret ()) fun t387 => ret (t386, t387)) fun t385 => w_Basis_rest (t384, t385)) fun v388 => (bnd (bnd (bnd (bnd (bnd (ret v388.1) fun xs392 => mapW (fun y389 => (bnd (ret y389) fun t390 => bnd (ret (0 : Int)) fun t391 => ret (!decide (t390 = t391)))) xs392) fun t393 => bnd (ret ()) fun t394 => ret (t393, t394)) fun t395 => grd true (ret (t395.1.any id))) fun b396 => ite b396 (bnd (ret (none : (Option (List (Int × Int))))) fun t397 => ret (Fl.rt t397)) (ret (Fl.nx ()))) (sq fun (_ : Unit) => (bnd (bnd (bnd (ret v388.2.2) fun xs404 => mapW (fun y398 => (bnd (bnd (bnd (ret y398) fun t401 => ret (-t401)) fun t402 => bnd (bnd (ret v388.2.1) fun t399 => bnd (ret ()) fun t400 => ret (t399, t400)) fun t403 => ret (t402, t403)) w_lowest)) xs404) fun t405 => ret (some t405)) fun t406 => ret (Fl.rt t406)))))
def w_Basis_told (x : (((List (Int × (List Int))) × Unit) × (List (Int × Int)) × Unit)) : W (Option (List (Int × Int))) := fnR (wb_Basis_told x)
def wb_check_rows (x : ((List (List (Int × Int))) × Int × Unit)) : W (Fl Unit Empty Unit) := (bnd (bnd (ret x.1) fun xs => forW (fun (s407 : Unit) y408 => (bnd (bnd (bnd (ret y408) fun t409 => bnd (ret ()) fun t410 => ret (t409, t410)) w_check_numbers) fun _ => (ret (Fl.nx ())))) () xs) (sq fun (s411 : Unit) => (bnd (bnd (ret x.1) fun xs => forW (fun (s412 : Unit) y413 => (bnd (bnd (bnd (bnd (bnd (ret y413) fun t414 => bnd (ret ()) fun t415 => ret (t414, t415)) fun t416 => grd true (ret (t416.1.length : Int))) fun t417 => bnd (ret x.2.1) fun t418 => ret (!decide (t417 = t418))) fun b419 => ite b419 stuck (ret (Fl.nx ()))) (sq fun (_ : Unit) => (ret (Fl.nx ()))))) () xs) (sq fun (s420 : Unit) => (ret (Fl.nx ()))))))
def w_check_rows (x : ((List (List (Int × Int))) × Int × Unit)) : W Unit := fnU (wb_check_rows x)
def wb_sum_of (x : ((List (Int × Int)) × (List (Int × Int)) × Unit)) : W (Fl Empty Empty (List (Int × Int))) := (bnd (bnd (bnd (bnd (ret x.1) fun t421 => bnd (ret x.2.1) fun t422 => grd (decide (t421.length + t422.length ≤ 16777216)) (ret (t421 ++ t422))) fun t423 => bnd (ret ()) fun t424 => ret (t423, t424)) w_check_numbers) fun _ => (bnd (bnd (bnd (bnd (bnd (ret x.1) fun t425 => bnd (ret ()) fun t426 => ret (t425, t426)) fun t427 => grd true (ret (t427.1.length : Int))) fun t431 => bnd (bnd (bnd (ret x.2.1) fun t428 => bnd (ret ()) fun t429 => ret (t428, t429)) fun t430 => grd true (ret (t430.1.length : Int))) fun t432 => ret (!decide (t431 = t432))) fun b433 => ite b433 stuck (ret (Fl.nx ()))) (sq fun (_ : Unit) => (bnd (bnd (bnd (ret x.1) fun t436 => bnd (bnd (ret x.2.1) fun t434 => bnd (ret ()) fun t435 => ret (t434, t435)) fun t437 => ret (t436, t437)) w_plus_row) fun t438 => ret (Fl.rt t438)))))
def w_sum_of (x : ((List (Int × Int)) × (List (Int × Int)) × Unit)) : W (List (Int × Int)) := fnR (wb_sum_of x)
def wb_times (x : ((Int × Int) × (List (Int × Int)) × Unit)) : W (Fl Empty Empty (List (Int × Int))) := (bnd (bnd (bnd (ret x.1) fun t439 => bnd (ret ()) fun t440 => ret (t439, t440)) w_checked) fun _ => (bnd (bnd (bnd (ret x.2.1) fun t441 => bnd (ret ()) fun t442 => ret (t441, t442)) w_check_numbers) fun _ => (bnd (bnd (bnd (ret x.1) fun t445 => bnd (bnd (ret x.2.1) fun t443 => bnd (ret ()) fun t444 => ret (t443, t444)) fun t446 => ret (t445, t446)) w_scaled_row) fun t447 => ret (Fl.rt t447))))
def w_times (x : ((Int × Int) × (List (Int × Int)) × Unit)) : W (List (Int × Int)) := fnR (wb_times x)
def wb_combined (x : ((List (Int × Int)) × (List (List (Int × Int))) × Int × Unit)) : W (Fl Empty Empty (List (Int × Int))) := (bnd (bnd (bnd (ret x.1) fun t448 => bnd (ret ()) fun t449 => ret (t448, t449)) w_check_numbers) fun _ => (bnd (bnd (bnd (ret x.2.1) fun t452 => bnd (bnd (ret x.2.2.1) fun t450 => bnd (ret ()) fun t451 => ret (t450, t451)) fun t453 => ret (t452, t453)) w_check_rows) fun _ => (bnd (bnd (bnd (bnd (bnd (ret x.1) fun t454 => bnd (ret ()) fun t455 => ret (t454, t455)) fun t456 => grd true (ret (t456.1.length : Int))) fun t460 => bnd (bnd (bnd (ret x.2.1) fun t457 => bnd (ret ()) fun t458 => ret (t457, t458)) fun t459 => grd true (ret (t459.1.length : Int))) fun t461 => ret (!decide (t460 = t461))) fun b462 => ite b462 stuck (ret (Fl.nx ()))) (sq fun (_ : Unit) => (bnd (bnd (bnd (ret x.1) fun t467 => bnd (bnd (ret x.2.1) fun t465 => bnd (bnd (ret x.2.2.1) fun t463 => bnd (ret ()) fun t464 => ret (t463, t464)) fun t466 => ret (t465, t466)) fun t468 => ret (t467, t468)) w_combination) fun t469 => ret (Fl.rt t469))))))
def w_combined (x : ((List (Int × Int)) × (List (List (Int × Int))) × Int × Unit)) : W (List (Int × Int)) := fnR (wb_combined x)
def wb_told_by (x : ((List (Int × Int)) × (List (List (Int × Int))) × Unit)) : W (Fl Empty Empty (Option (List (Int × Int)))) := (bnd (bnd (bnd (bnd (bnd (ret x.1) fun t475 => bnd (ret ([] : List (List (Int × Int)))) fun t476 => ret (t475 :: t476)) fun t477 => bnd (ret x.2.1) fun t478 => grd (decide (t477.length + t478.length ≤ 16777216)) (ret (t477 ++ t478))) fun t479 => bnd (bnd (bnd (bnd (ret x.1) fun t470 => bnd (ret ()) fun t471 => ret (t470, t471)) fun t472 => grd true (ret (t472.1.length : Int))) fun t473 => bnd (ret ()) fun t474 => ret (t473, t474)) fun t480 => ret (t479, t480)) w_check_rows) fun _ => (bnd (ret x.2.1) fun xs => bnd (putsW gdL w_Basis_put [] xs) fun z481 => (bnd (bnd (ret (z481.1, ())) fun t483 => bnd (bnd (ret x.1) fun t485 => bnd (ret ()) fun t486 => ret (t485, t486)) fun t484 => w_Basis_told (t483, t484)) fun v482 => (bnd (bnd (bnd (ret v482) fun t487 => ret t487.isNone) fun b488 => ite b488 (bnd (ret (none : (Option (List (Int × Int))))) fun t489 => ret (Fl.rt t489)) (ret (Fl.nx ()))) (sq fun (_ : Unit) => (bnd (bnd (bnd (ret ((0, 1) : Int × Int)) fun t491 => bnd (ret ([] : List (Int × Int))) fun t492 => ret (t491 :: t492)) fun t496 => bnd (bnd (bnd (ret x.2.1) fun t493 => bnd (ret ()) fun t494 => ret (t493, t494)) fun t495 => grd true (ret (t495.1.length : Int))) fun t497 => grd (repOk t496.length t497) (ret (List.replicate t497.toNat t496).flatten)) fun v490 => (bnd (ret (0 : Int)) fun v499 => (bnd (bnd (bnd (bnd (ret z481.2) fun t500 => bnd (ret ()) fun t501 => ret (t500, t501)) fun t502 => ret (enumF 0 t502.1)) fun xs => forW (fun (s503 : (Int × (List (Int × Int)))) y504 => (bnd (bnd (ret y504.2) fun b505 => ite b505 (bnd (bnd (bnd (bnd (ret v482) someW) fun t506 => bnd (ret s503.1) fun t507 => grd (ixOk t506 t507) (ret (ixAt t506 t507))) fun t509 => bnd (ret y504.1) fun t510 => grd (ixOk s503.2 t510) (ret (t510, t509))) fun v508 => (bnd (bnd (ret (1 : Int)) fun t512 => grd true (ret (s503.1 + t512))) fun v511 => (ret (Fl.nx (v511, (s503.2.set ((ixN s503.2.length v508.1).getD 0) v508.2)))))) (ret (Fl.nx (s503.1, s503.2)))) (sq fun (s513 : (Int × (List (Int × Int)))) => (ret (Fl.nx (s513.1, s513.2)))))) (v499, v490) xs) (sq fun (s514 : (Int × (List (Int × Int)))) => (bnd (bnd (ret s514.2) fun t515 => ret (some t515)) fun t516 => ret (Fl.rt t516)))))))))))
def w_told_by (x : ((List (Int × Int)) × (List (List (Int × Int))) × Unit)) : W (Option (List (Int × Int))) := fnR (wb_told_by x)
def wb_Table_init (x : ((List (List (List (Int × Int)))) × Unit)) : W (Fl ((List (List Int)) × Int × (List (List (List (Int × Int)))) × Unit) Empty Unit) := (bnd (bnd (ret x.1) fun xs => forW (fun (s517 : Unit) y518 => (bnd (bnd (ret y518) fun xs => forW (fun (s519 : Unit) y520 => (bnd (bnd (bnd (ret y520) fun t521 => bnd (ret ()) fun t522 => ret (t521, t522)) w_check_numbers) fun _ => (ret (Fl.nx ())))) () xs) (sq fun (s523 : Unit) => (ret (Fl.nx ()))))) () xs) (sq fun (s524 : Unit) => (bnd (bnd (bnd (ret x.1) fun t526 => bnd (ret ()) fun t527 => ret (t526, t527)) fun t528 => grd true (ret (t528.1.length : Int))) fun v525 => (bnd (bnd (ret x.1) fun xs547 => mapW (fun y530 => (bnd (bnd (bnd (bnd (ret y530) fun t531 => bnd (ret ()) fun t532 => ret (t531, t532)) fun t533 => grd true (ret (t533.1.length : Int))) fun t534 => bnd (ret v525) fun t535 => ret (decide (t534 = t535))) fun t546 => ite t546 (bnd (bnd (bnd (ret y530) fun xs542 => mapW (fun y536 => (bnd (bnd (bnd (ret y536) fun t537 => bnd (ret ()) fun t538 => ret (t537, t538)) fun t539 => grd true (ret (t539.1.length : Int))) fun t540 => bnd (ret v525) fun t541 => ret (decide (t540 = t541)))) xs542) fun t543 => bnd (ret ()) fun t544 => ret (t543, t544)) fun t545 => grd true (ret (t545.1.all id))) (ret false))) xs547) fun v529 => (bnd (bnd (bnd (bnd (ret v525) fun t548 => bnd (ret (0 : Int)) fun t549 => ret (decide (t548 = t549))) fun t554 => ite t554 (ret true) (bnd (bnd (bnd (ret v529) fun t550 => bnd (ret ()) fun t551 => ret (t550, t551)) fun t552 => grd true (ret (t552.1.all id))) fun t553 => ret (!t553))) fun b555 => ite b555 stuck (ret (Fl.nx ()))) (sq fun (_ : Unit) => (bnd (bnd (ret x.1) fun t559 => ret t559) fun v560 => (bnd (bnd (bnd (bnd (ret x.1) fun xs => fldW (fun acc y561 => bnd (ret y561) fun xs0 => fldW (fun acc y562 => bnd (ret y562) fun xs1 => fldW (fun acc y563 => addW (ret y563) acc) acc xs1) acc xs0) ([] : List (Int × Int)) xs) fun t564 => bnd (ret ()) fun t565 => ret (t564, t565)) w_integers_of) fun v566 => (bnd (bnd (bnd (ret (0 : Int)) fun t576 => bnd (bnd (bnd (bnd (ret v525) fun t568 => bnd (ret v525) fun t569 => grd (mulOk t568 t569) (ret (t568 * t569))) fun t570 => bnd (ret v525) fun t571 => grd (mulOk t570 t571) (ret (t570 * t571))) fun t574 => bnd (bnd (ret v525) fun t572 => bnd (ret ()) fun t573 => ret (t572, t573)) fun t575 => ret (t574, t575)) fun t577 => ret (t576, t577)) fun t578 => grd (rgOk t578.1 t578.2.1 t578.2.2.1) (ret (stepF t578.1 t578.2.2.1 (rgN t578.1 t578.2.1 t578.2.2.1)))) fun v567 => (bnd (bnd (ret v567) fun xs587 => mapW (fun y579 => (bnd (ret v566.1) fun t584 => bnd (bnd (ret y579) fun t580 => ret (some t580)) fun t585 => bnd (bnd (bnd (ret y579) fun t581 => bnd (ret v525) fun t582 => ret (t581 + t582)) fun t583 => ret (some t583)) fun t586 => ret ((t584.drop (HT.sIx t584.length 0 t585)).take (HT.sIx t584.length t584.length t586 - HT.sIx t584.length 0 t585)))) xs587) fun v588 => (ret (Fl.nx (v588, (v566.2, (v560, ())))))))))))))))
def w_Table_init (x : ((List (List (List (Int × Int)))) × Unit)) : W ((List (List Int)) × Int × (List (List (List (Int × Int)))) × Unit) := fnI (wb_Table_init x)
def wb_Table_size (x : (((List (List Int)) × Int × (List (List (List (Int × Int)))) × Unit) × Unit)) : W (Fl Empty Empty Int) := (bnd (bnd (bnd (bnd (ret x.1) fun t589 => ret t589.2.2.1) fun t590 => bnd (ret ()) fun t591 => ret (t590, t591)) fun t592 => grd true (ret (t592.1.length : Int))) fun t593 => ret (Fl.rt t593))
def w_Table_size (x : (((List (List Int)) × Int × (List (List (List (Int × Int)))) × Unit) × Unit)) : W Int := fnR (wb_Table_size x)
def wb_Table_products (x : (((List (List Int)) × Int × (List (List (List (Int × Int)))) × Unit) × Unit)) : W (Fl Empty Empty (List (List (List (Int × Int))))) := (bnd (bnd (bnd (ret x.1) fun t594 => ret t594.2.2.1) fun t598 => ret t598) fun t599 => ret (Fl.rt t599))
def w_Table_products (x : (((List (List Int)) × Int × (List (List (List (Int × Int)))) × Unit) × Unit)) : W (List (List (List (Int × Int)))) := fnR (wb_Table_products x)
def wb_Table_eq (x : (((List (List Int)) × Int × (List (List (List (Int × Int)))) × Unit) × ((List (List Int)) × Int × (List (List (List (Int × Int)))) × Unit) × Unit)) : W (Fl Empty Empty Bool) := (bnd (bnd (bnd (ret x.2.1) fun t600 => ret true) fun t605 => ite t605 (bnd (bnd (ret x.1) fun t601 => ret t601.2.2.1) fun t603 => bnd (bnd (ret x.2.1) fun t602 => ret t602.2.2.1) fun t604 => ret (PyData.eqv (PyData.list (List.map (fun z => (PyData.list (List.map (fun z => (PyData.list (List.map (fun z => (PyData.tuple [(PyData.int z.1), (PyData.int z.2)])) z))) z))) t603)) (PyData.list (List.map (fun z => (PyData.list (List.map (fun z => (PyData.list (List.map (fun z => (PyData.tuple [(PyData.int z.1), (PyData.int z.2)])) z))) z))) t604)))) (ret false)) fun t606 => ret (Fl.rt t606))
def w_Table_eq (x : (((List (List Int)) × Int × (List (List (List (Int × Int)))) × Unit) × ((List (List Int)) × Int × (List (List (List (Int × Int)))) × Unit) × Unit)) : W Bool := fnR (wb_Table_eq x)
def wb_Table_product_without_checks (x : (((List (List Int)) × Int × (List (List (List (Int × Int)))) × Unit) × (List (Int × Int)) × (List (Int × Int)) × Unit)) : W (Fl Empty Empty (List (Int × Int))) := (bnd (bnd (bnd (ret x.2.1) fun t627 => bnd (ret ()) fun t628 => ret (t627, t628)) w_integers_of) fun v626 => (bnd (bnd (bnd (ret x.2.2.1) fun t630 => bnd (ret ()) fun t631 => ret (t630, t631)) w_integers_of) fun v629 => (bnd (bnd (bnd (ret v626.1) fun t633 => bnd (ret ()) fun t634 => ret (t633, t634)) fun t635 => grd true (ret (t635.1.length : Int))) fun v632 => (bnd (bnd (bnd (ret (0 : Int)) fun t637 => bnd (ret ([] : List Int)) fun t638 => ret (t637 :: t638)) fun t639 => bnd (ret v632) fun t640 => grd (repOk t639.length t640) (ret (List.replicate t640.toNat t639).flatten)) fun v636 => (bnd (bnd (bnd (bnd (ret v632) fun t642 => bnd (ret ()) fun t643 => ret (t642, t643)) fun t644 => grd (rngOk 0 t644.1) (ret (rangeF 0 t644.1.toNat))) fun xs => forW (fun (s645 : ((List Int))) y646 => (bnd (bnd (bnd (bnd (ret v632) fun t647 => bnd (ret ()) fun t648 => ret (t647, t648)) fun t649 => grd (rngOk 0 t649.1) (ret (rangeF 0 t649.1.toNat))) fun xs => forW (fun (s650 : ((List Int))) y651 => (bnd (bnd (bnd (ret v626.1) fun t653 => bnd (ret y646) fun t654 => grd (ixOk t653 t654) (ret (ixAt t653 t654))) fun t657 => bnd (bnd (ret v629.1) fun t655 => bnd (ret y651) fun t656 => grd (ixOk t655 t656) (ret (ixAt t655 t656))) fun t658 => grd (mulOk t657 t658) (ret (t657 * t658))) fun v652 => (bnd (bnd (bnd (ret v652) fun t659 => bnd (ret (0 : Int)) fun t660 => ret (!decide (t659 = t660))) fun b661 => ite b661 (bnd (bnd (bnd (bnd (bnd (bnd (ret x.1) fun t662 => ret t662.1) fun t667 => bnd (bnd (bnd (ret y646) fun t663 => bnd (ret v632) fun t664 => grd (mulOk t663 t664) (ret (t663 * t664))) fun t665 => bnd (ret y651) fun t666 => ret (t665 + t666)) fun t668 => grd (ixOk t667 t668) (ret (ixAt t667 t668))) fun t669 => bnd (ret ()) fun t670 => ret (t669, t670)) fun t671 => ret (enumF 0 t671.1)) fun xs => forW (fun (s672 : ((List Int))) y673 => (bnd (bnd (ret y673.1) fun t677 => grd (ixOk s672 t677) (bnd (bnd (ret v652) fun t674 => bnd (ret y673.2) fun t675 => grd (mulOk t674 t675) (ret (t674 * t675))) fun t678 => grd true (ret (t677, ixAt s672 t677 + t678)))) fun v676 => (ret (Fl.nx ((s672.set ((ixN s672.length v676.1).getD 0) v676.2)))))) (s650) xs) (sq fun (s679 : ((List Int))) => (ret (Fl.nx (s679))))) (ret (Fl.nx (s650)))) (sq fun (s680 : ((List Int))) => (ret (Fl.nx (s680))))))) (s645) xs) (sq fun (s681 : ((List Int))) => (ret (Fl.nx (s681)))))) (v636) xs) (sq fun (s682 : ((List Int))) => (bnd (bnd (bnd (ret s682) fun t690 => bnd (bnd (bnd (bnd (ret v626.2) fun t683 => bnd (ret v629.2) fun t684 => grd (mulOk t683 t684) (ret (t683 * t684))) fun t686 => bnd (bnd (ret x.1) fun t685 => ret t685.2.1) fun t687 => grd (mulOk t686 t687) (ret (t686 * t687))) fun t688 => bnd (ret ()) fun t689 => ret (t688, t689)) fun t691 => ret (t690, t691)) w_numbers_of) fun t692 => ret (Fl.rt t692))))))))
def w_Table_product_without_checks (x : (((List (List Int)) × Int × (List (List (List (Int × Int)))) × Unit) × (List (Int × Int)) × (List (Int × Int)) × Unit)) : W (List (Int × Int)) := fnR (wb_Table_product_without_checks x)
def wb_Table_call (x : (((List (List Int)) × Int × (List (List (List (Int × Int)))) × Unit) × (List (Int × Int)) × (List (Int × Int)) × Unit)) : W (Fl Empty Empty (List (Int × Int))) := (bnd (bnd (bnd (bnd (ret x.2.1) fun t615 => bnd (bnd (ret x.2.2.1) fun t613 => bnd (ret ([] : List (List (Int × Int)))) fun t614 => ret (t613 :: t614)) fun t616 => ret (t615 :: t616)) fun t617 => bnd (bnd (bnd (bnd (bnd (ret x.1) fun t607 => ret t607.2.2.1) fun t608 => bnd (ret ()) fun t609 => ret (t608, t609)) fun t610 => grd true (ret (t610.1.length : Int))) fun t611 => bnd (ret ()) fun t612 => ret (t611, t612)) fun t618 => ret (t617, t618)) w_check_rows) fun _ => (bnd (bnd (ret x.1) fun t619 => bnd (bnd (ret x.2.1) fun t623 => bnd (bnd (ret x.2.2.1) fun t621 => bnd (ret ()) fun t622 => ret (t621, t622)) fun t624 => ret (t623, t624)) fun t620 => w_Table_product_without_checks (t619, t620)) fun t625 => ret (Fl.rt t625)))
def w_Table_call (x : (((List (List Int)) × Int × (List (List (List (Int × Int)))) × Unit) × (List (Int × Int)) × (List (Int × Int)) × Unit)) : W (List (Int × Int)) := fnR (wb_Table_call x)
def wb_product_of (x : (((List (List Int)) × Int × (List (List (List (Int × Int)))) × Unit) × (List (Int × Int)) × (List (Int × Int)) × Unit)) : W (Fl Empty Empty (List (Int × Int))) := (bnd (bnd (ret x.1) fun t693 => bnd (bnd (ret x.2.1) fun t697 => bnd (bnd (ret x.2.2.1) fun t695 => bnd (ret ()) fun t696 => ret (t695, t696)) fun t698 => ret (t697, t698)) fun t694 => w_Table_product_without_checks (t693, t694)) fun t699 => ret (Fl.rt t699))
def w_product_of (x : (((List (List Int)) × Int × (List (List (List (Int × Int)))) × Unit) × (List (Int × Int)) × (List (Int × Int)) × Unit)) : W (List (Int × Int)) := fnR (wb_product_of x)
def wb_over (x : (((List (List Int)) × Int × (List (List (List (Int × Int)))) × Unit) × (List (List (Int × Int))) × Unit)) : W (Fl Empty Empty ((List (List Int)) × Int × (List (List (List (Int × Int)))) × Unit)) := (bnd (bnd (ret x.1) fun t701 => w_Table_size (t701, ())) fun v700 => (bnd (bnd (bnd (ret x.2.1) fun t704 => bnd (bnd (ret v700) fun t702 => bnd (ret ()) fun t703 => ret (t702, t703)) fun t705 => ret (t704, t705)) w_check_rows) fun _ => (bnd (ret x.2.1) fun xs => bnd (putsW gdL w_Basis_put [] xs) fun z706 => (bnd (bnd (bnd (bnd (bnd (bnd (ret x.2.1) fun t707 => bnd (ret ()) fun t708 => ret (t707, t708)) fun t709 => grd true (ret (t709.1.length : Int))) fun t710 => bnd (ret v700) fun t711 => ret (!decide (t710 = t711))) fun t716 => ite t716 (ret true) (bnd (bnd (bnd (ret z706.2) fun t712 => bnd (ret ()) fun t713 => ret (t712, t713)) fun t714 => grd true (ret (t714.1.all id))) fun t715 => ret (!t715))) fun b717 => ite b717 stuck (ret (Fl.nx ()))) (sq fun (_ : Unit) => (bnd (bnd (bnd (bnd (ret x.2.1) fun xs731 => mapW (fun y718 => (bnd (ret x.2.1) fun xs730 => mapW (fun y719 => (bnd (bnd (ret (z706.1, ())) fun t720 => bnd (bnd (bnd (bnd (ret x.1) fun t726 => bnd (bnd (ret y718) fun t724 => bnd (bnd (ret y719) fun t722 => bnd (ret ()) fun t723 => ret (t722, t723)) fun t725 => ret (t724, t725)) fun t727 => ret (t726, t727)) w_product_of) fun t728 => bnd (ret ()) fun t729 => ret (t728, t729)) fun t721 => w_Basis_told (t720, t721)) someW)) xs730)) xs731) fun t732 => bnd (ret ()) fun t733 => ret (t732, t733)) w_Table_init) fun t734 => ret (Fl.rt t734)))))))
def w_over (x : (((List (List Int)) × Int × (List (List (List (Int × Int)))) × Unit) × (List (List (Int × Int))) × Unit)) : W ((List (List Int)) × Int × (List (List (List (Int × Int)))) × Unit) := fnR (wb_over x)
def wb_law_low (x : (Int × Int × Unit)) : W (Fl Empty Empty (Int × Int)) := (bnd (bnd (bnd (bnd (ret x.1) fun t736 => bnd (ret ()) fun t737 => ret (t736, t737)) fun t738 => grd true (ret (if t738.1 < 0 then -t738.1 else t738.1))) fun t744 => bnd (bnd (bnd (bnd (ret x.2.1) fun t739 => bnd (ret ()) fun t740 => ret (t739, t740)) fun t741 => grd true (ret (if t741.1 < 0 then -t741.1 else t741.1))) fun t742 => bnd (ret ()) fun t743 => ret (t742, t743)) fun t745 => ret (t744, t745)) fun v735 => (bnd (whW (fun (s746 : (Int × Int)) => (bnd (ret s746.2) fun t747 => bnd (ret (0 : Int)) fun t748 => ret (!decide (t747 = t748)))) (fun (s746 : (Int × Int)) => (bnd (bnd (ret s746.2) fun t757 => bnd (bnd (bnd (bnd (bnd (ret s746.1) fun t750 => bnd (ret ()) fun t751 => ret (t750, t751)) fun t752 => grd true (ret t752.1)) fun t753 => bnd (ret s746.2) fun t754 => grd (modOk t753 t754) (ret (t753 % t754))) fun t755 => bnd (ret ()) fun t756 => ret (t755, t756)) fun t758 => ret (t757, t758)) fun v749 => (ret (Fl.nx (v749.1, v749.2.1))))) (Int.toNat v735.2.1 + 1) (v735.1, v735.2.1)) (sq fun (s759 : (Int × Int)) => (bnd (bnd (bnd (ret x.2.1) fun t760 => bnd (ret (0 : Int)) fun t761 => ret (decide (t761 < t760))) fun t782 => ite t782 (bnd (bnd (bnd (ret x.1) fun t762 => bnd (ret s759.1) fun t763 => grd (fdivOk t762 t763) (ret (Int.fdiv t762 t763))) fun t768 => bnd (bnd (bnd (ret x.2.1) fun t764 => bnd (ret s759.1) fun t765 => grd (fdivOk t764 t765) (ret (Int.fdiv t764 t765))) fun t766 => bnd (ret ()) fun t767 => ret (t766, t767)) fun t769 => ret (t768, t769)) fun t770 => ret (t770.1, t770.2.1)) (bnd (bnd (bnd (bnd (ret x.1) fun t771 => ret (-t771)) fun t772 => bnd (ret s759.1) fun t773 => grd (fdivOk t772 t773) (ret (Int.fdiv t772 t773))) fun t779 => bnd (bnd (bnd (bnd (ret x.2.1) fun t774 => ret (-t774)) fun t775 => bnd (ret s759.1) fun t776 => grd (fdivOk t775 t776) (ret (Int.fdiv t775 t776))) fun t777 => bnd (ret ()) fun t778 => ret (t777, t778)) fun t780 => ret (t779, t780)) fun t781 => ret (t781.1, t781.2.1))) fun t783 => ret (Fl.rt t783)))))
def w_law_low (x : (Int × Int × Unit)) : W (Int × Int) := fnR (wb_law_low x)
def wb_law_add (x : ((Int × Int) × (Int × Int) × Unit)) : W (Fl Empty Empty (Int × Int)) := (bnd (bnd (bnd (bnd (bnd (bnd (ret x.1) fun t790 => ret t790.1) fun t792 => bnd (bnd (ret x.2.1) fun t791 => ret t791.2) fun t793 => grd (mulOk t792 t793) (ret (t792 * t793))) fun t798 => bnd (bnd (bnd (ret x.2.1) fun t794 => ret t794.1) fun t796 => bnd (bnd (ret x.1) fun t795 => ret t795.2) fun t797 => grd (mulOk t796 t797) (ret (t796 * t797))) fun t799 => ret (t798 + t799)) fun t800 => bnd (bnd (bnd (bnd (ret x.1) fun t784 => ret t784.2) fun t786 => bnd (bnd (ret x.2.1) fun t785 => ret t785.2) fun t787 => grd (mulOk t786 t787) (ret (t786 * t787))) fun t788 => bnd (ret ()) fun t789 => ret (t788, t789)) fun t801 => ret (t800, t801)) w_law_low) fun t802 => ret (Fl.rt t802))
def w_law_add (x : ((Int × Int) × (Int × Int) × Unit)) : W (Int × Int) := fnR (wb_law_add x)
def wb_law_mul (x : ((Int × Int) × (Int × Int) × Unit)) : W (Fl Empty Empty (Int × Int)) := (bnd (bnd (bnd (bnd (bnd (ret x.1) fun t809 => ret t809.1) fun t811 => bnd (bnd (ret x.2.1) fun t810 => ret t810.1) fun t812 => grd (mulOk t811 t812) (ret (t811 * t812))) fun t813 => bnd (bnd (bnd (bnd (ret x.1) fun t803 => ret t803.2) fun t805 => bnd (bnd (ret x.2.1) fun t804 => ret t804.2) fun t806 => grd (mulOk t805 t806) (ret (t805 * t806))) fun t807 => bnd (ret ()) fun t808 => ret (t807, t808)) fun t814 => ret (t813, t814)) w_law_low) fun t815 => ret (Fl.rt t815))
def w_law_mul (x : ((Int × Int) × (Int × Int) × Unit)) : W (Int × Int) := fnR (wb_law_mul x)
def wb_law_number (x : (Bool × Unit)) : W (Fl Empty Empty (Int × Int)) := (bnd (bnd (bnd (ret (7 : Int)) fun t817 => bnd (ret ()) fun t818 => ret (t817, t818)) (fun x => pickW x.1)) fun v816 => (bnd (bnd (bnd (ret v816) fun t819 => bnd (ret (2 : Int)) fun t820 => ret (decide (t819 < t820))) fun b821 => ite b821 (bnd (bnd (bnd (ret v816) fun t824 => bnd (bnd (ret (1 : Int)) fun t822 => bnd (ret ()) fun t823 => ret (t822, t823)) fun t825 => ret (t824, t825)) fun t826 => ret (t826.1, t826.2.1)) fun t827 => ret (Fl.rt t827)) (ret (Fl.nx ()))) (sq fun (_ : Unit) => (bnd (bnd (ret x.1) fun t843 => ite t843 (bnd (bnd (ret (9 : Int)) fun t837 => bnd (bnd (ret (9 : Int)) fun t835 => bnd (bnd (ret (9 : Int)) fun t833 => bnd (bnd (ret (99 : Int)) fun t831 => bnd (bnd (ret (9999 : Int)) fun t829 => bnd (ret ([] : List Int)) fun t830 => ret (t829 :: t830)) fun t832 => ret (t831 :: t832)) fun t834 => ret (t833 :: t834)) fun t836 => ret (t835 :: t836)) fun t838 => ret (t837 :: t838)) fun t841 => bnd (bnd (ret v816) fun t839 => bnd (ret (2 : Int)) fun t840 => ret (t839 - t840)) fun t842 => grd (ixOk t841 t842) (ret (ixAt t841 t842))) (ret (9 : Int))) fun v828 => (bnd (bnd (bnd (ret (1 : Int)) fun t847 => bnd (bnd (bnd (ret v828) fun t845 => bnd (ret ()) fun t846 => ret (t845, t846)) (fun x => pickW x.1)) fun t848 => ret (t847 + t848)) fun t863 => bnd (bnd (bnd (ret (1 : Int)) fun t859 => bnd (bnd (bnd (bnd (bnd (ret (1 : Int)) fun t851 => bnd (bnd (ret v828) fun t849 => bnd (ret ([] : List Int)) fun t850 => ret (t849 :: t850)) fun t852 => ret (t851 :: t852)) fun t855 => bnd (bnd (bnd (ret (2 : Int)) fun t853 => bnd (ret ()) fun t854 => ret (t853, t854)) (fun x => pickW x.1)) fun t856 => grd (ixOk t855 t856) (ret (ixAt t855 t856))) fun t857 => bnd (ret ()) fun t858 => ret (t857, t858)) (fun x => pickW x.1)) fun t860 => ret (t859 + t860)) fun t861 => bnd (ret ()) fun t862 => ret (t861, t862)) fun t864 => ret (t863, t864)) fun v844 => (bnd (bnd (bnd (bnd (bnd (ret v844.1) fun t870 => bnd (bnd (bnd (ret v844.1) fun t867 => ret (-t867)) fun t868 => bnd (ret ([] : List Int)) fun t869 => ret (t868 :: t869)) fun t871 => ret (t870 :: t871)) fun t874 => bnd (bnd (bnd (ret (2 : Int)) fun t872 => bnd (ret ()) fun t873 => ret (t872, t873)) (fun x => pickW x.1)) fun t875 => grd (ixOk t874 t875) (ret (ixAt t874 t875))) fun t876 => bnd (bnd (ret v844.2.1) fun t865 => bnd (ret ()) fun t866 => ret (t865, t866)) fun t877 => ret (t876, t877)) w_law_low) fun t878 => ret (Fl.rt t878)))))))
def w_law_number (x : (Bool × Unit)) : W (Int × Int) := fnR (wb_law_number x)
def w_law_alike : Nat → (D × D × Unit) → W Bool
  | 0, _ => stuck
  | n + 1, x => fnR ((bnd (bnd (bnd (ret x.2.1) fun t879 => ret (nonD t879)) fun b880 => ite b880 (bnd (bnd (ret x.1) fun t881 => ret (nonD t881)) fun t882 => ret (Fl.rt t882)) (ret (Fl.nx ()))) (sq fun (_ : Unit) => (bnd (bnd (bnd (ret x.2.1) fun t883 => ret (isD "list" t883 || isD "tuple" t883)) fun b884 => ite b884 (bnd (bnd (bnd (ret x.2.1) fun t886 => ret (isD "list" t886)) fun t889 => ite t889 (bnd (ret x.1) fun t887 => ret (isD "list" t887)) (bnd (ret x.1) fun t888 => ret (isD "tuple" t888))) fun v885 => (bnd (bnd (bnd (bnd (ret v885) fun t890 => ret (!t890)) fun t899 => ite t899 (ret true) (bnd (bnd (bnd (ret x.1) fun t891 => bnd (ret ()) fun t892 => ret (t891, t892)) fun t893 => grd (seqD t893.1) (ret ((itemsD t893.1).length : Int))) fun t897 => bnd (bnd (bnd (ret x.2.1) fun t894 => bnd (ret ()) fun t895 => ret (t894, t895)) fun t896 => grd (seqD t896.1) (ret ((itemsD t896.1).length : Int))) fun t898 => ret (!decide (t897 = t898)))) fun b900 => ite b900 (bnd (ret false) fun t901 => ret (Fl.rt t901)) (ret (Fl.nx ()))) (sq fun (_ : Unit) => (bnd (bnd (bnd (bnd (bnd (bnd (ret x.2.1) fun t902 => bnd (ret ()) fun t903 => ret (t902, t903)) fun t904 => grd (seqD t904.1) (ret ((itemsD t904.1).length : Int))) fun t905 => bnd (ret ()) fun t906 => ret (t905, t906)) fun t907 => grd (rngOk 0 t907.1) (ret (rangeF 0 t907.1.toNat))) fun xs => forW (fun (s908 : Unit) y909 => (bnd (bnd (bnd (bnd (bnd (bnd (ret x.1) fun t914 => bnd (ret y909) fun t915 => grd (seqD t914 && ixOk (itemsD t914) t915) (ret (ixAt (itemsD t914) t915))) fun t916 => bnd (bnd (bnd (ret x.2.1) fun t910 => bnd (ret y909) fun t911 => grd (seqD t910 && ixOk (itemsD t910) t911) (ret (ixAt (itemsD t910) t911))) fun t912 => bnd (ret ()) fun t913 => ret (t912, t913)) fun t917 => ret (t916, t917)) (w_law_alike n)) fun t918 => ret (!t918)) fun b919 => ite b919 (bnd (ret false) fun t920 => ret (Fl.rt t920)) (ret (Fl.nx ()))) (sq fun (_ : Unit) => (ret (Fl.nx ()))))) () xs) (sq fun (s921 : Unit) => (bnd (ret true) fun t922 => ret (Fl.rt t922))))))) (ret (Fl.nx ()))) (sq fun (_ : Unit) => (bnd (bnd (bnd (ret x.1) fun t923 => ret (isD "int" t923)) fun t931 => ite t931 (bnd (bnd (bnd (ret x.1) fun t924 => ret (isD "bool" t924)) fun t926 => bnd (bnd (ret x.2.1) fun t925 => ret (isD "bool" t925)) fun t927 => ret (t926 == t927)) fun t930 => ite t930 (bnd (ret x.1) fun t928 => bnd (ret x.2.1) fun t929 => grd (SeqAt.shaped (toP t928) && SeqAt.shaped (toP t929)) (ret (PyData.eqv (toP t928) (toP t929)))) (ret false)) (ret false)) fun t932 => ret (Fl.rt t932)))))))
def wb_law_products (x : (Int × Bool × Unit)) : W (Fl Empty Empty (List (List (List (Int × Int))))) := (bnd (bnd (bnd (ret (4 : Int)) fun t933 => bnd (ret ()) fun t934 => ret (t933, t934)) (fun x => pickW x.1)) fun v935 => (bnd (bnd (bnd (bnd (ret x.1) fun t937 => bnd (ret ()) fun t938 => ret (t937, t938)) fun t939 => grd (rngOk 0 t939.1) (ret (rangeF 0 t939.1.toNat))) fun xs => forW (fun (s940 : ((List (List (List (Int × Int)))))) y941 => (bnd (ret ([] : List (List (Int × Int)))) fun v942 => (bnd (bnd (bnd (bnd (ret x.1) fun t944 => bnd (ret ()) fun t945 => ret (t944, t945)) fun t946 => grd (rngOk 0 t946.1) (ret (rangeF 0 t946.1.toNat))) fun xs => forW (fun (s947 : ((List (List (Int × Int))))) y948 => (bnd (bnd (bnd (bnd (bnd (ret (0 : Int)) fun t952 => bnd (bnd (ret (1 : Int)) fun t950 => bnd (ret ()) fun t951 => ret (t950, t951)) fun t953 => ret (t952, t953)) fun t954 => ret (t954.1, t954.2.1)) fun t955 => bnd (ret ([] : List (Int × Int))) fun t956 => ret (t955 :: t956)) fun t957 => bnd (ret x.1) fun t958 => grd (repOk t957.length t958) (ret (List.replicate t958.toNat t957).flatten)) fun v949 => (bnd (bnd (bnd (ret v935) fun t960 => bnd (ret (3 : Int)) fun t961 => ret (decide (t960 = t961))) fun b962 => ite b962 (bnd (bnd (bnd (bnd (ret x.2.1) fun t963 => bnd (ret ()) fun t964 => ret (t963, t964)) w_law_number) fun t968 => bnd (bnd (bnd (ret x.1) fun t965 => bnd (ret ()) fun t966 => ret (t965, t966)) (fun x => pickW x.1)) fun t969 => grd (ixOk v949 t969) (ret (t969, t968))) fun v967 => (ret (Fl.nx ((v949.set ((ixN v949.length v967.1).getD 0) v967.2))))) (bnd (bnd (bnd (bnd (ret v935) fun t970 => bnd (ret (0 : Int)) fun t971 => ret (decide (t970 = t971))) fun t976 => ite t976 (ret true) (bnd (bnd (bnd (ret (2 : Int)) fun t972 => bnd (ret ()) fun t973 => ret (t972, t973)) (fun x => pickW x.1)) fun t974 => bnd (ret (0 : Int)) fun t975 => ret (decide (t974 = t975)))) fun b977 => ite b977 (bnd (bnd (bnd (bnd (ret x.1) fun t979 => bnd (ret ()) fun t980 => ret (t979, t980)) fun t981 => grd (rngOk 0 t981.1) (ret (rangeF 0 t981.1.toNat))) fun xs985 => mapW (fun y982 => (bnd (bnd (ret x.2.1) fun t983 => bnd (ret ()) fun t984 => ret (t983, t984)) w_law_number)) xs985) fun v978 => (ret (Fl.nx (v978)))) (ret (Fl.nx (v949)))) (sq fun (s986 : ((List (Int × Int)))) => (ret (Fl.nx (s986)))))) (sq fun (s987 : ((List (Int × Int)))) => (bnd (bnd (bnd (bnd (ret v935) fun t988 => bnd (ret (2 : Int)) fun t989 => ret (decide (t988 = t989))) fun t992 => ite t992 (bnd (ret y948) fun t990 => bnd (ret y941) fun t991 => ret (decide (t990 < t991))) (ret false)) fun b993 => ite b993 (bnd (bnd (bnd (bnd (bnd (ret y948) fun t995 => grd (ixOk s940 t995) (ret (ixAt s940 t995))) fun t996 => bnd (ret y941) fun t997 => grd (ixOk t996 t997) (ret (ixAt t996 t997))) fun t998 => bnd (ret ()) fun t999 => ret (t998, t999)) fun t1000 => grd true (ret t1000.1)) fun v994 => (ret (Fl.nx (v994)))) (ret (Fl.nx (s987)))) (sq fun (s1001 : ((List (Int × Int)))) => (bnd (bnd (ret s1001) fun t1003 => grd (decide (s947.length < 16777216)) (ret t1003)) fun v1002 => (ret (Fl.nx ((s947 ++ [v1002]))))))))))) (v942) xs) (sq fun (s1004 : ((List (List (Int × Int))))) => (bnd (bnd (ret s1004) fun t1006 => grd (decide (s940.length < 16777216)) (ret t1006)) fun v1005 => (ret (Fl.nx ((s940 ++ [v1005]))))))))) (([] : (List (List (List (Int × Int)))))) xs) (sq fun (s1007 : ((List (List (List (Int × Int)))))) => (bnd (ret s1007) fun t1008 => ret (Fl.rt t1008)))))
def w_law_products (x : (Int × Bool × Unit)) : W (List (List (List (Int × Int)))) := fnR (wb_law_products x)
def wb_law_times (x : ((List (List (List (Int × Int)))) × (List (Int × Int)) × (List (Int × Int)) × Unit)) : W (Fl Empty Empty (List (Int × Int))) := (bnd (bnd (bnd (bnd (bnd (ret (0 : Int)) fun t1012 => bnd (bnd (ret (1 : Int)) fun t1010 => bnd (ret ()) fun t1011 => ret (t1010, t1011)) fun t1013 => ret (t1012, t1013)) fun t1014 => ret (t1014.1, t1014.2.1)) fun t1015 => bnd (ret ([] : List (Int × Int))) fun t1016 => ret (t1015 :: t1016)) fun t1020 => bnd (bnd (bnd (ret x.1) fun t1017 => bnd (ret ()) fun t1018 => ret (t1017, t1018)) fun t1019 => grd true (ret (t1019.1.length : Int))) fun t1021 => grd (repOk t1020.length t1021) (ret (List.replicate t1021.toNat t1020).flatten)) fun v1009 => (bnd (bnd (bnd (bnd (bnd (bnd (ret x.1) fun t1022 => bnd (ret ()) fun t1023 => ret (t1022, t1023)) fun t1024 => grd true (ret (t1024.1.length : Int))) fun t1025 => bnd (ret ()) fun t1026 => ret (t1025, t1026)) fun t1027 => grd (rngOk 0 t1027.1) (ret (rangeF 0 t1027.1.toNat))) fun xs => forW (fun (s1028 : ((List (Int × Int)))) y1029 => (bnd (bnd (bnd (bnd (bnd (bnd (ret x.1) fun t1030 => bnd (ret ()) fun t1031 => ret (t1030, t1031)) fun t1032 => grd true (ret (t1032.1.length : Int))) fun t1033 => bnd (ret ()) fun t1034 => ret (t1033, t1034)) fun t1035 => grd (rngOk 0 t1035.1) (ret (rangeF 0 t1035.1.toNat))) fun xs => forW (fun (s1036 : ((List (Int × Int)))) y1037 => (bnd (bnd (bnd (bnd (ret x.2.1) fun t1043 => bnd (ret y1029) fun t1044 => grd (ixOk t1043 t1044) (ret (ixAt t1043 t1044))) fun t1045 => bnd (bnd (bnd (ret x.2.2.1) fun t1039 => bnd (ret y1037) fun t1040 => grd (ixOk t1039 t1040) (ret (ixAt t1039 t1040))) fun t1041 => bnd (ret ()) fun t1042 => ret (t1041, t1042)) fun t1046 => ret (t1045, t1046)) w_law_mul) fun v1038 => (bnd (bnd (bnd (bnd (ret v1038) fun t1047 => ret t1047.1) fun t1048 => bnd (ret (0 : Int)) fun t1049 => ret (!decide (t1048 = t1049))) fun b1050 => ite b1050 (bnd (bnd (bnd (bnd (ret s1036) fun t1058 => bnd (bnd (bnd (bnd (ret x.1) fun t1052 => bnd (ret y1029) fun t1053 => grd (ixOk t1052 t1053) (ret (ixAt t1052 t1053))) fun t1054 => bnd (ret y1037) fun t1055 => grd (ixOk t1054 t1055) (ret (ixAt t1054 t1055))) fun t1056 => bnd (ret ()) fun t1057 => ret (t1056, t1057)) fun t1059 => ret (t1058, t1059)) fun t1060 => ret (t1060.1.zip t1060.2.1)) fun xs1074 => mapW (fun y1061 => (bnd (bnd (bnd (ret y1061.2) fun t1062 => ret t1062.1) fun t1063 => bnd (ret (0 : Int)) fun t1064 => ret (decide (t1063 = t1064))) fun t1073 => ite t1073 (ret y1061.1) (bnd (bnd (ret y1061.1) fun t1071 => bnd (bnd (bnd (bnd (ret v1038) fun t1067 => bnd (bnd (ret y1061.2) fun t1065 => bnd (ret ()) fun t1066 => ret (t1065, t1066)) fun t1068 => ret (t1067, t1068)) w_law_mul) fun t1069 => bnd (ret ()) fun t1070 => ret (t1069, t1070)) fun t1072 => ret (t1071, t1072)) w_law_add))) xs1074) fun v1051 => (ret (Fl.nx (v1051)))) (ret (Fl.nx (s1036)))) (sq fun (s1075 : ((List (Int × Int)))) => (ret (Fl.nx (s1075))))))) (s1028) xs) (sq fun (s1076 : ((List (Int × Int)))) => (ret (Fl.nx (s1076)))))) (v1009) xs) (sq fun (s1077 : ((List (Int × Int)))) => (bnd (ret s1077) fun t1078 => ret (Fl.rt t1078)))))
def w_law_times (x : ((List (List (List (Int × Int)))) × (List (Int × Int)) × (List (Int × Int)) × Unit)) : W (List (Int × Int)) := fnR (wb_law_times x)
def w_law_copied : Nat → (D × Unit) → W D
  | 0, _ => stuck
  | n + 1, x => fnR ((bnd (bnd (bnd (ret x.1) fun t1079 => ret (isD "list" t1079)) fun t1086 => ite t1086 (bnd (bnd (bnd (ret x.1) fun t1080 => grd (isLst t1080) (ret (itemsD t1080))) fun xs1084 => mapW (fun y1081 => (bnd (bnd (ret y1081) fun t1082 => bnd (ret ()) fun t1083 => ret (t1082, t1083)) (w_law_copied n))) xs1084) fun t1085 => ret (D.lst (List.map (fun z => z) t1085))) (ret x.1)) fun t1087 => ret (Fl.rt t1087)))
def w_law_wholes : Nat → (D × Unit) → W D
  | 0, _ => stuck
  | n + 1, x => fnR ((bnd (bnd (bnd (ret x.1) fun t1088 => ret (isD "list" t1088)) fun t1103 => ite t1103 (bnd (bnd (bnd (ret x.1) fun t1089 => grd (isLst t1089) (ret (itemsD t1089))) fun xs1093 => mapW (fun y1090 => (bnd (bnd (ret y1090) fun t1091 => bnd (ret ()) fun t1092 => ret (t1091, t1092)) (w_law_wholes n))) xs1093) fun t1094 => ret (D.lst (List.map (fun z => z) t1094))) (bnd (bnd (bnd (ret x.1) fun t1095 => bnd (ret (0 : Int)) fun t1096 => grd (seqD t1095 && ixOk (itemsD t1095) t1096) (ret (ixAt (itemsD t1095) t1096))) fun t1100 => bnd (bnd (bnd (ret (1 : Int)) fun t1097 => ret (D.int t1097)) fun t1098 => bnd (ret ([] : List D)) fun t1099 => ret (t1098 :: t1099)) fun t1101 => ret (t1100 :: t1101)) fun t1102 => ret (D.tup t1102))) fun t1104 => ret (Fl.rt t1104)))
def wb_law_total (x : ((List (Int × Int)) × (List (List (Int × Int))) × Int × Unit)) : W (Fl Empty Empty (List (Int × Int))) := (bnd (bnd (bnd (bnd (bnd (ret (0 : Int)) fun t1108 => bnd (bnd (ret (1 : Int)) fun t1106 => bnd (ret ()) fun t1107 => ret (t1106, t1107)) fun t1109 => ret (t1108, t1109)) fun t1110 => ret (t1110.1, t1110.2.1)) fun t1111 => bnd (ret ([] : List (Int × Int))) fun t1112 => ret (t1111 :: t1112)) fun t1113 => bnd (ret x.2.2.1) fun t1114 => grd (repOk t1113.length t1114) (ret (List.replicate t1114.toNat t1113).flatten)) fun v1105 => (bnd (bnd (bnd (bnd (ret x.1) fun t1117 => bnd (bnd (ret x.2.1) fun t1115 => bnd (ret ()) fun t1116 => ret (t1115, t1116)) fun t1118 => ret (t1117, t1118)) fun t1119 => ret (t1119.1.zip t1119.2.1)) fun xs => forW (fun (s1120 : ((List (Int × Int)))) y1121 => (bnd (bnd (bnd (bnd (ret s1120) fun t1125 => bnd (bnd (ret y1121.2) fun t1123 => bnd (ret ()) fun t1124 => ret (t1123, t1124)) fun t1126 => ret (t1125, t1126)) fun t1127 => ret (t1127.1.zip t1127.2.1)) fun xs1137 => mapW (fun y1128 => (bnd (bnd (ret y1128.1) fun t1135 => bnd (bnd (bnd (bnd (ret y1121.1) fun t1131 => bnd (bnd (ret y1128.2) fun t1129 => bnd (ret ()) fun t1130 => ret (t1129, t1130)) fun t1132 => ret (t1131, t1132)) w_law_mul) fun t1133 => bnd (ret ()) fun t1134 => ret (t1133, t1134)) fun t1136 => ret (t1135, t1136)) w_law_add)) xs1137) fun v1122 => (ret (Fl.nx (v1122))))) (v1105) xs) (sq fun (s1138 : ((List (Int × Int)))) => (bnd (ret s1138) fun t1139 => ret (Fl.rt t1139)))))
def w_law_total (x : ((List (Int × Int)) × (List (List (Int × Int))) × Int × Unit)) : W (List (Int × Int)) := fnR (wb_law_total x)
def wb_law_moved (x : ((List Int) × Unit)) : W (Fl Empty Empty (List Int)) := (bnd (ret x.1) fun v1140 => (bnd (bnd (bnd (bnd (bnd (bnd (ret x.1) fun t1142 => bnd (ret ()) fun t1143 => ret (t1142, t1143)) fun t1144 => grd true (ret (t1144.1.length : Int))) fun t1145 => bnd (ret ()) fun t1146 => ret (t1145, t1146)) fun t1147 => grd (rngOk 0 t1147.1) (ret (rangeF 0 t1147.1.toNat))) fun xs => forW (fun (s1148 : ((List Int) × (List Int))) y1149 => (bnd (bnd (bnd (bnd (ret (s1148.2.length : Int)) fun t1150 => bnd (ret ()) fun t1151 => ret (t1150, t1151)) (fun x => pickW x.1)) fun t1153 => grd (popOk s1148.1 s1148.2 t1153) (ret t1153)) fun v1152 => (ret (Fl.nx ((s1148.1 ++ [ixAt s1148.2 v1152]), (s1148.2.eraseIdx ((ixN s1148.2.length v1152).getD 0))))))) (([] : (List Int)), v1140) xs) (sq fun (s1154 : ((List Int) × (List Int))) => (bnd (ret s1154.1) fun t1155 => ret (Fl.rt t1155)))))
def w_law_moved (x : ((List Int) × Unit)) : W (List Int) := fnR (wb_law_moved x)
def wb_law_moved_v2 (x : ((List (List (Int × Int))) × Unit)) : W (Fl Empty Empty (List (List (Int × Int)))) := (bnd (ret x.1) fun v1156 => (bnd (bnd (bnd (bnd (bnd (bnd (ret x.1) fun t1158 => bnd (ret ()) fun t1159 => ret (t1158, t1159)) fun t1160 => grd true (ret (t1160.1.length : Int))) fun t1161 => bnd (ret ()) fun t1162 => ret (t1161, t1162)) fun t1163 => grd (rngOk 0 t1163.1) (ret (rangeF 0 t1163.1.toNat))) fun xs => forW (fun (s1164 : ((List (List (Int × Int))) × (List (List (Int × Int))))) y1165 => (bnd (bnd (bnd (bnd (ret (s1164.2.length : Int)) fun t1166 => bnd (ret ()) fun t1167 => ret (t1166, t1167)) (fun x => pickW x.1)) fun t1169 => grd (popOk s1164.1 s1164.2 t1169) (ret t1169)) fun v1168 => (ret (Fl.nx ((s1164.1 ++ [ixAt s1164.2 v1168]), (s1164.2.eraseIdx ((ixN s1164.2.length v1168).getD 0))))))) (([] : (List (List (Int × Int)))), v1156) xs) (sq fun (s1170 : ((List (List (Int × Int))) × (List (List (Int × Int))))) => (bnd (ret s1170.1) fun t1171 => ret (Fl.rt t1171)))))
def w_law_moved_v2 (x : ((List (List (Int × Int))) × Unit)) : W (List (List (Int × Int))) := fnR (wb_law_moved_v2 x)
def wb_law_basis (x : (Int × Unit)) : W (Fl Empty Empty (List (List (Int × Int)))) := (bnd (bnd (bnd (bnd (ret x.1) fun t1172 => grd (rngOk 0 t1172) (ret (rangeF 0 t1172.toNat))) fun t1173 => bnd (ret ()) fun t1174 => ret (t1173, t1174)) w_law_moved) fun v1175 => (bnd (bnd (bnd (bnd (ret x.1) fun t1177 => bnd (ret ()) fun t1178 => ret (t1177, t1178)) fun t1179 => grd (rngOk 0 t1179.1) (ret (rangeF 0 t1179.1.toNat))) fun xs => forW (fun (s1180 : ((List (List (Int × Int))))) y1181 => (bnd (bnd (bnd (bnd (bnd (ret (0 : Int)) fun t1185 => bnd (bnd (ret (1 : Int)) fun t1183 => bnd (ret ()) fun t1184 => ret (t1183, t1184)) fun t1186 => ret (t1185, t1186)) fun t1187 => ret (t1187.1, t1187.2.1)) fun t1188 => bnd (ret ([] : List (Int × Int))) fun t1189 => ret (t1188 :: t1189)) fun t1190 => bnd (ret x.1) fun t1191 => grd (repOk t1190.length t1191) (ret (List.replicate t1191.toNat t1190).flatten)) fun v1182 => (bnd (bnd (bnd (bnd (ret y1181) fun t1193 => bnd (ret ()) fun t1194 => ret (t1193, t1194)) fun t1195 => grd (rngOk 0 t1195.1) (ret (rangeF 0 t1195.1.toNat))) fun xs => forW (fun (s1196 : ((List (Int × Int)))) y1197 => (bnd (bnd (bnd (bnd (bnd (bnd (bnd (ret (5 : Int)) fun t1198 => bnd (ret ()) fun t1199 => ret (t1198, t1199)) (fun x => pickW x.1)) fun t1200 => bnd (ret (2 : Int)) fun t1201 => ret (t1200 - t1201)) fun t1204 => bnd (bnd (ret (1 : Int)) fun t1202 => bnd (ret ()) fun t1203 => ret (t1202, t1203)) fun t1205 => ret (t1204, t1205)) fun t1206 => ret (t1206.1, t1206.2.1)) fun t1210 => bnd (bnd (ret v1175) fun t1207 => bnd (ret y1197) fun t1208 => grd (ixOk t1207 t1208) (ret (ixAt t1207 t1208))) fun t1211 => grd (ixOk s1196 t1211) (ret (t1211, t1210))) fun v1209 => (ret (Fl.nx ((s1196.set ((ixN s1196.length v1209.1).getD 0) v1209.2)))))) (v1182) xs) (sq fun (s1212 : ((List (Int × Int)))) => (bnd (bnd (bnd (bnd (bnd (bnd (ret (1 : Int)) fun t1215 => bnd (bnd (ret (1 : Int)) fun t1213 => bnd (ret ()) fun t1214 => ret (t1213, t1214)) fun t1216 => ret (t1215, t1216)) fun t1217 => ret (t1217.1, t1217.2.1)) fun t1248 => bnd (bnd (bnd (bnd (bnd (ret (1 : Int)) fun t1218 => ret (-t1218)) fun t1221 => bnd (bnd (ret (1 : Int)) fun t1219 => bnd (ret ()) fun t1220 => ret (t1219, t1220)) fun t1222 => ret (t1221, t1222)) fun t1223 => ret (t1223.1, t1223.2.1)) fun t1246 => bnd (bnd (bnd (bnd (ret (2 : Int)) fun t1226 => bnd (bnd (ret (1 : Int)) fun t1224 => bnd (ret ()) fun t1225 => ret (t1224, t1225)) fun t1227 => ret (t1226, t1227)) fun t1228 => ret (t1228.1, t1228.2.1)) fun t1244 => bnd (bnd (bnd (bnd (ret (1 : Int)) fun t1231 => bnd (bnd (ret (3 : Int)) fun t1229 => bnd (ret ()) fun t1230 => ret (t1229, t1230)) fun t1232 => ret (t1231, t1232)) fun t1233 => ret (t1233.1, t1233.2.1)) fun t1242 => bnd (bnd (bnd (bnd (bnd (ret (3 : Int)) fun t1234 => ret (-t1234)) fun t1237 => bnd (bnd (ret (2 : Int)) fun t1235 => bnd (ret ()) fun t1236 => ret (t1235, t1236)) fun t1238 => ret (t1237, t1238)) fun t1239 => ret (t1239.1, t1239.2.1)) fun t1240 => bnd (ret ([] : List (Int × Int))) fun t1241 => ret (t1240 :: t1241)) fun t1243 => ret (t1242 :: t1243)) fun t1245 => ret (t1244 :: t1245)) fun t1247 => ret (t1246 :: t1247)) fun t1249 => ret (t1248 :: t1249)) fun t1252 => bnd (bnd (bnd (ret (5 : Int)) fun t1250 => bnd (ret ()) fun t1251 => ret (t1250, t1251)) (fun x => pickW x.1)) fun t1253 => grd (ixOk t1252 t1253) (ret (ixAt t1252 t1253))) fun t1257 => bnd (bnd (ret v1175) fun t1254 => bnd (ret y1181) fun t1255 => grd (ixOk t1254 t1255) (ret (ixAt t1254 t1255))) fun t1258 => grd (ixOk s1212 t1258) (ret (t1258, t1257))) fun v1256 => (bnd (bnd (ret (s1212.set ((ixN s1212.length v1256.1).getD 0) v1256.2)) fun t1260 => grd (decide (s1180.length < 16777216)) (ret t1260)) fun v1259 => (ret (Fl.nx ((s1180 ++ [v1259])))))))))) (([] : (List (List (Int × Int))))) xs) (sq fun (s1261 : ((List (List (Int × Int))))) => (bnd (bnd (bnd (ret s1261) fun t1262 => bnd (ret ()) fun t1263 => ret (t1262, t1263)) w_law_moved_v2) fun t1264 => ret (Fl.rt t1264)))))
def w_law_basis (x : (Int × Unit)) : W (List (List (Int × Int))) := fnR (wb_law_basis x)
def w_law_term : Nat → (Int × Unit) → W D
  | 0, _ => stuck
  | n + 1, x => fnR ((bnd (bnd (bnd (ret (5 : Int)) fun t1266 => bnd (ret ()) fun t1267 => ret (t1266, t1267)) (fun x => pickW x.1)) fun v1265 => (bnd (bnd (bnd (bnd (ret x.1) fun t1268 => bnd (ret (0 : Int)) fun t1269 => ret (decide (t1268 = t1269))) fun t1272 => ite t1272 (ret true) (bnd (ret v1265) fun t1270 => bnd (ret (0 : Int)) fun t1271 => ret (decide (t1270 = t1271)))) fun b1273 => ite b1273 (bnd (bnd (bnd (bnd (ret (Str.ofString "letter")) fun t1274 => ret (D.str t1274)) fun t1280 => bnd (bnd (bnd (bnd (bnd (ret (2 : Int)) fun t1275 => bnd (ret ()) fun t1276 => ret (t1275, t1276)) (fun x => pickW x.1)) fun t1277 => ret (D.int t1277)) fun t1278 => bnd (ret ([] : List D)) fun t1279 => ret (t1278 :: t1279)) fun t1281 => ret (t1280 :: t1281)) fun t1282 => ret (D.tup t1282)) fun t1283 => ret (Fl.rt t1283)) (ret (Fl.nx ()))) (sq fun (_ : Unit) => (bnd (bnd (bnd (ret v1265) fun t1284 => bnd (ret (1 : Int)) fun t1285 => ret (decide (t1284 = t1285))) fun b1286 => ite b1286 (bnd (bnd (bnd (bnd (ret (Str.ofString "take")) fun t1287 => ret (D.str t1287)) fun t1313 => bnd (bnd (bnd (bnd (bnd (bnd (bnd (bnd (ret (7 : Int)) fun t1288 => bnd (ret ()) fun t1289 => ret (t1288, t1289)) (fun x => pickW x.1)) fun t1290 => bnd (ret (3 : Int)) fun t1291 => ret (t1290 - t1291)) fun t1292 => ret (D.int t1292)) fun t1302 => bnd (bnd (bnd (bnd (ret (1 : Int)) fun t1297 => bnd (bnd (bnd (bnd (ret (2 : Int)) fun t1293 => bnd (ret ()) fun t1294 => ret (t1293, t1294)) (fun x => pickW x.1)) fun t1295 => bnd (ret (6 : Int)) fun t1296 => grd (mulOk t1295 t1296) (ret (t1295 * t1296))) fun t1298 => ret (t1297 + t1298)) fun t1299 => ret (D.int t1299)) fun t1300 => bnd (ret ([] : List D)) fun t1301 => ret (t1300 :: t1301)) fun t1303 => ret (t1302 :: t1303)) fun t1304 => ret (D.tup t1304)) fun t1311 => bnd (bnd (bnd (bnd (bnd (ret x.1) fun t1305 => bnd (ret (1 : Int)) fun t1306 => ret (t1305 - t1306)) fun t1307 => bnd (ret ()) fun t1308 => ret (t1307, t1308)) (w_law_term n)) fun t1309 => bnd (ret ([] : List D)) fun t1310 => ret (t1309 :: t1310)) fun t1312 => ret (t1311 :: t1312)) fun t1314 => ret (t1313 :: t1314)) fun t1315 => ret (D.tup t1315)) fun t1316 => ret (Fl.rt t1316)) (ret (Fl.nx ()))) (sq fun (_ : Unit) => (bnd (bnd (bnd (bnd (bnd (bnd (ret (Str.ofString "plus")) fun t1319 => bnd (bnd (ret (Str.ofString "times")) fun t1317 => bnd (ret ([] : List Str)) fun t1318 => ret (t1317 :: t1318)) fun t1320 => ret (t1319 :: t1320)) fun t1323 => bnd (bnd (ret v1265) fun t1321 => bnd (ret (3 : Int)) fun t1322 => grd (fdivOk t1321 t1322) (ret (Int.fdiv t1321 t1322))) fun t1324 => grd (ixOk t1323 t1324) (ret (ixAt t1323 t1324))) fun t1325 => ret (D.str t1325)) fun t1338 => bnd (bnd (bnd (bnd (bnd (ret x.1) fun t1326 => bnd (ret (1 : Int)) fun t1327 => ret (t1326 - t1327)) fun t1328 => bnd (ret ()) fun t1329 => ret (t1328, t1329)) (w_law_term n)) fun t1336 => bnd (bnd (bnd (bnd (bnd (ret x.1) fun t1330 => bnd (ret (1 : Int)) fun t1331 => ret (t1330 - t1331)) fun t1332 => bnd (ret ()) fun t1333 => ret (t1332, t1333)) (w_law_term n)) fun t1334 => bnd (ret ([] : List D)) fun t1335 => ret (t1334 :: t1335)) fun t1337 => ret (t1336 :: t1337)) fun t1339 => ret (t1338 :: t1339)) fun t1340 => ret (D.tup t1340)) fun t1341 => ret (Fl.rt t1341))))))))
def w_law_worth : Nat → (((List (List Int)) × Int × (List (List (List (Int × Int)))) × Unit) × D × (List (List (Int × Int))) × Unit) → W (List (Int × Int))
  | 0, _ => stuck
  | n + 1, x => fnR ((bnd (bnd (bnd (bnd (ret x.2.1) fun t1342 => bnd (ret (0 : Int)) fun t1343 => grd (seqD t1342 && ixOk (itemsD t1342) t1343) (ret (ixAt (itemsD t1342) t1343))) fun t1344 => bnd (bnd (ret (Str.ofString "letter")) fun t1346 => ret (D.str t1346)) fun t1345 => grd (SeqAt.shaped (toP t1344) && SeqAt.shaped (toP t1345)) (ret (PyData.eqv (toP t1344) (toP t1345)))) fun b1347 => ite b1347 (bnd (bnd (ret x.2.2.1) fun t1351 => bnd (bnd (bnd (ret x.2.1) fun t1348 => bnd (ret (1 : Int)) fun t1349 => grd (seqD t1348 && ixOk (itemsD t1348) t1349) (ret (ixAt (itemsD t1348) t1349))) fun t1350 => grd (isIntD t1350) (ret (intD t1350))) fun t1352 => grd (ixOk t1351 t1352) (ret (ixAt t1351 t1352))) fun t1353 => ret (Fl.rt t1353)) (ret (Fl.nx ()))) (sq fun (_ : Unit) => (bnd (bnd (bnd (bnd (ret x.2.1) fun t1354 => bnd (ret (0 : Int)) fun t1355 => grd (seqD t1354 && ixOk (itemsD t1354) t1355) (ret (ixAt (itemsD t1354) t1355))) fun t1356 => bnd (bnd (ret (Str.ofString "take")) fun t1358 => ret (D.str t1358)) fun t1357 => grd (SeqAt.shaped (toP t1356) && SeqAt.shaped (toP t1357)) (ret (PyData.eqv (toP t1356) (toP t1357)))) fun b1359 => ite b1359 (bnd (bnd (bnd (bnd (bnd (bnd (bnd (bnd (ret x.2.1) fun t1377 => bnd (ret (1 : Int)) fun t1378 => grd (seqD t1377 && ixOk (itemsD t1377) t1378) (ret (ixAt (itemsD t1377) t1378))) fun t1379 => bnd (ret (0 : Int)) fun t1380 => grd (seqD t1379 && ixOk (itemsD t1379) t1380) (ret (ixAt (itemsD t1379) t1380))) fun t1381 => grd (isIntD t1381) (ret (intD t1381))) fun t1382 => bnd (bnd (bnd (bnd (bnd (ret x.2.1) fun t1370 => bnd (ret (1 : Int)) fun t1371 => grd (seqD t1370 && ixOk (itemsD t1370) t1371) (ret (ixAt (itemsD t1370) t1371))) fun t1372 => bnd (ret (1 : Int)) fun t1373 => grd (seqD t1372 && ixOk (itemsD t1372) t1373) (ret (ixAt (itemsD t1372) t1373))) fun t1374 => grd (isIntD t1374) (ret (intD t1374))) fun t1375 => bnd (ret ()) fun t1376 => ret (t1375, t1376)) fun t1383 => ret (t1382, t1383)) w_law_low) fun t1384 => bnd (bnd (bnd (bnd (ret x.1) fun t1366 => bnd (bnd (bnd (ret x.2.1) fun t1362 => bnd (ret (2 : Int)) fun t1363 => grd (seqD t1362 && ixOk (itemsD t1362) t1363) (ret (ixAt (itemsD t1362) t1363))) fun t1364 => bnd (bnd (ret x.2.2.1) fun t1360 => bnd (ret ()) fun t1361 => ret (t1360, t1361)) fun t1365 => ret (t1364, t1365)) fun t1367 => ret (t1366, t1367)) (w_law_worth n)) fun t1368 => bnd (ret ()) fun t1369 => ret (t1368, t1369)) fun t1385 => ret (t1384, t1385)) w_times) fun t1386 => ret (Fl.rt t1386)) (ret (Fl.nx ()))) (sq fun (_ : Unit) => (bnd (bnd (bnd (bnd (ret x.1) fun t1394 => bnd (bnd (bnd (ret x.2.1) fun t1390 => bnd (ret (1 : Int)) fun t1391 => grd (seqD t1390 && ixOk (itemsD t1390) t1391) (ret (ixAt (itemsD t1390) t1391))) fun t1392 => bnd (bnd (ret x.2.2.1) fun t1388 => bnd (ret ()) fun t1389 => ret (t1388, t1389)) fun t1393 => ret (t1392, t1393)) fun t1395 => ret (t1394, t1395)) (w_law_worth n)) fun t1406 => bnd (bnd (bnd (bnd (ret x.1) fun t1402 => bnd (bnd (bnd (ret x.2.1) fun t1398 => bnd (ret (2 : Int)) fun t1399 => grd (seqD t1398 && ixOk (itemsD t1398) t1399) (ret (ixAt (itemsD t1398) t1399))) fun t1400 => bnd (bnd (ret x.2.2.1) fun t1396 => bnd (ret ()) fun t1397 => ret (t1396, t1397)) fun t1401 => ret (t1400, t1401)) fun t1403 => ret (t1402, t1403)) (w_law_worth n)) fun t1404 => bnd (ret ()) fun t1405 => ret (t1404, t1405)) fun t1407 => ret (t1406, t1407)) fun v1387 => (bnd (bnd (bnd (bnd (ret x.2.1) fun t1408 => bnd (ret (0 : Int)) fun t1409 => grd (seqD t1408 && ixOk (itemsD t1408) t1409) (ret (ixAt (itemsD t1408) t1409))) fun t1410 => bnd (bnd (ret (Str.ofString "plus")) fun t1412 => ret (D.str t1412)) fun t1411 => grd (SeqAt.shaped (toP t1410) && SeqAt.shaped (toP t1411)) (ret (PyData.eqv (toP t1410) (toP t1411)))) fun t1423 => ite t1423 (bnd (bnd (ret v1387.1) fun t1415 => bnd (bnd (ret v1387.2.1) fun t1413 => bnd (ret ()) fun t1414 => ret (t1413, t1414)) fun t1416 => ret (t1415, t1416)) w_sum_of) (bnd (ret x.1) fun t1417 => bnd (bnd (ret v1387.1) fun t1421 => bnd (bnd (ret v1387.2.1) fun t1419 => bnd (ret ()) fun t1420 => ret (t1419, t1420)) fun t1422 => ret (t1421, t1422)) fun t1418 => w_Table_call (t1417, t1418))) fun t1424 => ret (Fl.rt t1424))))))))
def wb_law_over_right (x : (((List (List Int)) × Int × (List (List (List (Int × Int)))) × Unit) × (List (List (List (Int × Int)))) × (List (List (Int × Int))) × Unit)) : W (Fl Empty Empty Bool) := (bnd (bnd (bnd (ret x.2.1) fun t1426 => bnd (ret ()) fun t1427 => ret (t1426, t1427)) fun t1428 => grd true (ret (t1428.1.length : Int))) fun v1425 => (bnd (bnd (ret x.2.2.1) fun t1433 => ret t1433) fun v1429 => (bnd (bnd (bnd (ret x.1) fun t1437 => bnd (bnd (ret v1429) fun t1435 => bnd (ret ()) fun t1436 => ret (t1435, t1436)) fun t1438 => ret (t1437, t1438)) w_over) fun v1434 => (bnd (bnd (bnd (bnd (ret v1429) fun t1439 => bnd (ret x.2.2.1) fun t1440 => ret (!(PyData.eqv (PyData.list (List.map (fun z => (PyData.list (List.map (fun z => (PyData.tuple [(PyData.int z.1), (PyData.int z.2)])) z))) t1439)) (PyData.list (List.map (fun z => (PyData.list (List.map (fun z => (PyData.tuple [(PyData.int z.1), (PyData.int z.2)])) z))) t1440))))) fun t1452 => ite t1452 (ret true) (bnd (bnd (bnd (ret v1434) fun t1441 => ret true) fun t1442 => ret (!t1442)) fun t1451 => ite t1451 (ret true) (bnd (bnd (bnd (bnd (bnd (ret v1434) fun t1446 => w_Table_size (t1446, ())) fun t1447 => ret (D.int t1447)) fun t1448 => bnd (bnd (bnd (ret v1425) fun t1443 => ret (D.int t1443)) fun t1444 => bnd (ret ()) fun t1445 => ret (t1444, t1445)) fun t1449 => ret (t1448, t1449)) (w_law_alike 6)) fun t1450 => ret (!t1450)))) fun b1453 => ite b1453 (bnd (ret false) fun t1454 => ret (Fl.rt t1454)) (ret (Fl.nx ()))) (sq fun (_ : Unit) => (bnd (bnd (ret v1434) fun t1456 => w_Table_products (t1456, ())) fun v1455 => (bnd (bnd (bnd (bnd (ret v1425) fun t1457 => bnd (ret ()) fun t1458 => ret (t1457, t1458)) fun t1459 => grd (rngOk 0 t1459.1) (ret (rangeF 0 t1459.1.toNat))) fun xs => forW (fun (s1460 : Unit) y1461 => (bnd (bnd (bnd (bnd (ret v1425) fun t1462 => bnd (ret ()) fun t1463 => ret (t1462, t1463)) fun t1464 => grd (rngOk 0 t1464.1) (ret (rangeF 0 t1464.1.toNat))) fun xs => forW (fun (s1465 : Unit) y1466 => (bnd (bnd (bnd (bnd (bnd (bnd (bnd (bnd (bnd (bnd (ret v1455) fun t1484 => bnd (ret y1461) fun t1485 => grd (ixOk t1484 t1485) (ret (ixAt t1484 t1485))) fun t1486 => bnd (ret y1466) fun t1487 => grd (ixOk t1486 t1487) (ret (ixAt t1486 t1487))) fun t1488 => bnd (bnd (ret x.2.2.1) fun t1482 => bnd (bnd (ret v1425) fun t1480 => bnd (ret ()) fun t1481 => ret (t1480, t1481)) fun t1483 => ret (t1482, t1483)) fun t1489 => ret (t1488, t1489)) w_law_total) fun t1490 => ret (D.lst (List.map (fun z => (D.tup [(D.int z.1), (D.int z.2)])) t1490))) fun t1491 => bnd (bnd (bnd (bnd (bnd (ret x.2.1) fun t1475 => bnd (bnd (bnd (ret x.2.2.1) fun t1471 => bnd (ret y1461) fun t1472 => grd (ixOk t1471 t1472) (ret (ixAt t1471 t1472))) fun t1473 => bnd (bnd (bnd (ret x.2.2.1) fun t1467 => bnd (ret y1466) fun t1468 => grd (ixOk t1467 t1468) (ret (ixAt t1467 t1468))) fun t1469 => bnd (ret ()) fun t1470 => ret (t1469, t1470)) fun t1474 => ret (t1473, t1474)) fun t1476 => ret (t1475, t1476)) w_law_times) fun t1477 => ret (D.lst (List.map (fun z => (D.tup [(D.int z.1), (D.int z.2)])) t1477))) fun t1478 => bnd (ret ()) fun t1479 => ret (t1478, t1479)) fun t1492 => ret (t1491, t1492)) (w_law_alike 6)) fun t1493 => ret (!t1493)) fun b1494 => ite b1494 (bnd (ret false) fun t1495 => ret (Fl.rt t1495)) (ret (Fl.nx ()))) (sq fun (_ : Unit) => (ret (Fl.nx ()))))) () xs) (sq fun (s1496 : Unit) => (ret (Fl.nx ()))))) () xs) (sq fun (s1497 : Unit) => (bnd (bnd (bnd (bnd (bnd (bnd (ret v1429) fun t1500 => bnd (bnd (ret x.1) fun t1498 => bnd (ret ()) fun t1499 => ret (t1498, t1499)) fun t1501 => ret (t1500, t1501)) fun t1502 => w_over (t1502.2.1, t1502.1, ())) fun t1503 => bnd (ret v1434) fun t1504 => w_Table_eq (t1503, t1504, ())) fun t1505 => ret (!t1505)) fun b1506 => ite b1506 (bnd (ret false) fun t1507 => ret (Fl.rt t1507)) (ret (Fl.nx ()))) (sq fun (_ : Unit) => (bnd (bnd (bnd (bnd (ret (2 : Int)) fun t1509 => bnd (ret ()) fun t1510 => ret (t1509, t1510)) fun t1511 => grd (rngOk 0 t1511.1) (ret (rangeF 0 t1511.1.toNat))) fun xs1527 => mapW (fun y1512 => (bnd (bnd (bnd (ret v1425) fun t1513 => bnd (ret ()) fun t1514 => ret (t1513, t1514)) fun t1515 => grd (rngOk 0 t1515.1) (ret (rangeF 0 t1515.1.toNat))) fun xs1526 => mapW (fun y1516 => (bnd (bnd (bnd (bnd (bnd (ret (19 : Int)) fun t1517 => bnd (ret ()) fun t1518 => ret (t1517, t1518)) (fun x => pickW x.1)) fun t1519 => bnd (ret (9 : Int)) fun t1520 => ret (t1519 - t1520)) fun t1523 => bnd (bnd (ret (1 : Int)) fun t1521 => bnd (ret ()) fun t1522 => ret (t1521, t1522)) fun t1524 => ret (t1523, t1524)) fun t1525 => ret (t1525.1, t1525.2.1))) xs1526)) xs1527) fun v1508 => (bnd (bnd (ret v1508) fun xs1536 => mapW (fun y1529 => (bnd (bnd (ret y1529) fun t1534 => bnd (bnd (ret v1429) fun t1532 => bnd (bnd (ret v1425) fun t1530 => bnd (ret ()) fun t1531 => ret (t1530, t1531)) fun t1533 => ret (t1532, t1533)) fun t1535 => ret (t1534, t1535)) w_combined)) xs1536) fun v1528 => (bnd (bnd (bnd (ret v1528) fun t1545 => bnd (bnd (ret v1508) fun xs1544 => mapW (fun y1537 => (bnd (bnd (ret y1537) fun t1542 => bnd (bnd (ret x.2.2.1) fun t1540 => bnd (bnd (ret v1425) fun t1538 => bnd (ret ()) fun t1539 => ret (t1538, t1539)) fun t1541 => ret (t1540, t1541)) fun t1543 => ret (t1542, t1543)) w_law_total)) xs1544) fun t1546 => ret (!(PyData.eqv (PyData.list (List.map (fun z => (PyData.list (List.map (fun z => (PyData.tuple [(PyData.int z.1), (PyData.int z.2)])) z))) t1545)) (PyData.list (List.map (fun z => (PyData.list (List.map (fun z => (PyData.tuple [(PyData.int z.1), (PyData.int z.2)])) z))) t1546))))) fun b1547 => ite b1547 (bnd (ret false) fun t1548 => ret (Fl.rt t1548)) (ret (Fl.nx ()))) (sq fun (_ : Unit) => (bnd (bnd (bnd (bnd (bnd (bnd (bnd (bnd (bnd (ret v1434) fun t1566 => bnd (bnd (bnd (ret v1508) fun t1572 => bnd (ret (0 : Int)) fun t1573 => grd (ixOk t1572 t1573) (ret (ixAt t1572 t1573))) fun t1574 => bnd (bnd (bnd (ret v1508) fun t1568 => bnd (ret (1 : Int)) fun t1569 => grd (ixOk t1568 t1569) (ret (ixAt t1568 t1569))) fun t1570 => bnd (ret ()) fun t1571 => ret (t1570, t1571)) fun t1575 => ret (t1574, t1575)) fun t1567 => w_Table_call (t1566, t1567)) fun t1576 => bnd (bnd (ret x.2.2.1) fun t1564 => bnd (bnd (ret v1425) fun t1562 => bnd (ret ()) fun t1563 => ret (t1562, t1563)) fun t1565 => ret (t1564, t1565)) fun t1577 => ret (t1576, t1577)) w_law_total) fun t1578 => ret (D.lst (List.map (fun z => (D.tup [(D.int z.1), (D.int z.2)])) t1578))) fun t1579 => bnd (bnd (bnd (bnd (bnd (ret x.2.1) fun t1557 => bnd (bnd (bnd (ret v1528) fun t1553 => bnd (ret (0 : Int)) fun t1554 => grd (ixOk t1553 t1554) (ret (ixAt t1553 t1554))) fun t1555 => bnd (bnd (bnd (ret v1528) fun t1549 => bnd (ret (1 : Int)) fun t1550 => grd (ixOk t1549 t1550) (ret (ixAt t1549 t1550))) fun t1551 => bnd (ret ()) fun t1552 => ret (t1551, t1552)) fun t1556 => ret (t1555, t1556)) fun t1558 => ret (t1557, t1558)) w_law_times) fun t1559 => ret (D.lst (List.map (fun z => (D.tup [(D.int z.1), (D.int z.2)])) t1559))) fun t1560 => bnd (ret ()) fun t1561 => ret (t1560, t1561)) fun t1580 => ret (t1579, t1580)) (w_law_alike 6)) fun t1581 => ret (!t1581)) fun b1582 => ite b1582 (bnd (ret false) fun t1583 => ret (Fl.rt t1583)) (ret (Fl.nx ()))) (sq fun (_ : Unit) => (bnd (bnd (bnd (ret (3 : Int)) fun t1585 => bnd (ret ()) fun t1586 => ret (t1585, t1586)) (w_law_term 5)) fun v1584 => (bnd (bnd (bnd (bnd (bnd (bnd (bnd (ret v1434) fun t1595 => bnd (bnd (ret v1584) fun t1593 => bnd (bnd (ret v1508) fun t1591 => bnd (ret ()) fun t1592 => ret (t1591, t1592)) fun t1594 => ret (t1593, t1594)) fun t1596 => ret (t1595, t1596)) (w_law_worth 5)) fun t1597 => bnd (bnd (ret x.2.2.1) fun t1589 => bnd (bnd (ret v1425) fun t1587 => bnd (ret ()) fun t1588 => ret (t1587, t1588)) fun t1590 => ret (t1589, t1590)) fun t1598 => ret (t1597, t1598)) w_law_total) fun t1605 => bnd (bnd (bnd (ret x.1) fun t1603 => bnd (bnd (ret v1584) fun t1601 => bnd (bnd (ret v1528) fun t1599 => bnd (ret ()) fun t1600 => ret (t1599, t1600)) fun t1602 => ret (t1601, t1602)) fun t1604 => ret (t1603, t1604)) (w_law_worth 5)) fun t1606 => ret (!(PyData.eqv (PyData.list (List.map (fun z => (PyData.tuple [(PyData.int z.1), (PyData.int z.2)])) t1605)) (PyData.list (List.map (fun z => (PyData.tuple [(PyData.int z.1), (PyData.int z.2)])) t1606))))) fun b1607 => ite b1607 (bnd (ret false) fun t1608 => ret (Fl.rt t1608)) (ret (Fl.nx ()))) (sq fun (_ : Unit) => (bnd (bnd (bnd (bnd (ret v1425) fun t1610 => bnd (ret ()) fun t1611 => ret (t1610, t1611)) fun t1612 => grd (rngOk 0 t1612.1) (ret (rangeF 0 t1612.1.toNat))) fun xs1629 => mapW (fun y1613 => (bnd (bnd (bnd (ret v1425) fun t1614 => bnd (ret ()) fun t1615 => ret (t1614, t1615)) fun t1616 => grd (rngOk 0 t1616.1) (ret (rangeF 0 t1616.1.toNat))) fun xs1628 => mapW (fun y1617 => (bnd (bnd (bnd (bnd (bnd (ret y1617) fun t1618 => bnd (ret y1613) fun t1619 => ret (decide (t1618 = t1619))) fun t1620 => bnd (ret ()) fun t1621 => ret (t1620, t1621)) fun t1622 => grd true (ret (if t1622.1 then 1 else 0))) fun t1625 => bnd (bnd (ret (1 : Int)) fun t1623 => bnd (ret ()) fun t1624 => ret (t1623, t1624)) fun t1626 => ret (t1625, t1626)) fun t1627 => ret (t1627.1, t1627.2.1))) xs1628)) xs1629) fun v1609 => (bnd (bnd (ret v1609) fun xs1636 => mapW (fun y1631 => (bnd (bnd (ret y1631) fun t1634 => bnd (bnd (ret v1429) fun t1632 => bnd (ret ()) fun t1633 => ret (t1632, t1633)) fun t1635 => ret (t1634, t1635)) w_told_by)) xs1636) fun v1630 => (bnd (bnd (bnd (bnd (ret v1425) fun t1637 => bnd (ret ()) fun t1638 => ret (t1637, t1638)) fun t1639 => grd (rngOk 0 t1639.1) (ret (rangeF 0 t1639.1.toNat))) fun xs => forW (fun (s1640 : Unit) y1641 => (bnd (bnd (bnd (bnd (bnd (ret v1630) fun t1642 => bnd (ret y1641) fun t1643 => grd (ixOk t1642 t1643) (ret (ixAt t1642 t1643))) fun t1644 => ret t1644.isNone) fun t1657 => ite t1657 (ret true) (bnd (bnd (bnd (bnd (bnd (ret v1630) fun t1649 => bnd (ret y1641) fun t1650 => grd (ixOk t1649 t1650) (ret (ixAt t1649 t1650))) someW) fun t1651 => bnd (bnd (ret x.2.2.1) fun t1647 => bnd (bnd (ret v1425) fun t1645 => bnd (ret ()) fun t1646 => ret (t1645, t1646)) fun t1648 => ret (t1647, t1648)) fun t1652 => ret (t1651, t1652)) w_law_total) fun t1655 => bnd (bnd (ret v1609) fun t1653 => bnd (ret y1641) fun t1654 => grd (ixOk t1653 t1654) (ret (ixAt t1653 t1654))) fun t1656 => ret (!(PyData.eqv (PyData.list (List.map (fun z => (PyData.tuple [(PyData.int z.1), (PyData.int z.2)])) t1655)) (PyData.list (List.map (fun z => (PyData.tuple [(PyData.int z.1), (PyData.int z.2)])) t1656)))))) fun b1658 => ite b1658 (bnd (ret false) fun t1659 => ret (Fl.rt t1659)) (ret (Fl.nx ()))) (sq fun (_ : Unit) => (ret (Fl.nx ()))))) () xs) (sq fun (s1660 : Unit) => (bnd (bnd (bnd (ret v1434) fun t1664 => bnd (bnd (bnd (ret v1630) someL) fun t1662 => bnd (ret ()) fun t1663 => ret (t1662, t1663)) fun t1665 => ret (t1664, t1665)) w_over) fun v1661 => (bnd (bnd (bnd (bnd (bnd (ret x.1) fun t1668 => bnd (bnd (ret v1609) fun t1666 => bnd (ret ()) fun t1667 => ret (t1666, t1667)) fun t1669 => ret (t1668, t1669)) w_over) fun t1670 => bnd (ret x.1) fun t1671 => w_Table_eq (t1670, t1671, ())) fun t1682 => ite t1682 (bnd (bnd (ret v1661) fun t1672 => bnd (ret x.1) fun t1673 => w_Table_eq (t1672, t1673, ())) fun t1681 => ite t1681 (bnd (bnd (bnd (bnd (ret v1661) fun t1677 => w_Table_products (t1677, ())) fun t1678 => ret (D.lst (List.map (fun z => (D.lst (List.map (fun z => (D.lst (List.map (fun z => (D.tup [(D.int z.1), (D.int z.2)])) z))) z))) t1678))) fun t1679 => bnd (bnd (bnd (ret x.2.1) fun t1674 => ret (D.lst (List.map (fun z => (D.lst (List.map (fun z => (D.lst (List.map (fun z => (D.tup [(D.int z.1), (D.int z.2)])) z))) z))) t1674))) fun t1675 => bnd (ret ()) fun t1676 => ret (t1675, t1676)) fun t1680 => ret (t1679, t1680)) (w_law_alike 6)) (ret false)) (ret false)) fun t1683 => ret (Fl.rt t1683))))))))))))))))))))))))))
def w_law_over_right (x : (((List (List Int)) × Int × (List (List (List (Int × Int)))) × Unit) × (List (List (List (Int × Int)))) × (List (List (Int × Int))) × Unit)) : W Bool := fnR (wb_law_over_right x)
def wb_law (x : ((List Int) × Unit)) : W (Fl Empty Empty Bool) := (bnd (bnd (bnd (bnd (ret (2 : Int)) fun t1684 => bnd (ret ()) fun t1685 => ret (t1684, t1685)) fun t1686 => grd (rngOk 0 t1686.1) (ret (rangeF 0 t1686.1.toNat))) fun xs => forW (fun (s1687 : Unit) y1688 => (bnd (bnd (ret (1 : Int)) fun t1698 => bnd (bnd (bnd (bnd (bnd (ret (4 : Int)) fun t1692 => bnd (bnd (ret (6 : Int)) fun t1690 => bnd (ret ([] : List Int)) fun t1691 => ret (t1690 :: t1691)) fun t1693 => ret (t1692 :: t1693)) fun t1694 => bnd (ret y1688) fun t1695 => grd (ixOk t1694 t1695) (ret (ixAt t1694 t1695))) fun t1696 => bnd (ret ()) fun t1697 => ret (t1696, t1697)) (fun x => pickW x.1)) fun t1699 => ret (t1698 + t1699)) fun v1689 => (bnd (bnd (bnd (bnd (ret (4 : Int)) fun t1701 => bnd (ret ()) fun t1702 => ret (t1701, t1702)) (fun x => pickW x.1)) fun t1703 => bnd (ret (0 : Int)) fun t1704 => ret (decide (t1703 = t1704))) fun v1700 => (bnd (bnd (bnd (ret v1689) fun t1708 => bnd (bnd (ret v1700) fun t1706 => bnd (ret ()) fun t1707 => ret (t1706, t1707)) fun t1709 => ret (t1708, t1709)) w_law_products) fun v1705 => (bnd (bnd (bnd (bnd (ret v1689) fun t1710 => bnd (ret (4 : Int)) fun t1711 => ret (decide (t1711 < t1710))) fun t1712 => ite t1712 (ret true) (ret v1700)) fun b1713 => ite b1713 (bnd (bnd (ret v1705) fun t1718 => ret (List.map (fun z => (List.map (fun z => (List.map (fun z => (z.1, (1 : Int))) z)) z)) t1718)) fun v1714 => (ret (Fl.nx (v1714)))) (ret (Fl.nx (v1705)))) (sq fun (s1719 : ((List (List (List (Int × Int)))))) => (bnd (bnd (bnd (bnd (ret s1719) fun t1724 => ret t1724) fun t1725 => bnd (ret ()) fun t1726 => ret (t1725, t1726)) w_Table_init) fun v1720 => (bnd (bnd (bnd (bnd (bnd (ret v1720) fun t1733 => bnd (bnd (ret s1719) fun t1731 => bnd (bnd (bnd (bnd (ret v1689) fun t1727 => bnd (ret ()) fun t1728 => ret (t1727, t1728)) w_law_basis) fun t1729 => bnd (ret ()) fun t1730 => ret (t1729, t1730)) fun t1732 => ret (t1731, t1732)) fun t1734 => ret (t1733, t1734)) w_law_over_right) fun t1735 => ret (!t1735)) fun b1736 => ite b1736 (bnd (ret false) fun t1737 => ret (Fl.rt t1737)) (ret (Fl.nx ()))) (sq fun (_ : Unit) => (bnd (bnd (bnd (bnd (bnd (bnd (bnd (ret v1720) fun t1741 => w_Table_products (t1741, ())) fun t1742 => ret (D.lst (List.map (fun z => (D.lst (List.map (fun z => (D.lst (List.map (fun z => (D.tup [(D.int z.1), (D.int z.2)])) z))) z))) t1742))) fun t1743 => bnd (bnd (bnd (ret s1719) fun t1738 => ret (D.lst (List.map (fun z => (D.lst (List.map (fun z => (D.lst (List.map (fun z => (D.tup [(D.int z.1), (D.int z.2)])) z))) z))) t1738))) fun t1739 => bnd (ret ()) fun t1740 => ret (t1739, t1740)) fun t1744 => ret (t1743, t1744)) (w_law_alike 6)) fun t1745 => ret (!t1745)) fun b1746 => ite b1746 (bnd (ret false) fun t1747 => ret (Fl.rt t1747)) (ret (Fl.nx ()))) (sq fun (_ : Unit) => (ret (Fl.nx ()))))))))))))) () xs) (sq fun (s1748 : Unit) => (bnd (ret true) fun t1749 => ret (Fl.rt t1749))))
def w_law (x : ((List Int) × Unit)) : W Bool := fnR (wb_law x)
theorem map_idD {ds : List D} {f : D → W D} (h : ∀ d ∈ ds, f d = ret d) : mapW f ds = ret ds := by
  rw [mapW_eq (g := fun d => d) h, List.map_id']
theorem fresh_eq : ∀ {n : Nat} {d : D}, Tame n d → w_fresh n (d, ()) = ret d
  | 0, _, h => h.elim
  | n + 1, d, h => by
    unfold w_fresh
    simp only [bnd_ret, bnd_assoc, bnd_grd, grd_true, fnR_bnd, fnR_ret]
    cases d with
    | lst ds =>
      rw [ite_ok (show isD "list" (D.lst ds) = true from rfl)]
      simp only [bnd_ret, bnd_assoc, bnd_grd, grd_true, fnR_bnd, fnR_ret, show isLst (D.lst ds) = true from rfl, show itemsD (D.lst ds) = ds from rfl]
      rw [map_idD (fun d hd => fresh_eq (h d hd))]
      simp only [bnd_ret, sq_rt, fnR_ret, List.map_id']
    | tup ds =>
      rw [ite_no (show isD "list" (D.tup ds) = false from rfl)]
      simp only [bnd_ret, bnd_assoc, bnd_grd, grd_true, fnR_bnd, fnR_ret, sq_nx]
      rw [ite_ok (show isD "tuple" (D.tup ds) = true from rfl)]
      simp only [bnd_ret, bnd_assoc, bnd_grd, grd_true, fnR_bnd, fnR_ret, show isTup (D.tup ds) = true from rfl, show itemsD (D.tup ds) = ds from rfl]
      rw [grd_ok (by rw [Bool.true_and]; exact decide_eq_true h.1), map_idD (fun d hd => fresh_eq (h.2 d hd))]
      simp only [bnd_ret, sq_rt, fnR_ret]
    | non => rfl
    | bl b => rfl
    | int i => rfl
    | str s => rfl
theorem copied_eq : ∀ {n : Nat} {d : D}, Tame n d → w_law_copied n (d, ()) = ret d
  | 0, _, h => h.elim
  | n + 1, d, h => by
    unfold w_law_copied
    simp only [bnd_ret, bnd_assoc, bnd_grd, grd_true, fnR_bnd, fnR_ret]
    cases d with
    | lst ds =>
      rw [ite_ok (show isD "list" (D.lst ds) = true from rfl)]
      simp only [bnd_ret, bnd_assoc, bnd_grd, grd_true, fnR_bnd, fnR_ret, show isLst (D.lst ds) = true from rfl, show itemsD (D.lst ds) = ds from rfl]
      rw [map_idD (fun d hd => copied_eq (h d hd))]
      simp only [bnd_ret, sq_rt, fnR_ret, List.map_id']
    | tup ds => rfl
    | non => rfl
    | bl b => rfl
    | int i => rfl
    | str s => rfl
def toNum (z : Int × Int) : D := D.tup [D.int z.1, D.int z.2]
theorem wholes0 {n : Nat} (z : Int × Int) : w_law_wholes (n + 1) (toNum z, ()) = ret (toNum (z.1, 1)) := by
  unfold w_law_wholes
  simp only [bnd_ret, bnd_assoc, bnd_grd, grd_true, fnR_bnd, fnR_ret]
  rw [ite_no (show isD "list" (toNum z) = false from rfl)]
  simp only [bnd_ret, bnd_assoc, bnd_grd, grd_true, fnR_bnd, fnR_ret]
  rw [show (seqD (toNum z) && ixOk (itemsD (toNum z)) 0) = true from rfl, grd_true]
  rfl
theorem wholesL {α : Type} {n : Nat} {to : α → D} {f : α → α} (h : ∀ x, w_law_wholes n (to x, ()) = ret (to (f x))) (xs : List α) : w_law_wholes (n + 1) (D.lst (xs.map to), ()) = ret (D.lst ((xs.map f).map to)) := by
  unfold w_law_wholes
  simp only [bnd_ret, bnd_assoc, bnd_grd, grd_true, fnR_bnd, fnR_ret]
  rw [ite_ok (show isD "list" (D.lst (xs.map to)) = true from rfl)]
  simp only [bnd_ret, bnd_assoc, bnd_grd, grd_true, fnR_bnd, fnR_ret, show isLst (D.lst (xs.map to)) = true from rfl, show itemsD (D.lst (xs.map to)) = xs.map to from rfl]
  have e : ∀ (ys : List α), mapW (fun y => w_law_wholes n (y, ())) (ys.map to) = ret ((ys.map f).map to) := fun ys => by
    induction ys with
    | nil => rfl
    | cons y r ih =>
      show bnd (w_law_wholes n (to y, ())) _ = _
      rw [h, bnd_ret]
      show bnd (mapW (fun y => w_law_wholes n (y, ())) (r.map to)) _ = _
      rw [ih]
      rfl
  rw [e]
  simp only [bnd_ret, sq_rt, fnR_ret, List.map_id']
theorem wholes_eq2 (z : List (List (Int × Int))) : w_law_wholes 6 ((fun z => D.lst (z.map fun z => D.lst (z.map fun z => D.tup [D.int z.1, D.int z.2]))) z, ()) = ret ((fun z => D.lst (z.map fun z => D.lst (z.map fun z => D.tup [D.int z.1, D.int z.2]))) ((fun z => z.map fun z => z.map fun z => (z.1, (1 : Int))) z)) :=
  (wholesL (n := 5) (wholesL (n := 4) (wholes0 (n := 3)))) z
theorem wholes_eq3 (z : List (List (List (Int × Int)))) : w_law_wholes 6 ((fun z => D.lst (z.map fun z => D.lst (z.map fun z => D.lst (z.map fun z => D.tup [D.int z.1, D.int z.2])))) z, ()) = ret ((fun z => D.lst (z.map fun z => D.lst (z.map fun z => D.lst (z.map fun z => D.tup [D.int z.1, D.int z.2])))) ((fun z => z.map fun z => z.map fun z => z.map fun z => (z.1, (1 : Int))) z)) :=
  (wholesL (n := 5) (wholesL (n := 4) (wholesL (n := 3) (wholes0 (n := 2))))) z
theorem wholes_eq4 (z : List (List (List (List (Int × Int))))) : w_law_wholes 6 ((fun z => D.lst (z.map fun z => D.lst (z.map fun z => D.lst (z.map fun z => D.lst (z.map fun z => D.tup [D.int z.1, D.int z.2]))))) z, ()) = ret ((fun z => D.lst (z.map fun z => D.lst (z.map fun z => D.lst (z.map fun z => D.lst (z.map fun z => D.tup [D.int z.1, D.int z.2]))))) ((fun z => z.map fun z => z.map fun z => z.map fun z => z.map fun z => (z.1, (1 : Int))) z)) :=
  (wholesL (n := 5) (wholesL (n := 4) (wholesL (n := 3) (wholesL (n := 2) (wholes0 (n := 1)))))) z
section
variable {P : Program} {w : World} {K : PySem.W.Frag} {mg : Str → Option Value} {base : Heap}
theorem b_law_pool (T : Txt K mg) : Binds K T.d_law_pool P_law_pool [] := T.F_law_pool.binds fun _ _ _ _ _ _ us hl => match us, hl with | [_], _ => rfl
theorem b_law_pick (T : Txt K mg) : Binds K T.d_law_pick P_law_pick [] := T.F_law_pick.binds fun _ _ _ _ _ _ us hl => match us, hl with | [_, _], _ => rfl
theorem b_lowest (T : Txt K mg) : Binds K T.d_lowest P_lowest [] := T.F_lowest.binds fun _ _ _ _ _ _ us hl => match us, hl with | [_, _], _ => rfl
theorem b_sum_two (T : Txt K mg) : Binds K T.d_sum_two P_sum_two [] := T.F_sum_two.binds fun _ _ _ _ _ _ us hl => match us, hl with | [_, _], _ => rfl
theorem b_product_two (T : Txt K mg) : Binds K T.d_product_two P_product_two [] := T.F_product_two.binds fun _ _ _ _ _ _ us hl => match us, hl with | [_, _], _ => rfl
theorem b_is_number (T : Txt K mg) : Binds K T.d_is_number P_is_number [] := T.F_is_number.binds fun _ _ _ _ _ _ us hl => match us, hl with | [_], _ => rfl
theorem b_checked (T : Txt K mg) : Binds K T.d_checked P_checked [] := T.F_checked.binds fun _ _ _ _ _ _ us hl => match us, hl with | [_], _ => rfl
theorem b_check_numbers (T : Txt K mg) : Binds K T.d_check_numbers P_check_numbers [] := T.F_check_numbers.binds fun _ _ _ _ _ _ us hl => match us, hl with | [_], _ => rfl
theorem b_integers_of (T : Txt K mg) : Binds K T.d_integers_of P_integers_of [] := T.F_integers_of.binds fun _ _ _ _ _ _ us hl => match us, hl with | [_], _ => rfl
theorem b_numbers_of (T : Txt K mg) : Binds K T.d_numbers_of P_numbers_of [] := T.F_numbers_of.binds fun _ _ _ _ _ _ us hl => match us, hl with | [_, _], _ => rfl
theorem b_fresh (T : Txt K mg) : Binds K T.d_fresh P_fresh [] := T.F_fresh.binds fun _ _ _ _ _ _ us hl => match us, hl with | [_], _ => rfl
theorem b_plus_row (T : Txt K mg) : Binds K T.d_plus_row P_plus_row [] := T.F_plus_row.binds fun _ _ _ _ _ _ us hl => match us, hl with | [_, _], _ => rfl
theorem b_scaled_row (T : Txt K mg) : Binds K T.d_scaled_row P_scaled_row [] := T.F_scaled_row.binds fun _ _ _ _ _ _ us hl => match us, hl with | [_, _], _ => rfl
theorem b_combination (T : Txt K mg) : Binds K T.d_combination P_combination [] := T.F_combination.binds fun _ _ _ _ _ _ us hl => match us, hl with | [_, _, _], _ => rfl
theorem b_divided (T : Txt K mg) : Binds K T.d_divided P_divided [] := T.F_divided.binds fun _ _ _ _ _ _ us hl => match us, hl with | [_], _ => rfl
theorem b_cleared (T : Txt K mg) : Binds K T.d_cleared P_cleared [] := T.F_cleared.binds fun _ _ _ _ _ _ us hl => match us, hl with | [_, _, _], _ => rfl
theorem b_Basis_init (T : Txt K mg) : Binds K T.d_Basis_init P_Basis_init [] := T.F_Basis_init.binds fun _ _ _ _ _ _ us hl => match us, hl with | [_], _ => rfl
theorem b_Basis_rest (T : Txt K mg) : Binds K T.d_Basis_rest P_Basis_rest [] := T.F_Basis_rest.binds fun _ _ _ _ _ _ us hl => match us, hl with | [_, _], _ => rfl
theorem b_Basis_put (T : Txt K mg) : Binds K T.d_Basis_put P_Basis_put [] := T.F_Basis_put.binds fun _ _ _ _ _ _ us hl => match us, hl with | [_, _], _ => rfl
theorem b_Basis_told (T : Txt K mg) : Binds K T.d_Basis_told P_Basis_told [] := T.F_Basis_told.binds fun _ _ _ _ _ _ us hl => match us, hl with | [_, _], _ => rfl
theorem b_check_rows (T : Txt K mg) : Binds K T.d_check_rows P_check_rows [] := T.F_check_rows.binds fun _ _ _ _ _ _ us hl => match us, hl with | [_, _], _ => rfl
theorem b_sum_of (T : Txt K mg) : Binds K T.d_sum_of P_sum_of [] := T.F_sum_of.binds fun _ _ _ _ _ _ us hl => match us, hl with | [_, _], _ => rfl
theorem b_times (T : Txt K mg) : Binds K T.d_times P_times [] := T.F_times.binds fun _ _ _ _ _ _ us hl => match us, hl with | [_, _], _ => rfl
theorem b_combined (T : Txt K mg) : Binds K T.d_combined P_combined [] := T.F_combined.binds fun _ _ _ _ _ _ us hl => match us, hl with | [_, _, _], _ => rfl
theorem b_told_by (T : Txt K mg) : Binds K T.d_told_by P_told_by [] := T.F_told_by.binds fun _ _ _ _ _ _ us hl => match us, hl with | [_, _], _ => rfl
theorem b_Table_init (T : Txt K mg) : Binds K T.d_Table_init P_Table_init [] := T.F_Table_init.binds fun _ _ _ _ _ _ us hl => match us, hl with | [_, _], _ => rfl
theorem b_Table_size (T : Txt K mg) : Binds K T.d_Table_size P_Table_size [] := T.F_Table_size.binds fun _ _ _ _ _ _ us hl => match us, hl with | [_], _ => rfl
theorem b_Table_products (T : Txt K mg) : Binds K T.d_Table_products P_Table_products [] := T.F_Table_products.binds fun _ _ _ _ _ _ us hl => match us, hl with | [_], _ => rfl
theorem b_Table_eq (T : Txt K mg) : Binds K T.d_Table_eq P_Table_eq [] := T.F_Table_eq.binds fun _ _ _ _ _ _ us hl => match us, hl with | [_, _], _ => rfl
theorem b_Table_product_without_checks (T : Txt K mg) : Binds K T.d_Table_product_without_checks P_Table_product_without_checks [] := T.F_Table_product_without_checks.binds fun _ _ _ _ _ _ us hl => match us, hl with | [_, _, _], _ => rfl
theorem b_Table_call (T : Txt K mg) : Binds K T.d_Table_call P_Table_call [] := T.F_Table_call.binds fun _ _ _ _ _ _ us hl => match us, hl with | [_, _, _], _ => rfl
theorem b_product_of (T : Txt K mg) : Binds K T.d_product_of P_product_of [] := T.F_product_of.binds fun _ _ _ _ _ _ us hl => match us, hl with | [_, _, _], _ => rfl
theorem b_over (T : Txt K mg) : Binds K T.d_over P_over [] := T.F_over.binds fun _ _ _ _ _ _ us hl => match us, hl with | [_, _], _ => rfl
theorem b_law_low (T : Txt K mg) : Binds K T.d_law_low P_law_low [] := T.F_law_low.binds fun _ _ _ _ _ _ us hl => match us, hl with | [_, _], _ => rfl
theorem b_law_add (T : Txt K mg) : Binds K T.d_law_add P_law_add [] := T.F_law_add.binds fun _ _ _ _ _ _ us hl => match us, hl with | [_, _], _ => rfl
theorem b_law_mul (T : Txt K mg) : Binds K T.d_law_mul P_law_mul [] := T.F_law_mul.binds fun _ _ _ _ _ _ us hl => match us, hl with | [_, _], _ => rfl
theorem b_law_number (T : Txt K mg) : Binds K T.d_law_number P_law_number [] := T.F_law_number.binds fun _ _ _ _ _ _ us hl => match us, hl with | [_, _], _ => rfl
theorem b_law_alike (T : Txt K mg) : Binds K T.d_law_alike P_law_alike [] := T.F_law_alike.binds fun _ _ _ _ _ _ us hl => match us, hl with | [_, _], _ => rfl
theorem b_law_products (T : Txt K mg) : Binds K T.d_law_products P_law_products [] := T.F_law_products.binds fun _ _ _ _ _ _ us hl => match us, hl with | [_, _, _], _ => rfl
theorem b_law_times (T : Txt K mg) : Binds K T.d_law_times P_law_times [] := T.F_law_times.binds fun _ _ _ _ _ _ us hl => match us, hl with | [_, _, _], _ => rfl
theorem b_law_copied (T : Txt K mg) : Binds K T.d_law_copied P_law_copied [] := T.F_law_copied.binds fun _ _ _ _ _ _ us hl => match us, hl with | [_], _ => rfl
theorem b_law_wholes (T : Txt K mg) : Binds K T.d_law_wholes P_law_wholes [] := T.F_law_wholes.binds fun _ _ _ _ _ _ us hl => match us, hl with | [_], _ => rfl
theorem b_law_total (T : Txt K mg) : Binds K T.d_law_total P_law_total [] := T.F_law_total.binds fun _ _ _ _ _ _ us hl => match us, hl with | [_, _, _], _ => rfl
theorem b_law_moved (T : Txt K mg) : Binds K T.d_law_moved P_law_moved [] := T.F_law_moved.binds fun _ _ _ _ _ _ us hl => match us, hl with | [_, _], _ => rfl
theorem b_law_moved_v2 (T : Txt K mg) : Binds K T.d_law_moved_v2 P_law_moved_v2 [] := T.F_law_moved_v2.binds fun _ _ _ _ _ _ us hl => match us, hl with | [_, _], _ => rfl
theorem b_law_basis (T : Txt K mg) : Binds K T.d_law_basis P_law_basis [] := T.F_law_basis.binds fun _ _ _ _ _ _ us hl => match us, hl with | [_, _], _ => rfl
theorem b_law_term (T : Txt K mg) : Binds K T.d_law_term P_law_term [] := T.F_law_term.binds fun _ _ _ _ _ _ us hl => match us, hl with | [_, _], _ => rfl
theorem b_law_worth (T : Txt K mg) : Binds K T.d_law_worth P_law_worth [] := T.F_law_worth.binds fun _ _ _ _ _ _ us hl => match us, hl with | [_, _, _], _ => rfl
theorem b_law_over_right (T : Txt K mg) : Binds K T.d_law_over_right P_law_over_right [] := T.F_law_over_right.binds fun _ _ _ _ _ _ us hl => match us, hl with | [_, _, _, _], _ => rfl
theorem b_law (T : Txt K mg) : Binds K T.d_law P_law [] := T.F_law.binds fun _ _ _ _ _ _ us hl => match us, hl with | [_], _ => rfl
def g_kb_over_1_0 {α : Type} : List α → List α → List α
  | [], [u0, u1] => [u1, u0]
  | _, _ => []
theorem kb_over_1_0_bad {α : Type} {us ws : List α} (h : ¬ (us.length = 0 ∧ ws.length = 2)) : g_kb_over_1_0 us ws = [] := by
  unfold g_kb_over_1_0
  split
  · exact absurd ⟨rfl, rfl⟩ h
  · rfl
theorem kb_over_1_0 (T : Txt K mg) : KBinds K T.d_over P_over [Str.ofString "rows", Str.ofString "table"] g_kb_over_1_0 g_kb_over_1_0 where
  to := fun s us ws _ hl => by
    by_cases h : us.length = 0 ∧ ws.length = 2
    · obtain ⟨hu, hw⟩ := h
      obtain ⟨oc, od, kV, doc, pm, an, cdv, ct, osl, e, _, _⟩ := T.F_over.ex
      rw [e]
      match us, ws, hu, hw with
      | [], [_, _], _, _ => exact BindsTo.of_eq rfl
    · rw [kb_over_1_0_bad h] at hl
      exact absurd hl (by decide)
  rel := fun {vs us zs ws} r1 r2 => by
    by_cases h : vs.length = 0 ∧ zs.length = 2
    · obtain ⟨hv, hz⟩ := h
      match vs, us, r1, hv, zs, ws, r2, hz with
      | [], _, Paired.nil, _, [_, _], _, Paired.cons r0 (Paired.cons r1 (Paired.nil)), _ => exact Paired.cons r1 (Paired.cons r0 (Paired.nil))
    · have h2 : ¬ (us.length = 0 ∧ ws.length = 2) := fun ⟨x, y⟩ => h ⟨r1.length.trans x, r2.length.trans y⟩
      rw [kb_over_1_0_bad h, kb_over_1_0_bad h2]
      exact .nil
theorem kb_over_1_0_pm (T : Txt K mg) {pp : PP} {O : AS} {H : Hp} {zs : List V} {y : ((List (List (Int × Int))) × ((List (List Int)) × Int × (List (List (List (Int × Int)))) × Unit) × Unit)} (h : ((aC (eL (eL eN)) (aC (e_Table T) aN)) : EA K _).r pp O H zs y) : ((aC (e_Table T) (aC (eL (eL eN)) aN)) : EA K _).r pp O H (g_kb_over_1_0 [] zs) ((y.2.1, y.1, ())) := by
  obtain ⟨_, _, rfl, q0, _, _, rfl, q1, rfl⟩ := h
  exact ⟨_, _, rfl, q1, _, _, rfl, q0, rfl⟩
theorem ok_law_pick {f : Addr} {fd : FuncData} (F : Fun K "_law_pick" "_law_pick" s_law_pick f fd) (mi : mg "int" = none) : FnOk P w K mg base CX0 1 f fd ["_law_pool_here", "_law_many"] (spW (K := K) poolA (aPl (aC eI aN)) (fun x => pickW x.1) eI) := by
  refine F.ok sc_law_pick (fun vs H Q E h => ?_) (fun cdv A outer s H vs Q E hr h => ?_)
  · obtain ⟨pp, O, x, Φ, c, _, _, _, r, _⟩ := h
    exact (aPl (aC eI aN)).hlen r
  · obtain ⟨pp, O, x, Φ, c, hd, hf, hp, ⟨a, b, _, rfl, rfl, v, _, rfl, rv, rfl⟩, ⟨⟨hm0, hm1, hc⟩, hw⟩, q⟩ := h
    cases (show v = V.int x.1 from rv)
    obtain ⟨gs, f0, m, d, ha, hb, hab, hgs, hf0, m0, m1, d0, d1⟩ := hp
    refine ⟨_, pss_cons (pool_while (a := a) (b := b) (m := m) (d := d) (x := x.1) (u := hr.units) (ps_while PassesOwn.never (PW.pt (pw_and (pt_cmpR op_eq (pe_ix ix_list (pv 0) pe_int (fun _ _ => rfl)) pe_int (nomark _)) (pw_and1 (pt_cmpR (op_neD hr.units) (pe_ix ix_list (pv 0) pe_int (fun _ _ => rfl)) (pe_lst pa_nil) (nomark _)))))
        (pss_one (ps_asg (pe_bm PySem.F.plainAttrs_list PySem.F.slot_list_pop PySem.F.type_list_pop mt_popAt (pe_ix ix_list (pv 0) pe_int (fun _ _ => rfl)) (pa_cons pe_int pa_nil)) (pg_sub (pv 0) pe_int set_list)))) ?hs ?hb)
      (pss_cons (ps_if (pt_cmpR op_gt (pe_ix ix_list (pv 0) pe_int (fun _ _ => rfl)) pe_int (nomark _))
          (pss_cons (ps_set (i := 2) sc_law_pick.nd rfl (.inl rfl) (pe_op op_mod (pe_callTy call_int1 (by rfl) mi (by decide +kernel) (pa_cons (pe_ix ix_list (pv 0) pe_int (fun _ _ => rfl)) pa_nil)) (pv 1)))
          (pss_cons (ps_asg (pe_op op_fdivA (pe_ix ix_list (pv 0) pe_int (fun _ _ => rfl)) (pv 1)) (pg_sub (pv 0) pe_int set_list))
          (pss_one (ps_ret (pv 2))))) pss_nil)
      (pss_cons (ps_asg (pe_op op_add (pe_ix ix_list (pv 0) pe_int (fun _ _ => rfl)) pe_int) (pg_sub (pv 0) pe_int set_list))
      (pss_cons (ps_set (i := 3) sc_law_pick.nd rfl (.inl rfl) (pe_op op_mod (pe_callTy call_int1 (by rfl) mi (by decide +kernel) (pa_cons (pe_op op_powX (pe_op op_add (pe_ix ix_list (pv 0) pe_int (fun _ _ => rfl)) (pe_op op_mul pe_int (pe_ix ix_list (pv 0) pe_int (fun _ _ => rfl)))) pe_int) pa_nil)) (pe_op op_add (pe_op op_powX pe_int pe_int) pe_int)))
      (pss_cons (ps_set (i := 3) sc_law_pick.nd rfl (.inl rfl) (pe_op op_mod (pe_callTy call_int1 (by rfl) mi (by decide +kernel) (pa_cons (pe_op op_powX (pe_op op_add (pv 3) (pe_op op_mul pe_int (pe_ix ix_list (pv 0) pe_int (fun _ _ => rfl)))) pe_int) pa_nil)) (pe_op op_add (pe_op op_powX pe_int pe_int) pe_int)))
      (pss_one (ps_ret (pe_op op_mod (pe_callTy call_int1 (by rfl) mi (by decide +kernel) (pa_cons (pe_op op_fdivA (pv 3) (pe_op op_powX pe_int pe_int)) pa_nil)) (pv 1)))))))), ?_⟩
    case hs =>
      intro gs f H1 ⟨ea, eb, ne, hg, hf⟩ R hR
      refine ⟨.ref a, rfl, a, [.ref b, .int f, .int m, .int d], 1, .int f, rfl, rfl, SqL.of ea, rfl, rfl, _, rfl, ?_⟩
      refine ite2 (fun e => ?_) (fun e => ?_)
      · have e0 : f = 0 := V.int.inj (of_decide_eq_true e)
        subst e0
        refine ⟨.ref a, rfl, a, _, 0, .ref b, rfl, rfl, SqL.of ea, rfl, Nat.zero_le _, fun p np => ?_⟩
        have s1 := same_new (o := .lst []) np
        refine ⟨.list (gs.map .int), .list [], .lst (SqL.of (s1 _ _ eb)) (dpInts gs), .lst (SqL.of upd_same) .nil, shInts gs, rfl, _, rfl, ?_⟩
        have z := hR _ s1
        cases gs with
        | nil => simpa [PyData.eqv, PyData.eqvAll] using z
        | cons g gs => simpa [PyData.eqv, PyData.eqvAll] using z
      · have e0 : f ≠ 0 := fun z => e (by rw [z]; rfl)
        have z := hR _ (.refl _)
        simpa [e0] using z
    case hb =>
      intro g gs f H1 D ⟨ea, eb, ne, hg, hf⟩ k
      have e1 : seqIndex? 0 (List.map V.int (g :: gs)).length = some 0 := by simp [seqIndex?]
      refine ⟨.ref a, rfl, a, [.ref b, .int f, .int m, .int d], 0, .ref b, rfl, rfl, SqL.of ea, rfl, .inl ⟨rfl, _, SqL.of eb⟩, b, _, 0, 0, .int g, rfl, rfl, eb, by decide, by decide, e1, rfl, ?_⟩
      refine ⟨.ref a, rfl, a, [.ref b, .int f, .int m, .int d], 1, 1, rfl, rfl, by rw [upd_ne ne]; exact ea, rfl, k _ ⟨upd_same, by rw [upd_ne ne.symm, upd_same]; rfl, ne, fun y hy => hg y (List.mem_cons_of_mem _ hy), hg g List.mem_cons_self⟩ fun y o ey hn => ?_⟩
      rw [upd_ne (fun z => hn (.inl z)), upd_ne (fun z => hn (.inr z))]
      exact ey
    refine ⟨rfl, gs, f0, ⟨ha, hb, hab, hgs, hf0⟩, fun gs f H1 ⟨ea, eb, _, hg, hf⟩ ch1 => ?_⟩
    -- if pool[1] > 0
    refine ⟨.ref a, rfl, a, [.ref b, .int f, .int m, .int d], 1, .int f, rfl, rfl, SqL.of ea, rfl, _, _, rfl, rfl, _, rfl, ite2 (fun e => ?_) (fun e => ?_)⟩
    · refine ⟨.ref a, rfl, a, [.ref b, .int f, .int m, .int d], 1, .int f, rfl, rfl, SqL.of ea, rfl, .inl ⟨f, rfl, .int x.1, rfl, _, _, rfl, rfl, hm0, ?_⟩⟩
      refine ⟨.ref a, rfl, a, [.ref b, .int f, .int m, .int d], 1, .int f, rfl, rfl, SqL.of ea, rfl, .int x.1, rfl, _, _, rfl, rfl, ⟨by omega, hm1⟩, ?_⟩
      refine ⟨.ref a, rfl, a, [.ref b, .int f, .int m, .int d], 1, 1, rfl, rfl, ea, rfl, _, rfl, ?_⟩
      refine q _ _ _ _ (hw (f % x.1) (Int.emod_nonneg _ (by omega)) (Int.emod_lt_of_pos _ hm0)) (fun y o ey hn => ?_) ⟨gs, f.fdiv x.1, m, d, upd_same, by rw [upd_ne hab.symm]; exact eb, hab, hg, ?_, m0, m1, d0, by omega⟩ rfl
      · rw [upd_ne (fun z => hn (.inl z))]
        exact ch1 y o ey hn
      · rw [Int.fdiv_eq_ediv_of_nonneg _ (by omega)]
        exact Int.ediv_nonneg hf (by omega)
    · -- pool[3] = pool[3] + 1
      refine ⟨.ref a, rfl, a, [.ref b, .int f, .int m, .int d], 3, .int d, rfl, rfl, SqL.of ea, rfl, _, _, rfl, rfl, ?_⟩
      refine ⟨.ref a, rfl, a, [.ref b, .int f, .int m, .int d], 3, 3, rfl, rfl, ea, rfl, ?_⟩
      have e1 : upd H1 a (.lst ([.ref b, .int f, .int m, .int d].set 3 (.int (d + 1)))) a = some (.lst [.ref b, .int f, .int m, .int (d + 1)]) := upd_same
      have eb1 : upd H1 a (.lst ([.ref b, .int f, .int m, .int d].set 3 (.int (d + 1)))) b = some (.lst (gs.map V.int)) := by rw [upd_ne hab.symm]; exact eb
      have ch2 : Chg (some (a, b)) H (upd H1 a (.lst ([.ref b, .int f, .int m, .int d].set 3 (.int (d + 1))))) := fun y o ey hn => by
        rw [upd_ne (fun z => hn (.inl z))]
        exact ch1 y o ey hn
      generalize upd H1 a (.lst ([.ref b, .int f, .int m, .int d].set 3 (.int (d + 1)))) = H2 at e1 eb1 ch2 ⊢
      have p1 : (m + 900001 * (d + 1)).natAbs < 2 ^ 1030 := big_lt hc d0 d1 m0 (Int.le_trans m1 (by decide)) (q := 900001) (by decide) (by decide) rfl
      have v1 := bits_lt p1
      refine ⟨.ref a, rfl, a, [.ref b, .int f, .int m, .int (d + 1)], 2, .int m, rfl, rfl, SqL.of e1, rfl, .ref a, rfl, a, [.ref b, .int f, .int m, .int (d + 1)], 3, .int (d + 1), rfl, rfl, SqL.of e1, rfl, _, _, rfl, rfl, .inl ⟨by decide, by decide⟩, _, _, rfl, rfl, _, _, rfl, rfl, ⟨by decide, by omega⟩, .inl ⟨_, rfl, _, _, rfl, rfl, ⟨by decide, by decide⟩, _, _, rfl, rfl, _, _, rfl, rfl, (by show (0 : Int) < 10 ^ 33 + 87; decide +kernel), ?_⟩⟩
      generalize (m + 900001 * (d + 1)) ^ Int.toNat 3 = y0
      have y1 : 0 ≤ y0 % (10 ^ Int.toNat 33 + 87) := Int.emod_nonneg _ (by decide +kernel)
      have y2 : y0 % (10 ^ Int.toNat 33 + 87) < 10 ^ Int.toNat 33 + 87 := Int.emod_lt_of_pos _ (by decide +kernel)
      have ey : y0 % (10 ^ Int.toNat 33 + 87) = y0 % (10 ^ Int.toNat 33 + 87) := rfl
      generalize hy : y0 % (10 ^ Int.toNat 33 + 87) = y at y1 y2
      have y3 : y ≤ 10 ^ 40 := Int.le_trans (Int.le_of_lt y2) (by decide +kernel)
      have v2 := bits_lt (big_lt hc d0 d1 y1 y3 (q := 7919) (by decide) (by decide) rfl)
      rw [← hy] at v2
      refine ⟨_, rfl, .ref a, rfl, a, [.ref b, .int f, .int m, .int (d + 1)], 3, .int (d + 1), rfl, rfl, SqL.of e1, rfl, _, _, rfl, rfl, .inl ⟨by decide, by decide⟩, _, _, rfl, rfl, _, _, rfl, rfl, ⟨by decide, by omega⟩, .inl ⟨_, rfl, _, _, rfl, rfl, ⟨by decide, by decide⟩, _, _, rfl, rfl, _, _, rfl, rfl, (by show (0 : Int) < 10 ^ 31 + 99; decide +kernel), ?_⟩⟩
      refine ⟨_, rfl, _, _, rfl, rfl, ⟨by decide, by decide⟩, _, _, rfl, rfl, ⟨by decide +kernel, by decide +kernel⟩, .inl ⟨_, rfl, .int x.1, rfl, _, _, rfl, rfl, hm0, ?_⟩⟩
      exact q _ _ _ _ (hw _ (Int.emod_nonneg _ (by omega)) (Int.emod_lt_of_pos _ hm0)) ch2 ⟨gs, f, m, d + 1, e1, eb1, hab, hg, hf, m0, m1, by omega, by omega⟩ rfl

theorem ok_law_pool {f : Addr} {fd : FuncData} (F : Fun K "_law_pool" "_law_pool" s_law_pool f fd) (mi : mg "int" = none) (me : mg "enumerate" = none) : FnOk P w K mg base CX0 1 f fd ["_law_script"] (spPool K) := by
  refine F.ok sc_law_pool (fun vs H Q E h => ?_) (fun cdv A outer s H vs Q E hr h => ?_)
  · obtain ⟨a, ns, rfl, _⟩ := h
    rfl
  · obtain ⟨a, ns, rfl, hS, hl, q⟩ := h
    refine ⟨_, pss_cons (ps_par (i := 1) (j := 2) rfl sc_law_pool.nd rfl rfl (by decide) rfl rfl (pa_cons pe_int (pa_cons (pe_lst pa_nil) pa_nil)) (by rfl))
      (pss_cons (ps_for PassesOwn.never rfl (pi_enum (by rfl) me (pa_cons (pv 0) pa_nil)) (pg_tup rfl (pgs_cons (pg_name (i := 3) sc_law_pool.nd rfl (.inl rfl)) (pgs_cons (pg_name (i := 4) sc_law_pool.nd rfl (.inl rfl)) pgs_nil)))
        (pss_one (ps_if (pt_cmpR op_ge (pv 4) (pe_op op_powX pe_int pe_int) (nomark _))
          (pss_one (ps_expr (pe_bm PySem.F.plainAttrs_list PySem.F.slot_list_append PySem.F.type_list_append mt_append (pv 2) (pa_cons (pe_op op_sub (pv 4) (pe_op op_powX pe_int pe_int)) pa_nil))))
          (pss_one (ps_set (i := 1) sc_law_pool.nd rfl (.inl rfl) (pe_op op_add (pe_op op_mod (pe_callTy call_int1 (by rfl) mi (by decide +kernel) (pa_cons (pe_op op_powX (pe_op op_add (pe_op op_add (pv 1) (pe_op op_mul pe_int (pv 3)))
            (pe_op op_mod (pe_callTy call_int1 (by rfl) mi (by decide +kernel) (pa_cons (pv 4) pa_nil)) (pe_op op_add (pe_op op_powX pe_int pe_int) pe_int))) pe_int) pa_nil)) (pe_op op_add (pe_op op_powX pe_int pe_int) pe_int)) pe_int))))))
      (pss_one (ps_ret (pe_lst (pa_cons (pv 2) (pa_cons pe_int (pa_cons (pv 1) (pa_cons pe_int pa_nil)))))))), ?_⟩
    refine ⟨Nat.zero_le _, fun b nb => ?_⟩
    have s0 := same_new (o := .lst []) nb
    refine ⟨_, _, rfl, ?_⟩
    refine ⟨.ref a, rfl, a, _, rfl, s0.seq hS, ?_⟩
    refine ⟨fun i n σ H1 => ∃ m gs y3 y4, σ = [some (.ref a), some (.int m), some (.ref b), y3, y4] ∧ i + n = ns.length ∧ Same H H1 ∧ H1 b = some (.lst (gs.map V.int)) ∧ gs.length ≤ i ∧ (∀ g ∈ gs, 0 ≤ g) ∧ 0 ≤ m ∧ m ≤ 10 ^ 29,
      ⟨ns.length, 60013, [], none, none, rfl, by omega, s0, upd_same, Nat.le_refl _, (fun g hg => absurd hg List.not_mem_nil), by decide, by decide⟩, fun i n σ H1 hW => ?_⟩
    obtain ⟨m, gs, y3, y4, rfl, en, sm, eb, gl, hg, m0, m1⟩ := hW
    have hA : SqL K H1 a (ns.map V.int) := sm.seq hS
    by_cases hi : i < ns.length
    · have g1 : (ns.map V.int)[i]? = some (.int ns[i]) := by rw [List.getElem?_map, List.getElem?_eq_getElem hi]; rfl
      refine .inr ⟨⟨_, _, hA, g1⟩, fun σ H2 => ∃ m gs y3 y4, σ = [some (.ref a), some (.int m), some (.ref b), y3, y4] ∧ Same H H2 ∧ H2 b = some (.lst (gs.map V.int)) ∧ gs.length ≤ i + 1 ∧ (∀ g ∈ gs, 0 ≤ g) ∧ 0 ≤ m ∧ m ≤ 10 ^ 29, fun σ H2 ⟨m, gs, y3, y4, e1, e2, e3, e4, e5, e6⟩ => ⟨n - 1, by omega, m, gs, y3, y4, e1, by omega, e2, e3, e4, e5, e6⟩, fun v H2 y => ?_⟩
      obtain ⟨T, z, rfl, nT, rfl, hz⟩ := y
      have ez := hz _ hA
      rw [g1] at ez
      cases ez
      have sT := same_new (o := .tup [.int (i : Nat), .int ns[i]]) nT
      refine ⟨T, _, rfl, .inl (.inl upd_same), rfl, _, _, rfl, _, _, rfl, rfl, ?_⟩
      have eb2 := sT _ _ eb
      have sm2 := sm.trans sT
      generalize upd H1 T (.tup [.int (i : Nat), .int ns[i]]) = H2 at eb2 sm2 ⊢
      refine ⟨_, rfl, _, _, rfl, rfl, ⟨by decide, by decide⟩, _, _, rfl, rfl, _, rfl, ite2 (fun e => ?_) (fun e => ?_)⟩
      · refine ⟨_, rfl, .inl ⟨rfl, _, SqL.of eb2⟩, _, rfl, _, _, rfl, rfl, ⟨by decide, by decide⟩, _, _, rfl, rfl, b, _, _, rfl, rfl, eb2, ?_, ?_⟩
        · rw [List.length_map]
          exact small1000 (by omega)
        · refine ⟨m, gs ++ [ns[i] - 10 ^ Int.toNat 18], _, _, rfl, fun y o ey => ?_, ?_, by rw [List.length_append]; exact Nat.succ_le_succ gl, fun g hg' => ?_, m0, m1⟩
          · rw [upd_ne (ne_of_none ey nb)]
            exact sm2 _ _ ey
          · rw [upd_same, List.map_append]; rfl
          · rcases List.mem_append.mp hg' with h | h
            · exact hg g h
            · have h : g = ns[i] - 10 ^ Int.toNat 18 := by simpa using h
              have e2 : (10 : Int) ^ Int.toNat 18 ≤ ns[i] := of_decide_eq_true e
              omega
      · have c1 : 0 ≤ ns[i] % (10 ^ Int.toNat 21 + 117) := Int.emod_nonneg _ (by decide +kernel)
        have c2 : ns[i] % (10 ^ Int.toNat 21 + 117) < 10 ^ Int.toNat 21 + 117 := Int.emod_lt_of_pos _ (by decide +kernel)
        have hb : (m + 31 * ((i : Nat) : Int) + ns[i] % (10 ^ Int.toNat 21 + 117)).natAbs < 2 ^ 120 := by
          have k1 : (10 : Int) ^ Int.toNat 21 + 117 ≤ 2 ^ 100 := by decide +kernel
          have k2 : (10 : Int) ^ 29 ≤ 2 ^ 100 := by decide +kernel
          have k3 : (2 : Int) ^ 120 = 2 ^ 100 * 1048576 := by decide +kernel
          have k4 : (1000000 : Int) ≤ 2 ^ 100 := by decide +kernel
          have k5 : m + 31 * ((i : Nat) : Int) + ns[i] % (10 ^ Int.toNat 21 + 117) < 2 ^ 120 := by
            rw [k3]
            generalize ns[i] % (10 ^ Int.toNat 21 + 117) = y at c1 c2 ⊢
            generalize (2 : Int) ^ 100 = z at *
            omega
          have k6 : 0 ≤ m + 31 * ((i : Nat) : Int) + ns[i] % (10 ^ Int.toNat 21 + 117) := by omega
          have : (((m + 31 * ((i : Nat) : Int) + ns[i] % (10 ^ Int.toNat 21 + 117)).natAbs : Nat) : Int) < ((2 ^ 120 : Nat) : Int) := by
            rw [Int.natAbs_of_nonneg k6]
            exact_mod_cast k5
          exact_mod_cast this
        have v1 := bits_lt hb
        refine ⟨_, rfl, _, rfl, _, _, rfl, rfl, .inl ⟨by decide, by decide⟩, _, _, rfl, rfl, _, rfl, .inl ⟨_, rfl, _, _, rfl, rfl, ⟨by decide, by decide⟩, _, _, rfl, rfl, _, _, rfl, rfl, (by show (0 : Int) < 10 ^ 21 + 117; decide +kernel), _, _, rfl, rfl, _, _, rfl, rfl, ⟨by decide, by omega⟩,
          .inl ⟨_, rfl, _, _, rfl, rfl, ⟨by decide, by decide⟩, _, _, rfl, rfl, _, _, rfl, rfl, (by show (0 : Int) < 10 ^ 28 + 331; decide +kernel), _, _, rfl, rfl, _, gs, _, _, rfl, sm2, eb2, Nat.le_succ_of_le gl, hg, ?_, ?_⟩⟩⟩
        · exact Int.add_nonneg (Int.emod_nonneg _ (by decide +kernel)) (by decide)
        · have z := Int.emod_lt_of_pos ((m + 31 * ((i : Nat) : Int) + ns[i] % (10 ^ Int.toNat 21 + 117)) ^ Int.toNat 3) (show (0 : Int) < 10 ^ Int.toNat 28 + 331 by decide +kernel)
          have k1 : (10 : Int) ^ Int.toNat 28 + 331 + 1 ≤ 10 ^ 29 := by decide +kernel
          omega
    · have ei : i = ns.length := by omega
      subst ei
      refine .inl ⟨⟨_, hA, by rw [List.length_map]; exact Nat.le_refl _⟩, ?_⟩
      refine ⟨_, rfl, _, rfl, by show 4 ≤ sizeLine; decide, fun p np => ?_⟩
      have npb : p ≠ b := fun z => by rw [z, eb] at np; cases np
      refine q _ p b (sm.trans (same_new np)) ?_ nb ⟨gs, 0, m, 0, upd_same, by rw [upd_ne npb.symm]; exact eb, npb, hg, by decide, m0, Int.le_trans m1 (by decide), by decide, by decide⟩
      cases e : H p with
      | none => rfl
      | some o => rw [sm p o e] at np; cases np

theorem ok_lowest (T : Txt K mg) : FnOk P w K mg base CX0 1 T.a_lowest T.d_lowest P_lowest (spW (K := K) poolA (aC eI (aC eI aN)) w_lowest eN) :=
  fn_R (k := 0) (wb := wb_lowest) (ρ' := fun z : Empty => nomatch z) T.F_lowest sc_lowest rfl (show 2 ≤ 3 by decide) fun cdv A outer s H E pp x hr => (re [Sl.sh eI x.1, Sl.sh eI x.2.1, Sl.nil] rfl (sx (nset 2 sc_lowest.nd (xcallG c_gcd T.m_gcd (axc (xv 0 rfl) (axc (xv 1 rfl) axn)))) fun _ v1 => (re [Sl.sh eI x.1, Sl.sh eI x.2.1, Sl.sh eI v1] rfl (sq_ (nifJ (fun r (s : Int) => (put r 2 (Sl.sh eI s))) (tcmp w_lt (xv 1 rfl) xint) (re [Sl.sh eI x.1, Sl.sh eI x.2.1, Sl.sh eI v1] rfl (sx (nset 2 sc_lowest.nd (xun w_neg (xv 2 rfl))) fun _ v10 => (re [Sl.sh eI x.1, Sl.sh eI x.2.1, Sl.sh eI v10] rfl (snil (s := (v10)) (Fit.eq (Fit.eq (Fit.eq Fit.nil))))))) (re [Sl.sh eI x.1, Sl.sh eI x.2.1, Sl.sh eI v1] rfl (snil (s := (v1)) (Fit.eq (Fit.eq (Fit.eq Fit.nil)))))) fun s12 => (re [Sl.sh eI x.1, Sl.sh eI x.2.1, Sl.sh eI s12] rfl (sret (xtup2 (axc (xop w_fdiv (xv 0 rfl) (xv 2 rfl)) (axc (xop w_fdiv (xv 1 rfl) (xv 2 rfl)) axn)))))))))
theorem ok_sum_two (T : Txt K mg) : FnOk P w K mg base CX0 2 T.a_sum_two T.d_sum_two P_sum_two (spW (K := K) poolA (aC eN (aC eN aN)) w_sum_two eN) :=
  fn_R (k := 1) (wb := wb_sum_two) (ρ' := fun z : Empty => nomatch z) T.F_sum_two sc_sum_two rfl (show 2 ≤ 2 by decide) fun cdv A outer s H E pp x hr => (re [Sl.sh eN x.1, Sl.sh eN x.2.1] rfl (sret (xcall (ok_lowest T) (hr.mono (by decide)) T.m_lowest T.F_lowest.kp (b_lowest T) (axc (xop0 w_add (xop w_mul (xfst (xv 0 rfl)) (xsnd (xv 1 rfl))) (xop w_mul (xfst (xv 1 rfl)) (xsnd (xv 0 rfl)))) (axc (xop w_mul (xsnd (xv 0 rfl)) (xsnd (xv 1 rfl))) axn)))))
theorem ok_product_two (T : Txt K mg) : FnOk P w K mg base CX0 2 T.a_product_two T.d_product_two P_product_two (spW (K := K) poolA (aC eN (aC eN aN)) w_product_two eN) :=
  fn_R (k := 1) (wb := wb_product_two) (ρ' := fun z : Empty => nomatch z) T.F_product_two sc_product_two rfl (show 2 ≤ 2 by decide) fun cdv A outer s H E pp x hr => (re [Sl.sh eN x.1, Sl.sh eN x.2.1] rfl (sret (xcall (ok_lowest T) (hr.mono (by decide)) T.m_lowest T.F_lowest.kp (b_lowest T) (axc (xop w_mul (xfst (xv 0 rfl)) (xfst (xv 1 rfl))) (axc (xop w_mul (xsnd (xv 0 rfl)) (xsnd (xv 1 rfl))) axn)))))
theorem ok_is_number (T : Txt K mg) : FnOk P w K mg base CX0 1 T.a_is_number T.d_is_number P_is_number (spW (K := K) poolA (aC eN aN) w_is_number eB) :=
  fn_R (k := 0) (wb := wb_is_number) (ρ' := fun z : Empty => nomatch z) T.F_is_number sc_is_number rfl (show 1 ≤ 1 by decide) fun cdv A outer s H E pp x hr => (re [Sl.sh eN x.1] rfl (sret (xand (xcmp w_ge (xsnd (xv 0 rfl)) xint) (xone (xcmp w_eqI (xcallG c_gcd T.m_gcd (axc (xfst (xv 0 rfl)) (axc (xsnd (xv 0 rfl)) axn))) xint)))))
theorem ok_checked (T : Txt K mg) : FnOk P w K mg base CX0 2 T.a_checked T.d_checked P_checked (spW (K := K) poolA (aC eN aN) w_checked eN) :=
  fn_R (k := 1) (wb := wb_checked) (ρ' := fun z : Empty => nomatch z) T.F_checked sc_checked rfl (show 1 ≤ 1 by decide) fun cdv A outer s H E pp x hr => (re [Sl.sh eN x.1] rfl (sq_ (nif0 (tnot (tval (xcall (ok_is_number T) (hr.mono (by decide)) T.m_is_number T.F_is_number.kp (b_is_number T) (axc (xv 0 rfl) axn)))) snever) fun _ => (re [Sl.sh eN x.1] rfl (sret (xv 0 rfl)))))
theorem ok_check_numbers (T : Txt K mg) : FnOk P w K mg base CX0 2 T.a_check_numbers T.d_check_numbers P_check_numbers (spW (K := K) poolA (aC (eL eN) aN) w_check_numbers eU) :=
  fn_U (k := 1) (wb := wb_check_numbers) (ρ' := fun _ : Unit => List.replicate 2 .nil) T.F_check_numbers sc_check_numbers rfl (show 1 ≤ 2 by decide) fun cdv A outer s H E pp x hr => (re [Sl.sh (eL eN) x.1, Sl.nil] rfl (sq_ (nforJ (fun r (_ : Unit) => r) (s0 := ()) PassesOwn.never rfl (wlistL 1 (xv 0 rfl)) (pg_name (i := 1) sc_check_numbers.nd rfl (by first | exact Or.inl rfl | exact Or.inr rfl)) (Fit.eq (Fit.eq Fit.nil)) (fun s74 y75 => (re [Sl.sh (eL eN) x.1, Sl.sh eN y75] rfl (sq_ (nif0 (tnot (tval (xcall (ok_is_number T) (hr.mono (by decide)) T.m_is_number T.F_is_number.kp (b_is_number T) (axc (xv 1 rfl) axn)))) snever) fun _ => (re [Sl.sh (eL eN) x.1, Sl.sh eN y75] rfl (snil (s := ()) (Fit.eq (Fit.dr Fit.nil)))))))) fun s80 => (re [Sl.sh (eL eN) x.1, Sl.nil] rfl (snil (s := ()) (Fit.dr (Fit.eq Fit.nil))))))
theorem ok_integers_of (T : Txt K mg) : FnOk P w K mg base CX0 1 T.a_integers_of T.d_integers_of P_integers_of (spW (K := K) poolA (aC (eL eN) aN) w_integers_of (eP (eL eI) eI)) :=
  fn_R (k := 0) (wb := wb_integers_of) (ρ' := fun z : Empty => nomatch z) T.F_integers_of sc_integers_of rfl (show 1 ≤ 3 by decide) fun cdv A outer s H E pp x hr => (re [Sl.sh (eL eN) x.1, Sl.nil, Sl.nil] rfl (sx (nset 1 sc_integers_of.nd xint) fun _ v81 => (re [Sl.sh (eL eN) x.1, Sl.sh eI v81, Sl.nil] rfl (sq_ (nforJ (fun r (s : Int) => (put r 1 (Sl.sh eI s))) (s0 := (v81)) PassesOwn.never rfl (wlistL 2 (xv 0 rfl)) (pg_name (i := 2) sc_integers_of.nd rfl (by first | exact Or.inl rfl | exact Or.inr rfl)) (Fit.eq (Fit.eq (Fit.eq Fit.nil))) (fun s82 y83 => (re [Sl.sh (eL eN) x.1, Sl.sh eI s82, Sl.sh eN y83] rfl (sx (nset 1 sc_integers_of.nd (xcallG c_lcm T.m_lcm (axc (xv 1 rfl) (axc (xsnd (xv 2 rfl)) axn)))) fun _ v84 => (re [Sl.sh (eL eN) x.1, Sl.sh eI v84, Sl.sh eN y83] rfl (snil (s := (v84)) (Fit.eq (Fit.eq (Fit.dr Fit.nil))))))))) fun s91 => (re [Sl.sh (eL eN) x.1, Sl.sh eI s91, Sl.nil] rfl (sret (xtup2 (axc (xfr (xlc (own := [(Str.ofString "number", 2)]) rfl sc_integers_of.nd (wlistL 2 (xv 0 rfl)) (blkOk_by (N := N_integers_of) (sc := defScope s_integers_of) (by decide +kernel)) (by decide) (nil1 rfl) (fun _ => rfl) (fun _ _ _ _ _ => (pg_name (i := 2) sc_integers_of.nd rfl (by first | exact Or.inl rfl | exact Or.inr rfl))) (fun _ _ _ _ _ y92 => (xop w_mul (xfst (xv 2 rfl)) (xop w_fdiv (xv 1 rfl) (xsnd (xv 2 rfl))))))) (axc (xv 1 rfl) axn)))))))))
theorem ok_numbers_of (T : Txt K mg) : FnOk P w K mg base CX0 2 T.a_numbers_of T.d_numbers_of P_numbers_of (spW (K := K) poolA (aC (eL eI) (aC eI aN)) w_numbers_of (eL eN)) :=
  fn_R (k := 1) (wb := wb_numbers_of) (ρ' := fun z : Empty => nomatch z) T.F_numbers_of sc_numbers_of rfl (show 2 ≤ 3 by decide) fun cdv A outer s H E pp x hr => (re [Sl.sh (eL eI) x.1, Sl.sh eI x.2.1, Sl.nil] rfl (sret (xfr (xlc (own := [(Str.ofString "integer", 2)]) rfl sc_numbers_of.nd (wlistL 2 (xv 0 rfl)) (blkOk_by (N := N_numbers_of) (sc := defScope s_numbers_of) (by decide +kernel)) (by decide) (nil1 rfl) (fun _ => rfl) (fun _ _ _ _ _ => (pg_name (i := 2) sc_numbers_of.nd rfl (by first | exact Or.inl rfl | exact Or.inr rfl))) (fun _ _ _ _ _ y106 => (xcall (ok_lowest T) (hr.mono (by decide)) T.m_lowest T.F_lowest.kp (b_lowest T) (axc (xv 2 rfl) (axc (xv 1 rfl) axn))))))))
theorem ok_fresh (T : Txt K mg) : ∀ n : Nat, FnOk P w K mg base CX0 (1 + n) T.a_fresh T.d_fresh P_fresh (spW (K := K) poolA (aC eD aN) (w_fresh n) eD)
  | 0 => fn_R (k := 0) (wb := fun _ => stuck) (ρ' := fun z : Empty => nomatch z) T.F_fresh sc_fresh rfl (show 1 ≤ 2 by decide) fun cdv A outer s H E pp x hr => snever
  | n + 1 =>
    have ih := ok_fresh T n
    fn_R (k := 1 + n) (ρ' := fun z : Empty => nomatch z) T.F_fresh sc_fresh rfl (show 1 ≤ 2 by decide) fun cdv A outer s H E pp x hr => (re [Sl.sh eD x.1, Sl.nil] rfl (sq_ (nif0 (tval (xisi T.z_isinstance T.z_list (by decide +kernel) (by decide) (xv 0 rfl))) (re [Sl.sh eD x.1, Sl.nil] rfl (sret (xD (tdL tdD) (xfr (xlc (own := [(Str.ofString "piece", 1)]) rfl sc_fresh.nd (wlistL 1 (xDl (xv 0 rfl))) (blkOk_by (N := N_fresh) (sc := defScope s_fresh) (by decide +kernel)) (by decide) (nil1 rfl) (fun _ => rfl) (fun _ _ _ _ _ => (pg_name (i := 1) sc_fresh.nd rfl (by first | exact Or.inl rfl | exact Or.inr rfl))) (fun _ _ _ _ _ y116 => (xcall ih hr T.m_fresh T.F_fresh.kp (b_fresh T) (axc (xv 1 rfl) axn))))))))) fun _ => (re [Sl.sh eD x.1, Sl.nil] rfl (sq_ (nif0 (tval (xisi T.z_isinstance T.z_tuple (by decide +kernel) (by decide) (xv 0 rfl))) (re [Sl.sh eD x.1, Sl.nil] rfl (sret (xcallT c_tupD T.z_tuple (by decide +kernel) (axc (xfr (xlc (own := [(Str.ofString "piece", 1)]) rfl sc_fresh.nd (wtupD 1 (xv 0 rfl)) (blkOk_by (N := N_fresh) (sc := defScope s_fresh) (by decide +kernel)) (by decide) (nil1 rfl) (fun _ => rfl) (fun _ _ _ _ _ => (pg_name (i := 1) sc_fresh.nd rfl (by first | exact Or.inl rfl | exact Or.inr rfl))) (fun _ _ _ _ _ y125 => (xcall ih hr T.m_fresh T.F_fresh.kp (b_fresh T) (axc (xv 1 rfl) axn))))) axn))))) fun _ => (re [Sl.sh eD x.1, Sl.nil] rfl (sret (xv 0 rfl)))))))
theorem ok_plus_row (T : Txt K mg) : FnOk P w K mg base CX0 3 T.a_plus_row T.d_plus_row P_plus_row (spW (K := K) poolA (aC (eL eN) (aC (eL eN) aN)) w_plus_row (eL eN)) :=
  fn_R (k := 2) (wb := wb_plus_row) (ρ' := fun z : Empty => nomatch z) T.F_plus_row sc_plus_row rfl (show 2 ≤ 4 by decide) fun cdv A outer s H E pp x hr => (re [Sl.sh (eL eN) x.1, Sl.sh (eL eN) x.2.1, Sl.nil, Sl.nil] rfl (sret (xfr (xlc (own := [(Str.ofString "left", 2), (Str.ofString "right", 3)]) rfl sc_plus_row.nd (wzip 2 3 T.z_zip (axc (xv 0 rfl) (axc (xv 1 rfl) axn))) (blkOk_by (N := N_plus_row) (sc := defScope s_plus_row) (by decide +kernel)) (by decide) (nil2 rfl rfl) (fun _ => rfl) (fun _ _ _ _ _ => (pg_tup rfl (pgs_cons (pg_name (i := 2) sc_plus_row.nd rfl (by first | exact Or.inl rfl | exact Or.inr rfl)) (pgs_cons (pg_name (i := 3) sc_plus_row.nd rfl (by first | exact Or.inl rfl | exact Or.inr rfl)) pgs_nil)))) (fun _ _ _ _ _ y139 => (xcall (ok_sum_two T) (hr.mono (by decide)) T.m_sum_two T.F_sum_two.kp (b_sum_two T) (axc (xv 2 rfl) (axc (xv 3 rfl) axn))))))))
theorem ok_scaled_row (T : Txt K mg) : FnOk P w K mg base CX0 3 T.a_scaled_row T.d_scaled_row P_scaled_row (spW (K := K) poolA (aC eN (aC (eL eN) aN)) w_scaled_row (eL eN)) :=
  fn_R (k := 2) (wb := wb_scaled_row) (ρ' := fun z : Empty => nomatch z) T.F_scaled_row sc_scaled_row rfl (show 2 ≤ 3 by decide) fun cdv A outer s H E pp x hr => (re [Sl.sh eN x.1, Sl.sh (eL eN) x.2.1, Sl.nil] rfl (sret (xfr (xlc (own := [(Str.ofString "number", 2)]) rfl sc_scaled_row.nd (wlistL 2 (xv 1 rfl)) (blkOk_by (N := N_scaled_row) (sc := defScope s_scaled_row) (by decide +kernel)) (by decide) (nil1 rfl) (fun _ => rfl) (fun _ _ _ _ _ => (pg_name (i := 2) sc_scaled_row.nd rfl (by first | exact Or.inl rfl | exact Or.inr rfl))) (fun _ _ _ _ _ y146 => (xcall (ok_product_two T) (hr.mono (by decide)) T.m_product_two T.F_product_two.kp (b_product_two T) (axc (xv 0 rfl) (axc (xv 2 rfl) axn))))))))
theorem ok_combination (T : Txt K mg) : FnOk P w K mg base CX0 3 T.a_combination T.d_combination P_combination (spW (K := K) poolA (aC (eL eN) (aC (eL (eL eN)) (aC eI aN))) w_combination (eL eN)) :=
  fn_R (k := 2) (wb := wb_combination) (ρ' := fun z : Empty => nomatch z) T.F_combination sc_combination rfl (show 3 ≤ 13 by decide) fun cdv A outer s H E pp x hr => (re [Sl.sh (eL eN) x.1, Sl.sh (eL (eL eN)) x.2.1, Sl.sh eI x.2.2.1, Sl.nil, Sl.nil, Sl.nil, Sl.nil, Sl.nil, Sl.nil, Sl.nil, Sl.nil, Sl.nil, Sl.nil] rfl (sx (npair 3 4 rfl sc_combination.nd (xcall (ok_integers_of T) (hr.mono (by decide)) T.m_integers_of T.F_integers_of.kp (b_integers_of T) (axc (xv 0 rfl) axn))) fun _ v153 => (re [Sl.sh (eL eN) x.1, Sl.sh (eL (eL eN)) x.2.1, Sl.sh eI x.2.2.1, Sl.sh (eL eI) v153.1, Sl.sh eI v153.2, Sl.nil, Sl.nil, Sl.nil, Sl.nil, Sl.nil, Sl.nil, Sl.nil, Sl.nil] rfl (sx (nset 5 sc_combination.nd (xcall (ok_integers_of T) (hr.mono (by decide)) T.m_integers_of T.F_integers_of.kp (b_integers_of T) (axc (xfr (by apply xlc2 (own := [(Str.ofString "row", 6), (Str.ofString "number", 7)]) (vs1 := [7]) (ext1 := fun r z => (put r 7 (Sl.sh eN z))) (js1 := [7]) (g1 := gName 7) rfl sc_combination.nd (wlistL 6 (xv 1 rfl)); (case ok => exact (blkOk_by (N := N_combination) (sc := defScope s_combination) (by decide +kernel))); (case hi1 => exact fun _ _ _ _ _ y157 => (wlistL 7 (xv 6 rfl))); (case hg => exact fun _ _ _ _ _ => (pg_name (i := 6) sc_combination.nd rfl (by first | exact Or.inl rfl | exact Or.inr rfl))); (case hg1 => exact fun _ _ _ _ _ => (pg_name (i := 7) sc_combination.nd rfl (by first | exact Or.inl rfl | exact Or.inr rfl))); (case he => exact fun _ _ _ _ _ y157 y158 => (xv 7 rfl)); (case hv1 => exact (by decide)); (case hj => exact (by decide)); (case hn => exact (nil2 rfl rfl)); (case ho => exact fun _ => rfl); (case hj1 => exact (by decide)); (case hn1 => exact fun _ => (nil1 rfl)); (case ho1 => exact fun _ _ => rfl))) axn))) fun _ v156 => (re [Sl.sh (eL eN) x.1, Sl.sh (eL (eL eN)) x.2.1, Sl.sh eI x.2.2.1, Sl.sh (eL eI) v153.1, Sl.sh eI v153.2, Sl.sh (eP (eL eI) eI) v156, Sl.nil, Sl.nil, Sl.nil, Sl.nil, Sl.nil, Sl.nil, Sl.nil] rfl (sx (nown (nsetFe 8 sc_combination.nd (xrepF (xlst (alc xint (aln (en := eI)))) (xv 2 rfl)))) fun p166 v161 => (re [Sl.sh (eL eN) x.1, Sl.sh (eL (eL eN)) x.2.1, Sl.sh eI x.2.2.1, Sl.sh (eL eI) v153.1, Sl.sh eI v153.2, Sl.sh (eP (eL eI) eI) v156, Sl.nil, Sl.nil, Sl.ow p166 (oL eI) v161, Sl.nil, Sl.nil, Sl.nil, Sl.nil] rfl (sq_ (nforJ (fun r (s : (List Int)) => (put r 8 (Sl.ow p166 (oL eI) s))) (s0 := (v161)) PassesOwn.never rfl (wenum 9 10 T.z_enumerate (axc (xv 3 rfl) axn)) (pg_tup rfl (pgs_cons (pg_name (i := 9) sc_combination.nd rfl (by first | exact Or.inl rfl | exact Or.inr rfl)) (pgs_cons (pg_name (i := 10) sc_combination.nd rfl (by first | exact Or.inl rfl | exact Or.inr rfl)) pgs_nil))) (Fit.eq (Fit.eq (Fit.eq (Fit.eq (Fit.eq (Fit.eq (Fit.eq (Fit.eq (Fit.eq (Fit.eq (Fit.eq (Fit.eq (Fit.eq Fit.nil))))))))))))) (fun s170 y171 => (re [Sl.sh (eL eN) x.1, Sl.sh (eL (eL eN)) x.2.1, Sl.sh eI x.2.2.1, Sl.sh (eL eI) v153.1, Sl.sh eI v153.2, Sl.sh (eP (eL eI) eI) v156, Sl.nil, Sl.nil, Sl.ow p166 (oL eI) s170, Sl.sh eI y171.1, Sl.sh eI y171.2, Sl.nil, Sl.nil] rfl (sq_ (nifJ (fun r (s : (List Int)) => (put r 8 (Sl.ow p166 (oL eI) s))) (tcmp w_neI (xv 10 rfl) xint) (re [Sl.sh (eL eN) x.1, Sl.sh (eL (eL eN)) x.2.1, Sl.sh eI x.2.2.1, Sl.sh (eL eI) v153.1, Sl.sh eI v153.2, Sl.sh (eP (eL eI) eI) v156, Sl.nil, Sl.nil, Sl.ow p166 (oL eI) s170, Sl.sh eI y171.1, Sl.sh eI y171.2, Sl.nil, Sl.nil] rfl (sq_ (nforJ (fun r (s : (List Int)) => (put r 8 (Sl.ow p166 (oL eI) s))) (s0 := (s170)) PassesOwn.never rfl (wenum 11 12 T.z_enumerate (axc (xslice (xfst (xv 5 rfl)) (on_some (xop w_mul (xv 9 rfl) (xv 2 rfl))) (on_some (xop0 w_add (xop w_mul (xv 9 rfl) (xv 2 rfl)) (xv 2 rfl)))) axn)) (pg_tup rfl (pgs_cons (pg_name (i := 11) sc_combination.nd rfl (by first | exact Or.inl rfl | exact Or.inr rfl)) (pgs_cons (pg_name (i := 12) sc_combination.nd rfl (by first | exact Or.inl rfl | exact Or.inr rfl)) pgs_nil))) (Fit.eq (Fit.eq (Fit.eq (Fit.eq (Fit.eq (Fit.eq (Fit.eq (Fit.eq (Fit.eq (Fit.eq (Fit.eq (Fit.eq (Fit.eq Fit.nil))))))))))))) (fun s190 y191 => (re [Sl.sh (eL eN) x.1, Sl.sh (eL (eL eN)) x.2.1, Sl.sh eI x.2.2.1, Sl.sh (eL eI) v153.1, Sl.sh eI v153.2, Sl.sh (eP (eL eI) eI) v156, Sl.nil, Sl.nil, Sl.ow p166 (oL eI) s190, Sl.sh eI y171.1, Sl.sh eI y171.2, Sl.sh eI y191.1, Sl.sh eI y191.2] rfl (sx (naugix 8 rfl (xop w_mul (xv 10 rfl) (xv 12 rfl)) (xv 11 rfl) wi_add) fun _ v194 => (re [Sl.sh (eL eN) x.1, Sl.sh (eL (eL eN)) x.2.1, Sl.sh eI x.2.2.1, Sl.sh (eL eI) v153.1, Sl.sh eI v153.2, Sl.sh (eP (eL eI) eI) v156, Sl.nil, Sl.nil, Sl.ow p166 (oL eI) (s190.set ((ixN s190.length v194.1).getD 0) v194.2), Sl.sh eI y171.1, Sl.sh eI y171.2, Sl.sh eI y191.1, Sl.sh eI y191.2] rfl (snil (s := ((s190.set ((ixN s190.length v194.1).getD 0) v194.2))) (Fit.eq (Fit.eq (Fit.eq (Fit.eq (Fit.eq (Fit.eq (Fit.eq (Fit.eq (Fit.eq (Fit.eq (Fit.eq (Fit.dr (Fit.dr Fit.nil))))))))))))))))))) fun s197 => (re [Sl.sh (eL eN) x.1, Sl.sh (eL (eL eN)) x.2.1, Sl.sh eI x.2.2.1, Sl.sh (eL eI) v153.1, Sl.sh eI v153.2, Sl.sh (eP (eL eI) eI) v156, Sl.nil, Sl.nil, Sl.ow p166 (oL eI) s197, Sl.sh eI y171.1, Sl.sh eI y171.2, Sl.nil, Sl.nil] rfl (snil (s := (s197)) (Fit.eq (Fit.eq (Fit.eq (Fit.eq (Fit.eq (Fit.eq (Fit.eq (Fit.eq (Fit.eq (Fit.eq (Fit.eq (Fit.eq (Fit.eq Fit.nil))))))))))))))))) (re [Sl.sh (eL eN) x.1, Sl.sh (eL (eL eN)) x.2.1, Sl.sh eI x.2.2.1, Sl.sh (eL eI) v153.1, Sl.sh eI v153.2, Sl.sh (eP (eL eI) eI) v156, Sl.nil, Sl.nil, Sl.ow p166 (oL eI) s170, Sl.sh eI y171.1, Sl.sh eI y171.2, Sl.nil, Sl.nil] rfl (snil (s := (s170)) (Fit.eq (Fit.eq (Fit.eq (Fit.eq (Fit.eq (Fit.eq (Fit.eq (Fit.eq (Fit.eq (Fit.eq (Fit.eq (Fit.eq (Fit.eq Fit.nil)))))))))))))))) fun s198 => (re [Sl.sh (eL eN) x.1, Sl.sh (eL (eL eN)) x.2.1, Sl.sh eI x.2.2.1, Sl.sh (eL eI) v153.1, Sl.sh eI v153.2, Sl.sh (eP (eL eI) eI) v156, Sl.nil, Sl.nil, Sl.ow p166 (oL eI) s198, Sl.sh eI y171.1, Sl.sh eI y171.2, Sl.nil, Sl.nil] rfl (snil (s := (s198)) (Fit.eq (Fit.eq (Fit.eq (Fit.eq (Fit.eq (Fit.eq (Fit.eq (Fit.eq (Fit.eq (Fit.dr (Fit.dr (Fit.eq (Fit.eq Fit.nil))))))))))))))))))) fun s199 => (re [Sl.sh (eL eN) x.1, Sl.sh (eL (eL eN)) x.2.1, Sl.sh eI x.2.2.1, Sl.sh (eL eI) v153.1, Sl.sh eI v153.2, Sl.sh (eP (eL eI) eI) v156, Sl.nil, Sl.nil, Sl.ow p166 (oL eI) s199, Sl.nil, Sl.nil, Sl.nil, Sl.nil] rfl (nfreeze 8 rfl (re [Sl.sh (eL eN) x.1, Sl.sh (eL (eL eN)) x.2.1, Sl.sh eI x.2.2.1, Sl.sh (eL eI) v153.1, Sl.sh eI v153.2, Sl.sh (eP (eL eI) eI) v156, Sl.nil, Sl.nil, Sl.sh (eL eI) s199, Sl.nil, Sl.nil, Sl.nil, Sl.nil] rfl (sret (xcall (ok_numbers_of T) (hr.mono (by decide)) T.m_numbers_of T.F_numbers_of.kp (b_numbers_of T) (axc (xv 8 rfl) (axc (xop w_mul (xv 4 rfl) (xsnd (xv 5 rfl))) axn)))))))))))))))
theorem ok_divided (T : Txt K mg) : FnOk P w K mg base CX0 1 T.a_divided T.d_divided P_divided (spW (K := K) poolA (aC (eL eI) aN) w_divided (eL eI)) :=
  fn_R (k := 0) (wb := wb_divided) (ρ' := fun z : Empty => nomatch z) T.F_divided sc_divided rfl (show 1 ≤ 3 by decide) fun cdv A outer s H E pp x hr => (re [Sl.sh (eL eI) x.1, Sl.nil, Sl.nil] rfl (sx (nset 1 sc_divided.nd xint) fun _ v208 => (re [Sl.sh (eL eI) x.1, Sl.sh eI v208, Sl.nil] rfl (sq_ (nforJ (fun r (s : Int) => (put r 1 (Sl.sh eI s))) (s0 := (v208)) PassesOwn.never rfl (wlistL 2 (xv 0 rfl)) (pg_name (i := 2) sc_divided.nd rfl (by first | exact Or.inl rfl | exact Or.inr rfl)) (Fit.eq (Fit.eq (Fit.eq Fit.nil))) (fun s209 y210 => (re [Sl.sh (eL eI) x.1, Sl.sh eI s209, Sl.sh eI y210] rfl (sx (nset 1 sc_divided.nd (xcallG c_gcd T.m_gcd (axc (xv 1 rfl) (axc (xv 2 rfl) axn)))) fun _ v211 => (re [Sl.sh (eL eI) x.1, Sl.sh eI v211, Sl.sh eI y210] rfl (sq_ (nif0 (tcmp w_eqI (xv 1 rfl) xint) (re [Sl.sh (eL eI) x.1, Sl.sh eI v211, Sl.sh eI y210] rfl (sret (xv 0 rfl)))) fun _ => (re [Sl.sh (eL eI) x.1, Sl.sh eI v211, Sl.sh eI y210] rfl (snil (s := (v211)) (Fit.eq (Fit.eq (Fit.dr Fit.nil))))))))))) fun s221 => (re [Sl.sh (eL eI) x.1, Sl.sh eI s221, Sl.nil] rfl (sret (xif (tcmp w_gt (xv 1 rfl) xint) (xfr (xlc (own := [(Str.ofString "integer", 2)]) rfl sc_divided.nd (wlistL 2 (xv 0 rfl)) (blkOk_by (N := N_divided) (sc := defScope s_divided) (by decide +kernel)) (by decide) (nil1 rfl) (fun _ => rfl) (fun _ _ _ _ _ => (pg_name (i := 2) sc_divided.nd rfl (by first | exact Or.inl rfl | exact Or.inr rfl))) (fun _ _ _ _ _ y224 => (xop w_fdiv (xv 2 rfl) (xv 1 rfl))))) (xv 0 rfl))))))))
theorem ok_cleared (T : Txt K mg) : FnOk P w K mg base CX0 2 T.a_cleared T.d_cleared P_cleared (spW (K := K) poolA (aC (eL eI) (aC (eL eI) (aC eI aN))) w_cleared (eL eI)) :=
  fn_R (k := 1) (wb := wb_cleared) (ρ' := fun z : Empty => nomatch z) T.F_cleared sc_cleared rfl (show 3 ≤ 8 by decide) fun cdv A outer s H E pp x hr => (re [Sl.sh (eL eI) x.1, Sl.sh (eL eI) x.2.1, Sl.sh eI x.2.2.1, Sl.nil, Sl.nil, Sl.nil, Sl.nil, Sl.nil] rfl (sx (nset 3 sc_cleared.nd (xcallG c_gcd T.m_gcd (axc (xix w_ixL (xv 0 rfl) (xv 2 rfl)) (axc (xix w_ixL (xv 1 rfl) (xv 2 rfl)) axn)))) fun _ v230 => (re [Sl.sh (eL eI) x.1, Sl.sh (eL eI) x.2.1, Sl.sh eI x.2.2.1, Sl.sh eI v230, Sl.nil, Sl.nil, Sl.nil, Sl.nil] rfl (sx (npair 4 5 rfl sc_cleared.nd (xtup2 (axc (xop w_fdiv (xix w_ixL (xv 1 rfl) (xv 2 rfl)) (xv 3 rfl)) (axc (xop w_fdiv (xix w_ixL (xv 0 rfl) (xv 2 rfl)) (xv 3 rfl)) axn)))) fun _ v240 => (re [Sl.sh (eL eI) x.1, Sl.sh (eL eI) x.2.1, Sl.sh eI x.2.2.1, Sl.sh eI v230, Sl.sh eI v240.1, Sl.sh eI v240.2, Sl.nil, Sl.nil] rfl (sret (xcall (ok_divided T) (hr.mono (by decide)) T.m_divided T.F_divided.kp (b_divided T) (axc (xfr (xlc (own := [(Str.ofString "one", 6), (Str.ofString "two", 7)]) rfl sc_cleared.nd (wzip 6 7 T.z_zip (axc (xv 0 rfl) (axc (xv 1 rfl) axn))) (blkOk_by (N := N_cleared) (sc := defScope s_cleared) (by decide +kernel)) (by decide) (nil2 rfl rfl) (fun _ => rfl) (fun _ _ _ _ _ => (pg_tup rfl (pgs_cons (pg_name (i := 6) sc_cleared.nd rfl (by first | exact Or.inl rfl | exact Or.inr rfl)) (pgs_cons (pg_name (i := 7) sc_cleared.nd rfl (by first | exact Or.inl rfl | exact Or.inr rfl)) pgs_nil)))) (fun _ _ _ _ _ y259 => (xop0 w_sub (xop w_mul (xv 4 rfl) (xv 6 rfl)) (xop w_mul (xv 5 rfl) (xv 7 rfl)))))) axn))))))))
theorem ok_Basis_init (T : Txt K mg) : FnOk P w K mg base CX0 1 T.a_Basis_init T.d_Basis_init P_Basis_init (spB0 T.c_Basis (Str.ofString "_lines")) :=
  fn_B0 T.F_Basis_init sc_Basis_init T.cl_Basis T.na_Basis_lines rfl rfl (fun _ _ _ _ _ _ => Or.inl rfl) (fun _ _ _ _ _ _ => rfl) (k := 0)
theorem ok_Basis_rest (T : Txt K mg) : FnOk P w K mg base CX0 3 T.a_Basis_rest T.d_Basis_rest P_Basis_rest (spW (K := K) poolA (aC (e_Basis T) (aC (eL eN) aN)) w_Basis_rest (eP3 (eL eI) eI (eL eI))) :=
  fn_R (k := 2) (wb := wb_Basis_rest) (ρ' := fun z : Empty => nomatch z) T.F_Basis_rest sc_Basis_rest rfl (show 2 ≤ 9 by decide) fun cdv A outer s H E pp x hr => (re [Sl.sh (e_Basis T) x.1, Sl.sh (eL eN) x.2.1, Sl.nil, Sl.nil, Sl.nil, Sl.nil, Sl.nil, Sl.nil, Sl.nil] rfl (sx (npair 2 3 rfl sc_Basis_rest.nd (xcall (ok_integers_of T) (hr.mono (by decide)) T.m_integers_of T.F_integers_of.kp (b_integers_of T) (axc (xv 1 rfl) axn))) fun _ v270 => (re [Sl.sh (e_Basis T) x.1, Sl.sh (eL eN) x.2.1, Sl.sh (eL eI) v270.1, Sl.sh eI v270.2, Sl.nil, Sl.nil, Sl.nil, Sl.nil, Sl.nil] rfl (sx (npar 4 5 rfl sc_Basis_rest.nd (axc (xcallB c_len T.z_len (by decide +kernel) (axc (xv 2 rfl) axn)) (axc (xcallB c_len T.z_len (by decide +kernel) (axc (xfld T.cl_Basis T.na_Basis_lines f0 (xv 0 rfl)) axn)) axn))) fun _ v273 => (re [Sl.sh (e_Basis T) x.1, Sl.sh (eL eN) x.2.1, Sl.sh (eL eI) v270.1, Sl.sh eI v270.2, Sl.sh eI v273.1, Sl.sh eI v273.2.1, Sl.nil, Sl.nil, Sl.nil] rfl (sx (nset 6 sc_Basis_rest.nd (xop w_cat (xop w_cat (xv 2 rfl) (xfr (xrepF (xlst (alc xint (aln (en := eI)))) (xv 5 rfl)))) (xlst (alc (xv 3 rfl) (aln (en := eI)))))) fun _ v285 => (re [Sl.sh (e_Basis T) x.1, Sl.sh (eL eN) x.2.1, Sl.sh (eL eI) v270.1, Sl.sh eI v270.2, Sl.sh eI v273.1, Sl.sh eI v273.2.1, Sl.sh (eL eI) v285, Sl.nil, Sl.nil] rfl (sq_ (nforJ (fun r (s : (List Int)) => (put r 6 (Sl.sh (eL eI) s))) (s0 := (v285)) PassesOwn.never rfl (wlistL 7 (xfld T.cl_Basis T.na_Basis_lines f0 (xv 0 rfl))) (pg_name (i := 7) sc_Basis_rest.nd rfl (by first | exact Or.inl rfl | exact Or.inr rfl)) (Fit.eq (Fit.eq (Fit.eq (Fit.eq (Fit.eq (Fit.eq (Fit.eq (Fit.eq (Fit.eq Fit.nil))))))))) (fun s299 y300 => (re [Sl.sh (e_Basis T) x.1, Sl.sh (eL eN) x.2.1, Sl.sh (eL eI) v270.1, Sl.sh eI v270.2, Sl.sh eI v273.1, Sl.sh eI v273.2.1, Sl.sh (eL eI) s299, Sl.sh (eP eI (eL eI)) y300, Sl.nil] rfl (sx (nset 8 sc_Basis_rest.nd (xfst (xv 7 rfl))) fun _ v301 => (re [Sl.sh (e_Basis T) x.1, Sl.sh (eL eN) x.2.1, Sl.sh (eL eI) v270.1, Sl.sh eI v270.2, Sl.sh eI v273.1, Sl.sh eI v273.2.1, Sl.sh (eL eI) s299, Sl.sh (eP eI (eL eI)) y300, Sl.sh eI v301] rfl (sq_ (nifJ (fun r (s : (List Int)) => (put r 6 (Sl.sh (eL eI) s))) (tcmp w_neI (xix w_ixL (xv 6 rfl) (xv 8 rfl)) xint) (re [Sl.sh (e_Basis T) x.1, Sl.sh (eL eN) x.2.1, Sl.sh (eL eI) v270.1, Sl.sh eI v270.2, Sl.sh eI v273.1, Sl.sh eI v273.2.1, Sl.sh (eL eI) s299, Sl.sh (eP eI (eL eI)) y300, Sl.sh eI v301] rfl (sx (nset 6 sc_Basis_rest.nd (xcall (ok_cleared T) (hr.mono (by decide)) T.m_cleared T.F_cleared.kp (b_cleared T) (axc (xv 6 rfl) (axc (xop w_cat (xsnd (xv 7 rfl)) (xfr (xrepF (xlst (alc xint (aln (en := eI)))) (xop0 w_sub (xop0 w_add (xop0 w_add (xv 4 rfl) (xv 5 rfl)) xint) (xcallB c_len T.z_len (by decide +kernel) (axc (xsnd (xv 7 rfl)) axn)))))) (axc (xv 8 rfl) axn))))) fun _ v308 => (re [Sl.sh (e_Basis T) x.1, Sl.sh (eL eN) x.2.1, Sl.sh (eL eI) v270.1, Sl.sh eI v270.2, Sl.sh eI v273.1, Sl.sh eI v273.2.1, Sl.sh (eL eI) v308, Sl.sh (eP eI (eL eI)) y300, Sl.sh eI v301] rfl (snil (s := (v308)) (Fit.eq (Fit.eq (Fit.eq (Fit.eq (Fit.eq (Fit.eq (Fit.eq (Fit.eq (Fit.eq Fit.nil))))))))))))) (re [Sl.sh (e_Basis T) x.1, Sl.sh (eL eN) x.2.1, Sl.sh (eL eI) v270.1, Sl.sh eI v270.2, Sl.sh eI v273.1, Sl.sh eI v273.2.1, Sl.sh (eL eI) s299, Sl.sh (eP eI (eL eI)) y300, Sl.sh eI v301] rfl (snil (s := (s299)) (Fit.eq (Fit.eq (Fit.eq (Fit.eq (Fit.eq (Fit.eq (Fit.eq (Fit.eq (Fit.eq Fit.nil)))))))))))) fun s334 => (re [Sl.sh (e_Basis T) x.1, Sl.sh (eL eN) x.2.1, Sl.sh (eL eI) v270.1, Sl.sh eI v270.2, Sl.sh eI v273.1, Sl.sh eI v273.2.1, Sl.sh (eL eI) s334, Sl.sh (eP eI (eL eI)) y300, Sl.sh eI v301] rfl (snil (s := (s334)) (Fit.eq (Fit.eq (Fit.eq (Fit.eq (Fit.eq (Fit.eq (Fit.eq (Fit.dr (Fit.dr Fit.nil))))))))))))))))) fun s335 => (re [Sl.sh (e_Basis T) x.1, Sl.sh (eL eN) x.2.1, Sl.sh (eL eI) v270.1, Sl.sh eI v270.2, Sl.sh eI v273.1, Sl.sh eI v273.2.1, Sl.sh (eL eI) s335, Sl.nil, Sl.nil] rfl (sret (xtup3 (axc (xslice (xv 6 rfl) on_none (on_some (xv 4 rfl))) (axc (xix w_ixL (xv 6 rfl) (xun w_neg xint)) (axc (xslice (xv 6 rfl) (on_some (xv 4 rfl)) (on_some (xun w_neg xint))) axn))))))))))))))
theorem ok_Basis_put (T : Txt K mg) : FnOk P w K mg base CX0 4 T.a_Basis_put T.d_Basis_put P_Basis_put (spPut (K := K) poolA T.c_Basis (Str.ofString "_lines") (eP eI (eL eI)) (aC (eL eN) aN) w_Basis_put) :=
  fn_P (k := 3) (wb := wb_Basis_put) (ρ' := fun z : Empty => nomatch z) T.F_Basis_put sc_Basis_put rfl (show 2 ≤ 7 by decide) fun cdv A outer s H E pp a l x hr => (reT [Sl.sh (eBas T.c_Basis a l (Str.ofString "_lines") (eP eI (eL eI))) x.1, Sl.sh (eL eN) x.2.1, Sl.nil, Sl.nil, Sl.nil, Sl.nil, Sl.nil] rfl (sxT (npair3 2 3 4 rfl sc_Basis_put.nd (xmeth T.cl_Basis T.me_Basis_rest (by decide +kernel) (ok_Basis_rest T) (hr.mono (by decide)) (b_Basis_rest T) (xbas (xv 0 rfl)) (axc (xv 1 rfl) axn))) fun _ v362 => (reT [Sl.sh (eBas T.c_Basis a l (Str.ofString "_lines") (eP eI (eL eI))) x.1, Sl.sh (eL eN) x.2.1, Sl.sh (eL eI) v362.1, Sl.sh eI v362.2.1, Sl.sh (eL eI) v362.2.2, Sl.nil, Sl.nil] rfl (sq_T (nforT (fun r (_ : Unit) => r) (s0 := ()) PassesOwn.never rfl (wenum 5 6 T.z_enumerate (axc (xv 2 rfl) axn)) (pg_tup rfl (pgs_cons (pg_name (i := 5) sc_Basis_put.nd rfl (by first | exact Or.inl rfl | exact Or.inr rfl)) (pgs_cons (pg_name (i := 6) sc_Basis_put.nd rfl (by first | exact Or.inl rfl | exact Or.inr rfl)) pgs_nil))) (Fit.eq (Fit.eq (Fit.eq (Fit.eq (Fit.eq (Fit.eq (Fit.eq Fit.nil))))))) (fun s366 y367 => (reT [Sl.sh (eBas T.c_Basis a l (Str.ofString "_lines") (eP eI (eL eI))) x.1, Sl.sh (eL eN) x.2.1, Sl.sh (eL eI) v362.1, Sl.sh eI v362.2.1, Sl.sh (eL eI) v362.2.2, Sl.sh eI y367.1, Sl.sh eI y367.2] rfl (sq_T (nif0T (tcmp w_neI (xv 6 rfl) xint) (reT [Sl.sh (eBas T.c_Basis a l (Str.ofString "_lines") (eP eI (eL eI))) x.1, Sl.sh (eL eN) x.2.1, Sl.sh (eL eI) v362.1, Sl.sh eI v362.2.1, Sl.sh (eL eI) v362.2.2, Sl.sh eI y367.1, Sl.sh eI y367.2] rfl (sappT 0 T.cl_Basis T.na_Basis_lines rfl ne_pair (xtup2 (axc (xv 5 rfl) (axc (xop w_cat (xop w_cat (xv 2 rfl) (xv 4 rfl)) (xlst (alc (xv 3 rfl) (aln (en := eI))))) axn)))))) fun _ => (reT [Sl.sh (eBas T.c_Basis a l (Str.ofString "_lines") (eP eI (eL eI))) x.1, Sl.sh (eL eN) x.2.1, Sl.sh (eL eI) v362.1, Sl.sh eI v362.2.1, Sl.sh (eL eI) v362.2.2, Sl.sh eI y367.1, Sl.sh eI y367.2] rfl (snilT (s := ()) (Fit.eq (Fit.eq (Fit.eq (Fit.eq (Fit.eq (Fit.dr (Fit.dr Fit.nil))))))))))))) fun s383 => (reT [Sl.sh (eBas T.c_Basis a l (Str.ofString "_lines") (eP eI (eL eI))) x.1, Sl.sh (eL eN) x.2.1, Sl.sh (eL eI) v362.1, Sl.sh eI v362.2.1, Sl.sh (eL eI) v362.2.2, Sl.nil, Sl.nil] rfl sfalT)))))
theorem ok_Basis_told (T : Txt K mg) : FnOk P w K mg base CX0 4 T.a_Basis_told T.d_Basis_told P_Basis_told (spW (K := K) poolA (aC (e_Basis T) (aC (eL eN) aN)) w_Basis_told (eO (eL eN))) :=
  fn_R (k := 3) (wb := wb_Basis_told) (ρ' := fun z : Empty => nomatch z) T.F_Basis_told sc_Basis_told rfl (show 2 ≤ 7 by decide) fun cdv A outer s H E pp x hr => (re [Sl.sh (e_Basis T) x.1, Sl.sh (eL eN) x.2.1, Sl.nil, Sl.nil, Sl.nil, Sl.nil, Sl.nil] rfl (sx (npair3 2 3 4 rfl sc_Basis_told.nd (xmeth T.cl_Basis T.me_Basis_rest (by decide +kernel) (ok_Basis_rest T) (hr.mono (by decide)) (b_Basis_rest T) (xv 0 rfl) (axc (xv 1 rfl) axn))) fun _ v388 => (re [Sl.sh (e_Basis T) x.1, Sl.sh (eL eN) x.2.1, Sl.sh (eL eI) v388.1, Sl.sh eI v388.2.1, Sl.sh (eL eI) v388.2.2, Sl.nil, Sl.nil] rfl (sq_ (nif0 (tval (xcallB (c_anyB rfl) T.z_any (by decide +kernel) (axc (xfr (xlc (own := [(Str.ofString "integer", 5)]) rfl sc_Basis_told.nd (wlistL 5 (xv 2 rfl)) (blkOk_by (N := N_Basis_told) (sc := defScope s_Basis_told) (by decide +kernel)) (by decide) (nil1 rfl) (fun _ => rfl) (fun _ _ _ _ _ => (pg_name (i := 5) sc_Basis_told.nd rfl (by first | exact Or.inl rfl | exact Or.inr rfl))) (fun _ _ _ _ _ y389 => (xcmp w_neI (xv 5 rfl) xint)))) axn))) (re [Sl.sh (e_Basis T) x.1, Sl.sh (eL eN) x.2.1, Sl.sh (eL eI) v388.1, Sl.sh eI v388.2.1, Sl.sh (eL eI) v388.2.2, Sl.nil, Sl.nil] rfl (sret xnonO))) fun _ => (re [Sl.sh (e_Basis T) x.1, Sl.sh (eL eN) x.2.1, Sl.sh (eL eI) v388.1, Sl.sh eI v388.2.1, Sl.sh (eL eI) v388.2.2, Sl.nil, Sl.nil] rfl (sret (xsomeL (xfr (xlc (own := [(Str.ofString "share", 6)]) rfl sc_Basis_told.nd (wlistL 6 (xv 4 rfl)) (blkOk_by (N := N_Basis_told) (sc := defScope s_Basis_told) (by decide +kernel)) (by decide) (nil1 rfl) (fun _ => rfl) (fun _ _ _ _ _ => (pg_name (i := 6) sc_Basis_told.nd rfl (by first | exact Or.inl rfl | exact Or.inr rfl))) (fun _ _ _ _ _ y398 => (xcall (ok_lowest T) (hr.mono (by decide)) T.m_lowest T.F_lowest.kp (b_lowest T) (axc (xun w_neg (xv 6 rfl)) (axc (xv 3 rfl) axn)))))))))))))
theorem ok_check_rows (T : Txt K mg) : FnOk P w K mg base CX0 3 T.a_check_rows T.d_check_rows P_check_rows (spW (K := K) poolA (aC (eL (eL eN)) (aC eI aN)) w_check_rows eU) :=
  fn_U (k := 2) (wb := wb_check_rows) (ρ' := fun _ : Unit => List.replicate 3 .nil) T.F_check_rows sc_check_rows rfl (show 2 ≤ 3 by decide) fun cdv A outer s H E pp x hr => (re [Sl.sh (eL (eL eN)) x.1, Sl.sh eI x.2.1, Sl.nil] rfl (sq_ (nforJ (fun r (_ : Unit) => r) (s0 := ()) PassesOwn.never rfl (wlistL 2 (xv 0 rfl)) (pg_name (i := 2) sc_check_rows.nd rfl (by first | exact Or.inl rfl | exact Or.inr rfl)) (Fit.eq (Fit.eq (Fit.eq Fit.nil))) (fun s407 y408 => (re [Sl.sh (eL (eL eN)) x.1, Sl.sh eI x.2.1, Sl.sh (eL eN) y408] rfl (sx (nexpr (xcall (ok_check_numbers T) (hr.mono (by decide)) T.m_check_numbers T.F_check_numbers.kp (b_check_numbers T) (axc (xv 2 rfl) axn))) fun _ _ => (re [Sl.sh (eL (eL eN)) x.1, Sl.sh eI x.2.1, Sl.sh (eL eN) y408] rfl (snil (s := ()) (Fit.eq (Fit.eq (Fit.dr Fit.nil))))))))) fun s411 => (re [Sl.sh (eL (eL eN)) x.1, Sl.sh eI x.2.1, Sl.nil] rfl (sq_ (nforJ (fun r (_ : Unit) => r) (s0 := ()) PassesOwn.never rfl (wlistL 2 (xv 0 rfl)) (pg_name (i := 2) sc_check_rows.nd rfl (by first | exact Or.inl rfl | exact Or.inr rfl)) (Fit.eq (Fit.eq (Fit.eq Fit.nil))) (fun s412 y413 => (re [Sl.sh (eL (eL eN)) x.1, Sl.sh eI x.2.1, Sl.sh (eL eN) y413] rfl (sq_ (nif0 (tcmp w_neI (xcallB c_len T.z_len (by decide +kernel) (axc (xv 2 rfl) axn)) (xv 1 rfl)) snever) fun _ => (re [Sl.sh (eL (eL eN)) x.1, Sl.sh eI x.2.1, Sl.sh (eL eN) y413] rfl (snil (s := ()) (Fit.eq (Fit.eq (Fit.dr Fit.nil))))))))) fun s420 => (re [Sl.sh (eL (eL eN)) x.1, Sl.sh eI x.2.1, Sl.nil] rfl (snil (s := ()) (Fit.dr (Fit.dr (Fit.eq Fit.nil)))))))))
theorem ok_sum_of (T : Txt K mg) : FnOk P w K mg base CX0 4 T.a_sum_of T.d_sum_of P_sum_of (spW (K := K) poolA (aC (eL eN) (aC (eL eN) aN)) w_sum_of (eL eN)) :=
  fn_R (k := 3) (wb := wb_sum_of) (ρ' := fun z : Empty => nomatch z) T.F_sum_of sc_sum_of rfl (show 2 ≤ 2 by decide) fun cdv A outer s H E pp x hr => (re [Sl.sh (eL eN) x.1, Sl.sh (eL eN) x.2.1] rfl (sx (nexpr (xcall (ok_check_numbers T) (hr.mono (by decide)) T.m_check_numbers T.F_check_numbers.kp (b_check_numbers T) (axc (xop w_cat (xv 0 rfl) (xv 1 rfl)) axn))) fun _ _ => (re [Sl.sh (eL eN) x.1, Sl.sh (eL eN) x.2.1] rfl (sq_ (nif0 (tcmp w_neI (xcallB c_len T.z_len (by decide +kernel) (axc (xv 0 rfl) axn)) (xcallB c_len T.z_len (by decide +kernel) (axc (xv 1 rfl) axn))) snever) fun _ => (re [Sl.sh (eL eN) x.1, Sl.sh (eL eN) x.2.1] rfl (sret (xcall (ok_plus_row T) (hr.mono (by decide)) T.m_plus_row T.F_plus_row.kp (b_plus_row T) (axc (xv 0 rfl) (axc (xv 1 rfl) axn)))))))))
theorem ok_times (T : Txt K mg) : FnOk P w K mg base CX0 4 T.a_times T.d_times P_times (spW (K := K) poolA (aC eN (aC (eL eN) aN)) w_times (eL eN)) :=
  fn_R (k := 3) (wb := wb_times) (ρ' := fun z : Empty => nomatch z) T.F_times sc_times rfl (show 2 ≤ 2 by decide) fun cdv A outer s H E pp x hr => (re [Sl.sh eN x.1, Sl.sh (eL eN) x.2.1] rfl (sx (nexpr (xcall (ok_checked T) (hr.mono (by decide)) T.m_checked T.F_checked.kp (b_checked T) (axc (xv 0 rfl) axn))) fun _ _ => (re [Sl.sh eN x.1, Sl.sh (eL eN) x.2.1] rfl (sx (nexpr (xcall (ok_check_numbers T) (hr.mono (by decide)) T.m_check_numbers T.F_check_numbers.kp (b_check_numbers T) (axc (xv 1 rfl) axn))) fun _ _ => (re [Sl.sh eN x.1, Sl.sh (eL eN) x.2.1] rfl (sret (xcall (ok_scaled_row T) (hr.mono (by decide)) T.m_scaled_row T.F_scaled_row.kp (b_scaled_row T) (axc (xv 0 rfl) (axc (xv 1 rfl) axn)))))))))
theorem ok_combined (T : Txt K mg) : FnOk P w K mg base CX0 4 T.a_combined T.d_combined P_combined (spW (K := K) poolA (aC (eL eN) (aC (eL (eL eN)) (aC eI aN))) w_combined (eL eN)) :=
  fn_R (k := 3) (wb := wb_combined) (ρ' := fun z : Empty => nomatch z) T.F_combined sc_combined rfl (show 3 ≤ 3 by decide) fun cdv A outer s H E pp x hr => (re [Sl.sh (eL eN) x.1, Sl.sh (eL (eL eN)) x.2.1, Sl.sh eI x.2.2.1] rfl (sx (nexpr (xcall (ok_check_numbers T) (hr.mono (by decide)) T.m_check_numbers T.F_check_numbers.kp (b_check_numbers T) (axc (xv 0 rfl) axn))) fun _ _ => (re [Sl.sh (eL eN) x.1, Sl.sh (eL (eL eN)) x.2.1, Sl.sh eI x.2.2.1] rfl (sx (nexpr (xcall (ok_check_rows T) (hr.mono (by decide)) T.m_check_rows T.F_check_rows.kp (b_check_rows T) (axc (xv 1 rfl) (axc (xv 2 rfl) axn)))) fun _ _ => (re [Sl.sh (eL eN) x.1, Sl.sh (eL (eL eN)) x.2.1, Sl.sh eI x.2.2.1] rfl (sq_ (nif0 (tcmp w_neI (xcallB c_len T.z_len (by decide +kernel) (axc (xv 0 rfl) axn)) (xcallB c_len T.z_len (by decide +kernel) (axc (xv 1 rfl) axn))) snever) fun _ => (re [Sl.sh (eL eN) x.1, Sl.sh (eL (eL eN)) x.2.1, Sl.sh eI x.2.2.1] rfl (sret (xcall (ok_combination T) (hr.mono (by decide)) T.m_combination T.F_combination.kp (b_combination T) (axc (xv 0 rfl) (axc (xv 1 rfl) (axc (xv 2 rfl) axn))))))))))))
theorem ok_told_by (T : Txt K mg) : FnOk P w K mg base CX0 6 T.a_told_by T.d_told_by P_told_by (spW (K := K) poolA (aC (eL eN) (aC (eL (eL eN)) aN)) w_told_by (eO (eL eN))) :=
  fn_R (k := 5) (wb := wb_told_by) (ρ' := fun z : Empty => nomatch z) T.F_told_by sc_told_by rfl (show 2 ≤ 10 by decide) fun cdv A outer s H E pp x hr => (re [Sl.sh (eL eN) x.1, Sl.sh (eL (eL eN)) x.2.1, Sl.nil, Sl.nil, Sl.nil, Sl.nil, Sl.nil, Sl.nil, Sl.nil, Sl.nil] rfl (sx (nexpr (xcall (ok_check_rows T) (hr.mono (by decide)) T.m_check_rows T.F_check_rows.kp (b_check_rows T) (axc (xop w_cat (xlst (alc (xv 0 rfl) (aln (en := (eL eN))))) (xv 1 rfl)) (axc (xcallB c_len T.z_len (by decide +kernel) (axc (xv 0 rfl) axn)) axn)))) fun _ _ => (re [Sl.sh (eL eN) x.1, Sl.sh (eL (eL eN)) x.2.1, Sl.nil, Sl.nil, Sl.nil, Sl.nil, Sl.nil, Sl.nil, Sl.nil, Sl.nil] rfl (sbas (gd := gdL) 2 3 4 rfl sc_told_by.nd rfl rfl rfl (by decide) (by decide) T.mk_Basis (ok_Basis_init T) (hr.mono (by decide)) T.m_Basis (b_Basis_init T) (wlistL 4 (xv 1 rfl)) (blkOk_by (N := N_told_by) (sc := defScope s_told_by) (by decide +kernel)) (fun _ _ _ _ _ => (pg_name (i := 4) sc_told_by.nd rfl (by first | exact Or.inl rfl | exact Or.inr rfl))) (fun _ _ _ _ _ => pe_meth (pe_var (i := 2) rfl (by first | exact Or.inl rfl | exact Or.inr (Or.inl rfl) | exact Or.inr (Or.inr rfl))) T.cl_Basis T.me_Basis_put (ok_Basis_put T) (hr.mono (by decide)) (b_Basis_put T) .nil pass0 (pa_cons (pe_var (i := 4) rfl (by first | exact Or.inl rfl | exact Or.inr (Or.inl rfl) | exact Or.inr (Or.inr rfl))) pa_nil)) (by decide) (by decide) (fun _ => rfl) (fun _ => rfl) ap_line rf_pair (sw_true rfl rfl rfl (by decide +kernel)) fun z481 => (re [Sl.sh (eL eN) x.1, Sl.sh (eL (eL eN)) x.2.1, Sl.sh (e_Basis T) (z481.1, ()), Sl.sh (eL eB) z481.2, Sl.nil, Sl.nil, Sl.nil, Sl.nil, Sl.nil, Sl.nil] rfl (sx (nset 5 sc_told_by.nd (xmeth T.cl_Basis T.me_Basis_told (by decide +kernel) (ok_Basis_told T) (hr.mono (by decide)) (b_Basis_told T) (xv 2 rfl) (axc (xv 0 rfl) axn))) fun _ v482 => (re [Sl.sh (eL eN) x.1, Sl.sh (eL (eL eN)) x.2.1, Sl.sh (e_Basis T) (z481.1, ()), Sl.sh (eL eB) z481.2, Sl.nil, Sl.sh (eO (eL eN)) v482, Sl.nil, Sl.nil, Sl.nil, Sl.nil] rfl (sq_ (nif0 (tisN (xv 5 rfl)) (re [Sl.sh (eL eN) x.1, Sl.sh (eL (eL eN)) x.2.1, Sl.sh (e_Basis T) (z481.1, ()), Sl.sh (eL eB) z481.2, Sl.nil, Sl.sh (eO (eL eN)) v482, Sl.nil, Sl.nil, Sl.nil, Sl.nil] rfl (sret xnonO))) fun _ => (re [Sl.sh (eL eN) x.1, Sl.sh (eL (eL eN)) x.2.1, Sl.sh (e_Basis T) (z481.1, ()), Sl.sh (eL eB) z481.2, Sl.nil, Sl.sh (eO (eL eN)) v482, Sl.nil, Sl.nil, Sl.nil, Sl.nil] rfl (sx (nown (nsetFe 6 sc_told_by.nd (xrepF (xlst (alc (xglob (v := .ref T.c_NOUGHT) rfl T.m_NOUGHT rfl (kTup_en T.k_NOUGHT)) (aln (en := eN)))) (xcallB c_len T.z_len (by decide +kernel) (axc (xv 1 rfl) axn))))) fun p498 v490 => (re [Sl.sh (eL eN) x.1, Sl.sh (eL (eL eN)) x.2.1, Sl.sh (e_Basis T) (z481.1, ()), Sl.sh (eL eB) z481.2, Sl.nil, Sl.sh (eO (eL eN)) v482, Sl.ow p498 (oL eN) v490, Sl.nil, Sl.nil, Sl.nil] rfl (sx (nset 7 sc_told_by.nd xint) fun _ v499 => (re [Sl.sh (eL eN) x.1, Sl.sh (eL (eL eN)) x.2.1, Sl.sh (e_Basis T) (z481.1, ()), Sl.sh (eL eB) z481.2, Sl.nil, Sl.sh (eO (eL eN)) v482, Sl.ow p498 (oL eN) v490, Sl.sh eI v499, Sl.nil, Sl.nil] rfl (sq_ (nforJ (fun r (s : Int × (List (Int × Int))) => (put (put r 7 (Sl.sh eI s.1)) 6 (Sl.ow p498 (oL eN) s.2))) (s0 := (v499, v490)) PassesOwn.never rfl (wenum 8 9 T.z_enumerate (axc (xv 3 rfl) axn)) (pg_tup rfl (pgs_cons (pg_name (i := 8) sc_told_by.nd rfl (by first | exact Or.inl rfl | exact Or.inr rfl)) (pgs_cons (pg_name (i := 9) sc_told_by.nd rfl (by first | exact Or.inl rfl | exact Or.inr rfl)) pgs_nil))) (Fit.eq (Fit.eq (Fit.eq (Fit.eq (Fit.eq (Fit.eq (Fit.eq (Fit.eq (Fit.eq (Fit.eq Fit.nil)))))))))) (fun s503 y504 => (re [Sl.sh (eL eN) x.1, Sl.sh (eL (eL eN)) x.2.1, Sl.sh (e_Basis T) (z481.1, ()), Sl.sh (eL eB) z481.2, Sl.nil, Sl.sh (eO (eL eN)) v482, Sl.ow p498 (oL eN) s503.2, Sl.sh eI s503.1, Sl.sh eI y504.1, Sl.sh eB y504.2] rfl (sq_ (nifJ (fun r (s : Int × (List (Int × Int))) => (put (put r 7 (Sl.sh eI s.1)) 6 (Sl.ow p498 (oL eN) s.2))) (tval (xv 9 rfl)) (re [Sl.sh (eL eN) x.1, Sl.sh (eL (eL eN)) x.2.1, Sl.sh (e_Basis T) (z481.1, ()), Sl.sh (eL eB) z481.2, Sl.nil, Sl.sh (eO (eL eN)) v482, Sl.ow p498 (oL eN) s503.2, Sl.sh eI s503.1, Sl.sh eI y504.1, Sl.sh eB y504.2] rfl (sx (nsetix 6 rfl (xix w_ixL (xunO (xv 5 rfl)) (xv 7 rfl)) (xv 8 rfl)) fun _ v508 => (re [Sl.sh (eL eN) x.1, Sl.sh (eL (eL eN)) x.2.1, Sl.sh (e_Basis T) (z481.1, ()), Sl.sh (eL eB) z481.2, Sl.nil, Sl.sh (eO (eL eN)) v482, Sl.ow p498 (oL eN) (s503.2.set ((ixN s503.2.length v508.1).getD 0) v508.2), Sl.sh eI s503.1, Sl.sh eI y504.1, Sl.sh eB y504.2] rfl (sx (naug 7 sc_told_by.nd rfl xint wi_add) fun _ v511 => (re [Sl.sh (eL eN) x.1, Sl.sh (eL (eL eN)) x.2.1, Sl.sh (e_Basis T) (z481.1, ()), Sl.sh (eL eB) z481.2, Sl.nil, Sl.sh (eO (eL eN)) v482, Sl.ow p498 (oL eN) (s503.2.set ((ixN s503.2.length v508.1).getD 0) v508.2), Sl.sh eI v511, Sl.sh eI y504.1, Sl.sh eB y504.2] rfl (snil (s := (v511, (s503.2.set ((ixN s503.2.length v508.1).getD 0) v508.2))) (Fit.eq (Fit.eq (Fit.eq (Fit.eq (Fit.eq (Fit.eq (Fit.eq (Fit.eq (Fit.eq (Fit.eq Fit.nil)))))))))))))))) (re [Sl.sh (eL eN) x.1, Sl.sh (eL (eL eN)) x.2.1, Sl.sh (e_Basis T) (z481.1, ()), Sl.sh (eL eB) z481.2, Sl.nil, Sl.sh (eO (eL eN)) v482, Sl.ow p498 (oL eN) s503.2, Sl.sh eI s503.1, Sl.sh eI y504.1, Sl.sh eB y504.2] rfl (snil (s := (s503.1, s503.2)) (Fit.eq (Fit.eq (Fit.eq (Fit.eq (Fit.eq (Fit.eq (Fit.eq (Fit.eq (Fit.eq (Fit.eq Fit.nil))))))))))))) fun s513 => (re [Sl.sh (eL eN) x.1, Sl.sh (eL (eL eN)) x.2.1, Sl.sh (e_Basis T) (z481.1, ()), Sl.sh (eL eB) z481.2, Sl.nil, Sl.sh (eO (eL eN)) v482, Sl.ow p498 (oL eN) s513.2, Sl.sh eI s513.1, Sl.sh eI y504.1, Sl.sh eB y504.2] rfl (snil (s := (s513.1, s513.2)) (Fit.eq (Fit.eq (Fit.eq (Fit.eq (Fit.eq (Fit.eq (Fit.eq (Fit.eq (Fit.dr (Fit.dr Fit.nil)))))))))))))))) fun s514 => (re [Sl.sh (eL eN) x.1, Sl.sh (eL (eL eN)) x.2.1, Sl.sh (e_Basis T) (z481.1, ()), Sl.sh (eL eB) z481.2, Sl.nil, Sl.sh (eO (eL eN)) v482, Sl.ow p498 (oL eN) s514.2, Sl.sh eI s514.1, Sl.nil, Sl.nil] rfl (nfreeze 6 rfl (re [Sl.sh (eL eN) x.1, Sl.sh (eL (eL eN)) x.2.1, Sl.sh (e_Basis T) (z481.1, ()), Sl.sh (eL eB) z481.2, Sl.nil, Sl.sh (eO (eL eN)) v482, Sl.sh (eL eN) s514.2, Sl.sh eI s514.1, Sl.nil, Sl.nil] rfl (sret (xsomeL (xv 6 rfl))))))))))))))))))))
theorem ok_Table_init (T : Txt K mg) : FnOk P w K mg base CX0 9 T.a_Table_init T.d_Table_init P_Table_init (spI poolA T.c_Table ns_Table (fe_Table K) (aC (eL (eL (eL eN))) aN) w_Table_init) :=
  fn_I (k := 8) (wb := wb_Table_init) (ns := ns_Table) (t := fe_Table K) T.F_Table_init sc_Table_init rfl (show 2 ≤ 10 by decide) 9 fun cdv A outer s H E pp x a hr => (re [Sl.ow a (oIns T.c_Table [] fN) (), Sl.sh (eL (eL (eL eN))) x.1, Sl.nil, Sl.nil, Sl.nil, Sl.nil, Sl.nil, Sl.nil, Sl.nil, Sl.nil] rfl (sq_ (nforJ (fun r (_ : Unit) => r) (s0 := ()) PassesOwn.never rfl (wlistL 2 (xv 1 rfl)) (pg_name (i := 2) sc_Table_init.nd rfl (by first | exact Or.inl rfl | exact Or.inr rfl)) (Fit.eq (Fit.eq (Fit.eq (Fit.eq (Fit.eq (Fit.eq (Fit.eq (Fit.eq (Fit.eq (Fit.eq Fit.nil)))))))))) (fun s517 y518 => (re [Sl.ow a (oIns T.c_Table [] fN) (), Sl.sh (eL (eL (eL eN))) x.1, Sl.sh (eL (eL eN)) y518, Sl.nil, Sl.nil, Sl.nil, Sl.nil, Sl.nil, Sl.nil, Sl.nil] rfl (sq_ (nforJ (fun r (_ : Unit) => r) (s0 := ()) PassesOwn.never rfl (wlistL 3 (xv 2 rfl)) (pg_name (i := 3) sc_Table_init.nd rfl (by first | exact Or.inl rfl | exact Or.inr rfl)) (Fit.eq (Fit.eq (Fit.eq (Fit.eq (Fit.eq (Fit.eq (Fit.eq (Fit.eq (Fit.eq (Fit.eq Fit.nil)))))))))) (fun s519 y520 => (re [Sl.ow a (oIns T.c_Table [] fN) (), Sl.sh (eL (eL (eL eN))) x.1, Sl.sh (eL (eL eN)) y518, Sl.sh (eL eN) y520, Sl.nil, Sl.nil, Sl.nil, Sl.nil, Sl.nil, Sl.nil] rfl (sx (nexpr (xcall (ok_check_numbers T) (hr.mono (by decide)) T.m_check_numbers T.F_check_numbers.kp (b_check_numbers T) (axc (xv 3 rfl) axn))) fun _ _ => (re [Sl.ow a (oIns T.c_Table [] fN) (), Sl.sh (eL (eL (eL eN))) x.1, Sl.sh (eL (eL eN)) y518, Sl.sh (eL eN) y520, Sl.nil, Sl.nil, Sl.nil, Sl.nil, Sl.nil, Sl.nil] rfl (snil (s := ()) (Fit.eq (Fit.eq (Fit.eq (Fit.dr (Fit.eq (Fit.eq (Fit.eq (Fit.eq (Fit.eq (Fit.eq Fit.nil)))))))))))))))) fun s523 => (re [Sl.ow a (oIns T.c_Table [] fN) (), Sl.sh (eL (eL (eL eN))) x.1, Sl.sh (eL (eL eN)) y518, Sl.nil, Sl.nil, Sl.nil, Sl.nil, Sl.nil, Sl.nil, Sl.nil] rfl (snil (s := ()) (Fit.eq (Fit.eq (Fit.dr (Fit.eq (Fit.eq (Fit.eq (Fit.eq (Fit.eq (Fit.eq (Fit.eq Fit.nil)))))))))))))))) fun s524 => (re [Sl.ow a (oIns T.c_Table [] fN) (), Sl.sh (eL (eL (eL eN))) x.1, Sl.nil, Sl.nil, Sl.nil, Sl.nil, Sl.nil, Sl.nil, Sl.nil, Sl.nil] rfl (sx (nset 4 sc_Table_init.nd (xcallB c_len T.z_len (by decide +kernel) (axc (xv 1 rfl) axn))) fun _ v525 => (re [Sl.ow a (oIns T.c_Table [] fN) (), Sl.sh (eL (eL (eL eN))) x.1, Sl.nil, Sl.nil, Sl.sh eI v525, Sl.nil, Sl.nil, Sl.nil, Sl.nil, Sl.nil] rfl (sx (nsetF (xlcS 5 (own := [(Str.ofString "rows", 2)]) rfl sc_Table_init.nd (wlistL 2 (xv 1 rfl)) (blkOk_by (N := N_Table_init) (sc := defScope s_Table_init) (by decide +kernel)) (by decide) (nil1 rfl) (fun _ => rfl) (fun _ _ _ _ _ => (pg_name (i := 2) sc_Table_init.nd rfl (by first | exact Or.inl rfl | exact Or.inr rfl))) (fun _ _ _ _ _ y530 => (xand (xcmp w_eqI (xcallB c_len T.z_len (by decide +kernel) (axc (xv 2 rfl) axn)) (xv 4 rfl)) (xone (xcallB (c_allB rfl) T.z_all (by decide +kernel) (axc (xfr (xlc (own := [(Str.ofString "row", 3)]) rfl sc_Table_init.nd (wlistL 3 (xv 2 rfl)) (blk_in (N := N_Table_init) (sc := defScope s_Table_init) rfl rfl (by decide +kernel)) (by decide) (nil1 rfl) (fun _ => rfl) (fun _ _ _ _ _ => (pg_name (i := 3) sc_Table_init.nd rfl (by first | exact Or.inl rfl | exact Or.inr rfl))) (fun _ _ _ _ _ y536 => (xcmp w_eqI (xcallB c_len T.z_len (by decide +kernel) (axc (xv 3 rfl) axn)) (xv 4 rfl))))) axn))))) (sw_true rfl rfl rfl (by decide +kernel)))) fun _ v529 => (re [Sl.ow a (oIns T.c_Table [] fN) (), Sl.sh (eL (eL (eL eN))) x.1, Sl.nil, Sl.nil, Sl.sh eI v525, Sl.sh (eL eB) v529, Sl.nil, Sl.nil, Sl.nil, Sl.nil] rfl (sq_ (nif0 (tw (wor (tcmp w_eqI (xv 4 rfl) xint) (wor1 (tnot (tval (xcallB (c_allB rfl) T.z_all (by decide +kernel) (axc (xv 5 rfl) axn))))))) snever) fun _ => (re [Sl.ow a (oIns T.c_Table [] fN) (), Sl.sh (eL (eL (eL eN))) x.1, Sl.nil, Sl.nil, Sl.sh eI v525, Sl.sh (eL eB) v529, Sl.nil, Sl.nil, Sl.nil, Sl.nil] rfl (sx (nattr 0 T.cl_Table T.na_Table_products rfl (by decide +kernel) (xcastF (f := fun z => z) (frL (frL (frL (frP frI frI)))) (fun z => fresh_eq (n := 7) ((tmL (tmL (tmL (tmP tmI tmI)))) z)) (xcall (ok_fresh T 7) (hr.mono (by decide)) T.m_fresh T.F_fresh.kp (b_fresh T) (axc (xD (tdL (tdL (tdL (tdP tdI tdI)))) (xv 1 rfl)) axn)))) fun _ v560 => (re [Sl.ow a (oIns T.c_Table [Str.ofString "_products"] (fC (Str.ofString "_products") (eL (eL (eL eN))) fN)) (v560, ()), Sl.sh (eL (eL (eL eN))) x.1, Sl.nil, Sl.nil, Sl.sh eI v525, Sl.sh (eL eB) v529, Sl.nil, Sl.nil, Sl.nil, Sl.nil] rfl (sx (npairA 6 0 rfl sc_Table_init.nd T.cl_Table T.na_Table_below rfl (by decide +kernel) (xcall (ok_integers_of T) (hr.mono (by decide)) T.m_integers_of T.F_integers_of.kp (b_integers_of T) (axc (xfr (px_top (own := [(Str.ofString "rows", 2), (Str.ofString "row", 3), (Str.ofString "number", 7)]) (vs := [3, 7]) (js := [2]) rfl sc_Table_init.nd (wlistL 2 (xv 1 rfl)) (blkOk_by (N := N_Table_init) (sc := defScope s_Table_init) (by decide +kernel)) (by decide) (fun _ _ _ _ _ => (pg_name (i := 2) sc_Table_init.nd rfl (by first | exact Or.inl rfl | exact Or.inr rfl))) (fun _ _ _ _ _ _ y561 => (px_mid (vs := [3, 7]) (ws := [7]) (js := [3]) rfl rfl rfl (by intro g h; first | (cases h; exact ⟨rfl, fun _ => rfl⟩) | cases h) (wlistL 3 (xv 2 rfl)) (pg_name (i := 3) sc_Table_init.nd rfl (by first | exact Or.inl rfl | exact Or.inr rfl)) (fun y562 => (px_mid (vs := [7]) (ws := []) (js := [7]) rfl rfl rfl (by intro g h; first | (cases h; exact ⟨rfl, fun _ => rfl⟩) | cases h) (wlistL 7 (xv 3 rfl)) (pg_name (i := 7) sc_Table_init.nd rfl (by first | exact Or.inl rfl | exact Or.inr rfl)) (fun y563 => (px_end rfl rfl (xv 7 rfl))) (by decide) (by decide) (nil1 rfl) (fun _ => rfl))) (by decide) (by decide) (nil2 rfl rfl) (fun _ => rfl))) (by intro env g h; cases h; exact ⟨rfl, fun _ => rfl⟩) (by decide) (nil3 rfl rfl rfl) (fun _ => rfl))) axn))) fun _ v566 => (re [Sl.ow a (oIns T.c_Table [Str.ofString "_products", Str.ofString "_below"] (fC (Str.ofString "_below") eI (fC (Str.ofString "_products") (eL (eL (eL eN))) fN))) (v566.2, (v560, ())), Sl.sh (eL (eL (eL eN))) x.1, Sl.nil, Sl.nil, Sl.sh eI v525, Sl.sh (eL eB) v529, Sl.sh (eL eI) v566.1, Sl.nil, Sl.nil, Sl.nil] rfl (sx (nset 8 sc_Table_init.nd (xcallT c_range3 T.z_range (by decide +kernel) (axc xint (axc (xop w_mul (xop w_mul (xv 4 rfl) (xv 4 rfl)) (xv 4 rfl)) (axc (xv 4 rfl) axn))))) fun _ v567 => (re [Sl.ow a (oIns T.c_Table [Str.ofString "_products", Str.ofString "_below"] (fC (Str.ofString "_below") eI (fC (Str.ofString "_products") (eL (eL (eL eN))) fN))) (v566.2, (v560, ())), Sl.sh (eL (eL (eL eN))) x.1, Sl.nil, Sl.nil, Sl.sh eI v525, Sl.sh (eL eB) v529, Sl.sh (eL eI) v566.1, Sl.nil, Sl.sh eG v567, Sl.nil] rfl (sx (nattr 0 T.cl_Table T.na_Table_cells rfl (by decide +kernel) (xfr (xlc (own := [(Str.ofString "start", 9)]) rfl sc_Table_init.nd (wG 9 (xv 8 rfl)) (blkOk_by (N := N_Table_init) (sc := defScope s_Table_init) (by decide +kernel)) (by decide) (nil1 rfl) (fun _ => rfl) (fun _ _ _ _ _ => (pg_name (i := 9) sc_Table_init.nd rfl (by first | exact Or.inl rfl | exact Or.inr rfl))) (fun _ _ _ _ _ y579 => (xslice (xv 6 rfl) (on_some (xv 9 rfl)) (on_some (xop0 w_add (xv 9 rfl) (xv 4 rfl)))))))) fun _ v588 => (re [Sl.ow a (oIns T.c_Table [Str.ofString "_products", Str.ofString "_below", Str.ofString "_cells"] (fC (Str.ofString "_cells") (eL (eL eI)) (fC (Str.ofString "_below") eI (fC (Str.ofString "_products") (eL (eL (eL eN))) fN)))) (v588, (v566.2, (v560, ()))), Sl.sh (eL (eL (eL eN))) x.1, Sl.nil, Sl.nil, Sl.sh eI v525, Sl.sh (eL eB) v529, Sl.sh (eL eI) v566.1, Sl.nil, Sl.sh eG v567, Sl.nil] rfl (snil (s := (v588, (v566.2, (v560, ())))) (Fit.eq (Fit.dr (Fit.eq (Fit.eq (Fit.dr (Fit.dr (Fit.dr (Fit.eq (Fit.dr (Fit.eq Fit.nil))))))))))))))))))))))))))))
theorem ok_Table_size (T : Txt K mg) : FnOk P w K mg base CX0 1 T.a_Table_size T.d_Table_size P_Table_size (spW (K := K) poolA (aC (e_Table T) aN) w_Table_size eI) :=
  fn_R (k := 0) (wb := wb_Table_size) (ρ' := fun z : Empty => nomatch z) T.F_Table_size sc_Table_size rfl (show 1 ≤ 1 by decide) fun cdv A outer s H E pp x hr => (re [Sl.sh (e_Table T) x.1] rfl (sret (xcallB c_len T.z_len (by decide +kernel) (axc (xfld T.cl_Table T.na_Table_products (fS (fS f0)) (xv 0 rfl)) axn))))
theorem ok_Table_products (T : Txt K mg) : FnOk P w K mg base CX0 9 T.a_Table_products T.d_Table_products P_Table_products (spW (K := K) poolA (aC (e_Table T) aN) w_Table_products (eL (eL (eL eN)))) :=
  fn_R (k := 8) (wb := wb_Table_products) (ρ' := fun z : Empty => nomatch z) T.F_Table_products sc_Table_products rfl (show 1 ≤ 1 by decide) fun cdv A outer s H E pp x hr => (re [Sl.sh (e_Table T) x.1] rfl (sret (xcastF (f := fun z => z) (frL (frL (frL (frP frI frI)))) (fun z => fresh_eq (n := 7) ((tmL (tmL (tmL (tmP tmI tmI)))) z)) (xcall (ok_fresh T 7) (hr.mono (by decide)) T.m_fresh T.F_fresh.kp (b_fresh T) (axc (xD (tdL (tdL (tdL (tdP tdI tdI)))) (xfld T.cl_Table T.na_Table_products (fS (fS f0)) (xv 0 rfl))) axn)))))
theorem ok_Table_eq (T : Txt K mg) : FnOk P w K mg base CX0 1 T.a_Table_eq T.d_Table_eq P_Table_eq (spW (K := K) poolA (aC (e_Table T) (aC (e_Table T) aN)) w_Table_eq eB) :=
  fn_R (k := 0) (wb := wb_Table_eq) (ρ' := fun z : Empty => nomatch z) T.F_Table_eq sc_Table_eq rfl (show 2 ≤ 2 by decide) fun cdv A outer s H E pp x hr => (re [Sl.sh (e_Table T) x.1, Sl.sh (e_Table T) x.2.1] rfl (sret (xand (xisC T.z_isinstance T.m_Table T.ic_Table (xv 1 rfl)) (xone (xcmp (w_eqD (dL (dL (dL (dP dI dI)))) (dL (dL (dL (dP dI dI)))) (shx (shL (shL (shL (shP shI shI))))) (shx (shL (shL (shL (shP shI shI))))) hr.units) (xfld T.cl_Table T.na_Table_products (fS (fS f0)) (xv 0 rfl)) (xfld T.cl_Table T.na_Table_products (fS (fS f0)) (xv 1 rfl)))))))
theorem ok_Table_product_without_checks (T : Txt K mg) : FnOk P w K mg base CX0 3 T.a_Table_product_without_checks T.d_Table_product_without_checks P_Table_product_without_checks (spW (K := K) poolA (aC (e_Table T) (aC (eL eN) (aC (eL eN) aN))) w_Table_product_without_checks (eL eN)) :=
  fn_R (k := 2) (wb := wb_Table_product_without_checks) (ρ' := fun z : Empty => nomatch z) T.F_Table_product_without_checks sc_Table_product_without_checks rfl (show 3 ≤ 14 by decide) fun cdv A outer s H E pp x hr => (re [Sl.sh (e_Table T) x.1, Sl.sh (eL eN) x.2.1, Sl.sh (eL eN) x.2.2.1, Sl.nil, Sl.nil, Sl.nil, Sl.nil, Sl.nil, Sl.nil, Sl.nil, Sl.nil, Sl.nil, Sl.nil, Sl.nil] rfl (sx (npair 3 4 rfl sc_Table_product_without_checks.nd (xcall (ok_integers_of T) (hr.mono (by decide)) T.m_integers_of T.F_integers_of.kp (b_integers_of T) (axc (xv 1 rfl) axn))) fun _ v626 => (re [Sl.sh (e_Table T) x.1, Sl.sh (eL eN) x.2.1, Sl.sh (eL eN) x.2.2.1, Sl.sh (eL eI) v626.1, Sl.sh eI v626.2, Sl.nil, Sl.nil, Sl.nil, Sl.nil, Sl.nil, Sl.nil, Sl.nil, Sl.nil, Sl.nil] rfl (sx (npair 5 6 rfl sc_Table_product_without_checks.nd (xcall (ok_integers_of T) (hr.mono (by decide)) T.m_integers_of T.F_integers_of.kp (b_integers_of T) (axc (xv 2 rfl) axn))) fun _ v629 => (re [Sl.sh (e_Table T) x.1, Sl.sh (eL eN) x.2.1, Sl.sh (eL eN) x.2.2.1, Sl.sh (eL eI) v626.1, Sl.sh eI v626.2, Sl.sh (eL eI) v629.1, Sl.sh eI v629.2, Sl.nil, Sl.nil, Sl.nil, Sl.nil, Sl.nil, Sl.nil, Sl.nil] rfl (sx (nset 7 sc_Table_product_without_checks.nd (xcallB c_len T.z_len (by decide +kernel) (axc (xv 3 rfl) axn))) fun _ v632 => (re [Sl.sh (e_Table T) x.1, Sl.sh (eL eN) x.2.1, Sl.sh (eL eN) x.2.2.1, Sl.sh (eL eI) v626.1, Sl.sh eI v626.2, Sl.sh (eL eI) v629.1, Sl.sh eI v629.2, Sl.sh eI v632, Sl.nil, Sl.nil, Sl.nil, Sl.nil, Sl.nil, Sl.nil] rfl (sx (nown (nsetFe 8 sc_Table_product_without_checks.nd (xrepF (xlst (alc xint (aln (en := eI)))) (xv 7 rfl)))) fun p641 v636 => (re [Sl.sh (e_Table T) x.1, Sl.sh (eL eN) x.2.1, Sl.sh (eL eN) x.2.2.1, Sl.sh (eL eI) v626.1, Sl.sh eI v626.2, Sl.sh (eL eI) v629.1, Sl.sh eI v629.2, Sl.sh eI v632, Sl.ow p641 (oL eI) v636, Sl.nil, Sl.nil, Sl.nil, Sl.nil, Sl.nil] rfl (sq_ (nforJ (fun r (s : (List Int)) => (put r 8 (Sl.ow p641 (oL eI) s))) (s0 := (v636)) PassesOwn.never rfl (wrange1 9 T.z_range (axc (xv 7 rfl) axn)) (pg_name (i := 9) sc_Table_product_without_checks.nd rfl (by first | exact Or.inl rfl | exact Or.inr rfl)) (Fit.eq (Fit.eq (Fit.eq (Fit.eq (Fit.eq (Fit.eq (Fit.eq (Fit.eq (Fit.eq (Fit.eq (Fit.eq (Fit.eq (Fit.eq (Fit.eq Fit.nil)))))))))))))) (fun s645 y646 => (re [Sl.sh (e_Table T) x.1, Sl.sh (eL eN) x.2.1, Sl.sh (eL eN) x.2.2.1, Sl.sh (eL eI) v626.1, Sl.sh eI v626.2, Sl.sh (eL eI) v629.1, Sl.sh eI v629.2, Sl.sh eI v632, Sl.ow p641 (oL eI) s645, Sl.sh eI y646, Sl.nil, Sl.nil, Sl.nil, Sl.nil] rfl (sq_ (nforJ (fun r (s : (List Int)) => (put r 8 (Sl.ow p641 (oL eI) s))) (s0 := (s645)) PassesOwn.never rfl (wrange1 10 T.z_range (axc (xv 7 rfl) axn)) (pg_name (i := 10) sc_Table_product_without_checks.nd rfl (by first | exact Or.inl rfl | exact Or.inr rfl)) (Fit.eq (Fit.eq (Fit.eq (Fit.eq (Fit.eq (Fit.eq (Fit.eq (Fit.eq (Fit.eq (Fit.eq (Fit.eq (Fit.eq (Fit.eq (Fit.eq Fit.nil)))))))))))))) (fun s650 y651 => (re [Sl.sh (e_Table T) x.1, Sl.sh (eL eN) x.2.1, Sl.sh (eL eN) x.2.2.1, Sl.sh (eL eI) v626.1, Sl.sh eI v626.2, Sl.sh (eL eI) v629.1, Sl.sh eI v629.2, Sl.sh eI v632, Sl.ow p641 (oL eI) s650, Sl.sh eI y646, Sl.sh eI y651, Sl.nil, Sl.nil, Sl.nil] rfl (sx (nset 11 sc_Table_product_without_checks.nd (xop w_mul (xix w_ixL (xv 3 rfl) (xv 9 rfl)) (xix w_ixL (xv 5 rfl) (xv 10 rfl)))) fun _ v652 => (re [Sl.sh (e_Table T) x.1, Sl.sh (eL eN) x.2.1, Sl.sh (eL eN) x.2.2.1, Sl.sh (eL eI) v626.1, Sl.sh eI v626.2, Sl.sh (eL eI) v629.1, Sl.sh eI v629.2, Sl.sh eI v632, Sl.ow p641 (oL eI) s650, Sl.sh eI y646, Sl.sh eI y651, Sl.sh eI v652, Sl.nil, Sl.nil] rfl (sq_ (nifJ (fun r (s : (List Int)) => (put r 8 (Sl.ow p641 (oL eI) s))) (tcmp w_neI (xv 11 rfl) xint) (re [Sl.sh (e_Table T) x.1, Sl.sh (eL eN) x.2.1, Sl.sh (eL eN) x.2.2.1, Sl.sh (eL eI) v626.1, Sl.sh eI v626.2, Sl.sh (eL eI) v629.1, Sl.sh eI v629.2, Sl.sh eI v632, Sl.ow p641 (oL eI) s650, Sl.sh eI y646, Sl.sh eI y651, Sl.sh eI v652, Sl.nil, Sl.nil] rfl (sq_ (nforJ (fun r (s : (List Int)) => (put r 8 (Sl.ow p641 (oL eI) s))) (s0 := (s650)) PassesOwn.never rfl (wenum 12 13 T.z_enumerate (axc (xix w_ixL (xfld T.cl_Table T.na_Table_cells f0 (xv 0 rfl)) (xop0 w_add (xop w_mul (xv 9 rfl) (xv 7 rfl)) (xv 10 rfl))) axn)) (pg_tup rfl (pgs_cons (pg_name (i := 12) sc_Table_product_without_checks.nd rfl (by first | exact Or.inl rfl | exact Or.inr rfl)) (pgs_cons (pg_name (i := 13) sc_Table_product_without_checks.nd rfl (by first | exact Or.inl rfl | exact Or.inr rfl)) pgs_nil))) (Fit.eq (Fit.eq (Fit.eq (Fit.eq (Fit.eq (Fit.eq (Fit.eq (Fit.eq (Fit.eq (Fit.eq (Fit.eq (Fit.eq (Fit.eq (Fit.eq Fit.nil)))))))))))))) (fun s672 y673 => (re [Sl.sh (e_Table T) x.1, Sl.sh (eL eN) x.2.1, Sl.sh (eL eN) x.2.2.1, Sl.sh (eL eI) v626.1, Sl.sh eI v626.2, Sl.sh (eL eI) v629.1, Sl.sh eI v629.2, Sl.sh eI v632, Sl.ow p641 (oL eI) s672, Sl.sh eI y646, Sl.sh eI y651, Sl.sh eI v652, Sl.sh eI y673.1, Sl.sh eI y673.2] rfl (sx (naugix 8 rfl (xop w_mul (xv 11 rfl) (xv 13 rfl)) (xv 12 rfl) wi_add) fun _ v676 => (re [Sl.sh (e_Table T) x.1, Sl.sh (eL eN) x.2.1, Sl.sh (eL eN) x.2.2.1, Sl.sh (eL eI) v626.1, Sl.sh eI v626.2, Sl.sh (eL eI) v629.1, Sl.sh eI v629.2, Sl.sh eI v632, Sl.ow p641 (oL eI) (s672.set ((ixN s672.length v676.1).getD 0) v676.2), Sl.sh eI y646, Sl.sh eI y651, Sl.sh eI v652, Sl.sh eI y673.1, Sl.sh eI y673.2] rfl (snil (s := ((s672.set ((ixN s672.length v676.1).getD 0) v676.2))) (Fit.eq (Fit.eq (Fit.eq (Fit.eq (Fit.eq (Fit.eq (Fit.eq (Fit.eq (Fit.eq (Fit.eq (Fit.eq (Fit.eq (Fit.dr (Fit.dr Fit.nil)))))))))))))))))))) fun s679 => (re [Sl.sh (e_Table T) x.1, Sl.sh (eL eN) x.2.1, Sl.sh (eL eN) x.2.2.1, Sl.sh (eL eI) v626.1, Sl.sh eI v626.2, Sl.sh (eL eI) v629.1, Sl.sh eI v629.2, Sl.sh eI v632, Sl.ow p641 (oL eI) s679, Sl.sh eI y646, Sl.sh eI y651, Sl.sh eI v652, Sl.nil, Sl.nil] rfl (snil (s := (s679)) (Fit.eq (Fit.eq (Fit.eq (Fit.eq (Fit.eq (Fit.eq (Fit.eq (Fit.eq (Fit.eq (Fit.eq (Fit.eq (Fit.eq (Fit.eq (Fit.eq Fit.nil)))))))))))))))))) (re [Sl.sh (e_Table T) x.1, Sl.sh (eL eN) x.2.1, Sl.sh (eL eN) x.2.2.1, Sl.sh (eL eI) v626.1, Sl.sh eI v626.2, Sl.sh (eL eI) v629.1, Sl.sh eI v629.2, Sl.sh eI v632, Sl.ow p641 (oL eI) s650, Sl.sh eI y646, Sl.sh eI y651, Sl.sh eI v652, Sl.nil, Sl.nil] rfl (snil (s := (s650)) (Fit.eq (Fit.eq (Fit.eq (Fit.eq (Fit.eq (Fit.eq (Fit.eq (Fit.eq (Fit.eq (Fit.eq (Fit.eq (Fit.eq (Fit.eq (Fit.eq Fit.nil))))))))))))))))) fun s680 => (re [Sl.sh (e_Table T) x.1, Sl.sh (eL eN) x.2.1, Sl.sh (eL eN) x.2.2.1, Sl.sh (eL eI) v626.1, Sl.sh eI v626.2, Sl.sh (eL eI) v629.1, Sl.sh eI v629.2, Sl.sh eI v632, Sl.ow p641 (oL eI) s680, Sl.sh eI y646, Sl.sh eI y651, Sl.sh eI v652, Sl.nil, Sl.nil] rfl (snil (s := (s680)) (Fit.eq (Fit.eq (Fit.eq (Fit.eq (Fit.eq (Fit.eq (Fit.eq (Fit.eq (Fit.eq (Fit.eq (Fit.dr (Fit.dr (Fit.eq (Fit.eq Fit.nil)))))))))))))))))))))) fun s681 => (re [Sl.sh (e_Table T) x.1, Sl.sh (eL eN) x.2.1, Sl.sh (eL eN) x.2.2.1, Sl.sh (eL eI) v626.1, Sl.sh eI v626.2, Sl.sh (eL eI) v629.1, Sl.sh eI v629.2, Sl.sh eI v632, Sl.ow p641 (oL eI) s681, Sl.sh eI y646, Sl.nil, Sl.nil, Sl.nil, Sl.nil] rfl (snil (s := (s681)) (Fit.eq (Fit.eq (Fit.eq (Fit.eq (Fit.eq (Fit.eq (Fit.eq (Fit.eq (Fit.eq (Fit.dr (Fit.eq (Fit.eq (Fit.eq (Fit.eq Fit.nil)))))))))))))))))))) fun s682 => (re [Sl.sh (e_Table T) x.1, Sl.sh (eL eN) x.2.1, Sl.sh (eL eN) x.2.2.1, Sl.sh (eL eI) v626.1, Sl.sh eI v626.2, Sl.sh (eL eI) v629.1, Sl.sh eI v629.2, Sl.sh eI v632, Sl.ow p641 (oL eI) s682, Sl.nil, Sl.nil, Sl.nil, Sl.nil, Sl.nil] rfl (nfreeze 8 rfl (re [Sl.sh (e_Table T) x.1, Sl.sh (eL eN) x.2.1, Sl.sh (eL eN) x.2.2.1, Sl.sh (eL eI) v626.1, Sl.sh eI v626.2, Sl.sh (eL eI) v629.1, Sl.sh eI v629.2, Sl.sh eI v632, Sl.sh (eL eI) s682, Sl.nil, Sl.nil, Sl.nil, Sl.nil, Sl.nil] rfl (sret (xcall (ok_numbers_of T) (hr.mono (by decide)) T.m_numbers_of T.F_numbers_of.kp (b_numbers_of T) (axc (xv 8 rfl) (axc (xop w_mul (xop w_mul (xv 4 rfl) (xv 6 rfl)) (xfld T.cl_Table T.na_Table_below (fS f0) (xv 0 rfl))) axn)))))))))))))))))
theorem ok_Table_call (T : Txt K mg) : FnOk P w K mg base CX0 4 T.a_Table_call T.d_Table_call P_Table_call (spW (K := K) poolA (aC (e_Table T) (aC (eL eN) (aC (eL eN) aN))) w_Table_call (eL eN)) :=
  fn_R (k := 3) (wb := wb_Table_call) (ρ' := fun z : Empty => nomatch z) T.F_Table_call sc_Table_call rfl (show 3 ≤ 3 by decide) fun cdv A outer s H E pp x hr => (re [Sl.sh (e_Table T) x.1, Sl.sh (eL eN) x.2.1, Sl.sh (eL eN) x.2.2.1] rfl (sx (nexpr (xcall (ok_check_rows T) (hr.mono (by decide)) T.m_check_rows T.F_check_rows.kp (b_check_rows T) (axc (xlst (alc (xv 1 rfl) (alc (xv 2 rfl) (aln (en := (eL eN)))))) (axc (xcallB c_len T.z_len (by decide +kernel) (axc (xfld T.cl_Table T.na_Table_products (fS (fS f0)) (xv 0 rfl)) axn)) axn)))) fun _ _ => (re [Sl.sh (e_Table T) x.1, Sl.sh (eL eN) x.2.1, Sl.sh (eL eN) x.2.2.1] rfl (sret (xmeth T.cl_Table T.me_Table_product_without_checks (by decide +kernel) (ok_Table_product_without_checks T) (hr.mono (by decide)) (b_Table_product_without_checks T) (xv 0 rfl) (axc (xv 1 rfl) (axc (xv 2 rfl) axn)))))))
theorem ok_product_of (T : Txt K mg) : FnOk P w K mg base CX0 4 T.a_product_of T.d_product_of P_product_of (spW (K := K) poolA (aC (e_Table T) (aC (eL eN) (aC (eL eN) aN))) w_product_of (eL eN)) :=
  fn_R (k := 3) (wb := wb_product_of) (ρ' := fun z : Empty => nomatch z) T.F_product_of sc_product_of rfl (show 3 ≤ 3 by decide) fun cdv A outer s H E pp x hr => (re [Sl.sh (e_Table T) x.1, Sl.sh (eL eN) x.2.1, Sl.sh (eL eN) x.2.2.1] rfl (sret (xmeth T.cl_Table T.me_Table_product_without_checks (by decide +kernel) (ok_Table_product_without_checks T) (hr.mono (by decide)) (b_Table_product_without_checks T) (xv 0 rfl) (axc (xv 1 rfl) (axc (xv 2 rfl) axn)))))
theorem ok_over (T : Txt K mg) : FnOk P w K mg base CX0 11 T.a_over T.d_over P_over (spW (K := K) poolA (aC (e_Table T) (aC (eL (eL eN)) aN)) w_over (e_Table T)) :=
  fn_R (k := 10) (wb := wb_over) (ρ' := fun z : Empty => nomatch z) T.F_over sc_over rfl (show 2 ≤ 8 by decide) fun cdv A outer s H E pp x hr => (re [Sl.sh (e_Table T) x.1, Sl.sh (eL (eL eN)) x.2.1, Sl.nil, Sl.nil, Sl.nil, Sl.nil, Sl.nil, Sl.nil] rfl (sx (nset 2 sc_over.nd (xprop T.cl_Table T.pr_Table_size (ok_Table_size T) (hr.mono (by decide)) (b_Table_size T) (xv 0 rfl))) fun _ v700 => (re [Sl.sh (e_Table T) x.1, Sl.sh (eL (eL eN)) x.2.1, Sl.sh eI v700, Sl.nil, Sl.nil, Sl.nil, Sl.nil, Sl.nil] rfl (sx (nexpr (xcall (ok_check_rows T) (hr.mono (by decide)) T.m_check_rows T.F_check_rows.kp (b_check_rows T) (axc (xv 1 rfl) (axc (xv 2 rfl) axn)))) fun _ _ => (re [Sl.sh (e_Table T) x.1, Sl.sh (eL (eL eN)) x.2.1, Sl.sh eI v700, Sl.nil, Sl.nil, Sl.nil, Sl.nil, Sl.nil] rfl (sbas (gd := gdL) 3 4 5 rfl sc_over.nd rfl rfl rfl (by decide) (by decide) T.mk_Basis (ok_Basis_init T) (hr.mono (by decide)) T.m_Basis (b_Basis_init T) (wlistL 5 (xv 1 rfl)) (blkOk_by (N := N_over) (sc := defScope s_over) (by decide +kernel)) (fun _ _ _ _ _ => (pg_name (i := 5) sc_over.nd rfl (by first | exact Or.inl rfl | exact Or.inr rfl))) (fun _ _ _ _ _ => pe_meth (pe_var (i := 3) rfl (by first | exact Or.inl rfl | exact Or.inr (Or.inl rfl) | exact Or.inr (Or.inr rfl))) T.cl_Basis T.me_Basis_put (ok_Basis_put T) (hr.mono (by decide)) (b_Basis_put T) .nil pass0 (pa_cons (pe_var (i := 5) rfl (by first | exact Or.inl rfl | exact Or.inr (Or.inl rfl) | exact Or.inr (Or.inr rfl))) pa_nil)) (by decide) (by decide) (fun _ => rfl) (fun _ => rfl) ap_line rf_pair (sw_true rfl rfl rfl (by decide +kernel)) fun z706 => (re [Sl.sh (e_Table T) x.1, Sl.sh (eL (eL eN)) x.2.1, Sl.sh eI v700, Sl.sh (e_Basis T) (z706.1, ()), Sl.sh (eL eB) z706.2, Sl.nil, Sl.nil, Sl.nil] rfl (sq_ (nif0 (tw (wor (tcmp w_neI (xcallB c_len T.z_len (by decide +kernel) (axc (xv 1 rfl) axn)) (xv 2 rfl)) (wor1 (tnot (tval (xcallB (c_allB rfl) T.z_all (by decide +kernel) (axc (xv 4 rfl) axn))))))) snever) fun _ => (re [Sl.sh (e_Table T) x.1, Sl.sh (eL (eL eN)) x.2.1, Sl.sh eI v700, Sl.sh (e_Basis T) (z706.1, ()), Sl.sh (eL eB) z706.2, Sl.nil, Sl.nil, Sl.nil] rfl (sret (xmake T.mk_Table (ok_Table_init T) (hr.mono (by decide)) T.m_Table (b_Table_init T) (axc (xfr (xlc (own := [(Str.ofString "one", 7)]) rfl sc_over.nd (wlistL 7 (xv 1 rfl)) (blkOk_by (N := N_over) (sc := defScope s_over) (by decide +kernel)) (by decide) (nil1 rfl) (fun _ => rfl) (fun _ _ _ _ _ => (pg_name (i := 7) sc_over.nd rfl (by first | exact Or.inl rfl | exact Or.inr rfl))) (fun _ _ _ _ _ y718 => (xfr (xlc (own := [(Str.ofString "other", 6)]) rfl sc_over.nd (wlistL 6 (xv 1 rfl)) (blk_in (N := N_over) (sc := defScope s_over) rfl rfl (by decide +kernel)) (by decide) (nil1 rfl) (fun _ => rfl) (fun _ _ _ _ _ => (pg_name (i := 6) sc_over.nd rfl (by first | exact Or.inl rfl | exact Or.inr rfl))) (fun _ _ _ _ _ y719 => (xunO (xmeth T.cl_Basis T.me_Basis_told (by decide +kernel) (ok_Basis_told T) (hr.mono (by decide)) (b_Basis_told T) (xv 3 rfl) (axc (xcall (ok_product_of T) (hr.mono (by decide)) T.m_product_of T.F_product_of.kp (b_product_of T) (axc (xv 0 rfl) (axc (xv 7 rfl) (axc (xv 6 rfl) axn)))) axn))))))))) axn))))))))))))
theorem ok_law_low (T : Txt K mg) : FnOk P w K mg base CX0 1 T.a_law_low T.d_law_low P_law_low (spW (K := K) poolA (aC eI (aC eI aN)) w_law_low eN) :=
  fn_R (k := 0) (wb := wb_law_low) (ρ' := fun z : Empty => nomatch z) T.F_law_low sc_law_low rfl (show 2 ≤ 4 by decide) fun cdv A outer s H E pp x hr => (re [Sl.sh eI x.1, Sl.sh eI x.2.1, Sl.nil, Sl.nil] rfl (sx (npar 2 3 rfl sc_law_low.nd (axc (xcallB c_abs T.z_abs (by decide +kernel) (axc (xv 0 rfl) axn)) (axc (xcallB c_abs T.z_abs (by decide +kernel) (axc (xv 1 rfl) axn)) axn))) fun _ v735 => (re [Sl.sh eI x.1, Sl.sh eI x.2.1, Sl.sh eI v735.1, Sl.sh eI v735.2.1] rfl (sq_ (nwhileJ (fun r (s : Int × Int) => (put (put r 2 (Sl.sh eI s.1)) 3 (Sl.sh eI s.2))) (s0 := (v735.1, v735.2.1)) (Int.toNat v735.2.1 + 1) PassesOwn.never (Fit.eq (Fit.eq (Fit.eq (Fit.eq Fit.nil)))) (fun s746 => (tcmp w_neI (xv 3 rfl) xint)) (fun s746 => (re [Sl.sh eI x.1, Sl.sh eI x.2.1, Sl.sh eI s746.1, Sl.sh eI s746.2] rfl (sx (npar 2 3 rfl sc_law_low.nd (axc (xv 3 rfl) (axc (xop w_mod (xcallT c_int T.z_int (by decide +kernel) (axc (xv 2 rfl) axn)) (xv 3 rfl)) axn))) fun _ v749 => (re [Sl.sh eI x.1, Sl.sh eI x.2.1, Sl.sh eI v749.1, Sl.sh eI v749.2.1] rfl (snil (s := (v749.1, v749.2.1)) (Fit.eq (Fit.eq (Fit.eq (Fit.eq Fit.nil)))))))))) fun s759 => (re [Sl.sh eI x.1, Sl.sh eI x.2.1, Sl.sh eI s759.1, Sl.sh eI s759.2] rfl (sret (xif (tcmp w_gt (xv 1 rfl) xint) (xtup2 (axc (xop w_fdiv (xv 0 rfl) (xv 2 rfl)) (axc (xop w_fdiv (xv 1 rfl) (xv 2 rfl)) axn))) (xtup2 (axc (xop w_fdiv (xun w_neg (xv 0 rfl)) (xv 2 rfl)) (axc (xop w_fdiv (xun w_neg (xv 1 rfl)) (xv 2 rfl)) axn))))))))))
theorem ok_law_add (T : Txt K mg) : FnOk P w K mg base CX0 2 T.a_law_add T.d_law_add P_law_add (spW (K := K) poolA (aC eN (aC eN aN)) w_law_add eN) :=
  fn_R (k := 1) (wb := wb_law_add) (ρ' := fun z : Empty => nomatch z) T.F_law_add sc_law_add rfl (show 2 ≤ 2 by decide) fun cdv A outer s H E pp x hr => (re [Sl.sh eN x.1, Sl.sh eN x.2.1] rfl (sret (xcall (ok_law_low T) (hr.mono (by decide)) T.m_law_low T.F_law_low.kp (b_law_low T) (axc (xop0 w_add (xop w_mul (xfst (xv 0 rfl)) (xsnd (xv 1 rfl))) (xop w_mul (xfst (xv 1 rfl)) (xsnd (xv 0 rfl)))) (axc (xop w_mul (xsnd (xv 0 rfl)) (xsnd (xv 1 rfl))) axn)))))
theorem ok_law_mul (T : Txt K mg) : FnOk P w K mg base CX0 2 T.a_law_mul T.d_law_mul P_law_mul (spW (K := K) poolA (aC eN (aC eN aN)) w_law_mul eN) :=
  fn_R (k := 1) (wb := wb_law_mul) (ρ' := fun z : Empty => nomatch z) T.F_law_mul sc_law_mul rfl (show 2 ≤ 2 by decide) fun cdv A outer s H E pp x hr => (re [Sl.sh eN x.1, Sl.sh eN x.2.1] rfl (sret (xcall (ok_law_low T) (hr.mono (by decide)) T.m_law_low T.F_law_low.kp (b_law_low T) (axc (xop w_mul (xfst (xv 0 rfl)) (xfst (xv 1 rfl))) (axc (xop w_mul (xsnd (xv 0 rfl)) (xsnd (xv 1 rfl))) axn)))))
theorem ok_law_number (T : Txt K mg) : FnOk P w K mg base CX0 2 T.a_law_number T.d_law_number P_law_number (spW (K := K) poolA (aPl (aC eB aN)) w_law_number eN) :=
  fn_R (k := 1) (wb := wb_law_number) (ρ' := fun z : Empty => nomatch z) T.F_law_number sc_law_number rfl (show 2 ≤ 6 by decide) fun cdv A outer s H E pp x hr => (re [Sl.pl, Sl.sh eB x.1, Sl.nil, Sl.nil, Sl.nil, Sl.nil] rfl (sx (nset 2 sc_law_number.nd (xcall (ok_law_pick T.F_law_pick T.z_int) (hr.mono (by decide)) T.m_law_pick T.F_law_pick.kp (b_law_pick T) (axp 0 rfl (axc xint axn)))) fun _ v816 => (re [Sl.pl, Sl.sh eB x.1, Sl.sh eI v816, Sl.nil, Sl.nil, Sl.nil] rfl (sq_ (nif0 (tcmp w_lt (xv 2 rfl) xint) (re [Sl.pl, Sl.sh eB x.1, Sl.sh eI v816, Sl.nil, Sl.nil, Sl.nil] rfl (sret (xtup2 (axc (xv 2 rfl) (axc xint axn)))))) fun _ => (re [Sl.pl, Sl.sh eB x.1, Sl.sh eI v816, Sl.nil, Sl.nil, Sl.nil] rfl (sx (nset 3 sc_law_number.nd (xif (tval (xv 1 rfl)) (xix w_ixL (xlst (alc xint (alc xint (alc xint (alc xint (alc xint (aln (en := eI)))))))) (xop0 w_sub (xv 2 rfl) xint)) xint)) fun _ v828 => (re [Sl.pl, Sl.sh eB x.1, Sl.sh eI v816, Sl.sh eI v828, Sl.nil, Sl.nil] rfl (sx (npar 4 5 rfl sc_law_number.nd (axc (xop0 w_add xint (xcall (ok_law_pick T.F_law_pick T.z_int) (hr.mono (by decide)) T.m_law_pick T.F_law_pick.kp (b_law_pick T) (axp 0 rfl (axc (xv 3 rfl) axn)))) (axc (xop0 w_add xint (xcall (ok_law_pick T.F_law_pick T.z_int) (hr.mono (by decide)) T.m_law_pick T.F_law_pick.kp (b_law_pick T) (axp 0 rfl (axc (xix w_ixL (xlst (alc xint (alc (xv 3 rfl) (aln (en := eI))))) (xcall (ok_law_pick T.F_law_pick T.z_int) (hr.mono (by decide)) T.m_law_pick T.F_law_pick.kp (b_law_pick T) (axp 0 rfl (axc xint axn)))) axn)))) axn))) fun _ v844 => (re [Sl.pl, Sl.sh eB x.1, Sl.sh eI v816, Sl.sh eI v828, Sl.sh eI v844.1, Sl.sh eI v844.2.1] rfl (sret (xcall (ok_law_low T) (hr.mono (by decide)) T.m_law_low T.F_law_low.kp (b_law_low T) (axc (xix w_ixL (xlst (alc (xv 4 rfl) (alc (xun w_neg (xv 4 rfl)) (aln (en := eI))))) (xcall (ok_law_pick T.F_law_pick T.z_int) (hr.mono (by decide)) T.m_law_pick T.F_law_pick.kp (b_law_pick T) (axp 0 rfl (axc xint axn)))) (axc (xv 5 rfl) axn)))))))))))))
theorem ok_law_alike (T : Txt K mg) : ∀ n : Nat, FnOk P w K mg base CX0 (1 + n) T.a_law_alike T.d_law_alike P_law_alike (spW (K := K) poolA (aC eD (aC eD aN)) (w_law_alike n) eB)
  | 0 => fn_R (k := 0) (wb := fun _ => stuck) (ρ' := fun z : Empty => nomatch z) T.F_law_alike sc_law_alike rfl (show 2 ≤ 4 by decide) fun cdv A outer s H E pp x hr => snever
  | n + 1 =>
    have ih := ok_law_alike T n
    fn_R (k := 1 + n) (ρ' := fun z : Empty => nomatch z) T.F_law_alike sc_law_alike rfl (show 2 ≤ 4 by decide) fun cdv A outer s H E pp x hr => (re [Sl.sh eD x.1, Sl.sh eD x.2.1, Sl.nil, Sl.nil] rfl (sq_ (nif0 (tisND (xv 1 rfl)) (re [Sl.sh eD x.1, Sl.sh eD x.2.1, Sl.nil, Sl.nil] rfl (sret (xisND (xv 0 rfl))))) fun _ => (re [Sl.sh eD x.1, Sl.sh eD x.2.1, Sl.nil, Sl.nil] rfl (sq_ (nif0 (tval (xisi2 T.z_isinstance T.z_list (by decide +kernel) (by decide) T.z_tuple (by decide +kernel) (by decide) (xv 1 rfl))) (re [Sl.sh eD x.1, Sl.sh eD x.2.1, Sl.nil, Sl.nil] rfl (sx (nset 2 sc_law_alike.nd (xif (tval (xisi T.z_isinstance T.z_list (by decide +kernel) (by decide) (xv 1 rfl))) (xisi T.z_isinstance T.z_list (by decide +kernel) (by decide) (xv 0 rfl)) (xisi T.z_isinstance T.z_tuple (by decide +kernel) (by decide) (xv 0 rfl)))) fun _ v885 => (re [Sl.sh eD x.1, Sl.sh eD x.2.1, Sl.sh eB v885, Sl.nil] rfl (sq_ (nif0 (tw (wor (tnot (tval (xv 2 rfl))) (wor1 (tcmp w_neI (xcallB c_lenD T.z_len (by decide +kernel) (axc (xv 0 rfl) axn)) (xcallB c_lenD T.z_len (by decide +kernel) (axc (xv 1 rfl) axn)))))) (re [Sl.sh eD x.1, Sl.sh eD x.2.1, Sl.sh eB v885, Sl.nil] rfl (sret xbl))) fun _ => (re [Sl.sh eD x.1, Sl.sh eD x.2.1, Sl.sh eB v885, Sl.nil] rfl (sq_ (nforJ (fun r (_ : Unit) => r) (s0 := ()) PassesOwn.never rfl (wrange1 3 T.z_range (axc (xcallB c_lenD T.z_len (by decide +kernel) (axc (xv 1 rfl) axn)) axn)) (pg_name (i := 3) sc_law_alike.nd rfl (by first | exact Or.inl rfl | exact Or.inr rfl)) (Fit.eq (Fit.eq (Fit.eq (Fit.eq Fit.nil)))) (fun s908 y909 => (re [Sl.sh eD x.1, Sl.sh eD x.2.1, Sl.sh eB v885, Sl.sh eI y909] rfl (sq_ (nif0 (tnot (tval (xcall ih hr T.m_law_alike T.F_law_alike.kp (b_law_alike T) (axc (xix w_ixD (xv 0 rfl) (xv 3 rfl)) (axc (xix w_ixD (xv 1 rfl) (xv 3 rfl)) axn))))) (re [Sl.sh eD x.1, Sl.sh eD x.2.1, Sl.sh eB v885, Sl.sh eI y909] rfl (sret xbl))) fun _ => (re [Sl.sh eD x.1, Sl.sh eD x.2.1, Sl.sh eB v885, Sl.sh eI y909] rfl (snil (s := ()) (Fit.eq (Fit.eq (Fit.eq (Fit.dr Fit.nil)))))))))) fun s921 => (re [Sl.sh eD x.1, Sl.sh eD x.2.1, Sl.sh eB v885, Sl.nil] rfl (sret xbl))))))))) fun _ => (re [Sl.sh eD x.1, Sl.sh eD x.2.1, Sl.nil, Sl.nil] rfl (sret (xand (xisi T.z_isinstance T.z_int (by decide +kernel) (by decide) (xv 0 rfl)) (xand (xcmp w_eqB (xisi T.z_isinstance T.z_bool (by decide +kernel) (by decide) (xv 0 rfl)) (xisi T.z_isinstance T.z_bool (by decide +kernel) (by decide) (xv 1 rfl))) (xone (xcmpG (w_eqDD hr.units) (xv 0 rfl) (xv 1 rfl)))))))))))
theorem ok_law_products (T : Txt K mg) : FnOk P w K mg base CX0 3 T.a_law_products T.d_law_products P_law_products (spW (K := K) poolA (aPl (aC eI (aC eB aN))) w_law_products (eL (eL (eL eN)))) :=
  fn_R (k := 2) (wb := wb_law_products) (ρ' := fun z : Empty => nomatch z) T.F_law_products sc_law_products rfl (show 3 ≤ 10 by decide) fun cdv A outer s H E pp x hr => (re [Sl.pl, Sl.sh eI x.1, Sl.sh eB x.2.1, Sl.nil, Sl.nil, Sl.nil, Sl.nil, Sl.nil, Sl.nil, Sl.nil] rfl (sx (nparO 3 4 (eL (eL eN)) rfl sc_law_products.nd (xcall (ok_law_pick T.F_law_pick T.z_int) (hr.mono (by decide)) T.m_law_pick T.F_law_pick.kp (b_law_pick T) (axp 0 rfl (axc xint axn)))) fun p936 v935 => (re [Sl.pl, Sl.sh eI x.1, Sl.sh eB x.2.1, Sl.sh eI v935, Sl.ow p936 (oL (eL (eL eN))) ([] : (List (List (List (Int × Int))))), Sl.nil, Sl.nil, Sl.nil, Sl.nil, Sl.nil] rfl (sq_ (nforJ (fun r (s : (List (List (List (Int × Int))))) => (put r 4 (Sl.ow p936 (oL (eL (eL eN))) s))) (s0 := (([] : (List (List (List (Int × Int))))))) PassesOwn.never rfl (wrange1 5 T.z_range (axc (xv 1 rfl) axn)) (pg_name (i := 5) sc_law_products.nd rfl (by first | exact Or.inl rfl | exact Or.inr rfl)) (Fit.eq (Fit.eq (Fit.eq (Fit.eq (Fit.eq (Fit.eq (Fit.eq (Fit.eq (Fit.eq (Fit.eq Fit.nil)))))))))) (fun s940 y941 => (re [Sl.pl, Sl.sh eI x.1, Sl.sh eB x.2.1, Sl.sh eI v935, Sl.ow p936 (oL (eL (eL eN))) s940, Sl.sh eI y941, Sl.nil, Sl.nil, Sl.nil, Sl.nil] rfl (sx (nown (nsetFe 6 sc_law_products.nd (xlstF (aln (en := (eL eN)))))) fun p943 v942 => (re [Sl.pl, Sl.sh eI x.1, Sl.sh eB x.2.1, Sl.sh eI v935, Sl.ow p936 (oL (eL (eL eN))) s940, Sl.sh eI y941, Sl.ow p943 (oL (eL eN)) v942, Sl.nil, Sl.nil, Sl.nil] rfl (sq_ (nforJ (fun r (s : (List (List (Int × Int)))) => (put r 6 (Sl.ow p943 (oL (eL eN)) s))) (s0 := (v942)) PassesOwn.never rfl (wrange1 7 T.z_range (axc (xv 1 rfl) axn)) (pg_name (i := 7) sc_law_products.nd rfl (by first | exact Or.inl rfl | exact Or.inr rfl)) (Fit.eq (Fit.eq (Fit.eq (Fit.eq (Fit.eq (Fit.eq (Fit.eq (Fit.eq (Fit.eq (Fit.eq Fit.nil)))))))))) (fun s947 y948 => (re [Sl.pl, Sl.sh eI x.1, Sl.sh eB x.2.1, Sl.sh eI v935, Sl.ow p936 (oL (eL (eL eN))) s940, Sl.sh eI y941, Sl.ow p943 (oL (eL eN)) s947, Sl.sh eI y948, Sl.nil, Sl.nil] rfl (sx (nown (nsetFe 8 sc_law_products.nd (xrepF (xlst (alc (xtup2 (axc xint (axc xint axn))) (aln (en := eN)))) (xv 1 rfl)))) fun p959 v949 => (re [Sl.pl, Sl.sh eI x.1, Sl.sh eB x.2.1, Sl.sh eI v935, Sl.ow p936 (oL (eL (eL eN))) s940, Sl.sh eI y941, Sl.ow p943 (oL (eL eN)) s947, Sl.sh eI y948, Sl.ow p959 (oL eN) v949, Sl.nil] rfl (sq_ (nifJ (fun r (s : (List (Int × Int))) => (put r 8 (Sl.sh (eL eN) s))) (tcmp w_eqI (xv 3 rfl) xint) (re [Sl.pl, Sl.sh eI x.1, Sl.sh eB x.2.1, Sl.sh eI v935, Sl.ow p936 (oL (eL (eL eN))) s940, Sl.sh eI y941, Sl.ow p943 (oL (eL eN)) s947, Sl.sh eI y948, Sl.ow p959 (oL eN) v949, Sl.nil] rfl (sx (nsetix 8 rfl (xcall (ok_law_number T) (hr.mono (by decide)) T.m_law_number T.F_law_number.kp (b_law_number T) (axp 0 rfl (axc (xv 2 rfl) axn))) (xcall (ok_law_pick T.F_law_pick T.z_int) (hr.mono (by decide)) T.m_law_pick T.F_law_pick.kp (b_law_pick T) (axp 0 rfl (axc (xv 1 rfl) axn)))) fun _ v967 => (re [Sl.pl, Sl.sh eI x.1, Sl.sh eB x.2.1, Sl.sh eI v935, Sl.ow p936 (oL (eL (eL eN))) s940, Sl.sh eI y941, Sl.ow p943 (oL (eL eN)) s947, Sl.sh eI y948, Sl.ow p959 (oL eN) (v949.set ((ixN v949.length v967.1).getD 0) v967.2), Sl.nil] rfl (nfreeze 8 rfl (snil (s := ((v949.set ((ixN v949.length v967.1).getD 0) v967.2))) (Fit.eq (Fit.eq (Fit.eq (Fit.eq (Fit.eq (Fit.eq (Fit.eq (Fit.eq (Fit.eq (Fit.eq Fit.nil))))))))))))))) (re [Sl.pl, Sl.sh eI x.1, Sl.sh eB x.2.1, Sl.sh eI v935, Sl.ow p936 (oL (eL (eL eN))) s940, Sl.sh eI y941, Sl.ow p943 (oL (eL eN)) s947, Sl.sh eI y948, Sl.ow p959 (oL eN) v949, Sl.nil] rfl (sq_ (nifJ (fun r (s : (List (Int × Int))) => (put r 8 (Sl.sh (eL eN) s))) (tw (wor (tcmp w_eqI (xv 3 rfl) xint) (wor1 (tcmp w_eqI (xcall (ok_law_pick T.F_law_pick T.z_int) (hr.mono (by decide)) T.m_law_pick T.F_law_pick.kp (b_law_pick T) (axp 0 rfl (axc xint axn))) xint)))) (re [Sl.pl, Sl.sh eI x.1, Sl.sh eB x.2.1, Sl.sh eI v935, Sl.ow p936 (oL (eL (eL eN))) s940, Sl.sh eI y941, Sl.ow p943 (oL (eL eN)) s947, Sl.sh eI y948, Sl.ow p959 (oL eN) v949, Sl.nil] rfl (sx (nsetF (xlcS 8 (own := [(Str.ofString "_law_k", 9)]) rfl sc_law_products.nd (wrange1 9 T.z_range (axc (xv 1 rfl) axn)) (blkOk_by (N := N_law_products) (sc := defScope s_law_products) (by decide +kernel)) (by decide) (nil1 rfl) (fun _ => rfl) (fun _ _ _ _ _ => (pg_name (i := 9) sc_law_products.nd rfl (by first | exact Or.inl rfl | exact Or.inr rfl))) (fun _ _ _ _ _ y982 => (xcall (ok_law_number T) (hr.mono (by decide)) T.m_law_number T.F_law_number.kp (b_law_number T) (axp 0 rfl (axc (xv 2 rfl) axn)))) (sw_true rfl rfl rfl (by decide +kernel)))) fun _ v978 => (re [Sl.pl, Sl.sh eI x.1, Sl.sh eB x.2.1, Sl.sh eI v935, Sl.ow p936 (oL (eL (eL eN))) s940, Sl.sh eI y941, Sl.ow p943 (oL (eL eN)) s947, Sl.sh eI y948, Sl.sh (eL eN) v978, Sl.nil] rfl (snil (s := (v978)) (Fit.eq (Fit.eq (Fit.eq (Fit.eq (Fit.eq (Fit.eq (Fit.eq (Fit.eq (Fit.eq (Fit.eq Fit.nil)))))))))))))) (re [Sl.pl, Sl.sh eI x.1, Sl.sh eB x.2.1, Sl.sh eI v935, Sl.ow p936 (oL (eL (eL eN))) s940, Sl.sh eI y941, Sl.ow p943 (oL (eL eN)) s947, Sl.sh eI y948, Sl.ow p959 (oL eN) v949, Sl.nil] rfl (nfreeze 8 rfl (snil (s := (v949)) (Fit.eq (Fit.eq (Fit.eq (Fit.eq (Fit.eq (Fit.eq (Fit.eq (Fit.eq (Fit.eq (Fit.eq Fit.nil)))))))))))))) fun s986 => (re [Sl.pl, Sl.sh eI x.1, Sl.sh eB x.2.1, Sl.sh eI v935, Sl.ow p936 (oL (eL (eL eN))) s940, Sl.sh eI y941, Sl.ow p943 (oL (eL eN)) s947, Sl.sh eI y948, Sl.sh (eL eN) s986, Sl.nil] rfl (snil (s := (s986)) (Fit.eq (Fit.eq (Fit.eq (Fit.eq (Fit.eq (Fit.eq (Fit.eq (Fit.eq (Fit.eq (Fit.eq Fit.nil))))))))))))))) fun s987 => (re [Sl.pl, Sl.sh eI x.1, Sl.sh eB x.2.1, Sl.sh eI v935, Sl.ow p936 (oL (eL (eL eN))) s940, Sl.sh eI y941, Sl.ow p943 (oL (eL eN)) s947, Sl.sh eI y948, Sl.sh (eL eN) s987, Sl.nil] rfl (sq_ (nifJ (fun r (s : (List (Int × Int))) => (put r 8 (Sl.sh (eL eN) s))) (tw (wand (tcmp w_eqI (xv 3 rfl) xint) (wand1 (tcmp w_lt (xv 7 rfl) (xv 5 rfl))))) (re [Sl.pl, Sl.sh eI x.1, Sl.sh eB x.2.1, Sl.sh eI v935, Sl.ow p936 (oL (eL (eL eN))) s940, Sl.sh eI y941, Sl.ow p943 (oL (eL eN)) s947, Sl.sh eI y948, Sl.sh (eL eN) s987, Sl.nil] rfl (sx (nset 8 sc_law_products.nd (xcallT c_list T.z_list (by decide +kernel) (axc (xR (xix w_ixL (xixO 4 rfl (xv 7 rfl)) (xv 5 rfl))) axn))) fun _ v994 => (re [Sl.pl, Sl.sh eI x.1, Sl.sh eB x.2.1, Sl.sh eI v935, Sl.ow p936 (oL (eL (eL eN))) s940, Sl.sh eI y941, Sl.ow p943 (oL (eL eN)) s947, Sl.sh eI y948, Sl.sh (eL eN) v994, Sl.nil] rfl (snil (s := (v994)) (Fit.eq (Fit.eq (Fit.eq (Fit.eq (Fit.eq (Fit.eq (Fit.eq (Fit.eq (Fit.eq (Fit.eq Fit.nil)))))))))))))) (re [Sl.pl, Sl.sh eI x.1, Sl.sh eB x.2.1, Sl.sh eI v935, Sl.ow p936 (oL (eL (eL eN))) s940, Sl.sh eI y941, Sl.ow p943 (oL (eL eN)) s947, Sl.sh eI y948, Sl.sh (eL eN) s987, Sl.nil] rfl (snil (s := (s987)) (Fit.eq (Fit.eq (Fit.eq (Fit.eq (Fit.eq (Fit.eq (Fit.eq (Fit.eq (Fit.eq (Fit.eq Fit.nil))))))))))))) fun s1001 => (re [Sl.pl, Sl.sh eI x.1, Sl.sh eB x.2.1, Sl.sh eI v935, Sl.ow p936 (oL (eL (eL eN))) s940, Sl.sh eI y941, Sl.ow p943 (oL (eL eN)) s947, Sl.sh eI y948, Sl.sh (eL eN) s1001, Sl.nil] rfl (sx (nappend 6 rfl (xv 8 rfl)) fun _ v1002 => (re [Sl.pl, Sl.sh eI x.1, Sl.sh eB x.2.1, Sl.sh eI v935, Sl.ow p936 (oL (eL (eL eN))) s940, Sl.sh eI y941, Sl.ow p943 (oL (eL eN)) (s947 ++ [v1002]), Sl.sh eI y948, Sl.sh (eL eN) s1001, Sl.nil] rfl (snil (s := ((s947 ++ [v1002]))) (Fit.eq (Fit.eq (Fit.eq (Fit.eq (Fit.eq (Fit.eq (Fit.eq (Fit.dr (Fit.dr (Fit.eq Fit.nil)))))))))))))))))))))) fun s1004 => (re [Sl.pl, Sl.sh eI x.1, Sl.sh eB x.2.1, Sl.sh eI v935, Sl.ow p936 (oL (eL (eL eN))) s940, Sl.sh eI y941, Sl.ow p943 (oL (eL eN)) s1004, Sl.nil, Sl.nil, Sl.nil] rfl (nfreeze 6 rfl (re [Sl.pl, Sl.sh eI x.1, Sl.sh eB x.2.1, Sl.sh eI v935, Sl.ow p936 (oL (eL (eL eN))) s940, Sl.sh eI y941, Sl.sh (eL (eL eN)) s1004, Sl.nil, Sl.nil, Sl.nil] rfl (sx (nappend 4 rfl (xv 6 rfl)) fun _ v1005 => (re [Sl.pl, Sl.sh eI x.1, Sl.sh eB x.2.1, Sl.sh eI v935, Sl.ow p936 (oL (eL (eL eN))) (s940 ++ [v1005]), Sl.sh eI y941, Sl.sh (eL (eL eN)) s1004, Sl.nil, Sl.nil, Sl.nil] rfl (snil (s := ((s940 ++ [v1005]))) (Fit.eq (Fit.eq (Fit.eq (Fit.eq (Fit.eq (Fit.dr (Fit.dr (Fit.eq (Fit.eq (Fit.eq Fit.nil)))))))))))))))))))))) fun s1007 => (re [Sl.pl, Sl.sh eI x.1, Sl.sh eB x.2.1, Sl.sh eI v935, Sl.ow p936 (oL (eL (eL eN))) s1007, Sl.nil, Sl.nil, Sl.nil, Sl.nil, Sl.nil] rfl (nfreeze 4 rfl (re [Sl.pl, Sl.sh eI x.1, Sl.sh eB x.2.1, Sl.sh eI v935, Sl.sh (eL (eL (eL eN))) s1007, Sl.nil, Sl.nil, Sl.nil, Sl.nil, Sl.nil] rfl (sret (xv 4 rfl)))))))))
theorem ok_law_times (T : Txt K mg) : FnOk P w K mg base CX0 3 T.a_law_times T.d_law_times P_law_times (spW (K := K) poolA (aC (eL (eL (eL eN))) (aC (eL eN) (aC (eL eN) aN))) w_law_times (eL eN)) :=
  fn_R (k := 2) (wb := wb_law_times) (ρ' := fun z : Empty => nomatch z) T.F_law_times sc_law_times rfl (show 3 ≤ 9 by decide) fun cdv A outer s H E pp x hr => (re [Sl.sh (eL (eL (eL eN))) x.1, Sl.sh (eL eN) x.2.1, Sl.sh (eL eN) x.2.2.1, Sl.nil, Sl.nil, Sl.nil, Sl.nil, Sl.nil, Sl.nil] rfl (sx (nsetF (nsetFe 3 sc_law_times.nd (xrepF (xlst (alc (xtup2 (axc xint (axc xint axn))) (aln (en := eN)))) (xcallB c_len T.z_len (by decide +kernel) (axc (xv 0 rfl) axn))))) fun _ v1009 => (re [Sl.sh (eL (eL (eL eN))) x.1, Sl.sh (eL eN) x.2.1, Sl.sh (eL eN) x.2.2.1, Sl.sh (eL eN) v1009, Sl.nil, Sl.nil, Sl.nil, Sl.nil, Sl.nil] rfl (sq_ (nforJ (fun r (s : (List (Int × Int))) => (put r 3 (Sl.sh (eL eN) s))) (s0 := (v1009)) PassesOwn.never rfl (wrange1 4 T.z_range (axc (xcallB c_len T.z_len (by decide +kernel) (axc (xv 0 rfl) axn)) axn)) (pg_name (i := 4) sc_law_times.nd rfl (by first | exact Or.inl rfl | exact Or.inr rfl)) (Fit.eq (Fit.eq (Fit.eq (Fit.eq (Fit.eq (Fit.eq (Fit.eq (Fit.eq (Fit.eq Fit.nil))))))))) (fun s1028 y1029 => (re [Sl.sh (eL (eL (eL eN))) x.1, Sl.sh (eL eN) x.2.1, Sl.sh (eL eN) x.2.2.1, Sl.sh (eL eN) s1028, Sl.sh eI y1029, Sl.nil, Sl.nil, Sl.nil, Sl.nil] rfl (sq_ (nforJ (fun r (s : (List (Int × Int))) => (put r 3 (Sl.sh (eL eN) s))) (s0 := (s1028)) PassesOwn.never rfl (wrange1 5 T.z_range (axc (xcallB c_len T.z_len (by decide +kernel) (axc (xv 0 rfl) axn)) axn)) (pg_name (i := 5) sc_law_times.nd rfl (by first | exact Or.inl rfl | exact Or.inr rfl)) (Fit.eq (Fit.eq (Fit.eq (Fit.eq (Fit.eq (Fit.eq (Fit.eq (Fit.eq (Fit.eq Fit.nil))))))))) (fun s1036 y1037 => (re [Sl.sh (eL (eL (eL eN))) x.1, Sl.sh (eL eN) x.2.1, Sl.sh (eL eN) x.2.2.1, Sl.sh (eL eN) s1036, Sl.sh eI y1029, Sl.sh eI y1037, Sl.nil, Sl.nil, Sl.nil] rfl (sx (nset 6 sc_law_times.nd (xcall (ok_law_mul T) (hr.mono (by decide)) T.m_law_mul T.F_law_mul.kp (b_law_mul T) (axc (xix w_ixL (xv 1 rfl) (xv 4 rfl)) (axc (xix w_ixL (xv 2 rfl) (xv 5 rfl)) axn)))) fun _ v1038 => (re [Sl.sh (eL (eL (eL eN))) x.1, Sl.sh (eL eN) x.2.1, Sl.sh (eL eN) x.2.2.1, Sl.sh (eL eN) s1036, Sl.sh eI y1029, Sl.sh eI y1037, Sl.sh eN v1038, Sl.nil, Sl.nil] rfl (sq_ (nifJ (fun r (s : (List (Int × Int))) => (put r 3 (Sl.sh (eL eN) s))) (tcmp w_neI (xfst (xv 6 rfl)) xint) (re [Sl.sh (eL (eL (eL eN))) x.1, Sl.sh (eL eN) x.2.1, Sl.sh (eL eN) x.2.2.1, Sl.sh (eL eN) s1036, Sl.sh eI y1029, Sl.sh eI y1037, Sl.sh eN v1038, Sl.nil, Sl.nil] rfl (sx (nsetF (xlcS 3 (own := [(Str.ofString "_law_a", 7), (Str.ofString "_law_b", 8)]) rfl sc_law_times.nd (wzip 7 8 T.z_zip (axc (xv 3 rfl) (axc (xix w_ixL (xix w_ixL (xv 0 rfl) (xv 4 rfl)) (xv 5 rfl)) axn))) (blkOk_by (N := N_law_times) (sc := defScope s_law_times) (by decide +kernel)) (by decide) (nil2 rfl rfl) (fun _ => rfl) (fun _ _ _ _ _ => (pg_tup rfl (pgs_cons (pg_name (i := 7) sc_law_times.nd rfl (by first | exact Or.inl rfl | exact Or.inr rfl)) (pgs_cons (pg_name (i := 8) sc_law_times.nd rfl (by first | exact Or.inl rfl | exact Or.inr rfl)) pgs_nil)))) (fun _ _ _ _ _ y1061 => (xif (tcmp w_eqI (xfst (xv 8 rfl)) xint) (xv 7 rfl) (xcall (ok_law_add T) (hr.mono (by decide)) T.m_law_add T.F_law_add.kp (b_law_add T) (axc (xv 7 rfl) (axc (xcall (ok_law_mul T) (hr.mono (by decide)) T.m_law_mul T.F_law_mul.kp (b_law_mul T) (axc (xv 6 rfl) (axc (xv 8 rfl) axn))) axn))))) (sw_true rfl rfl rfl (by decide +kernel)))) fun _ v1051 => (re [Sl.sh (eL (eL (eL eN))) x.1, Sl.sh (eL eN) x.2.1, Sl.sh (eL eN) x.2.2.1, Sl.sh (eL eN) v1051, Sl.sh eI y1029, Sl.sh eI y1037, Sl.sh eN v1038, Sl.nil, Sl.nil] rfl (snil (s := (v1051)) (Fit.eq (Fit.eq (Fit.eq (Fit.eq (Fit.eq (Fit.eq (Fit.eq (Fit.eq (Fit.eq Fit.nil))))))))))))) (re [Sl.sh (eL (eL (eL eN))) x.1, Sl.sh (eL eN) x.2.1, Sl.sh (eL eN) x.2.2.1, Sl.sh (eL eN) s1036, Sl.sh eI y1029, Sl.sh eI y1037, Sl.sh eN v1038, Sl.nil, Sl.nil] rfl (snil (s := (s1036)) (Fit.eq (Fit.eq (Fit.eq (Fit.eq (Fit.eq (Fit.eq (Fit.eq (Fit.eq (Fit.eq Fit.nil)))))))))))) fun s1075 => (re [Sl.sh (eL (eL (eL eN))) x.1, Sl.sh (eL eN) x.2.1, Sl.sh (eL eN) x.2.2.1, Sl.sh (eL eN) s1075, Sl.sh eI y1029, Sl.sh eI y1037, Sl.sh eN v1038, Sl.nil, Sl.nil] rfl (snil (s := (s1075)) (Fit.eq (Fit.eq (Fit.eq (Fit.eq (Fit.eq (Fit.dr (Fit.dr (Fit.eq (Fit.eq Fit.nil))))))))))))))))) fun s1076 => (re [Sl.sh (eL (eL (eL eN))) x.1, Sl.sh (eL eN) x.2.1, Sl.sh (eL eN) x.2.2.1, Sl.sh (eL eN) s1076, Sl.sh eI y1029, Sl.nil, Sl.nil, Sl.nil, Sl.nil] rfl (snil (s := (s1076)) (Fit.eq (Fit.eq (Fit.eq (Fit.eq (Fit.dr (Fit.eq (Fit.eq (Fit.eq (Fit.eq Fit.nil))))))))))))))) fun s1077 => (re [Sl.sh (eL (eL (eL eN))) x.1, Sl.sh (eL eN) x.2.1, Sl.sh (eL eN) x.2.2.1, Sl.sh (eL eN) s1077, Sl.nil, Sl.nil, Sl.nil, Sl.nil, Sl.nil] rfl (sret (xv 3 rfl)))))))
theorem ok_law_copied (T : Txt K mg) : ∀ n : Nat, FnOk P w K mg base CX0 (1 + n) T.a_law_copied T.d_law_copied P_law_copied (spW (K := K) poolA (aC eD aN) (w_law_copied n) eD)
  | 0 => fn_R (k := 0) (wb := fun _ => stuck) (ρ' := fun z : Empty => nomatch z) T.F_law_copied sc_law_copied rfl (show 1 ≤ 2 by decide) fun cdv A outer s H E pp x hr => snever
  | n + 1 =>
    have ih := ok_law_copied T n
    fn_R (k := 1 + n) (ρ' := fun z : Empty => nomatch z) T.F_law_copied sc_law_copied rfl (show 1 ≤ 2 by decide) fun cdv A outer s H E pp x hr => (re [Sl.sh eD x.1, Sl.nil] rfl (sret (xif (tval (xisi T.z_isinstance T.z_list (by decide +kernel) (by decide) (xv 0 rfl))) (xD (tdL tdD) (xfr (xlc (own := [(Str.ofString "_law_part", 1)]) rfl sc_law_copied.nd (wlistL 1 (xDl (xv 0 rfl))) (blkOk_by (N := N_law_copied) (sc := defScope s_law_copied) (by decide +kernel)) (by decide) (nil1 rfl) (fun _ => rfl) (fun _ _ _ _ _ => (pg_name (i := 1) sc_law_copied.nd rfl (by first | exact Or.inl rfl | exact Or.inr rfl))) (fun _ _ _ _ _ y1081 => (xcall ih hr T.m_law_copied T.F_law_copied.kp (b_law_copied T) (axc (xv 1 rfl) axn)))))) (xv 0 rfl))))
theorem ok_law_wholes (T : Txt K mg) : ∀ n : Nat, FnOk P w K mg base CX0 (1 + n) T.a_law_wholes T.d_law_wholes P_law_wholes (spW (K := K) poolA (aC eD aN) (w_law_wholes n) eD)
  | 0 => fn_R (k := 0) (wb := fun _ => stuck) (ρ' := fun z : Empty => nomatch z) T.F_law_wholes sc_law_wholes rfl (show 1 ≤ 2 by decide) fun cdv A outer s H E pp x hr => snever
  | n + 1 =>
    have ih := ok_law_wholes T n
    fn_R (k := 1 + n) (ρ' := fun z : Empty => nomatch z) T.F_law_wholes sc_law_wholes rfl (show 1 ≤ 2 by decide) fun cdv A outer s H E pp x hr => (re [Sl.sh eD x.1, Sl.nil] rfl (sret (xif (tval (xisi T.z_isinstance T.z_list (by decide +kernel) (by decide) (xv 0 rfl))) (xD (tdL tdD) (xfr (xlc (own := [(Str.ofString "_law_part", 1)]) rfl sc_law_wholes.nd (wlistL 1 (xDl (xv 0 rfl))) (blkOk_by (N := N_law_wholes) (sc := defScope s_law_wholes) (by decide +kernel)) (by decide) (nil1 rfl) (fun _ => rfl) (fun _ _ _ _ _ => (pg_name (i := 1) sc_law_wholes.nd rfl (by first | exact Or.inl rfl | exact Or.inr rfl))) (fun _ _ _ _ _ y1090 => (xcall ih hr T.m_law_wholes T.F_law_wholes.kp (b_law_wholes T) (axc (xv 1 rfl) axn)))))) (xtupD (alc (xix w_ixD (xv 0 rfl) xint) (alc (xD tdI xint) aln))))))
theorem ok_law_total (T : Txt K mg) : FnOk P w K mg base CX0 3 T.a_law_total T.d_law_total P_law_total (spW (K := K) poolA (aC (eL eN) (aC (eL (eL eN)) (aC eI aN))) w_law_total (eL eN)) :=
  fn_R (k := 2) (wb := wb_law_total) (ρ' := fun z : Empty => nomatch z) T.F_law_total sc_law_total rfl (show 3 ≤ 8 by decide) fun cdv A outer s H E pp x hr => (re [Sl.sh (eL eN) x.1, Sl.sh (eL (eL eN)) x.2.1, Sl.sh eI x.2.2.1, Sl.nil, Sl.nil, Sl.nil, Sl.nil, Sl.nil] rfl (sx (nsetF (nsetFe 3 sc_law_total.nd (xrepF (xlst (alc (xtup2 (axc xint (axc xint axn))) (aln (en := eN)))) (xv 2 rfl)))) fun _ v1105 => (re [Sl.sh (eL eN) x.1, Sl.sh (eL (eL eN)) x.2.1, Sl.sh eI x.2.2.1, Sl.sh (eL eN) v1105, Sl.nil, Sl.nil, Sl.nil, Sl.nil] rfl (sq_ (nforJ (fun r (s : (List (Int × Int))) => (put r 3 (Sl.sh (eL eN) s))) (s0 := (v1105)) PassesOwn.never rfl (wzip 4 5 T.z_zip (axc (xv 0 rfl) (axc (xv 1 rfl) axn))) (pg_tup rfl (pgs_cons (pg_name (i := 4) sc_law_total.nd rfl (by first | exact Or.inl rfl | exact Or.inr rfl)) (pgs_cons (pg_name (i := 5) sc_law_total.nd rfl (by first | exact Or.inl rfl | exact Or.inr rfl)) pgs_nil))) (Fit.eq (Fit.eq (Fit.eq (Fit.eq (Fit.eq (Fit.eq (Fit.eq (Fit.eq Fit.nil)))))))) (fun s1120 y1121 => (re [Sl.sh (eL eN) x.1, Sl.sh (eL (eL eN)) x.2.1, Sl.sh eI x.2.2.1, Sl.sh (eL eN) s1120, Sl.sh eN y1121.1, Sl.sh (eL eN) y1121.2, Sl.nil, Sl.nil] rfl (sx (nsetF (xlcS 3 (own := [(Str.ofString "_law_a", 6), (Str.ofString "_law_b", 7)]) rfl sc_law_total.nd (wzip 6 7 T.z_zip (axc (xv 3 rfl) (axc (xv 5 rfl) axn))) (blkOk_by (N := N_law_total) (sc := defScope s_law_total) (by decide +kernel)) (by decide) (nil2 rfl rfl) (fun _ => rfl) (fun _ _ _ _ _ => (pg_tup rfl (pgs_cons (pg_name (i := 6) sc_law_total.nd rfl (by first | exact Or.inl rfl | exact Or.inr rfl)) (pgs_cons (pg_name (i := 7) sc_law_total.nd rfl (by first | exact Or.inl rfl | exact Or.inr rfl)) pgs_nil)))) (fun _ _ _ _ _ y1128 => (xcall (ok_law_add T) (hr.mono (by decide)) T.m_law_add T.F_law_add.kp (b_law_add T) (axc (xv 6 rfl) (axc (xcall (ok_law_mul T) (hr.mono (by decide)) T.m_law_mul T.F_law_mul.kp (b_law_mul T) (axc (xv 4 rfl) (axc (xv 7 rfl) axn))) axn)))) (sw_true rfl rfl rfl (by decide +kernel)))) fun _ v1122 => (re [Sl.sh (eL eN) x.1, Sl.sh (eL (eL eN)) x.2.1, Sl.sh eI x.2.2.1, Sl.sh (eL eN) v1122, Sl.sh eN y1121.1, Sl.sh (eL eN) y1121.2, Sl.nil, Sl.nil] rfl (snil (s := (v1122)) (Fit.eq (Fit.eq (Fit.eq (Fit.eq (Fit.dr (Fit.dr (Fit.eq (Fit.eq Fit.nil)))))))))))))) fun s1138 => (re [Sl.sh (eL eN) x.1, Sl.sh (eL (eL eN)) x.2.1, Sl.sh eI x.2.2.1, Sl.sh (eL eN) s1138, Sl.nil, Sl.nil, Sl.nil, Sl.nil] rfl (sret (xv 3 rfl)))))))
theorem ok_law_moved (T : Txt K mg) : FnOk P w K mg base CX0 2 T.a_law_moved T.d_law_moved P_law_moved (spW (K := K) poolA (aPl (aC (eL eI) aN)) w_law_moved (eL eI)) :=
  fn_R (k := 1) (wb := wb_law_moved) (ρ' := fun z : Empty => nomatch z) T.F_law_moved sc_law_moved rfl (show 2 ≤ 5 by decide) fun cdv A outer s H E pp x hr => (re [Sl.pl, Sl.sh (eL eI) x.1, Sl.nil, Sl.nil, Sl.nil] rfl (sx (nparOO 2 3 eI rfl sc_law_moved.nd (xlistF T.z_list (xR (xv 1 rfl)))) fun p1141 v1140 => (re [Sl.pl, Sl.sh (eL eI) x.1, Sl.ow p1141.1 (oL eI) v1140, Sl.ow p1141.2 (oL eI) ([] : (List Int)), Sl.nil] rfl (sq_ (nforJ (fun r (s : (List Int) × (List Int)) => (put (put r 3 (Sl.ow p1141.2 (oL eI) s.1)) 2 (Sl.ow p1141.1 (oL eI) s.2))) (s0 := (([] : (List Int)), v1140)) PassesOwn.never rfl (wrange1 4 T.z_range (axc (xcallB c_len T.z_len (by decide +kernel) (axc (xv 1 rfl) axn)) axn)) (pg_name (i := 4) sc_law_moved.nd rfl (by first | exact Or.inl rfl | exact Or.inr rfl)) (Fit.eq (Fit.eq (Fit.eq (Fit.eq (Fit.eq Fit.nil))))) (fun s1148 y1149 => (re [Sl.pl, Sl.sh (eL eI) x.1, Sl.ow p1141.1 (oL eI) s1148.2, Sl.ow p1141.2 (oL eI) s1148.1, Sl.sh eI y1149] rfl (sx (nappop 3 2 (by decide) rfl rfl (xcall (ok_law_pick T.F_law_pick T.z_int) (hr.mono (by decide)) T.m_law_pick T.F_law_pick.kp (b_law_pick T) (axp 0 rfl (axc (xlenO 2 rfl T.z_len) axn)))) fun _ v1152 => (re [Sl.pl, Sl.sh (eL eI) x.1, Sl.ow p1141.1 (oL eI) (s1148.2.eraseIdx ((ixN s1148.2.length v1152).getD 0)), Sl.ow p1141.2 (oL eI) (s1148.1 ++ [ixAt s1148.2 v1152]), Sl.sh eI y1149] rfl (snil (s := ((s1148.1 ++ [ixAt s1148.2 v1152]), (s1148.2.eraseIdx ((ixN s1148.2.length v1152).getD 0)))) (Fit.eq (Fit.eq (Fit.eq (Fit.eq (Fit.dr Fit.nil))))))))))) fun s1154 => (re [Sl.pl, Sl.sh (eL eI) x.1, Sl.ow p1141.1 (oL eI) s1154.2, Sl.ow p1141.2 (oL eI) s1154.1, Sl.nil] rfl (nfreeze 2 rfl (re [Sl.pl, Sl.sh (eL eI) x.1, Sl.sh (eL eI) s1154.2, Sl.ow p1141.2 (oL eI) s1154.1, Sl.nil] rfl (nfreeze 3 rfl (re [Sl.pl, Sl.sh (eL eI) x.1, Sl.sh (eL eI) s1154.2, Sl.sh (eL eI) s1154.1, Sl.nil] rfl (sret (xv 3 rfl)))))))))))
theorem ok_law_moved_v2 (T : Txt K mg) : FnOk P w K mg base CX0 2 T.a_law_moved_v2 T.d_law_moved_v2 P_law_moved_v2 (spW (K := K) poolA (aPl (aC (eL (eL eN)) aN)) w_law_moved_v2 (eL (eL eN))) :=
  fn_R (k := 1) (wb := wb_law_moved_v2) (ρ' := fun z : Empty => nomatch z) T.F_law_moved_v2 sc_law_moved_v2 rfl (show 2 ≤ 5 by decide) fun cdv A outer s H E pp x hr => (re [Sl.pl, Sl.sh (eL (eL eN)) x.1, Sl.nil, Sl.nil, Sl.nil] rfl (sx (nparOO 2 3 (eL eN) rfl sc_law_moved_v2.nd (xlistF T.z_list (xR (xv 1 rfl)))) fun p1157 v1156 => (re [Sl.pl, Sl.sh (eL (eL eN)) x.1, Sl.ow p1157.1 (oL (eL eN)) v1156, Sl.ow p1157.2 (oL (eL eN)) ([] : (List (List (Int × Int)))), Sl.nil] rfl (sq_ (nforJ (fun r (s : (List (List (Int × Int))) × (List (List (Int × Int)))) => (put (put r 3 (Sl.ow p1157.2 (oL (eL eN)) s.1)) 2 (Sl.ow p1157.1 (oL (eL eN)) s.2))) (s0 := (([] : (List (List (Int × Int)))), v1156)) PassesOwn.never rfl (wrange1 4 T.z_range (axc (xcallB c_len T.z_len (by decide +kernel) (axc (xv 1 rfl) axn)) axn)) (pg_name (i := 4) sc_law_moved_v2.nd rfl (by first | exact Or.inl rfl | exact Or.inr rfl)) (Fit.eq (Fit.eq (Fit.eq (Fit.eq (Fit.eq Fit.nil))))) (fun s1164 y1165 => (re [Sl.pl, Sl.sh (eL (eL eN)) x.1, Sl.ow p1157.1 (oL (eL eN)) s1164.2, Sl.ow p1157.2 (oL (eL eN)) s1164.1, Sl.sh eI y1165] rfl (sx (nappop 3 2 (by decide) rfl rfl (xcall (ok_law_pick T.F_law_pick T.z_int) (hr.mono (by decide)) T.m_law_pick T.F_law_pick.kp (b_law_pick T) (axp 0 rfl (axc (xlenO 2 rfl T.z_len) axn)))) fun _ v1168 => (re [Sl.pl, Sl.sh (eL (eL eN)) x.1, Sl.ow p1157.1 (oL (eL eN)) (s1164.2.eraseIdx ((ixN s1164.2.length v1168).getD 0)), Sl.ow p1157.2 (oL (eL eN)) (s1164.1 ++ [ixAt s1164.2 v1168]), Sl.sh eI y1165] rfl (snil (s := ((s1164.1 ++ [ixAt s1164.2 v1168]), (s1164.2.eraseIdx ((ixN s1164.2.length v1168).getD 0)))) (Fit.eq (Fit.eq (Fit.eq (Fit.eq (Fit.dr Fit.nil))))))))))) fun s1170 => (re [Sl.pl, Sl.sh (eL (eL eN)) x.1, Sl.ow p1157.1 (oL (eL eN)) s1170.2, Sl.ow p1157.2 (oL (eL eN)) s1170.1, Sl.nil] rfl (nfreeze 2 rfl (re [Sl.pl, Sl.sh (eL (eL eN)) x.1, Sl.sh (eL (eL eN)) s1170.2, Sl.ow p1157.2 (oL (eL eN)) s1170.1, Sl.nil] rfl (nfreeze 3 rfl (re [Sl.pl, Sl.sh (eL (eL eN)) x.1, Sl.sh (eL (eL eN)) s1170.2, Sl.sh (eL (eL eN)) s1170.1, Sl.nil] rfl (sret (xv 3 rfl)))))))))))
theorem ok_law_basis (T : Txt K mg) : FnOk P w K mg base CX0 3 T.a_law_basis T.d_law_basis P_law_basis (spW (K := K) poolA (aPl (aC eI aN)) w_law_basis (eL (eL eN))) :=
  fn_R (k := 2) (wb := wb_law_basis) (ρ' := fun z : Empty => nomatch z) T.F_law_basis sc_law_basis rfl (show 2 ≤ 7 by decide) fun cdv A outer s H E pp x hr => (re [Sl.pl, Sl.sh eI x.1, Sl.nil, Sl.nil, Sl.nil, Sl.nil, Sl.nil] rfl (sx (nparO 2 3 (eL eN) rfl sc_law_basis.nd (xcall (ok_law_moved T) (hr.mono (by decide)) T.m_law_moved T.F_law_moved.kp (b_law_moved T) (axp 0 rfl (axc (xlistRg rfl T.z_list T.z_range (xv 1 rfl)) axn)))) fun p1176 v1175 => (re [Sl.pl, Sl.sh eI x.1, Sl.sh (eL eI) v1175, Sl.ow p1176 (oL (eL eN)) ([] : (List (List (Int × Int)))), Sl.nil, Sl.nil, Sl.nil] rfl (sq_ (nforJ (fun r (s : (List (List (Int × Int)))) => (put r 3 (Sl.ow p1176 (oL (eL eN)) s))) (s0 := (([] : (List (List (Int × Int)))))) PassesOwn.never rfl (wrange1 4 T.z_range (axc (xv 1 rfl) axn)) (pg_name (i := 4) sc_law_basis.nd rfl (by first | exact Or.inl rfl | exact Or.inr rfl)) (Fit.eq (Fit.eq (Fit.eq (Fit.eq (Fit.eq (Fit.eq (Fit.eq Fit.nil))))))) (fun s1180 y1181 => (re [Sl.pl, Sl.sh eI x.1, Sl.sh (eL eI) v1175, Sl.ow p1176 (oL (eL eN)) s1180, Sl.sh eI y1181, Sl.nil, Sl.nil] rfl (sx (nown (nsetFe 5 sc_law_basis.nd (xrepF (xlst (alc (xtup2 (axc xint (axc xint axn))) (aln (en := eN)))) (xv 1 rfl)))) fun p1192 v1182 => (re [Sl.pl, Sl.sh eI x.1, Sl.sh (eL eI) v1175, Sl.ow p1176 (oL (eL eN)) s1180, Sl.sh eI y1181, Sl.ow p1192 (oL eN) v1182, Sl.nil] rfl (sq_ (nforJ (fun r (s : (List (Int × Int))) => (put r 5 (Sl.ow p1192 (oL eN) s))) (s0 := (v1182)) PassesOwn.never rfl (wrange1 6 T.z_range (axc (xv 4 rfl) axn)) (pg_name (i := 6) sc_law_basis.nd rfl (by first | exact Or.inl rfl | exact Or.inr rfl)) (Fit.eq (Fit.eq (Fit.eq (Fit.eq (Fit.eq (Fit.eq (Fit.eq Fit.nil))))))) (fun s1196 y1197 => (re [Sl.pl, Sl.sh eI x.1, Sl.sh (eL eI) v1175, Sl.ow p1176 (oL (eL eN)) s1180, Sl.sh eI y1181, Sl.ow p1192 (oL eN) s1196, Sl.sh eI y1197] rfl (sx (nsetix 5 rfl (xtup2 (axc (xop0 w_sub (xcall (ok_law_pick T.F_law_pick T.z_int) (hr.mono (by decide)) T.m_law_pick T.F_law_pick.kp (b_law_pick T) (axp 0 rfl (axc xint axn))) xint) (axc xint axn))) (xix w_ixL (xv 2 rfl) (xv 6 rfl))) fun _ v1209 => (re [Sl.pl, Sl.sh eI x.1, Sl.sh (eL eI) v1175, Sl.ow p1176 (oL (eL eN)) s1180, Sl.sh eI y1181, Sl.ow p1192 (oL eN) (s1196.set ((ixN s1196.length v1209.1).getD 0) v1209.2), Sl.sh eI y1197] rfl (snil (s := ((s1196.set ((ixN s1196.length v1209.1).getD 0) v1209.2))) (Fit.eq (Fit.eq (Fit.eq (Fit.eq (Fit.eq (Fit.eq (Fit.dr Fit.nil))))))))))))) fun s1212 => (re [Sl.pl, Sl.sh eI x.1, Sl.sh (eL eI) v1175, Sl.ow p1176 (oL (eL eN)) s1180, Sl.sh eI y1181, Sl.ow p1192 (oL eN) s1212, Sl.nil] rfl (sx (nsetix 5 rfl (xix w_ixL (xlst (alc (xtup2 (axc xint (axc xint axn))) (alc (xtup2 (axc (xun w_neg xint) (axc xint axn))) (alc (xtup2 (axc xint (axc xint axn))) (alc (xtup2 (axc xint (axc xint axn))) (alc (xtup2 (axc (xun w_neg xint) (axc xint axn))) (aln (en := eN)))))))) (xcall (ok_law_pick T.F_law_pick T.z_int) (hr.mono (by decide)) T.m_law_pick T.F_law_pick.kp (b_law_pick T) (axp 0 rfl (axc xint axn)))) (xix w_ixL (xv 2 rfl) (xv 4 rfl))) fun _ v1256 => (re [Sl.pl, Sl.sh eI x.1, Sl.sh (eL eI) v1175, Sl.ow p1176 (oL (eL eN)) s1180, Sl.sh eI y1181, Sl.ow p1192 (oL eN) (s1212.set ((ixN s1212.length v1256.1).getD 0) v1256.2), Sl.nil] rfl (nfreeze 5 rfl (re [Sl.pl, Sl.sh eI x.1, Sl.sh (eL eI) v1175, Sl.ow p1176 (oL (eL eN)) s1180, Sl.sh eI y1181, Sl.sh (eL eN) (s1212.set ((ixN s1212.length v1256.1).getD 0) v1256.2), Sl.nil] rfl (sx (nappend 3 rfl (xv 5 rfl)) fun _ v1259 => (re [Sl.pl, Sl.sh eI x.1, Sl.sh (eL eI) v1175, Sl.ow p1176 (oL (eL eN)) (s1180 ++ [v1259]), Sl.sh eI y1181, Sl.sh (eL eN) (s1212.set ((ixN s1212.length v1256.1).getD 0) v1256.2), Sl.nil] rfl (snil (s := ((s1180 ++ [v1259]))) (Fit.eq (Fit.eq (Fit.eq (Fit.eq (Fit.dr (Fit.dr (Fit.eq Fit.nil))))))))))))))))))))) fun s1261 => (re [Sl.pl, Sl.sh eI x.1, Sl.sh (eL eI) v1175, Sl.ow p1176 (oL (eL eN)) s1261, Sl.nil, Sl.nil, Sl.nil] rfl (nfreeze 3 rfl (re [Sl.pl, Sl.sh eI x.1, Sl.sh (eL eI) v1175, Sl.sh (eL (eL eN)) s1261, Sl.nil, Sl.nil, Sl.nil] rfl (sret (xcall (ok_law_moved_v2 T) (hr.mono (by decide)) T.m_law_moved_v2 T.F_law_moved_v2.kp (b_law_moved_v2 T) (axp 0 rfl (axc (xv 3 rfl) axn)))))))))))
theorem ok_law_term (T : Txt K mg) : ∀ n : Nat, FnOk P w K mg base CX0 (2 + n) T.a_law_term T.d_law_term P_law_term (spW (K := K) poolA (aPl (aC eI aN)) (w_law_term n) eD)
  | 0 => fn_R (k := 1) (wb := fun _ => stuck) (ρ' := fun z : Empty => nomatch z) T.F_law_term sc_law_term rfl (show 2 ≤ 3 by decide) fun cdv A outer s H E pp x hr => snever
  | n + 1 =>
    have ih := ok_law_term T n
    fn_R (k := 2 + n) (ρ' := fun z : Empty => nomatch z) T.F_law_term sc_law_term rfl (show 2 ≤ 3 by decide) fun cdv A outer s H E pp x hr => (re [Sl.pl, Sl.sh eI x.1, Sl.nil] rfl (sx (nset 2 sc_law_term.nd (xcall (ok_law_pick T.F_law_pick T.z_int) (hr.mono (by omega)) T.m_law_pick T.F_law_pick.kp (b_law_pick T) (axp 0 rfl (axc xint axn)))) fun _ v1265 => (re [Sl.pl, Sl.sh eI x.1, Sl.sh eI v1265] rfl (sq_ (nif0 (tw (wor (tcmp w_eqI (xv 1 rfl) xint) (wor1 (tcmp w_eqI (xv 2 rfl) xint)))) (re [Sl.pl, Sl.sh eI x.1, Sl.sh eI v1265] rfl (sret (xtupD (alc (xD tdS xstr) (alc (xD tdI (xcall (ok_law_pick T.F_law_pick T.z_int) (hr.mono (by omega)) T.m_law_pick T.F_law_pick.kp (b_law_pick T) (axp 0 rfl (axc xint axn)))) aln)))))) fun _ => (re [Sl.pl, Sl.sh eI x.1, Sl.sh eI v1265] rfl (sq_ (nif0 (tcmp w_eqI (xv 2 rfl) xint) (re [Sl.pl, Sl.sh eI x.1, Sl.sh eI v1265] rfl (sret (xtupD (alc (xD tdS xstr) (alc (xtupD (alc (xD tdI (xop0 w_sub (xcall (ok_law_pick T.F_law_pick T.z_int) (hr.mono (by omega)) T.m_law_pick T.F_law_pick.kp (b_law_pick T) (axp 0 rfl (axc xint axn))) xint)) (alc (xD tdI (xop0 w_add xint (xop w_mul (xcall (ok_law_pick T.F_law_pick T.z_int) (hr.mono (by omega)) T.m_law_pick T.F_law_pick.kp (b_law_pick T) (axp 0 rfl (axc xint axn))) xint))) aln))) (alc (xcall ih hr T.m_law_term T.F_law_term.kp (b_law_term T) (axp 0 rfl (axc (xop0 w_sub (xv 1 rfl) xint) axn))) aln))))))) fun _ => (re [Sl.pl, Sl.sh eI x.1, Sl.sh eI v1265] rfl (sret (xtupD (alc (xD tdS (xix w_ixL (xlst (alc xstr (alc xstr (aln (en := eS))))) (xop w_fdiv (xv 2 rfl) xint))) (alc (xcall ih hr T.m_law_term T.F_law_term.kp (b_law_term T) (axp 0 rfl (axc (xop0 w_sub (xv 1 rfl) xint) axn))) (alc (xcall ih hr T.m_law_term T.F_law_term.kp (b_law_term T) (axp 0 rfl (axc (xop0 w_sub (xv 1 rfl) xint) axn))) aln))))))))))))
theorem ok_law_worth (T : Txt K mg) : ∀ n : Nat, FnOk P w K mg base CX0 (5 + n) T.a_law_worth T.d_law_worth P_law_worth (spW (K := K) poolA (aC (e_Table T) (aC eD (aC (eL (eL eN)) aN))) (w_law_worth n) (eL eN))
  | 0 => fn_R (k := 4) (wb := fun _ => stuck) (ρ' := fun z : Empty => nomatch z) T.F_law_worth sc_law_worth rfl (show 3 ≤ 5 by decide) fun cdv A outer s H E pp x hr => snever
  | n + 1 =>
    have ih := ok_law_worth T n
    fn_R (k := 5 + n) (ρ' := fun z : Empty => nomatch z) T.F_law_worth sc_law_worth rfl (show 3 ≤ 5 by decide) fun cdv A outer s H E pp x hr => (re [Sl.sh (e_Table T) x.1, Sl.sh eD x.2.1, Sl.sh (eL (eL eN)) x.2.2.1, Sl.nil, Sl.nil] rfl (sq_ (nif0 (tcmpG (w_eqDD hr.units) (xix w_ixD (xv 1 rfl) xint) (xD tdS xstr)) (re [Sl.sh (e_Table T) x.1, Sl.sh eD x.2.1, Sl.sh (eL (eL eN)) x.2.2.1, Sl.nil, Sl.nil] rfl (sret (xix w_ixL (xv 2 rfl) (xDi (xix w_ixD (xv 1 rfl) xint)))))) fun _ => (re [Sl.sh (e_Table T) x.1, Sl.sh eD x.2.1, Sl.sh (eL (eL eN)) x.2.2.1, Sl.nil, Sl.nil] rfl (sq_ (nif0 (tcmpG (w_eqDD hr.units) (xix w_ixD (xv 1 rfl) xint) (xD tdS xstr)) (re [Sl.sh (e_Table T) x.1, Sl.sh eD x.2.1, Sl.sh (eL (eL eN)) x.2.2.1, Sl.nil, Sl.nil] rfl (sret (xcall (ok_times T) (hr.mono (by omega)) T.m_times T.F_times.kp (b_times T) (axc (xcall (ok_law_low T) (hr.mono (by omega)) T.m_law_low T.F_law_low.kp (b_law_low T) (axc (xDi (xix w_ixD (xix w_ixD (xv 1 rfl) xint) xint)) (axc (xDi (xix w_ixD (xix w_ixD (xv 1 rfl) xint) xint)) axn))) (axc (xcall ih hr T.m_law_worth T.F_law_worth.kp (b_law_worth T) (axc (xv 0 rfl) (axc (xix w_ixD (xv 1 rfl) xint) (axc (xv 2 rfl) axn)))) axn)))))) fun _ => (re [Sl.sh (e_Table T) x.1, Sl.sh eD x.2.1, Sl.sh (eL (eL eN)) x.2.2.1, Sl.nil, Sl.nil] rfl (sx (npar 3 4 rfl sc_law_worth.nd (axc (xcall ih hr T.m_law_worth T.F_law_worth.kp (b_law_worth T) (axc (xv 0 rfl) (axc (xix w_ixD (xv 1 rfl) xint) (axc (xv 2 rfl) axn)))) (axc (xcall ih hr T.m_law_worth T.F_law_worth.kp (b_law_worth T) (axc (xv 0 rfl) (axc (xix w_ixD (xv 1 rfl) xint) (axc (xv 2 rfl) axn)))) axn))) fun _ v1387 => (re [Sl.sh (e_Table T) x.1, Sl.sh eD x.2.1, Sl.sh (eL (eL eN)) x.2.2.1, Sl.sh (eL eN) v1387.1, Sl.sh (eL eN) v1387.2.1] rfl (sret (xif (tcmpG (w_eqDD hr.units) (xix w_ixD (xv 1 rfl) xint) (xD tdS xstr)) (xcall (ok_sum_of T) (hr.mono (by omega)) T.m_sum_of T.F_sum_of.kp (b_sum_of T) (axc (xv 3 rfl) (axc (xv 4 rfl) axn))) (xcallO T.co_Table (ok_Table_call T) (hr.mono (by omega)) (b_Table_call T) (xv 0 rfl) (axc (xv 3 rfl) (axc (xv 4 rfl) axn))))))))))))
theorem ok_law_over_right (T : Txt K mg) : FnOk P w K mg base CX0 12 T.a_law_over_right T.d_law_over_right P_law_over_right (spW (K := K) poolA (aPl (aC (e_Table T) (aC (eL (eL (eL eN))) (aC (eL (eL eN)) aN)))) w_law_over_right eB) :=
  fn_R (k := 11) (wb := wb_law_over_right) (ρ' := fun z : Empty => nomatch z) T.F_law_over_right sc_law_over_right rfl (show 4 ≤ 21 by decide) fun cdv A outer s H E pp x hr => (re [Sl.pl, Sl.sh (e_Table T) x.1, Sl.sh (eL (eL (eL eN))) x.2.1, Sl.sh (eL (eL eN)) x.2.2.1, Sl.nil, Sl.nil, Sl.nil, Sl.nil, Sl.nil, Sl.nil, Sl.nil, Sl.nil, Sl.nil, Sl.nil, Sl.nil, Sl.nil, Sl.nil, Sl.nil, Sl.nil, Sl.nil, Sl.nil] rfl (sx (nset 4 sc_law_over_right.nd (xcallB c_len T.z_len (by decide +kernel) (axc (xv 2 rfl) axn))) fun _ v1425 => (re [Sl.pl, Sl.sh (e_Table T) x.1, Sl.sh (eL (eL (eL eN))) x.2.1, Sl.sh (eL (eL eN)) x.2.2.1, Sl.sh eI v1425, Sl.nil, Sl.nil, Sl.nil, Sl.nil, Sl.nil, Sl.nil, Sl.nil, Sl.nil, Sl.nil, Sl.nil, Sl.nil, Sl.nil, Sl.nil, Sl.nil, Sl.nil, Sl.nil] rfl (sx (nset 5 sc_law_over_right.nd (xcastF (f := fun z => z) (frL (frL (frP frI frI))) (fun z => copied_eq (n := 7) ((tmL (tmL (tmP tmI tmI))) z)) (xcall (ok_law_copied T 7) (hr.mono (by decide)) T.m_law_copied T.F_law_copied.kp (b_law_copied T) (axc (xD (tdL (tdL (tdP tdI tdI))) (xv 3 rfl)) axn)))) fun _ v1429 => (re [Sl.pl, Sl.sh (e_Table T) x.1, Sl.sh (eL (eL (eL eN))) x.2.1, Sl.sh (eL (eL eN)) x.2.2.1, Sl.sh eI v1425, Sl.sh (eL (eL eN)) v1429, Sl.nil, Sl.nil, Sl.nil, Sl.nil, Sl.nil, Sl.nil, Sl.nil, Sl.nil, Sl.nil, Sl.nil, Sl.nil, Sl.nil, Sl.nil, Sl.nil, Sl.nil] rfl (sx (nset 6 sc_law_over_right.nd (xcall (ok_over T) (hr.mono (by decide)) T.m_over T.F_over.kp (b_over T) (axc (xv 1 rfl) (axc (xv 5 rfl) axn)))) fun _ v1434 => (re [Sl.pl, Sl.sh (e_Table T) x.1, Sl.sh (eL (eL (eL eN))) x.2.1, Sl.sh (eL (eL eN)) x.2.2.1, Sl.sh eI v1425, Sl.sh (eL (eL eN)) v1429, Sl.sh (e_Table T) v1434, Sl.nil, Sl.nil, Sl.nil, Sl.nil, Sl.nil, Sl.nil, Sl.nil, Sl.nil, Sl.nil, Sl.nil, Sl.nil, Sl.nil, Sl.nil, Sl.nil] rfl (sq_ (nif0 (tw (wor (tcmp (w_neD (dL (dL (dP dI dI))) (dL (dL (dP dI dI))) (shx (shL (shL (shP shI shI)))) (shx (shL (shL (shP shI shI)))) hr.units) (xv 5 rfl) (xv 3 rfl)) (wor (tnot (tval (xisC T.z_isinstance T.m_Table T.ic_Table (xv 6 rfl)))) (wor1 (tnot (tval (xcall (ok_law_alike T 6) (hr.mono (by decide)) T.m_law_alike T.F_law_alike.kp (b_law_alike T) (axc (xD tdI (xprop T.cl_Table T.pr_Table_size (ok_Table_size T) (hr.mono (by decide)) (b_Table_size T) (xv 6 rfl))) (axc (xD tdI (xv 4 rfl)) axn))))))))) (re [Sl.pl, Sl.sh (e_Table T) x.1, Sl.sh (eL (eL (eL eN))) x.2.1, Sl.sh (eL (eL eN)) x.2.2.1, Sl.sh eI v1425, Sl.sh (eL (eL eN)) v1429, Sl.sh (e_Table T) v1434, Sl.nil, Sl.nil, Sl.nil, Sl.nil, Sl.nil, Sl.nil, Sl.nil, Sl.nil, Sl.nil, Sl.nil, Sl.nil, Sl.nil, Sl.nil, Sl.nil] rfl (sret xbl))) fun _ => (re [Sl.pl, Sl.sh (e_Table T) x.1, Sl.sh (eL (eL (eL eN))) x.2.1, Sl.sh (eL (eL eN)) x.2.2.1, Sl.sh eI v1425, Sl.sh (eL (eL eN)) v1429, Sl.sh (e_Table T) v1434, Sl.nil, Sl.nil, Sl.nil, Sl.nil, Sl.nil, Sl.nil, Sl.nil, Sl.nil, Sl.nil, Sl.nil, Sl.nil, Sl.nil, Sl.nil, Sl.nil] rfl (sx (nset 7 sc_law_over_right.nd (xprop T.cl_Table T.pr_Table_products (ok_Table_products T) (hr.mono (by decide)) (b_Table_products T) (xv 6 rfl))) fun _ v1455 => (re [Sl.pl, Sl.sh (e_Table T) x.1, Sl.sh (eL (eL (eL eN))) x.2.1, Sl.sh (eL (eL eN)) x.2.2.1, Sl.sh eI v1425, Sl.sh (eL (eL eN)) v1429, Sl.sh (e_Table T) v1434, Sl.sh (eL (eL (eL eN))) v1455, Sl.nil, Sl.nil, Sl.nil, Sl.nil, Sl.nil, Sl.nil, Sl.nil, Sl.nil, Sl.nil, Sl.nil, Sl.nil, Sl.nil, Sl.nil] rfl (sq_ (nforJ (fun r (_ : Unit) => r) (s0 := ()) PassesOwn.never rfl (wrange1 8 T.z_range (axc (xv 4 rfl) axn)) (pg_name (i := 8) sc_law_over_right.nd rfl (by first | exact Or.inl rfl | exact Or.inr rfl)) (Fit.eq (Fit.eq (Fit.eq (Fit.eq (Fit.eq (Fit.eq (Fit.eq (Fit.eq (Fit.eq (Fit.eq (Fit.eq (Fit.eq (Fit.eq (Fit.eq (Fit.eq (Fit.eq (Fit.eq (Fit.eq (Fit.eq (Fit.eq (Fit.eq Fit.nil))))))))))))))))))))) (fun s1460 y1461 => (re [Sl.pl, Sl.sh (e_Table T) x.1, Sl.sh (eL (eL (eL eN))) x.2.1, Sl.sh (eL (eL eN)) x.2.2.1, Sl.sh eI v1425, Sl.sh (eL (eL eN)) v1429, Sl.sh (e_Table T) v1434, Sl.sh (eL (eL (eL eN))) v1455, Sl.sh eI y1461, Sl.nil, Sl.nil, Sl.nil, Sl.nil, Sl.nil, Sl.nil, Sl.nil, Sl.nil, Sl.nil, Sl.nil, Sl.nil, Sl.nil] rfl (sq_ (nforJ (fun r (_ : Unit) => r) (s0 := ()) PassesOwn.never rfl (wrange1 9 T.z_range (axc (xv 4 rfl) axn)) (pg_name (i := 9) sc_law_over_right.nd rfl (by first | exact Or.inl rfl | exact Or.inr rfl)) (Fit.eq (Fit.eq (Fit.eq (Fit.eq (Fit.eq (Fit.eq (Fit.eq (Fit.eq (Fit.eq (Fit.eq (Fit.eq (Fit.eq (Fit.eq (Fit.eq (Fit.eq (Fit.eq (Fit.eq (Fit.eq (Fit.eq (Fit.eq (Fit.eq Fit.nil))))))))))))))))))))) (fun s1465 y1466 => (re [Sl.pl, Sl.sh (e_Table T) x.1, Sl.sh (eL (eL (eL eN))) x.2.1, Sl.sh (eL (eL eN)) x.2.2.1, Sl.sh eI v1425, Sl.sh (eL (eL eN)) v1429, Sl.sh (e_Table T) v1434, Sl.sh (eL (eL (eL eN))) v1455, Sl.sh eI y1461, Sl.sh eI y1466, Sl.nil, Sl.nil, Sl.nil, Sl.nil, Sl.nil, Sl.nil, Sl.nil, Sl.nil, Sl.nil, Sl.nil, Sl.nil] rfl (sq_ (nif0 (tnot (tval (xcall (ok_law_alike T 6) (hr.mono (by decide)) T.m_law_alike T.F_law_alike.kp (b_law_alike T) (axc (xD (tdL (tdP tdI tdI)) (xcall (ok_law_total T) (hr.mono (by decide)) T.m_law_total T.F_law_total.kp (b_law_total T) (axc (xix w_ixL (xix w_ixL (xv 7 rfl) (xv 8 rfl)) (xv 9 rfl)) (axc (xv 3 rfl) (axc (xv 4 rfl) axn))))) (axc (xD (tdL (tdP tdI tdI)) (xcall (ok_law_times T) (hr.mono (by decide)) T.m_law_times T.F_law_times.kp (b_law_times T) (axc (xv 2 rfl) (axc (xix w_ixL (xv 3 rfl) (xv 8 rfl)) (axc (xix w_ixL (xv 3 rfl) (xv 9 rfl)) axn))))) axn))))) (re [Sl.pl, Sl.sh (e_Table T) x.1, Sl.sh (eL (eL (eL eN))) x.2.1, Sl.sh (eL (eL eN)) x.2.2.1, Sl.sh eI v1425, Sl.sh (eL (eL eN)) v1429, Sl.sh (e_Table T) v1434, Sl.sh (eL (eL (eL eN))) v1455, Sl.sh eI y1461, Sl.sh eI y1466, Sl.nil, Sl.nil, Sl.nil, Sl.nil, Sl.nil, Sl.nil, Sl.nil, Sl.nil, Sl.nil, Sl.nil, Sl.nil] rfl (sret xbl))) fun _ => (re [Sl.pl, Sl.sh (e_Table T) x.1, Sl.sh (eL (eL (eL eN))) x.2.1, Sl.sh (eL (eL eN)) x.2.2.1, Sl.sh eI v1425, Sl.sh (eL (eL eN)) v1429, Sl.sh (e_Table T) v1434, Sl.sh (eL (eL (eL eN))) v1455, Sl.sh eI y1461, Sl.sh eI y1466, Sl.nil, Sl.nil, Sl.nil, Sl.nil, Sl.nil, Sl.nil, Sl.nil, Sl.nil, Sl.nil, Sl.nil, Sl.nil] rfl (snil (s := ()) (Fit.eq (Fit.eq (Fit.eq (Fit.eq (Fit.eq (Fit.eq (Fit.eq (Fit.eq (Fit.eq (Fit.dr (Fit.eq (Fit.eq (Fit.eq (Fit.eq (Fit.eq (Fit.eq (Fit.eq (Fit.eq (Fit.eq (Fit.eq (Fit.eq Fit.nil))))))))))))))))))))))))))) fun s1496 => (re [Sl.pl, Sl.sh (e_Table T) x.1, Sl.sh (eL (eL (eL eN))) x.2.1, Sl.sh (eL (eL eN)) x.2.2.1, Sl.sh eI v1425, Sl.sh (eL (eL eN)) v1429, Sl.sh (e_Table T) v1434, Sl.sh (eL (eL (eL eN))) v1455, Sl.sh eI y1461, Sl.nil, Sl.nil, Sl.nil, Sl.nil, Sl.nil, Sl.nil, Sl.nil, Sl.nil, Sl.nil, Sl.nil, Sl.nil, Sl.nil] rfl (snil (s := ()) (Fit.eq (Fit.eq (Fit.eq (Fit.eq (Fit.eq (Fit.eq (Fit.eq (Fit.eq (Fit.dr (Fit.eq (Fit.eq (Fit.eq (Fit.eq (Fit.eq (Fit.eq (Fit.eq (Fit.eq (Fit.eq (Fit.eq (Fit.eq (Fit.eq Fit.nil))))))))))))))))))))))))))) fun s1497 => (re [Sl.pl, Sl.sh (e_Table T) x.1, Sl.sh (eL (eL (eL eN))) x.2.1, Sl.sh (eL (eL eN)) x.2.2.1, Sl.sh eI v1425, Sl.sh (eL (eL eN)) v1429, Sl.sh (e_Table T) v1434, Sl.sh (eL (eL (eL eN))) v1455, Sl.nil, Sl.nil, Sl.nil, Sl.nil, Sl.nil, Sl.nil, Sl.nil, Sl.nil, Sl.nil, Sl.nil, Sl.nil, Sl.nil, Sl.nil] rfl (sq_ (nif0 (tnot (tcmpO T.eq_Table (ok_Table_eq T) (hr.mono (by decide)) (b_Table_eq T) (xcallK _ (ok_over T) (hr.mono (by decide)) T.m_over T.F_over.kp (kb_over_1_0 T) (kxc (xv 5 rfl) (kxc (xv 1 rfl) kxn)) (kb_over_1_0_pm T)) (xv 6 rfl))) (re [Sl.pl, Sl.sh (e_Table T) x.1, Sl.sh (eL (eL (eL eN))) x.2.1, Sl.sh (eL (eL eN)) x.2.2.1, Sl.sh eI v1425, Sl.sh (eL (eL eN)) v1429, Sl.sh (e_Table T) v1434, Sl.sh (eL (eL (eL eN))) v1455, Sl.nil, Sl.nil, Sl.nil, Sl.nil, Sl.nil, Sl.nil, Sl.nil, Sl.nil, Sl.nil, Sl.nil, Sl.nil, Sl.nil, Sl.nil] rfl (sret xbl))) fun _ => (re [Sl.pl, Sl.sh (e_Table T) x.1, Sl.sh (eL (eL (eL eN))) x.2.1, Sl.sh (eL (eL eN)) x.2.2.1, Sl.sh eI v1425, Sl.sh (eL (eL eN)) v1429, Sl.sh (e_Table T) v1434, Sl.sh (eL (eL (eL eN))) v1455, Sl.nil, Sl.nil, Sl.nil, Sl.nil, Sl.nil, Sl.nil, Sl.nil, Sl.nil, Sl.nil, Sl.nil, Sl.nil, Sl.nil, Sl.nil] rfl (sx (nsetF (xlcS 10 (own := [(Str.ofString "_law_turn", 12)]) rfl sc_law_over_right.nd (wrange1 12 T.z_range (axc xint axn)) (blkOk_by (N := N_law_over_right) (sc := defScope s_law_over_right) (by decide +kernel)) (by decide) (nil1 rfl) (fun _ => rfl) (fun _ _ _ _ _ => (pg_name (i := 12) sc_law_over_right.nd rfl (by first | exact Or.inl rfl | exact Or.inr rfl))) (fun _ _ _ _ _ y1512 => (xfr (xlc (own := [(Str.ofString "_law_k", 11)]) rfl sc_law_over_right.nd (wrange1 11 T.z_range (axc (xv 4 rfl) axn)) (blk_in (N := N_law_over_right) (sc := defScope s_law_over_right) rfl rfl (by decide +kernel)) (by decide) (nil1 rfl) (fun _ => rfl) (fun _ _ _ _ _ => (pg_name (i := 11) sc_law_over_right.nd rfl (by first | exact Or.inl rfl | exact Or.inr rfl))) (fun _ _ _ _ _ y1516 => (xtup2 (axc (xop0 w_sub (xcall (ok_law_pick T.F_law_pick T.z_int) (hr.mono (by decide)) T.m_law_pick T.F_law_pick.kp (b_law_pick T) (axp 0 rfl (axc xint axn))) xint) (axc xint axn))))))) (sw_true rfl rfl rfl (by decide +kernel)))) fun _ v1508 => (re [Sl.pl, Sl.sh (e_Table T) x.1, Sl.sh (eL (eL (eL eN))) x.2.1, Sl.sh (eL (eL eN)) x.2.2.1, Sl.sh eI v1425, Sl.sh (eL (eL eN)) v1429, Sl.sh (e_Table T) v1434, Sl.sh (eL (eL (eL eN))) v1455, Sl.nil, Sl.nil, Sl.sh (eL (eL eN)) v1508, Sl.nil, Sl.nil, Sl.nil, Sl.nil, Sl.nil, Sl.nil, Sl.nil, Sl.nil, Sl.nil, Sl.nil] rfl (sx (nsetF (xlcS 13 (own := [(Str.ofString "_law_line", 14)]) rfl sc_law_over_right.nd (wlistL 14 (xv 10 rfl)) (blkOk_by (N := N_law_over_right) (sc := defScope s_law_over_right) (by decide +kernel)) (by decide) (nil1 rfl) (fun _ => rfl) (fun _ _ _ _ _ => (pg_name (i := 14) sc_law_over_right.nd rfl (by first | exact Or.inl rfl | exact Or.inr rfl))) (fun _ _ _ _ _ y1529 => (xcall (ok_combined T) (hr.mono (by decide)) T.m_combined T.F_combined.kp (b_combined T) (axc (xv 14 rfl) (axc (xv 5 rfl) (axc (xv 4 rfl) axn))))) (sw_true rfl rfl rfl (by decide +kernel)))) fun _ v1528 => (re [Sl.pl, Sl.sh (e_Table T) x.1, Sl.sh (eL (eL (eL eN))) x.2.1, Sl.sh (eL (eL eN)) x.2.2.1, Sl.sh eI v1425, Sl.sh (eL (eL eN)) v1429, Sl.sh (e_Table T) v1434, Sl.sh (eL (eL (eL eN))) v1455, Sl.nil, Sl.nil, Sl.sh (eL (eL eN)) v1508, Sl.nil, Sl.nil, Sl.sh (eL (eL eN)) v1528, Sl.nil, Sl.nil, Sl.nil, Sl.nil, Sl.nil, Sl.nil, Sl.nil] rfl (sq_ (nif0 (tcmp (w_neD (dL (dL (dP dI dI))) (dL (dL (dP dI dI))) (shx (shL (shL (shP shI shI)))) (shx (shL (shL (shP shI shI)))) hr.units) (xv 13 rfl) (xfr (xlc (own := [(Str.ofString "_law_line", 14)]) rfl sc_law_over_right.nd (wlistL 14 (xv 10 rfl)) (blkOk_by (N := N_law_over_right) (sc := defScope s_law_over_right) (by decide +kernel)) (by decide) (nil1 rfl) (fun _ => rfl) (fun _ _ _ _ _ => (pg_name (i := 14) sc_law_over_right.nd rfl (by first | exact Or.inl rfl | exact Or.inr rfl))) (fun _ _ _ _ _ y1537 => (xcall (ok_law_total T) (hr.mono (by decide)) T.m_law_total T.F_law_total.kp (b_law_total T) (axc (xv 14 rfl) (axc (xv 3 rfl) (axc (xv 4 rfl) axn)))))))) (re [Sl.pl, Sl.sh (e_Table T) x.1, Sl.sh (eL (eL (eL eN))) x.2.1, Sl.sh (eL (eL eN)) x.2.2.1, Sl.sh eI v1425, Sl.sh (eL (eL eN)) v1429, Sl.sh (e_Table T) v1434, Sl.sh (eL (eL (eL eN))) v1455, Sl.nil, Sl.nil, Sl.sh (eL (eL eN)) v1508, Sl.nil, Sl.nil, Sl.sh (eL (eL eN)) v1528, Sl.nil, Sl.nil, Sl.nil, Sl.nil, Sl.nil, Sl.nil, Sl.nil] rfl (sret xbl))) fun _ => (re [Sl.pl, Sl.sh (e_Table T) x.1, Sl.sh (eL (eL (eL eN))) x.2.1, Sl.sh (eL (eL eN)) x.2.2.1, Sl.sh eI v1425, Sl.sh (eL (eL eN)) v1429, Sl.sh (e_Table T) v1434, Sl.sh (eL (eL (eL eN))) v1455, Sl.nil, Sl.nil, Sl.sh (eL (eL eN)) v1508, Sl.nil, Sl.nil, Sl.sh (eL (eL eN)) v1528, Sl.nil, Sl.nil, Sl.nil, Sl.nil, Sl.nil, Sl.nil, Sl.nil] rfl (sq_ (nif0 (tnot (tval (xcall (ok_law_alike T 6) (hr.mono (by decide)) T.m_law_alike T.F_law_alike.kp (b_law_alike T) (axc (xD (tdL (tdP tdI tdI)) (xcall (ok_law_total T) (hr.mono (by decide)) T.m_law_total T.F_law_total.kp (b_law_total T) (axc (xcallO T.co_Table (ok_Table_call T) (hr.mono (by decide)) (b_Table_call T) (xv 6 rfl) (axc (xix w_ixL (xv 10 rfl) xint) (axc (xix w_ixL (xv 10 rfl) xint) axn))) (axc (xv 3 rfl) (axc (xv 4 rfl) axn))))) (axc (xD (tdL (tdP tdI tdI)) (xcall (ok_law_times T) (hr.mono (by decide)) T.m_law_times T.F_law_times.kp (b_law_times T) (axc (xv 2 rfl) (axc (xix w_ixL (xv 13 rfl) xint) (axc (xix w_ixL (xv 13 rfl) xint) axn))))) axn))))) (re [Sl.pl, Sl.sh (e_Table T) x.1, Sl.sh (eL (eL (eL eN))) x.2.1, Sl.sh (eL (eL eN)) x.2.2.1, Sl.sh eI v1425, Sl.sh (eL (eL eN)) v1429, Sl.sh (e_Table T) v1434, Sl.sh (eL (eL (eL eN))) v1455, Sl.nil, Sl.nil, Sl.sh (eL (eL eN)) v1508, Sl.nil, Sl.nil, Sl.sh (eL (eL eN)) v1528, Sl.nil, Sl.nil, Sl.nil, Sl.nil, Sl.nil, Sl.nil, Sl.nil] rfl (sret xbl))) fun _ => (re [Sl.pl, Sl.sh (e_Table T) x.1, Sl.sh (eL (eL (eL eN))) x.2.1, Sl.sh (eL (eL eN)) x.2.2.1, Sl.sh eI v1425, Sl.sh (eL (eL eN)) v1429, Sl.sh (e_Table T) v1434, Sl.sh (eL (eL (eL eN))) v1455, Sl.nil, Sl.nil, Sl.sh (eL (eL eN)) v1508, Sl.nil, Sl.nil, Sl.sh (eL (eL eN)) v1528, Sl.nil, Sl.nil, Sl.nil, Sl.nil, Sl.nil, Sl.nil, Sl.nil] rfl (sx (nset 15 sc_law_over_right.nd (xcall (ok_law_term T 5) (hr.mono (by decide)) T.m_law_term T.F_law_term.kp (b_law_term T) (axp 0 rfl (axc xint axn)))) fun _ v1584 => (re [Sl.pl, Sl.sh (e_Table T) x.1, Sl.sh (eL (eL (eL eN))) x.2.1, Sl.sh (eL (eL eN)) x.2.2.1, Sl.sh eI v1425, Sl.sh (eL (eL eN)) v1429, Sl.sh (e_Table T) v1434, Sl.sh (eL (eL (eL eN))) v1455, Sl.nil, Sl.nil, Sl.sh (eL (eL eN)) v1508, Sl.nil, Sl.nil, Sl.sh (eL (eL eN)) v1528, Sl.nil, Sl.sh eD v1584, Sl.nil, Sl.nil, Sl.nil, Sl.nil, Sl.nil] rfl (sq_ (nif0 (tcmp (w_neD (dL (dP dI dI)) (dL (dP dI dI)) (shx (shL (shP shI shI))) (shx (shL (shP shI shI))) hr.units) (xcall (ok_law_total T) (hr.mono (by decide)) T.m_law_total T.F_law_total.kp (b_law_total T) (axc (xcall (ok_law_worth T 5) (hr.mono (by decide)) T.m_law_worth T.F_law_worth.kp (b_law_worth T) (axc (xv 6 rfl) (axc (xv 15 rfl) (axc (xv 10 rfl) axn)))) (axc (xv 3 rfl) (axc (xv 4 rfl) axn)))) (xcall (ok_law_worth T 5) (hr.mono (by decide)) T.m_law_worth T.F_law_worth.kp (b_law_worth T) (axc (xv 1 rfl) (axc (xv 15 rfl) (axc (xv 13 rfl) axn))))) (re [Sl.pl, Sl.sh (e_Table T) x.1, Sl.sh (eL (eL (eL eN))) x.2.1, Sl.sh (eL (eL eN)) x.2.2.1, Sl.sh eI v1425, Sl.sh (eL (eL eN)) v1429, Sl.sh (e_Table T) v1434, Sl.sh (eL (eL (eL eN))) v1455, Sl.nil, Sl.nil, Sl.sh (eL (eL eN)) v1508, Sl.nil, Sl.nil, Sl.sh (eL (eL eN)) v1528, Sl.nil, Sl.sh eD v1584, Sl.nil, Sl.nil, Sl.nil, Sl.nil, Sl.nil] rfl (sret xbl))) fun _ => (re [Sl.pl, Sl.sh (e_Table T) x.1, Sl.sh (eL (eL (eL eN))) x.2.1, Sl.sh (eL (eL eN)) x.2.2.1, Sl.sh eI v1425, Sl.sh (eL (eL eN)) v1429, Sl.sh (e_Table T) v1434, Sl.sh (eL (eL (eL eN))) v1455, Sl.nil, Sl.nil, Sl.sh (eL (eL eN)) v1508, Sl.nil, Sl.nil, Sl.sh (eL (eL eN)) v1528, Sl.nil, Sl.sh eD v1584, Sl.nil, Sl.nil, Sl.nil, Sl.nil, Sl.nil] rfl (sx (nsetF (xlcS 16 (own := [(Str.ofString "_law_spot", 17)]) rfl sc_law_over_right.nd (wrange1 17 T.z_range (axc (xv 4 rfl) axn)) (blkOk_by (N := N_law_over_right) (sc := defScope s_law_over_right) (by decide +kernel)) (by decide) (nil1 rfl) (fun _ => rfl) (fun _ _ _ _ _ => (pg_name (i := 17) sc_law_over_right.nd rfl (by first | exact Or.inl rfl | exact Or.inr rfl))) (fun _ _ _ _ _ y1613 => (xfr (xlc (own := [(Str.ofString "_law_k", 11)]) rfl sc_law_over_right.nd (wrange1 11 T.z_range (axc (xv 4 rfl) axn)) (blk_in (N := N_law_over_right) (sc := defScope s_law_over_right) rfl rfl (by decide +kernel)) (by decide) (nil1 rfl) (fun _ => rfl) (fun _ _ _ _ _ => (pg_name (i := 11) sc_law_over_right.nd rfl (by first | exact Or.inl rfl | exact Or.inr rfl))) (fun _ _ _ _ _ y1617 => (xtup2 (axc (xcallT c_intB T.z_int (by decide +kernel) (axc (xcmp w_eqI (xv 11 rfl) (xv 17 rfl)) axn)) (axc xint axn))))))) (sw_true rfl rfl rfl (by decide +kernel)))) fun _ v1609 => (re [Sl.pl, Sl.sh (e_Table T) x.1, Sl.sh (eL (eL (eL eN))) x.2.1, Sl.sh (eL (eL eN)) x.2.2.1, Sl.sh eI v1425, Sl.sh (eL (eL eN)) v1429, Sl.sh (e_Table T) v1434, Sl.sh (eL (eL (eL eN))) v1455, Sl.nil, Sl.nil, Sl.sh (eL (eL eN)) v1508, Sl.nil, Sl.nil, Sl.sh (eL (eL eN)) v1528, Sl.nil, Sl.sh eD v1584, Sl.sh (eL (eL eN)) v1609, Sl.nil, Sl.nil, Sl.nil, Sl.nil] rfl (sx (nsetF (xlcS 18 (own := [(Str.ofString "_law_unit", 19)]) rfl sc_law_over_right.nd (wlistL 19 (xv 16 rfl)) (blkOk_by (N := N_law_over_right) (sc := defScope s_law_over_right) (by decide +kernel)) (by decide) (nil1 rfl) (fun _ => rfl) (fun _ _ _ _ _ => (pg_name (i := 19) sc_law_over_right.nd rfl (by first | exact Or.inl rfl | exact Or.inr rfl))) (fun _ _ _ _ _ y1631 => (xcall (ok_told_by T) (hr.mono (by decide)) T.m_told_by T.F_told_by.kp (b_told_by T) (axc (xv 19 rfl) (axc (xv 5 rfl) axn)))) (sw_true rfl rfl rfl (by decide +kernel)))) fun _ v1630 => (re [Sl.pl, Sl.sh (e_Table T) x.1, Sl.sh (eL (eL (eL eN))) x.2.1, Sl.sh (eL (eL eN)) x.2.2.1, Sl.sh eI v1425, Sl.sh (eL (eL eN)) v1429, Sl.sh (e_Table T) v1434, Sl.sh (eL (eL (eL eN))) v1455, Sl.nil, Sl.nil, Sl.sh (eL (eL eN)) v1508, Sl.nil, Sl.nil, Sl.sh (eL (eL eN)) v1528, Sl.nil, Sl.sh eD v1584, Sl.sh (eL (eL eN)) v1609, Sl.nil, Sl.sh (eL (eO (eL eN))) v1630, Sl.nil, Sl.nil] rfl (sq_ (nforJ (fun r (_ : Unit) => r) (s0 := ()) PassesOwn.never rfl (wrange1 17 T.z_range (axc (xv 4 rfl) axn)) (pg_name (i := 17) sc_law_over_right.nd rfl (by first | exact Or.inl rfl | exact Or.inr rfl)) (Fit.eq (Fit.eq (Fit.eq (Fit.eq (Fit.eq (Fit.eq (Fit.eq (Fit.eq (Fit.eq (Fit.eq (Fit.eq (Fit.eq (Fit.eq (Fit.eq (Fit.eq (Fit.eq (Fit.eq (Fit.eq (Fit.eq (Fit.eq (Fit.eq Fit.nil))))))))))))))))))))) (fun s1640 y1641 => (re [Sl.pl, Sl.sh (e_Table T) x.1, Sl.sh (eL (eL (eL eN))) x.2.1, Sl.sh (eL (eL eN)) x.2.2.1, Sl.sh eI v1425, Sl.sh (eL (eL eN)) v1429, Sl.sh (e_Table T) v1434, Sl.sh (eL (eL (eL eN))) v1455, Sl.nil, Sl.nil, Sl.sh (eL (eL eN)) v1508, Sl.nil, Sl.nil, Sl.sh (eL (eL eN)) v1528, Sl.nil, Sl.sh eD v1584, Sl.sh (eL (eL eN)) v1609, Sl.sh eI y1641, Sl.sh (eL (eO (eL eN))) v1630, Sl.nil, Sl.nil] rfl (sq_ (nif0 (tw (wor (tisN (xix w_ixL (xv 18 rfl) (xv 17 rfl))) (wor1 (tcmp (w_neD (dL (dP dI dI)) (dL (dP dI dI)) (shx (shL (shP shI shI))) (shx (shL (shP shI shI))) hr.units) (xcall (ok_law_total T) (hr.mono (by decide)) T.m_law_total T.F_law_total.kp (b_law_total T) (axc (xunO (xix w_ixL (xv 18 rfl) (xv 17 rfl))) (axc (xv 3 rfl) (axc (xv 4 rfl) axn)))) (xix w_ixL (xv 16 rfl) (xv 17 rfl)))))) (re [Sl.pl, Sl.sh (e_Table T) x.1, Sl.sh (eL (eL (eL eN))) x.2.1, Sl.sh (eL (eL eN)) x.2.2.1, Sl.sh eI v1425, Sl.sh (eL (eL eN)) v1429, Sl.sh (e_Table T) v1434, Sl.sh (eL (eL (eL eN))) v1455, Sl.nil, Sl.nil, Sl.sh (eL (eL eN)) v1508, Sl.nil, Sl.nil, Sl.sh (eL (eL eN)) v1528, Sl.nil, Sl.sh eD v1584, Sl.sh (eL (eL eN)) v1609, Sl.sh eI y1641, Sl.sh (eL (eO (eL eN))) v1630, Sl.nil, Sl.nil] rfl (sret xbl))) fun _ => (re [Sl.pl, Sl.sh (e_Table T) x.1, Sl.sh (eL (eL (eL eN))) x.2.1, Sl.sh (eL (eL eN)) x.2.2.1, Sl.sh eI v1425, Sl.sh (eL (eL eN)) v1429, Sl.sh (e_Table T) v1434, Sl.sh (eL (eL (eL eN))) v1455, Sl.nil, Sl.nil, Sl.sh (eL (eL eN)) v1508, Sl.nil, Sl.nil, Sl.sh (eL (eL eN)) v1528, Sl.nil, Sl.sh eD v1584, Sl.sh (eL (eL eN)) v1609, Sl.sh eI y1641, Sl.sh (eL (eO (eL eN))) v1630, Sl.nil, Sl.nil] rfl (snil (s := ()) (Fit.eq (Fit.eq (Fit.eq (Fit.eq (Fit.eq (Fit.eq (Fit.eq (Fit.eq (Fit.eq (Fit.eq (Fit.eq (Fit.eq (Fit.eq (Fit.eq (Fit.eq (Fit.eq (Fit.eq (Fit.dr (Fit.eq (Fit.eq (Fit.eq Fit.nil))))))))))))))))))))))))))) fun s1660 => (re [Sl.pl, Sl.sh (e_Table T) x.1, Sl.sh (eL (eL (eL eN))) x.2.1, Sl.sh (eL (eL eN)) x.2.2.1, Sl.sh eI v1425, Sl.sh (eL (eL eN)) v1429, Sl.sh (e_Table T) v1434, Sl.sh (eL (eL (eL eN))) v1455, Sl.nil, Sl.nil, Sl.sh (eL (eL eN)) v1508, Sl.nil, Sl.nil, Sl.sh (eL (eL eN)) v1528, Sl.nil, Sl.sh eD v1584, Sl.sh (eL (eL eN)) v1609, Sl.nil, Sl.sh (eL (eO (eL eN))) v1630, Sl.nil, Sl.nil] rfl (sx (nset 20 sc_law_over_right.nd (xcall (ok_over T) (hr.mono (by decide)) T.m_over T.F_over.kp (b_over T) (axc (xv 6 rfl) (axc (xunOL (xv 18 rfl)) axn)))) fun _ v1661 => (re [Sl.pl, Sl.sh (e_Table T) x.1, Sl.sh (eL (eL (eL eN))) x.2.1, Sl.sh (eL (eL eN)) x.2.2.1, Sl.sh eI v1425, Sl.sh (eL (eL eN)) v1429, Sl.sh (e_Table T) v1434, Sl.sh (eL (eL (eL eN))) v1455, Sl.nil, Sl.nil, Sl.sh (eL (eL eN)) v1508, Sl.nil, Sl.nil, Sl.sh (eL (eL eN)) v1528, Sl.nil, Sl.sh eD v1584, Sl.sh (eL (eL eN)) v1609, Sl.nil, Sl.sh (eL (eO (eL eN))) v1630, Sl.nil, Sl.sh (e_Table T) v1661] rfl (sret (xand (xcmpO T.eq_Table (ok_Table_eq T) (hr.mono (by decide)) (b_Table_eq T) (xcall (ok_over T) (hr.mono (by decide)) T.m_over T.F_over.kp (b_over T) (axc (xv 1 rfl) (axc (xv 16 rfl) axn))) (xv 1 rfl)) (xand (xcmpO T.eq_Table (ok_Table_eq T) (hr.mono (by decide)) (b_Table_eq T) (xv 20 rfl) (xv 1 rfl)) (xone (xcall (ok_law_alike T 6) (hr.mono (by decide)) T.m_law_alike T.F_law_alike.kp (b_law_alike T) (axc (xD (tdL (tdL (tdL (tdP tdI tdI)))) (xprop T.cl_Table T.pr_Table_products (ok_Table_products T) (hr.mono (by decide)) (b_Table_products T) (xv 20 rfl))) (axc (xD (tdL (tdL (tdL (tdP tdI tdI)))) (xv 2 rfl)) axn))))))))))))))))))))))))))))))))))))))))))
theorem ok_law (T : Txt K mg) (hm : ∀ ns : List Int, ns.length ≤ 63 → w_law (ns, ()) (fun r _ => r = true) noX 0) : FnOk P w K mg base CX0 13 T.a_law T.d_law P_law (spLaw K) :=
  fn_law (PK := poolA) (k := 12) (wb := wb_law) (ρ' := fun z : Empty => nomatch z) T.F_law sc_law (show 1 ≤ 7 by decide) (fun cdv A outer s H E x hl hr => (re [Sl.sh (eR eI) x.1, Sl.nil, Sl.nil, Sl.nil, Sl.nil, Sl.nil, Sl.nil] rfl (spool 1 0 hl sc_law.nd rfl rfl rfl (ok_law_pool T.F_law_pool T.z_int T.z_enumerate) (hr.mono (by decide)) T.m_law_pool T.F_law_pool.kp (b_law_pool T) (fun _ _ => (re [Sl.sh (eR eI) x.1, Sl.pl, Sl.nil, Sl.nil, Sl.nil, Sl.nil, Sl.nil] rfl (sq_ (nforJ (fun r (_ : Unit) => r) (s0 := ()) PassesOwn.never rfl (wrange1 2 T.z_range (axc xint axn)) (pg_name (i := 2) sc_law.nd rfl (by first | exact Or.inl rfl | exact Or.inr rfl)) (Fit.eq (Fit.eq (Fit.eq (Fit.eq (Fit.eq (Fit.eq (Fit.eq Fit.nil))))))) (fun s1687 y1688 => (re [Sl.sh (eR eI) x.1, Sl.pl, Sl.sh eI y1688, Sl.nil, Sl.nil, Sl.nil, Sl.nil] rfl (sx (nset 3 sc_law.nd (xop0 w_add xint (xcall (ok_law_pick T.F_law_pick T.z_int) (hr.mono (by decide)) T.m_law_pick T.F_law_pick.kp (b_law_pick T) (axp 1 rfl (axc (xix w_ixL (xlst (alc xint (alc xint (aln (en := eI))))) (xv 2 rfl)) axn))))) fun _ v1689 => (re [Sl.sh (eR eI) x.1, Sl.pl, Sl.sh eI y1688, Sl.sh eI v1689, Sl.nil, Sl.nil, Sl.nil] rfl (sx (nset 4 sc_law.nd (xcmp w_eqI (xcall (ok_law_pick T.F_law_pick T.z_int) (hr.mono (by decide)) T.m_law_pick T.F_law_pick.kp (b_law_pick T) (axp 1 rfl (axc xint axn))) xint)) fun _ v1700 => (re [Sl.sh (eR eI) x.1, Sl.pl, Sl.sh eI y1688, Sl.sh eI v1689, Sl.sh eB v1700, Sl.nil, Sl.nil] rfl (sx (nset 5 sc_law.nd (xcall (ok_law_products T) (hr.mono (by decide)) T.m_law_products T.F_law_products.kp (b_law_products T) (axp 1 rfl (axc (xv 3 rfl) (axc (xv 4 rfl) axn))))) fun _ v1705 => (re [Sl.sh (eR eI) x.1, Sl.pl, Sl.sh eI y1688, Sl.sh eI v1689, Sl.sh eB v1700, Sl.sh (eL (eL (eL eN))) v1705, Sl.nil] rfl (sq_ (nifJ (fun r (s : (List (List (List (Int × Int))))) => (put r 5 (Sl.sh (eL (eL (eL eN))) s))) (tw (wor (tcmp w_gt (xv 3 rfl) xint) (wor1 (tval (xv 4 rfl))))) (re [Sl.sh (eR eI) x.1, Sl.pl, Sl.sh eI y1688, Sl.sh eI v1689, Sl.sh eB v1700, Sl.sh (eL (eL (eL eN))) v1705, Sl.nil] rfl (sx (nset 5 sc_law.nd (xcastF (f := fun z => (List.map (fun z => (List.map (fun z => (List.map (fun z => (z.1, (1 : Int))) z)) z)) z)) (frL (frL (frL (frP frI frI)))) (fun z => wholes_eq3 z) (xcall (ok_law_wholes T 6) (hr.mono (by decide)) T.m_law_wholes T.F_law_wholes.kp (b_law_wholes T) (axc (xD (tdL (tdL (tdL (tdP tdI tdI)))) (xv 5 rfl)) axn)))) fun _ v1714 => (re [Sl.sh (eR eI) x.1, Sl.pl, Sl.sh eI y1688, Sl.sh eI v1689, Sl.sh eB v1700, Sl.sh (eL (eL (eL eN))) v1714, Sl.nil] rfl (snil (s := (v1714)) (Fit.eq (Fit.eq (Fit.eq (Fit.eq (Fit.eq (Fit.eq (Fit.eq Fit.nil))))))))))) (re [Sl.sh (eR eI) x.1, Sl.pl, Sl.sh eI y1688, Sl.sh eI v1689, Sl.sh eB v1700, Sl.sh (eL (eL (eL eN))) v1705, Sl.nil] rfl (snil (s := (v1705)) (Fit.eq (Fit.eq (Fit.eq (Fit.eq (Fit.eq (Fit.eq (Fit.eq Fit.nil)))))))))) fun s1719 => (re [Sl.sh (eR eI) x.1, Sl.pl, Sl.sh eI y1688, Sl.sh eI v1689, Sl.sh eB v1700, Sl.sh (eL (eL (eL eN))) s1719, Sl.nil] rfl (sx (nset 6 sc_law.nd (xmake T.mk_Table (ok_Table_init T) (hr.mono (by decide)) T.m_Table (b_Table_init T) (axc (xcastF (f := fun z => z) (frL (frL (frL (frP frI frI)))) (fun z => copied_eq (n := 7) ((tmL (tmL (tmL (tmP tmI tmI)))) z)) (xcall (ok_law_copied T 7) (hr.mono (by decide)) T.m_law_copied T.F_law_copied.kp (b_law_copied T) (axc (xD (tdL (tdL (tdL (tdP tdI tdI)))) (xv 5 rfl)) axn))) axn))) fun _ v1720 => (re [Sl.sh (eR eI) x.1, Sl.pl, Sl.sh eI y1688, Sl.sh eI v1689, Sl.sh eB v1700, Sl.sh (eL (eL (eL eN))) s1719, Sl.sh (e_Table T) v1720] rfl (sq_ (nif0 (tnot (tval (xcall (ok_law_over_right T) (hr.mono (by decide)) T.m_law_over_right T.F_law_over_right.kp (b_law_over_right T) (axp 1 rfl (axc (xv 6 rfl) (axc (xv 5 rfl) (axc (xcall (ok_law_basis T) (hr.mono (by decide)) T.m_law_basis T.F_law_basis.kp (b_law_basis T) (axp 1 rfl (axc (xv 3 rfl) axn))) axn))))))) (re [Sl.sh (eR eI) x.1, Sl.pl, Sl.sh eI y1688, Sl.sh eI v1689, Sl.sh eB v1700, Sl.sh (eL (eL (eL eN))) s1719, Sl.sh (e_Table T) v1720] rfl (sret xbl))) fun _ => (re [Sl.sh (eR eI) x.1, Sl.pl, Sl.sh eI y1688, Sl.sh eI v1689, Sl.sh eB v1700, Sl.sh (eL (eL (eL eN))) s1719, Sl.sh (e_Table T) v1720] rfl (sq_ (nif0 (tnot (tval (xcall (ok_law_alike T 6) (hr.mono (by decide)) T.m_law_alike T.F_law_alike.kp (b_law_alike T) (axc (xD (tdL (tdL (tdL (tdP tdI tdI)))) (xprop T.cl_Table T.pr_Table_products (ok_Table_products T) (hr.mono (by decide)) (b_Table_products T) (xv 6 rfl))) (axc (xD (tdL (tdL (tdL (tdP tdI tdI)))) (xv 5 rfl)) axn))))) (re [Sl.sh (eR eI) x.1, Sl.pl, Sl.sh eI y1688, Sl.sh eI v1689, Sl.sh eB v1700, Sl.sh (eL (eL (eL eN))) s1719, Sl.sh (e_Table T) v1720] rfl (sret xbl))) fun _ => (re [Sl.sh (eR eI) x.1, Sl.pl, Sl.sh eI y1688, Sl.sh eI v1689, Sl.sh eB v1700, Sl.sh (eL (eL (eL eN))) s1719, Sl.sh (e_Table T) v1720] rfl (snil (s := ()) (Fit.eq (Fit.eq (Fit.dr (Fit.dr (Fit.dr (Fit.dr (Fit.dr Fit.nil))))))))))))))))))))))))) fun s1748 => (re [Sl.sh (eR eI) x.1, Sl.pl, Sl.nil, Sl.nil, Sl.nil, Sl.nil, Sl.nil] rfl (sret xbl)))))))) hm
end
theorem all_mk {l : PySem.W.OpenLaw} {w : World} {K : PySem.W.Frag} {h : Heap} {mg : Str → Option Value} {fa : Addr} (X : K.In h) (G : h.Ns mainGlobals mg) (hfa : mg (Str.ofString "law") = some (.ref fa))
    {C_Basis : Addr} (aC_Basis : PySem.W.nsIn K mainGlobals (Str.ofString "Basis") = some (some (.ref C_Basis)))
    (pg_Basis : PySem.W.plainGet K C_Basis Str.empty = true) (hd_Basis : PySem.W.hasDictIn K C_Basis = true) (po_Basis : PySem.W.plainOver K C_Basis = true) (sa_Basis : PySem.W.findIn K (.ref C_Basis) (Str.ofString "__setattr__") = some (some (.builtin "object.__setattr__"))) (ms_Basis : PySem.W.makesIn K C_Basis = true) (kc_Basis : PySem.W.keepIn K (.ref C_Basis) = true)
    (nf_Basis_lines : PySem.W.findIn K (.ref C_Basis) (Str.ofString "_lines") = some none)
    {C_Table : Addr} (aC_Table : PySem.W.nsIn K mainGlobals (Str.ofString "Table") = some (some (.ref C_Table)))
    (pg_Table : PySem.W.plainGet K C_Table Str.empty = true) (hd_Table : PySem.W.hasDictIn K C_Table = true) (po_Table : PySem.W.plainOver K C_Table = true) (sa_Table : PySem.W.findIn K (.ref C_Table) (Str.ofString "__setattr__") = some (some (.builtin "object.__setattr__"))) (ms_Table : PySem.W.makesIn K C_Table = true) (kc_Table : PySem.W.keepIn K (.ref C_Table) = true)
    (nf_Table_products : PySem.W.findIn K (.ref C_Table) (Str.ofString "_products") = some none)
    (nf_Table_below : PySem.W.findIn K (.ref C_Table) (Str.ofString "_below") = some none)
    (nf_Table_cells : PySem.W.findIn K (.ref C_Table) (Str.ofString "_cells") = some none)
    (iha_Table : PySem.W.findIn K (.ref C_Table) (Str.ofString "__class__") = some (some (.builtin "object.__class__"))) (ihn_Table : PySem.W.specialIn K (.builtin "object.__class__") (Str.ofString "__get__") = some (some (.builtin "getset_descriptor.__get__"))) (ihk_Table : PySem.W.takesIn K (.builtin "object.__class__") = some true) (ihm_Table : PySem.W.mroIn K C_Table (.type "object") = some true)
    {f0 : Addr} {od0 an0 : Option Addr} {sl0 : Array (Option Value)} {oc0 kV0 dc0 pm0 cd0 ct0 : Value}
    (a0 : PySem.W.nsIn K mainGlobals (Str.ofString "_law_pool") = some (some (.ref f0))) (l0 : K.lookup f0 = some ⟨oc0, od0, .func (PySem.W.fnOf (Str.ofString "_law_pool") (Str.ofString "_law_pool") (defArgs s_law_pool) (defBody s_law_pool) (defScope s_law_pool) .none kV0 dc0 pm0 an0 cd0 ct0), sl0⟩) (c0 : PySem.W.codeIn K cd0 (Str.ofString "_law_pool") = true) (k0 : PySem.W.keepIn K (.ref f0) = true)
    {f1 : Addr} {od1 an1 : Option Addr} {sl1 : Array (Option Value)} {oc1 kV1 dc1 pm1 cd1 ct1 : Value}
    (a1 : PySem.W.nsIn K mainGlobals (Str.ofString "_law_pick") = some (some (.ref f1))) (l1 : K.lookup f1 = some ⟨oc1, od1, .func (PySem.W.fnOf (Str.ofString "_law_pick") (Str.ofString "_law_pick") (defArgs s_law_pick) (defBody s_law_pick) (defScope s_law_pick) .none kV1 dc1 pm1 an1 cd1 ct1), sl1⟩) (c1 : PySem.W.codeIn K cd1 (Str.ofString "_law_pick") = true) (k1 : PySem.W.keepIn K (.ref f1) = true)
    {f2 : Addr} {od2 an2 : Option Addr} {sl2 : Array (Option Value)} {oc2 kV2 dc2 pm2 cd2 ct2 : Value}
    (a2 : PySem.W.nsIn K mainGlobals (Str.ofString "lowest") = some (some (.ref f2))) (l2 : K.lookup f2 = some ⟨oc2, od2, .func (PySem.W.fnOf (Str.ofString "lowest") (Str.ofString "lowest") (defArgs s_lowest) (defBody s_lowest) (defScope s_lowest) .none kV2 dc2 pm2 an2 cd2 ct2), sl2⟩) (c2 : PySem.W.codeIn K cd2 (Str.ofString "lowest") = true) (k2 : PySem.W.keepIn K (.ref f2) = true)
    {f3 : Addr} {od3 an3 : Option Addr} {sl3 : Array (Option Value)} {oc3 kV3 dc3 pm3 cd3 ct3 : Value}
    (a3 : PySem.W.nsIn K mainGlobals (Str.ofString "sum_two") = some (some (.ref f3))) (l3 : K.lookup f3 = some ⟨oc3, od3, .func (PySem.W.fnOf (Str.ofString "sum_two") (Str.ofString "sum_two") (defArgs s_sum_two) (defBody s_sum_two) (defScope s_sum_two) .none kV3 dc3 pm3 an3 cd3 ct3), sl3⟩) (c3 : PySem.W.codeIn K cd3 (Str.ofString "sum_two") = true) (k3 : PySem.W.keepIn K (.ref f3) = true)
    {f4 : Addr} {od4 an4 : Option Addr} {sl4 : Array (Option Value)} {oc4 kV4 dc4 pm4 cd4 ct4 : Value}
    (a4 : PySem.W.nsIn K mainGlobals (Str.ofString "product_two") = some (some (.ref f4))) (l4 : K.lookup f4 = some ⟨oc4, od4, .func (PySem.W.fnOf (Str.ofString "product_two") (Str.ofString "product_two") (defArgs s_product_two) (defBody s_product_two) (defScope s_product_two) .none kV4 dc4 pm4 an4 cd4 ct4), sl4⟩) (c4 : PySem.W.codeIn K cd4 (Str.ofString "product_two") = true) (k4 : PySem.W.keepIn K (.ref f4) = true)
    {f5 : Addr} {od5 an5 : Option Addr} {sl5 : Array (Option Value)} {oc5 kV5 dc5 pm5 cd5 ct5 : Value}
    (a5 : PySem.W.nsIn K mainGlobals (Str.ofString "is_number") = some (some (.ref f5))) (l5 : K.lookup f5 = some ⟨oc5, od5, .func (PySem.W.fnOf (Str.ofString "is_number") (Str.ofString "is_number") (defArgs s_is_number) (defBody s_is_number) (defScope s_is_number) .none kV5 dc5 pm5 an5 cd5 ct5), sl5⟩) (c5 : PySem.W.codeIn K cd5 (Str.ofString "is_number") = true) (k5 : PySem.W.keepIn K (.ref f5) = true)
    {f6 : Addr} {od6 an6 : Option Addr} {sl6 : Array (Option Value)} {oc6 kV6 dc6 pm6 cd6 ct6 : Value}
    (a6 : PySem.W.nsIn K mainGlobals (Str.ofString "checked") = some (some (.ref f6))) (l6 : K.lookup f6 = some ⟨oc6, od6, .func (PySem.W.fnOf (Str.ofString "checked") (Str.ofString "checked") (defArgs s_checked) (defBody s_checked) (defScope s_checked) .none kV6 dc6 pm6 an6 cd6 ct6), sl6⟩) (c6 : PySem.W.codeIn K cd6 (Str.ofString "checked") = true) (k6 : PySem.W.keepIn K (.ref f6) = true)
    {f7 : Addr} {od7 an7 : Option Addr} {sl7 : Array (Option Value)} {oc7 kV7 dc7 pm7 cd7 ct7 : Value}
    (a7 : PySem.W.nsIn K mainGlobals (Str.ofString "check_numbers") = some (some (.ref f7))) (l7 : K.lookup f7 = some ⟨oc7, od7, .func (PySem.W.fnOf (Str.ofString "check_numbers") (Str.ofString "check_numbers") (defArgs s_check_numbers) (defBody s_check_numbers) (defScope s_check_numbers) .none kV7 dc7 pm7 an7 cd7 ct7), sl7⟩) (c7 : PySem.W.codeIn K cd7 (Str.ofString "check_numbers") = true) (k7 : PySem.W.keepIn K (.ref f7) = true)
    {f8 : Addr} {od8 an8 : Option Addr} {sl8 : Array (Option Value)} {oc8 kV8 dc8 pm8 cd8 ct8 : Value}
    (a8 : PySem.W.nsIn K mainGlobals (Str.ofString "integers_of") = some (some (.ref f8))) (l8 : K.lookup f8 = some ⟨oc8, od8, .func (PySem.W.fnOf (Str.ofString "integers_of") (Str.ofString "integers_of") (defArgs s_integers_of) (defBody s_integers_of) (defScope s_integers_of) .none kV8 dc8 pm8 an8 cd8 ct8), sl8⟩) (c8 : PySem.W.codeIn K cd8 (Str.ofString "integers_of") = true) (k8 : PySem.W.keepIn K (.ref f8) = true)
    {f9 : Addr} {od9 an9 : Option Addr} {sl9 : Array (Option Value)} {oc9 kV9 dc9 pm9 cd9 ct9 : Value}
    (a9 : PySem.W.nsIn K mainGlobals (Str.ofString "numbers_of") = some (some (.ref f9))) (l9 : K.lookup f9 = some ⟨oc9, od9, .func (PySem.W.fnOf (Str.ofString "numbers_of") (Str.ofString "numbers_of") (defArgs s_numbers_of) (defBody s_numbers_of) (defScope s_numbers_of) .none kV9 dc9 pm9 an9 cd9 ct9), sl9⟩) (c9 : PySem.W.codeIn K cd9 (Str.ofString "numbers_of") = true) (k9 : PySem.W.keepIn K (.ref f9) = true)
    {f10 : Addr} {od10 an10 : Option Addr} {sl10 : Array (Option Value)} {oc10 kV10 dc10 pm10 cd10 ct10 : Value}
    (a10 : PySem.W.nsIn K mainGlobals (Str.ofString "fresh") = some (some (.ref f10))) (l10 : K.lookup f10 = some ⟨oc10, od10, .func (PySem.W.fnOf (Str.ofString "fresh") (Str.ofString "fresh") (defArgs s_fresh) (defBody s_fresh) (defScope s_fresh) .none kV10 dc10 pm10 an10 cd10 ct10), sl10⟩) (c10 : PySem.W.codeIn K cd10 (Str.ofString "fresh") = true) (k10 : PySem.W.keepIn K (.ref f10) = true)
    {f11 : Addr} {od11 an11 : Option Addr} {sl11 : Array (Option Value)} {oc11 kV11 dc11 pm11 cd11 ct11 : Value}
    (a11 : PySem.W.nsIn K mainGlobals (Str.ofString "plus_row") = some (some (.ref f11))) (l11 : K.lookup f11 = some ⟨oc11, od11, .func (PySem.W.fnOf (Str.ofString "plus_row") (Str.ofString "plus_row") (defArgs s_plus_row) (defBody s_plus_row) (defScope s_plus_row) .none kV11 dc11 pm11 an11 cd11 ct11), sl11⟩) (c11 : PySem.W.codeIn K cd11 (Str.ofString "plus_row") = true) (k11 : PySem.W.keepIn K (.ref f11) = true)
    {f12 : Addr} {od12 an12 : Option Addr} {sl12 : Array (Option Value)} {oc12 kV12 dc12 pm12 cd12 ct12 : Value}
    (a12 : PySem.W.nsIn K mainGlobals (Str.ofString "scaled_row") = some (some (.ref f12))) (l12 : K.lookup f12 = some ⟨oc12, od12, .func (PySem.W.fnOf (Str.ofString "scaled_row") (Str.ofString "scaled_row") (defArgs s_scaled_row) (defBody s_scaled_row) (defScope s_scaled_row) .none kV12 dc12 pm12 an12 cd12 ct12), sl12⟩) (c12 : PySem.W.codeIn K cd12 (Str.ofString "scaled_row") = true) (k12 : PySem.W.keepIn K (.ref f12) = true)
    {f13 : Addr} {od13 an13 : Option Addr} {sl13 : Array (Option Value)} {oc13 kV13 dc13 pm13 cd13 ct13 : Value}
    (a13 : PySem.W.nsIn K mainGlobals (Str.ofString "combination") = some (some (.ref f13))) (l13 : K.lookup f13 = some ⟨oc13, od13, .func (PySem.W.fnOf (Str.ofString "combination") (Str.ofString "combination") (defArgs s_combination) (defBody s_combination) (defScope s_combination) .none kV13 dc13 pm13 an13 cd13 ct13), sl13⟩) (c13 : PySem.W.codeIn K cd13 (Str.ofString "combination") = true) (k13 : PySem.W.keepIn K (.ref f13) = true)
    {f14 : Addr} {od14 an14 : Option Addr} {sl14 : Array (Option Value)} {oc14 kV14 dc14 pm14 cd14 ct14 : Value}
    (a14 : PySem.W.nsIn K mainGlobals (Str.ofString "divided") = some (some (.ref f14))) (l14 : K.lookup f14 = some ⟨oc14, od14, .func (PySem.W.fnOf (Str.ofString "divided") (Str.ofString "divided") (defArgs s_divided) (defBody s_divided) (defScope s_divided) .none kV14 dc14 pm14 an14 cd14 ct14), sl14⟩) (c14 : PySem.W.codeIn K cd14 (Str.ofString "divided") = true) (k14 : PySem.W.keepIn K (.ref f14) = true)
    {f15 : Addr} {od15 an15 : Option Addr} {sl15 : Array (Option Value)} {oc15 kV15 dc15 pm15 cd15 ct15 : Value}
    (a15 : PySem.W.nsIn K mainGlobals (Str.ofString "cleared") = some (some (.ref f15))) (l15 : K.lookup f15 = some ⟨oc15, od15, .func (PySem.W.fnOf (Str.ofString "cleared") (Str.ofString "cleared") (defArgs s_cleared) (defBody s_cleared) (defScope s_cleared) .none kV15 dc15 pm15 an15 cd15 ct15), sl15⟩) (c15 : PySem.W.codeIn K cd15 (Str.ofString "cleared") = true) (k15 : PySem.W.keepIn K (.ref f15) = true)
    {f16 : Addr} {od16 an16 : Option Addr} {sl16 : Array (Option Value)} {oc16 kV16 dc16 pm16 cd16 ct16 : Value}
    (a16 : PySem.W.findIn K (.ref C_Basis) (Str.ofString "__init__") = some (some (.ref f16))) (i16 : PySem.W.isFn K (.ref f16) = true)
    (l16 : K.lookup f16 = some ⟨oc16, od16, .func (PySem.W.fnOf (Str.ofString "__init__") (Str.ofString "Basis.__init__") (defArgs s_Basis_init) (defBody s_Basis_init) (defScope s_Basis_init) .none kV16 dc16 pm16 an16 cd16 ct16), sl16⟩) (c16 : PySem.W.codeIn K cd16 (Str.ofString "Basis.__init__") = true) (k16 : PySem.W.keepIn K (.ref f16) = true)
    {f17 : Addr} {od17 an17 : Option Addr} {sl17 : Array (Option Value)} {oc17 kV17 dc17 pm17 cd17 ct17 : Value}
    (a17 : PySem.W.findIn K (.ref C_Basis) (Str.ofString "_rest") = some (some (.ref f17))) (i17 : PySem.W.isFn K (.ref f17) = true)
    (l17 : K.lookup f17 = some ⟨oc17, od17, .func (PySem.W.fnOf (Str.ofString "_rest") (Str.ofString "Basis._rest") (defArgs s_Basis_rest) (defBody s_Basis_rest) (defScope s_Basis_rest) .none kV17 dc17 pm17 an17 cd17 ct17), sl17⟩) (c17 : PySem.W.codeIn K cd17 (Str.ofString "Basis._rest") = true) (k17 : PySem.W.keepIn K (.ref f17) = true)
    {f18 : Addr} {od18 an18 : Option Addr} {sl18 : Array (Option Value)} {oc18 kV18 dc18 pm18 cd18 ct18 : Value}
    (a18 : PySem.W.findIn K (.ref C_Basis) (Str.ofString "put") = some (some (.ref f18))) (i18 : PySem.W.isFn K (.ref f18) = true)
    (l18 : K.lookup f18 = some ⟨oc18, od18, .func (PySem.W.fnOf (Str.ofString "put") (Str.ofString "Basis.put") (defArgs s_Basis_put) (defBody s_Basis_put) (defScope s_Basis_put) .none kV18 dc18 pm18 an18 cd18 ct18), sl18⟩) (c18 : PySem.W.codeIn K cd18 (Str.ofString "Basis.put") = true) (k18 : PySem.W.keepIn K (.ref f18) = true)
    {f19 : Addr} {od19 an19 : Option Addr} {sl19 : Array (Option Value)} {oc19 kV19 dc19 pm19 cd19 ct19 : Value}
    (a19 : PySem.W.findIn K (.ref C_Basis) (Str.ofString "told") = some (some (.ref f19))) (i19 : PySem.W.isFn K (.ref f19) = true)
    (l19 : K.lookup f19 = some ⟨oc19, od19, .func (PySem.W.fnOf (Str.ofString "told") (Str.ofString "Basis.told") (defArgs s_Basis_told) (defBody s_Basis_told) (defScope s_Basis_told) .none kV19 dc19 pm19 an19 cd19 ct19), sl19⟩) (c19 : PySem.W.codeIn K cd19 (Str.ofString "Basis.told") = true) (k19 : PySem.W.keepIn K (.ref f19) = true)
    {f20 : Addr} {od20 an20 : Option Addr} {sl20 : Array (Option Value)} {oc20 kV20 dc20 pm20 cd20 ct20 : Value}
    (a20 : PySem.W.nsIn K mainGlobals (Str.ofString "check_rows") = some (some (.ref f20))) (l20 : K.lookup f20 = some ⟨oc20, od20, .func (PySem.W.fnOf (Str.ofString "check_rows") (Str.ofString "check_rows") (defArgs s_check_rows) (defBody s_check_rows) (defScope s_check_rows) .none kV20 dc20 pm20 an20 cd20 ct20), sl20⟩) (c20 : PySem.W.codeIn K cd20 (Str.ofString "check_rows") = true) (k20 : PySem.W.keepIn K (.ref f20) = true)
    {f21 : Addr} {od21 an21 : Option Addr} {sl21 : Array (Option Value)} {oc21 kV21 dc21 pm21 cd21 ct21 : Value}
    (a21 : PySem.W.nsIn K mainGlobals (Str.ofString "sum_of") = some (some (.ref f21))) (l21 : K.lookup f21 = some ⟨oc21, od21, .func (PySem.W.fnOf (Str.ofString "sum_of") (Str.ofString "sum_of") (defArgs s_sum_of) (defBody s_sum_of) (defScope s_sum_of) .none kV21 dc21 pm21 an21 cd21 ct21), sl21⟩) (c21 : PySem.W.codeIn K cd21 (Str.ofString "sum_of") = true) (k21 : PySem.W.keepIn K (.ref f21) = true)
    {f22 : Addr} {od22 an22 : Option Addr} {sl22 : Array (Option Value)} {oc22 kV22 dc22 pm22 cd22 ct22 : Value}
    (a22 : PySem.W.nsIn K mainGlobals (Str.ofString "times") = some (some (.ref f22))) (l22 : K.lookup f22 = some ⟨oc22, od22, .func (PySem.W.fnOf (Str.ofString "times") (Str.ofString "times") (defArgs s_times) (defBody s_times) (defScope s_times) .none kV22 dc22 pm22 an22 cd22 ct22), sl22⟩) (c22 : PySem.W.codeIn K cd22 (Str.ofString "times") = true) (k22 : PySem.W.keepIn K (.ref f22) = true)
    {f23 : Addr} {od23 an23 : Option Addr} {sl23 : Array (Option Value)} {oc23 kV23 dc23 pm23 cd23 ct23 : Value}
    (a23 : PySem.W.nsIn K mainGlobals (Str.ofString "combined") = some (some (.ref f23))) (l23 : K.lookup f23 = some ⟨oc23, od23, .func (PySem.W.fnOf (Str.ofString "combined") (Str.ofString "combined") (defArgs s_combined) (defBody s_combined) (defScope s_combined) .none kV23 dc23 pm23 an23 cd23 ct23), sl23⟩) (c23 : PySem.W.codeIn K cd23 (Str.ofString "combined") = true) (k23 : PySem.W.keepIn K (.ref f23) = true)
    {f24 : Addr} {od24 an24 : Option Addr} {sl24 : Array (Option Value)} {oc24 kV24 dc24 pm24 cd24 ct24 : Value}
    (a24 : PySem.W.nsIn K mainGlobals (Str.ofString "told_by") = some (some (.ref f24))) (l24 : K.lookup f24 = some ⟨oc24, od24, .func (PySem.W.fnOf (Str.ofString "told_by") (Str.ofString "told_by") (defArgs s_told_by) (defBody s_told_by) (defScope s_told_by) .none kV24 dc24 pm24 an24 cd24 ct24), sl24⟩) (c24 : PySem.W.codeIn K cd24 (Str.ofString "told_by") = true) (k24 : PySem.W.keepIn K (.ref f24) = true)
    {f25 : Addr} {od25 an25 : Option Addr} {sl25 : Array (Option Value)} {oc25 kV25 dc25 pm25 cd25 ct25 : Value}
    (a25 : PySem.W.findIn K (.ref C_Table) (Str.ofString "__init__") = some (some (.ref f25))) (i25 : PySem.W.isFn K (.ref f25) = true)
    (l25 : K.lookup f25 = some ⟨oc25, od25, .func (PySem.W.fnOf (Str.ofString "__init__") (Str.ofString "Table.__init__") (defArgs s_Table_init) (defBody s_Table_init) (defScope s_Table_init) .none kV25 dc25 pm25 an25 cd25 ct25), sl25⟩) (c25 : PySem.W.codeIn K cd25 (Str.ofString "Table.__init__") = true) (k25 : PySem.W.keepIn K (.ref f25) = true)
    {f26 : Addr} {od26 an26 : Option Addr} {sl26 : Array (Option Value)} {oc26 kV26 dc26 pm26 cd26 ct26 : Value}
    {p26 : Addr} {rs26 : List Value} (a26 : PySem.W.findIn K (.ref C_Table) (Str.ofString "size") = some (some (.ref p26))) (g26 : PySem.W.specialIn K (.ref p26) (Str.ofString "__get__") = some (some (.builtin "property.__get__"))) (t26 : PySem.W.takesIn K (.ref p26) = some true) (r26 : PySem.W.recIn K p26 "property" = some (.ref f26 :: rs26))
    (l26 : K.lookup f26 = some ⟨oc26, od26, .func (PySem.W.fnOf (Str.ofString "size") (Str.ofString "Table.size") (defArgs s_Table_size) (defBody s_Table_size) (defScope s_Table_size) .none kV26 dc26 pm26 an26 cd26 ct26), sl26⟩) (c26 : PySem.W.codeIn K cd26 (Str.ofString "Table.size") = true) (k26 : PySem.W.keepIn K (.ref f26) = true)
    {f27 : Addr} {od27 an27 : Option Addr} {sl27 : Array (Option Value)} {oc27 kV27 dc27 pm27 cd27 ct27 : Value}
    {p27 : Addr} {rs27 : List Value} (a27 : PySem.W.findIn K (.ref C_Table) (Str.ofString "products") = some (some (.ref p27))) (g27 : PySem.W.specialIn K (.ref p27) (Str.ofString "__get__") = some (some (.builtin "property.__get__"))) (t27 : PySem.W.takesIn K (.ref p27) = some true) (r27 : PySem.W.recIn K p27 "property" = some (.ref f27 :: rs27))
    (l27 : K.lookup f27 = some ⟨oc27, od27, .func (PySem.W.fnOf (Str.ofString "products") (Str.ofString "Table.products") (defArgs s_Table_products) (defBody s_Table_products) (defScope s_Table_products) .none kV27 dc27 pm27 an27 cd27 ct27), sl27⟩) (c27 : PySem.W.codeIn K cd27 (Str.ofString "Table.products") = true) (k27 : PySem.W.keepIn K (.ref f27) = true)
    {f28 : Addr} {od28 an28 : Option Addr} {sl28 : Array (Option Value)} {oc28 kV28 dc28 pm28 cd28 ct28 : Value}
    (a28 : PySem.W.findIn K (.ref C_Table) (Str.ofString "__eq__") = some (some (.ref f28))) (i28 : PySem.W.isFn K (.ref f28) = true)
    (l28 : K.lookup f28 = some ⟨oc28, od28, .func (PySem.W.fnOf (Str.ofString "__eq__") (Str.ofString "Table.__eq__") (defArgs s_Table_eq) (defBody s_Table_eq) (defScope s_Table_eq) .none kV28 dc28 pm28 an28 cd28 ct28), sl28⟩) (c28 : PySem.W.codeIn K cd28 (Str.ofString "Table.__eq__") = true) (k28 : PySem.W.keepIn K (.ref f28) = true)
    {f29 : Addr} {od29 an29 : Option Addr} {sl29 : Array (Option Value)} {oc29 kV29 dc29 pm29 cd29 ct29 : Value}
    (a29 : PySem.W.findIn K (.ref C_Table) (Str.ofString "product_without_checks") = some (some (.ref f29))) (i29 : PySem.W.isFn K (.ref f29) = true)
    (l29 : K.lookup f29 = some ⟨oc29, od29, .func (PySem.W.fnOf (Str.ofString "product_without_checks") (Str.ofString "Table.product_without_checks") (defArgs s_Table_product_without_checks) (defBody s_Table_product_without_checks) (defScope s_Table_product_without_checks) .none kV29 dc29 pm29 an29 cd29 ct29), sl29⟩) (c29 : PySem.W.codeIn K cd29 (Str.ofString "Table.product_without_checks") = true) (k29 : PySem.W.keepIn K (.ref f29) = true)
    {f30 : Addr} {od30 an30 : Option Addr} {sl30 : Array (Option Value)} {oc30 kV30 dc30 pm30 cd30 ct30 : Value}
    (a30 : PySem.W.findIn K (.ref C_Table) (Str.ofString "__call__") = some (some (.ref f30))) (i30 : PySem.W.isFn K (.ref f30) = true)
    (y30 : PySem.W.fnIn K f30 = true)
    (l30 : K.lookup f30 = some ⟨oc30, od30, .func (PySem.W.fnOf (Str.ofString "__call__") (Str.ofString "Table.__call__") (defArgs s_Table_call) (defBody s_Table_call) (defScope s_Table_call) .none kV30 dc30 pm30 an30 cd30 ct30), sl30⟩) (c30 : PySem.W.codeIn K cd30 (Str.ofString "Table.__call__") = true) (k30 : PySem.W.keepIn K (.ref f30) = true)
    {f31 : Addr} {od31 an31 : Option Addr} {sl31 : Array (Option Value)} {oc31 kV31 dc31 pm31 cd31 ct31 : Value}
    (a31 : PySem.W.nsIn K mainGlobals (Str.ofString "product_of") = some (some (.ref f31))) (l31 : K.lookup f31 = some ⟨oc31, od31, .func (PySem.W.fnOf (Str.ofString "product_of") (Str.ofString "product_of") (defArgs s_product_of) (defBody s_product_of) (defScope s_product_of) .none kV31 dc31 pm31 an31 cd31 ct31), sl31⟩) (c31 : PySem.W.codeIn K cd31 (Str.ofString "product_of") = true) (k31 : PySem.W.keepIn K (.ref f31) = true)
    {f32 : Addr} {od32 an32 : Option Addr} {sl32 : Array (Option Value)} {oc32 kV32 dc32 pm32 cd32 ct32 : Value}
    (a32 : PySem.W.nsIn K mainGlobals (Str.ofString "over") = some (some (.ref f32))) (l32 : K.lookup f32 = some ⟨oc32, od32, .func (PySem.W.fnOf (Str.ofString "over") (Str.ofString "over") (defArgs s_over) (defBody s_over) (defScope s_over) .none kV32 dc32 pm32 an32 cd32 ct32), sl32⟩) (c32 : PySem.W.codeIn K cd32 (Str.ofString "over") = true) (k32 : PySem.W.keepIn K (.ref f32) = true)
    {f33 : Addr} {od33 an33 : Option Addr} {sl33 : Array (Option Value)} {oc33 kV33 dc33 pm33 cd33 ct33 : Value}
    (a33 : PySem.W.nsIn K mainGlobals (Str.ofString "_law_low") = some (some (.ref f33))) (l33 : K.lookup f33 = some ⟨oc33, od33, .func (PySem.W.fnOf (Str.ofString "_law_low") (Str.ofString "_law_low") (defArgs s_law_low) (defBody s_law_low) (defScope s_law_low) .none kV33 dc33 pm33 an33 cd33 ct33), sl33⟩) (c33 : PySem.W.codeIn K cd33 (Str.ofString "_law_low") = true) (k33 : PySem.W.keepIn K (.ref f33) = true)
    {f34 : Addr} {od34 an34 : Option Addr} {sl34 : Array (Option Value)} {oc34 kV34 dc34 pm34 cd34 ct34 : Value}
    (a34 : PySem.W.nsIn K mainGlobals (Str.ofString "_law_add") = some (some (.ref f34))) (l34 : K.lookup f34 = some ⟨oc34, od34, .func (PySem.W.fnOf (Str.ofString "_law_add") (Str.ofString "_law_add") (defArgs s_law_add) (defBody s_law_add) (defScope s_law_add) .none kV34 dc34 pm34 an34 cd34 ct34), sl34⟩) (c34 : PySem.W.codeIn K cd34 (Str.ofString "_law_add") = true) (k34 : PySem.W.keepIn K (.ref f34) = true)
    {f35 : Addr} {od35 an35 : Option Addr} {sl35 : Array (Option Value)} {oc35 kV35 dc35 pm35 cd35 ct35 : Value}
    (a35 : PySem.W.nsIn K mainGlobals (Str.ofString "_law_mul") = some (some (.ref f35))) (l35 : K.lookup f35 = some ⟨oc35, od35, .func (PySem.W.fnOf (Str.ofString "_law_mul") (Str.ofString "_law_mul") (defArgs s_law_mul) (defBody s_law_mul) (defScope s_law_mul) .none kV35 dc35 pm35 an35 cd35 ct35), sl35⟩) (c35 : PySem.W.codeIn K cd35 (Str.ofString "_law_mul") = true) (k35 : PySem.W.keepIn K (.ref f35) = true)
    {f36 : Addr} {od36 an36 : Option Addr} {sl36 : Array (Option Value)} {oc36 kV36 dc36 pm36 cd36 ct36 : Value}
    (a36 : PySem.W.nsIn K mainGlobals (Str.ofString "_law_number") = some (some (.ref f36))) (l36 : K.lookup f36 = some ⟨oc36, od36, .func (PySem.W.fnOf (Str.ofString "_law_number") (Str.ofString "_law_number") (defArgs s_law_number) (defBody s_law_number) (defScope s_law_number) .none kV36 dc36 pm36 an36 cd36 ct36), sl36⟩) (c36 : PySem.W.codeIn K cd36 (Str.ofString "_law_number") = true) (k36 : PySem.W.keepIn K (.ref f36) = true)
    {f37 : Addr} {od37 an37 : Option Addr} {sl37 : Array (Option Value)} {oc37 kV37 dc37 pm37 cd37 ct37 : Value}
    (a37 : PySem.W.nsIn K mainGlobals (Str.ofString "_law_alike") = some (some (.ref f37))) (l37 : K.lookup f37 = some ⟨oc37, od37, .func (PySem.W.fnOf (Str.ofString "_law_alike") (Str.ofString "_law_alike") (defArgs s_law_alike) (defBody s_law_alike) (defScope s_law_alike) .none kV37 dc37 pm37 an37 cd37 ct37), sl37⟩) (c37 : PySem.W.codeIn K cd37 (Str.ofString "_law_alike") = true) (k37 : PySem.W.keepIn K (.ref f37) = true)
    {f38 : Addr} {od38 an38 : Option Addr} {sl38 : Array (Option Value)} {oc38 kV38 dc38 pm38 cd38 ct38 : Value}
    (a38 : PySem.W.nsIn K mainGlobals (Str.ofString "_law_products") = some (some (.ref f38))) (l38 : K.lookup f38 = some ⟨oc38, od38, .func (PySem.W.fnOf (Str.ofString "_law_products") (Str.ofString "_law_products") (defArgs s_law_products) (defBody s_law_products) (defScope s_law_products) .none kV38 dc38 pm38 an38 cd38 ct38), sl38⟩) (c38 : PySem.W.codeIn K cd38 (Str.ofString "_law_products") = true) (k38 : PySem.W.keepIn K (.ref f38) = true)
    {f39 : Addr} {od39 an39 : Option Addr} {sl39 : Array (Option Value)} {oc39 kV39 dc39 pm39 cd39 ct39 : Value}
    (a39 : PySem.W.nsIn K mainGlobals (Str.ofString "_law_times") = some (some (.ref f39))) (l39 : K.lookup f39 = some ⟨oc39, od39, .func (PySem.W.fnOf (Str.ofString "_law_times") (Str.ofString "_law_times") (defArgs s_law_times) (defBody s_law_times) (defScope s_law_times) .none kV39 dc39 pm39 an39 cd39 ct39), sl39⟩) (c39 : PySem.W.codeIn K cd39 (Str.ofString "_law_times") = true) (k39 : PySem.W.keepIn K (.ref f39) = true)
    {f40 : Addr} {od40 an40 : Option Addr} {sl40 : Array (Option Value)} {oc40 kV40 dc40 pm40 cd40 ct40 : Value}
    (a40 : PySem.W.nsIn K mainGlobals (Str.ofString "_law_copied") = some (some (.ref f40))) (l40 : K.lookup f40 = some ⟨oc40, od40, .func (PySem.W.fnOf (Str.ofString "_law_copied") (Str.ofString "_law_copied") (defArgs s_law_copied) (defBody s_law_copied) (defScope s_law_copied) .none kV40 dc40 pm40 an40 cd40 ct40), sl40⟩) (c40 : PySem.W.codeIn K cd40 (Str.ofString "_law_copied") = true) (k40 : PySem.W.keepIn K (.ref f40) = true)
    {f41 : Addr} {od41 an41 : Option Addr} {sl41 : Array (Option Value)} {oc41 kV41 dc41 pm41 cd41 ct41 : Value}
    (a41 : PySem.W.nsIn K mainGlobals (Str.ofString "_law_wholes") = some (some (.ref f41))) (l41 : K.lookup f41 = some ⟨oc41, od41, .func (PySem.W.fnOf (Str.ofString "_law_wholes") (Str.ofString "_law_wholes") (defArgs s_law_wholes) (defBody s_law_wholes) (defScope s_law_wholes) .none kV41 dc41 pm41 an41 cd41 ct41), sl41⟩) (c41 : PySem.W.codeIn K cd41 (Str.ofString "_law_wholes") = true) (k41 : PySem.W.keepIn K (.ref f41) = true)
    {f42 : Addr} {od42 an42 : Option Addr} {sl42 : Array (Option Value)} {oc42 kV42 dc42 pm42 cd42 ct42 : Value}
    (a42 : PySem.W.nsIn K mainGlobals (Str.ofString "_law_total") = some (some (.ref f42))) (l42 : K.lookup f42 = some ⟨oc42, od42, .func (PySem.W.fnOf (Str.ofString "_law_total") (Str.ofString "_law_total") (defArgs s_law_total) (defBody s_law_total) (defScope s_law_total) .none kV42 dc42 pm42 an42 cd42 ct42), sl42⟩) (c42 : PySem.W.codeIn K cd42 (Str.ofString "_law_total") = true) (k42 : PySem.W.keepIn K (.ref f42) = true)
    {f43 : Addr} {od43 an43 : Option Addr} {sl43 : Array (Option Value)} {oc43 kV43 dc43 pm43 cd43 ct43 : Value}
    (a43 : PySem.W.nsIn K mainGlobals (Str.ofString "_law_moved") = some (some (.ref f43))) (l43 : K.lookup f43 = some ⟨oc43, od43, .func (PySem.W.fnOf (Str.ofString "_law_moved") (Str.ofString "_law_moved") (defArgs s_law_moved) (defBody s_law_moved) (defScope s_law_moved) .none kV43 dc43 pm43 an43 cd43 ct43), sl43⟩) (c43 : PySem.W.codeIn K cd43 (Str.ofString "_law_moved") = true) (k43 : PySem.W.keepIn K (.ref f43) = true)
    {f44 : Addr} {od44 an44 : Option Addr} {sl44 : Array (Option Value)} {oc44 kV44 dc44 pm44 cd44 ct44 : Value}
    (a44 : PySem.W.nsIn K mainGlobals (Str.ofString "_law_moved") = some (some (.ref f44))) (l44 : K.lookup f44 = some ⟨oc44, od44, .func (PySem.W.fnOf (Str.ofString "_law_moved") (Str.ofString "_law_moved") (defArgs s_law_moved_v2) (defBody s_law_moved_v2) (defScope s_law_moved_v2) .none kV44 dc44 pm44 an44 cd44 ct44), sl44⟩) (c44 : PySem.W.codeIn K cd44 (Str.ofString "_law_moved") = true) (k44 : PySem.W.keepIn K (.ref f44) = true)
    {f45 : Addr} {od45 an45 : Option Addr} {sl45 : Array (Option Value)} {oc45 kV45 dc45 pm45 cd45 ct45 : Value}
    (a45 : PySem.W.nsIn K mainGlobals (Str.ofString "_law_basis") = some (some (.ref f45))) (l45 : K.lookup f45 = some ⟨oc45, od45, .func (PySem.W.fnOf (Str.ofString "_law_basis") (Str.ofString "_law_basis") (defArgs s_law_basis) (defBody s_law_basis) (defScope s_law_basis) .none kV45 dc45 pm45 an45 cd45 ct45), sl45⟩) (c45 : PySem.W.codeIn K cd45 (Str.ofString "_law_basis") = true) (k45 : PySem.W.keepIn K (.ref f45) = true)
    {f46 : Addr} {od46 an46 : Option Addr} {sl46 : Array (Option Value)} {oc46 kV46 dc46 pm46 cd46 ct46 : Value}
    (a46 : PySem.W.nsIn K mainGlobals (Str.ofString "_law_term") = some (some (.ref f46))) (l46 : K.lookup f46 = some ⟨oc46, od46, .func (PySem.W.fnOf (Str.ofString "_law_term") (Str.ofString "_law_term") (defArgs s_law_term) (defBody s_law_term) (defScope s_law_term) .none kV46 dc46 pm46 an46 cd46 ct46), sl46⟩) (c46 : PySem.W.codeIn K cd46 (Str.ofString "_law_term") = true) (k46 : PySem.W.keepIn K (.ref f46) = true)
    {f47 : Addr} {od47 an47 : Option Addr} {sl47 : Array (Option Value)} {oc47 kV47 dc47 pm47 cd47 ct47 : Value}
    (a47 : PySem.W.nsIn K mainGlobals (Str.ofString "_law_worth") = some (some (.ref f47))) (l47 : K.lookup f47 = some ⟨oc47, od47, .func (PySem.W.fnOf (Str.ofString "_law_worth") (Str.ofString "_law_worth") (defArgs s_law_worth) (defBody s_law_worth) (defScope s_law_worth) .none kV47 dc47 pm47 an47 cd47 ct47), sl47⟩) (c47 : PySem.W.codeIn K cd47 (Str.ofString "_law_worth") = true) (k47 : PySem.W.keepIn K (.ref f47) = true)
    {f48 : Addr} {od48 an48 : Option Addr} {sl48 : Array (Option Value)} {oc48 kV48 dc48 pm48 cd48 ct48 : Value}
    (a48 : PySem.W.nsIn K mainGlobals (Str.ofString "_law_over_right") = some (some (.ref f48))) (l48 : K.lookup f48 = some ⟨oc48, od48, .func (PySem.W.fnOf (Str.ofString "_law_over_right") (Str.ofString "_law_over_right") (defArgs s_law_over_right) (defBody s_law_over_right) (defScope s_law_over_right) .none kV48 dc48 pm48 an48 cd48 ct48), sl48⟩) (c48 : PySem.W.codeIn K cd48 (Str.ofString "_law_over_right") = true) (k48 : PySem.W.keepIn K (.ref f48) = true)
    {f49 : Addr} {od49 an49 : Option Addr} {sl49 : Array (Option Value)} {oc49 kV49 dc49 pm49 cd49 ct49 : Value}
    (a49 : PySem.W.nsIn K mainGlobals (Str.ofString "law") = some (some (.ref f49))) (l49 : K.lookup f49 = some ⟨oc49, od49, .func (PySem.W.fnOf (Str.ofString "law") (Str.ofString "law") (defArgs s_law) (defBody s_law) (defScope s_law) .none kV49 dc49 pm49 an49 cd49 ct49), sl49⟩) (c49 : PySem.W.codeIn K cd49 (Str.ofString "law") = true) (k49 : PySem.W.keepIn K (.ref f49) = true)
    (z_abs : PySem.W.nsIn K mainGlobals (Str.ofString "abs") = some none)
    (z_all : PySem.W.nsIn K mainGlobals (Str.ofString "all") = some none)
    (z_any : PySem.W.nsIn K mainGlobals (Str.ofString "any") = some none)
    (z_bool : PySem.W.nsIn K mainGlobals (Str.ofString "bool") = some none)
    (z_enumerate : PySem.W.nsIn K mainGlobals (Str.ofString "enumerate") = some none)
    (z_int : PySem.W.nsIn K mainGlobals (Str.ofString "int") = some none)
    (z_isinstance : PySem.W.nsIn K mainGlobals (Str.ofString "isinstance") = some none)
    (z_len : PySem.W.nsIn K mainGlobals (Str.ofString "len") = some none)
    (z_list : PySem.W.nsIn K mainGlobals (Str.ofString "list") = some none)
    (z_range : PySem.W.nsIn K mainGlobals (Str.ofString "range") = some none)
    (z_tuple : PySem.W.nsIn K mainGlobals (Str.ofString "tuple") = some none)
    (z_zip : PySem.W.nsIn K mainGlobals (Str.ofString "zip") = some none)
    (g_gcd : PySem.W.nsIn K mainGlobals (Str.ofString "gcd") = some (some (.builtin "math.gcd")))
    (g_lcm : PySem.W.nsIn K mainGlobals (Str.ofString "lcm") = some (some (.builtin "math.lcm")))
    {c_NOUGHT : Addr} {cd_NOUGHT : Option Addr} {cs_NOUGHT : Array (Option Value)} {n_NOUGHT : Nat} {t_NOUGHT u_NOUGHT : Tok} (m_NOUGHT : PySem.W.nsIn K mainGlobals (Str.ofString "NOUGHT") = some (some (.ref c_NOUGHT))) (q_NOUGHT : K.lookup c_NOUGHT = some ⟨.type "tuple", cd_NOUGHT, .seq #[.int 0 t_NOUGHT, .int 1 u_NOUGHT] n_NOUGHT, cs_NOUGHT⟩)
    (hm : ∀ ns : List Int, ns.length ≤ 63 → w_law (ns, ()) (fun r _ => r = true) noX 0) :
    ∃ fd : FuncData, (∀ (s : Shared) (v : Value), BindsTo s fd ⟨[v], []⟩ [(Str.ofString "_law_script", v)]) ∧ ∀ base : Heap, K.In base → base.Ns mainGlobals mg → FnOk l.prog w K mg base CX0 13 fa fd P_law (spLaw K) := by
  have e := hfa.symm.trans (PySem.W.mg_of X G a49)
  cases e
  let T : Txt K mg := {
    c_Basis := C_Basis, m_Basis := PySem.W.mg_of X G aC_Basis, cl_Basis := ⟨pg_Basis, hd_Basis, po_Basis, sa_Basis⟩,
    na_Basis_lines := nf_Basis_lines,
    c_Table := C_Table, m_Table := PySem.W.mg_of X G aC_Table, cl_Table := ⟨pg_Table, hd_Table, po_Table, sa_Table⟩,
    na_Table_products := nf_Table_products,
    na_Table_below := nf_Table_below,
    na_Table_cells := nf_Table_cells,
    ic_Table := ⟨⟨pg_Table, hd_Table, po_Table, sa_Table⟩, iha_Table, ihn_Table, ihk_Table, ihm_Table, kit_self _⟩,
    a_law_pool := f0, d_law_pool := _, F_law_pool := fun_mk (st := s_law_pool) l0 c0 k0, m_law_pool := PySem.W.mg_of X G a0,
    a_law_pick := f1, d_law_pick := _, F_law_pick := fun_mk (st := s_law_pick) l1 c1 k1, m_law_pick := PySem.W.mg_of X G a1,
    a_lowest := f2, d_lowest := _, F_lowest := fun_mk (st := s_lowest) l2 c2 k2, m_lowest := PySem.W.mg_of X G a2,
    a_sum_two := f3, d_sum_two := _, F_sum_two := fun_mk (st := s_sum_two) l3 c3 k3, m_sum_two := PySem.W.mg_of X G a3,
    a_product_two := f4, d_product_two := _, F_product_two := fun_mk (st := s_product_two) l4 c4 k4, m_product_two := PySem.W.mg_of X G a4,
    a_is_number := f5, d_is_number := _, F_is_number := fun_mk (st := s_is_number) l5 c5 k5, m_is_number := PySem.W.mg_of X G a5,
    a_checked := f6, d_checked := _, F_checked := fun_mk (st := s_checked) l6 c6 k6, m_checked := PySem.W.mg_of X G a6,
    a_check_numbers := f7, d_check_numbers := _, F_check_numbers := fun_mk (st := s_check_numbers) l7 c7 k7, m_check_numbers := PySem.W.mg_of X G a7,
    a_integers_of := f8, d_integers_of := _, F_integers_of := fun_mk (st := s_integers_of) l8 c8 k8, m_integers_of := PySem.W.mg_of X G a8,
    a_numbers_of := f9, d_numbers_of := _, F_numbers_of := fun_mk (st := s_numbers_of) l9 c9 k9, m_numbers_of := PySem.W.mg_of X G a9,
    a_fresh := f10, d_fresh := _, F_fresh := fun_mk (st := s_fresh) l10 c10 k10, m_fresh := PySem.W.mg_of X G a10,
    a_plus_row := f11, d_plus_row := _, F_plus_row := fun_mk (st := s_plus_row) l11 c11 k11, m_plus_row := PySem.W.mg_of X G a11,
    a_scaled_row := f12, d_scaled_row := _, F_scaled_row := fun_mk (st := s_scaled_row) l12 c12 k12, m_scaled_row := PySem.W.mg_of X G a12,
    a_combination := f13, d_combination := _, F_combination := fun_mk (st := s_combination) l13 c13 k13, m_combination := PySem.W.mg_of X G a13,
    a_divided := f14, d_divided := _, F_divided := fun_mk (st := s_divided) l14 c14 k14, m_divided := PySem.W.mg_of X G a14,
    a_cleared := f15, d_cleared := _, F_cleared := fun_mk (st := s_cleared) l15 c15 k15, m_cleared := PySem.W.mg_of X G a15,
    a_Basis_init := f16, d_Basis_init := _, F_Basis_init := fun_mk (st := s_Basis_init) l16 c16 k16,
    mk_Basis := ⟨ms_Basis, a16, i16, kc_Basis⟩,
    a_Basis_rest := f17, d_Basis_rest := _, F_Basis_rest := fun_mk (st := s_Basis_rest) l17 c17 k17,
    me_Basis_rest := ⟨a17, i17, k17⟩,
    a_Basis_put := f18, d_Basis_put := _, F_Basis_put := fun_mk (st := s_Basis_put) l18 c18 k18,
    me_Basis_put := ⟨a18, i18, k18⟩,
    a_Basis_told := f19, d_Basis_told := _, F_Basis_told := fun_mk (st := s_Basis_told) l19 c19 k19,
    me_Basis_told := ⟨a19, i19, k19⟩,
    a_check_rows := f20, d_check_rows := _, F_check_rows := fun_mk (st := s_check_rows) l20 c20 k20, m_check_rows := PySem.W.mg_of X G a20,
    a_sum_of := f21, d_sum_of := _, F_sum_of := fun_mk (st := s_sum_of) l21 c21 k21, m_sum_of := PySem.W.mg_of X G a21,
    a_times := f22, d_times := _, F_times := fun_mk (st := s_times) l22 c22 k22, m_times := PySem.W.mg_of X G a22,
    a_combined := f23, d_combined := _, F_combined := fun_mk (st := s_combined) l23 c23 k23, m_combined := PySem.W.mg_of X G a23,
    a_told_by := f24, d_told_by := _, F_told_by := fun_mk (st := s_told_by) l24 c24 k24, m_told_by := PySem.W.mg_of X G a24,
    a_Table_init := f25, d_Table_init := _, F_Table_init := fun_mk (st := s_Table_init) l25 c25 k25,
    mk_Table := ⟨ms_Table, a25, i25, kc_Table⟩,
    a_Table_size := f26, d_Table_size := _, F_Table_size := fun_mk (st := s_Table_size) l26 c26 k26,
    p_Table_size := p26, pr_Table_size := ⟨a26, g26, t26, ⟨rs26, r26⟩⟩,
    a_Table_products := f27, d_Table_products := _, F_Table_products := fun_mk (st := s_Table_products) l27 c27 k27,
    p_Table_products := p27, pr_Table_products := ⟨a27, g27, t27, ⟨rs27, r27⟩⟩,
    a_Table_eq := f28, d_Table_eq := _, F_Table_eq := fun_mk (st := s_Table_eq) l28 c28 k28,
    eq_Table := ⟨a28, i28⟩,
    a_Table_product_without_checks := f29, d_Table_product_without_checks := _, F_Table_product_without_checks := fun_mk (st := s_Table_product_without_checks) l29 c29 k29,
    me_Table_product_without_checks := ⟨a29, i29, k29⟩,
    a_Table_call := f30, d_Table_call := _, F_Table_call := fun_mk (st := s_Table_call) l30 c30 k30,
    co_Table := ⟨a30, i30, y30⟩,
    a_product_of := f31, d_product_of := _, F_product_of := fun_mk (st := s_product_of) l31 c31 k31, m_product_of := PySem.W.mg_of X G a31,
    a_over := f32, d_over := _, F_over := fun_mk (st := s_over) l32 c32 k32, m_over := PySem.W.mg_of X G a32,
    a_law_low := f33, d_law_low := _, F_law_low := fun_mk (st := s_law_low) l33 c33 k33, m_law_low := PySem.W.mg_of X G a33,
    a_law_add := f34, d_law_add := _, F_law_add := fun_mk (st := s_law_add) l34 c34 k34, m_law_add := PySem.W.mg_of X G a34,
    a_law_mul := f35, d_law_mul := _, F_law_mul := fun_mk (st := s_law_mul) l35 c35 k35, m_law_mul := PySem.W.mg_of X G a35,
    a_law_number := f36, d_law_number := _, F_law_number := fun_mk (st := s_law_number) l36 c36 k36, m_law_number := PySem.W.mg_of X G a36,
    a_law_alike := f37, d_law_alike := _, F_law_alike := fun_mk (st := s_law_alike) l37 c37 k37, m_law_alike := PySem.W.mg_of X G a37,
    a_law_products := f38, d_law_products := _, F_law_products := fun_mk (st := s_law_products) l38 c38 k38, m_law_products := PySem.W.mg_of X G a38,
    a_law_times := f39, d_law_times := _, F_law_times := fun_mk (st := s_law_times) l39 c39 k39, m_law_times := PySem.W.mg_of X G a39,
    a_law_copied := f40, d_law_copied := _, F_law_copied := fun_mk (st := s_law_copied) l40 c40 k40, m_law_copied := PySem.W.mg_of X G a40,
    a_law_wholes := f41, d_law_wholes := _, F_law_wholes := fun_mk (st := s_law_wholes) l41 c41 k41, m_law_wholes := PySem.W.mg_of X G a41,
    a_law_total := f42, d_law_total := _, F_law_total := fun_mk (st := s_law_total) l42 c42 k42, m_law_total := PySem.W.mg_of X G a42,
    a_law_moved := f43, d_law_moved := _, F_law_moved := fun_mk (st := s_law_moved) l43 c43 k43, m_law_moved := PySem.W.mg_of X G a43,
    a_law_moved_v2 := f44, d_law_moved_v2 := _, F_law_moved_v2 := fun_mk (st := s_law_moved_v2) l44 c44 k44, m_law_moved_v2 := PySem.W.mg_of X G a44,
    a_law_basis := f45, d_law_basis := _, F_law_basis := fun_mk (st := s_law_basis) l45 c45 k45, m_law_basis := PySem.W.mg_of X G a45,
    a_law_term := f46, d_law_term := _, F_law_term := fun_mk (st := s_law_term) l46 c46 k46, m_law_term := PySem.W.mg_of X G a46,
    a_law_worth := f47, d_law_worth := _, F_law_worth := fun_mk (st := s_law_worth) l47 c47 k47, m_law_worth := PySem.W.mg_of X G a47,
    a_law_over_right := f48, d_law_over_right := _, F_law_over_right := fun_mk (st := s_law_over_right) l48 c48 k48, m_law_over_right := PySem.W.mg_of X G a48,
    a_law := fa, d_law := _, F_law := fun_mk (st := s_law) l49 c49 k49, m_law := PySem.W.mg_of X G a49,
    z_abs := PySem.W.mg_none_of X G z_abs,
    z_all := PySem.W.mg_none_of X G z_all,
    z_any := PySem.W.mg_none_of X G z_any,
    z_bool := PySem.W.mg_none_of X G z_bool,
    z_enumerate := PySem.W.mg_none_of X G z_enumerate,
    z_int := PySem.W.mg_none_of X G z_int,
    z_isinstance := PySem.W.mg_none_of X G z_isinstance,
    z_len := PySem.W.mg_none_of X G z_len,
    z_list := PySem.W.mg_none_of X G z_list,
    z_range := PySem.W.mg_none_of X G z_range,
    z_tuple := PySem.W.mg_none_of X G z_tuple,
    z_zip := PySem.W.mg_none_of X G z_zip,
    m_gcd := PySem.W.mg_of X G g_gcd,
    m_lcm := PySem.W.mg_of X G g_lcm,
    c_NOUGHT := c_NOUGHT, m_NOUGHT := PySem.W.mg_of X G m_NOUGHT, k_NOUGHT := ⟨_, _, _, q_NOUGHT, rfl, rfl, by show 2 ≤ sizeLine; decide, .cons ⟨_, rfl⟩ (.cons ⟨_, rfl⟩ .nil)⟩
  }
  exact ⟨_, fun s v => .of_eq rfl, fun base _ _ => ok_law T hm⟩

end Dc
namespace Dc
open PySem PySem.Spec L2
theorem gcd_pos_of {a b : Int} (h : b ≠ 0) : 0 < Nat.gcd a.natAbs b.natAbs := Nat.gcd_pos_of_pos_right _ (by omega)
theorem gcd_le_of {a b : Int} (h : b ≠ 0) : Nat.gcd a.natAbs b.natAbs ≤ b.natAbs := Nat.gcd_le_right _ (by omega)
theorem fdiv_negr (a : Int) (g : Nat) : Int.fdiv a (-(g : Int)) = -a / (g : Int) := by
  have := Int.neg_fdiv_neg (-a) (g : Int)
  rw [Int.neg_neg] at this
  rw [this, Int.fdiv_eq_ediv_of_nonneg _ (by omega)]
theorem fdiv_posr (a : Int) (g : Nat) : Int.fdiv a (g : Int) = a / (g : Int) := Int.fdiv_eq_ediv_of_nonneg _ (by omega)
theorem lowest_eq {a b : Int} (h : b ≠ 0) (hb : b.natAbs < 2 ^ 9000) : w_lowest (a, b, ()) = ret (ofQ (Rat.divInt a b)) := by
  have g0 := gcd_pos_of (a := a) h
  have g1 := gcd_le_of (a := a) h
  unfold w_lowest wb_lowest
  simp only [bnd_ret, bnd_assoc, bnd_grd, bnd_ite, grd_true, fnR_bnd, fnR_ite, fnR_grd, fnR_ret, sq_nx]
  generalize hg : Nat.gcd a.natAbs b.natAbs = g at *
  by_cases q : b < 0
  · rw [ite_ok (decide_eq_true q), grd_ok (fdivOk_of (by omega) (by omega)), grd_ok (fdivOk_of (by omega) (by omega)), fdiv_negr, fdiv_negr, ← low_neg q, hg]
  · rw [ite_no (decide_eq_false q), grd_ok (fdivOk_of (by omega) (by omega)), grd_ok (fdivOk_of (by omega) (by omega)), fdiv_posr, fdiv_posr, ← low_pos (by omega), hg]
theorem gcd_loop {β δ : Type} (t : Int × Int → W Bool) (f : Int × Int → W (Fl (Int × Int) (Int × Int) β)) (ht : ∀ s, t s = ret (!decide (s.2 = 0))) (hf : ∀ s : Int × Int, 0 < s.2 → f s = ret (.nx (s.2, s.1 % s.2))) :
    ∀ (n : Nat) (x y : Int), 0 ≤ x → 0 ≤ y → y.toNat < n → whW (δ := δ) t f n (x, y) = ret (.nx ((Nat.gcd x.natAbs y.natAbs : Nat), 0))
  | 0, _, _, _, _, h => by omega
  | n + 1, x, y, hx, hy, h => by
    show bnd (t (x, y)) _ = _
    rw [ht, bnd_ret]
    by_cases q : y = 0
    · subst q
      rw [ite_no (by simp)]
      simp [Int.natAbs_of_nonneg hx]
    · rw [ite_ok (by simp [q]), hf _ (by show 0 < y; omega), bnd_ret]
      have m0 := Int.emod_nonneg x q
      have m1 := Int.emod_lt_of_pos x (show 0 < y by omega)
      have := gcd_loop (δ := δ) t f ht hf n y (x % y) hy m0 (by omega)
      refine this.trans ?_
      have e : (x % y).natAbs = x.natAbs % y.natAbs := by
        rw [Int.natAbs_emod_of_nonneg hx]
      rw [e, Nat.gcd_comm y.natAbs, ← Nat.gcd_rec, Nat.gcd_comm y.natAbs]
theorem iabs (a : Int) : (if a < 0 then -a else a) = (a.natAbs : Int) := by split <;> omega
theorem law_low_eq {a b : Int} (h : b ≠ 0) (hb : b.natAbs < 2 ^ 9000) : w_law_low (a, b, ()) = ret (ofQ (Rat.divInt a b)) := by
  have g0 := gcd_pos_of (a := a) h
  have g1 := gcd_le_of (a := a) h
  unfold w_law_low wb_law_low
  simp only [bnd_ret, bnd_assoc, bnd_grd, bnd_ite, grd_true, fnR_bnd, fnR_ite, fnR_grd, fnR_ret, sq_nx, iabs]
  rw [gcd_loop _ _ (fun s => rfl) (fun s hs => by rw [grd_ok (by simp [modOk]; exact hs)]) _ _ _ (by omega) (by omega) (by omega), bnd_ret, sq_nx]
  simp only [fnR_ite, fnR_grd, fnR_ret, Int.natAbs_natCast]
  generalize hg : Nat.gcd a.natAbs b.natAbs = g at *
  by_cases q : 0 < b
  · rw [ite_ok (decide_eq_true q), grd_ok (fdivOk_of (by omega) (by omega)), grd_ok (fdivOk_of (by omega) (by omega)), fdiv_posr, fdiv_posr, ← low_pos (by omega), hg]
  · rw [ite_no (decide_eq_false q), grd_ok (fdivOk_of (by omega) (by omega)), grd_ok (fdivOk_of (by omega) (by omega)), fdiv_posr, fdiv_posr, ← low_neg (by omega), hg]
end Dc
namespace Dc
open PySem PySem.Spec L2
theorem small {x : Nat} (h : x < 2 ^ 64) : x < 2 ^ 9000 := Nat.lt_of_lt_of_le h (Nat.pow_le_pow_right (by decide) (by decide))
theorem lsmall {x : Nat} (h : x < 2 ^ 64) : x.log2 < 9000 := log2_lt (small h) (by decide)
theorem ixN_of {n : Nat} {k : Int} (h : 0 ≤ k) (h2 : k < n) : ixN n k = some k.toNat := by
  unfold ixN
  simp only [h, h2]
  simp
theorem ix_in {α : Type} [Inhabited α] {l : List α} {k : Int} (h : 0 ≤ k) (h2 : k < l.length) : ixOk l k = true ∧ ixAt l k ∈ l := by
  have e := ixN_of h h2
  refine ⟨by simp [ixOk, e], ?_⟩
  have hk : k.toNat < l.length := by omega
  unfold ixAt
  rw [e, Option.getD_some, List.getD_eq_getElem?_getD, List.getElem?_eq_getElem hk, Option.getD_some]
  exact List.getElem_mem hk
/-- numbers of the law's pool -/
structure Num (g : Bool) (x : Fr) : Prop where
  red : Red x
  up : x.1.natAbs ≤ 9999
  dn : x.2.natAbs ≤ 9999
  sm : g = false → x.2.natAbs ≤ 9
theorem Num.of {g : Bool} {a b m : Int} (h1 : 1 ≤ b) (h2 : b ≤ m) (ha : a.natAbs ≤ m.natAbs) (hm : m ≤ 9999) (hg : g = false → m ≤ 9) : Num g (ofQ (Rat.divInt a b)) := by
  have h := low_le (a := a) (b := b) (by omega)
  exact ⟨red_ofQ _, by omega, by omega, fun z => by have := hg z; omega⟩
theorem law_number_tr (g : Bool) : Tr 5 (w_law_number (g, ())) (Num g) := by
  unfold w_law_number wb_law_number
  simp only [bnd_ret, bnd_assoc, bnd_grd, bnd_ifr, grd_true, fnR_bnd, fnR_ite, fnR_grd, fnR_ret, sq_nx, sq_rt]
  refine Tr.bnd (a := 1) (b := 4) Tr.pick fun k hk => ?_
  refine Tr.ite (fun q => Tr.ret ?_) fun q => ?_
  · have q := of_decide_eq_true q
    exact ⟨red_int k, by show k.natAbs ≤ 9999; omega, by show (1 : Int).natAbs ≤ 9999; decide, fun _ => by show (1 : Int).natAbs ≤ 9; decide⟩
  have q := of_decide_eq_false q
  refine Tr.bnd (a := 0) (b := 4) (S := fun m : Int => 1 ≤ m ∧ m ≤ 9999 ∧ (g = false → m ≤ 9)) (Tr.ite (fun hg => ?_) fun hg => Tr.ret ⟨by decide, by decide, fun _ => by decide⟩) fun m hm => ?_
  · have i1 := ix_in (l := ([9, 9, 9, 99, 9999] : List Int)) (k := k - 2) (by omega) (by have : ([9, 9, 9, 99, 9999] : List Int).length = 5 := rfl; omega)
    refine Tr.grd i1.1 (Tr.ret ?_)
    generalize ixAt ([9, 9, 9, 99, 9999] : List Int) (k - 2) = m at i1 ⊢
    have hz : 1 ≤ m ∧ m ≤ 9999 := by
      have := i1.2
      simp at this
      omega
    exact ⟨hz.1, hz.2, fun z => by rw [hg] at z; cases z⟩
  · obtain ⟨h1, h2, h3⟩ := hm
    refine Tr.bnd (a := 1) (b := 3) (Tr.pick (by omega) (lsmall (by omega))) fun x hx => ?_
    refine Tr.bnd (a := 1) (b := 2) Tr.pick fun y hy => ?_
    have i1 := ix_in (l := [1, m]) hy.1 hy.2
    refine Tr.grd i1.1 ?_
    generalize ixAt [1, m] y = z at i1
    have hz : 1 ≤ z ∧ z ≤ m := by
      have := i1.2
      simp at this
      omega
    refine Tr.bnd (a := 1) (b := 1) (Tr.pick (by omega) (lsmall (by omega))) fun u hu => ?_
    refine Tr.bnd (a := 1) (b := 0) Tr.pick fun v hv => ?_
    have i2 := ix_in (l := [1 + x, -(1 + x)]) hv.1 hv.2
    refine Tr.grd i2.1 ?_
    generalize ixAt [1 + x, -(1 + x)] v = a at i2
    have ha : a.natAbs ≤ m.natAbs := by
      have := i2.2
      simp at this
      omega
    rw [law_low_eq (by omega) (small (by omega)), bnd_ret]
    exact Tr.ret (Num.of (m := m) (by omega) (by omega) ha h2 h3)
end Dc
namespace Dc
open PySem PySem.Spec L2
theorem rangeF_mem {lo : Int} {n : Nat} {y : Int} (h : y ∈ rangeF lo n) : lo ≤ y ∧ y < lo + n := by
  obtain ⟨i, hi⟩ := List.getElem?_of_mem h
  have := rangeF_get _ _ _ _ hi
  omega
/-! ### alike -/
def dOk : Nat → D → Prop
  | _, .int _ => True
  | _, .bl _ => True
  | _, .non => True
  | n + 1, .lst ds => ds.length ≤ 16777216 ∧ ∀ d ∈ ds, dOk n d
  | n + 1, .tup ds => ds.length ≤ 16777216 ∧ ∀ d ∈ ds, dOk n d
  | _, _ => False
theorem alike_loop {n : Nat} {d : D} (ih : ∀ e ∈ itemsD d, w_law_alike n (e, e, ()) = ret true) (f : Unit → Int → W (Fl Unit Unit Bool))
    (hf : ∀ y, f () y = grd (true && ixOk (itemsD d) y) (grd (true && ixOk (itemsD d) y) (bnd (w_law_alike n (ixAt (itemsD d) y, ixAt (itemsD d) y, ())) fun t => ite (!t) (ret (Fl.rt false)) (ret (Fl.nx ()))))) :
    forW (δ := Empty) f () (rangeF 0 ((itemsD d).length : Int).toNat) = ret (.nx ()) := by
  have := forW_eq (δ := Empty) (f := f) (g := fun _ _ => ()) (s := ()) (xs := rangeF 0 ((itemsD d).length : Int).toNat) (fun y hy s => by
    have hm := rangeF_mem hy
    have i := ix_in (l := itemsD d) (k := y) (by omega) (by omega)
    cases s
    rw [hf, grd_ok (by simp [i.1]), grd_ok (by simp [i.1]), ih _ i.2, bnd_ret]
    rfl)
  rw [this]
theorem alike_leaf {n : Nat} {d : D} (h0 : nonD d = false) (h1 : isD "list" d = false) (h2 : isD "tuple" d = false) (h3 : isD "int" d = true) (h4 : SeqAt.shaped (toP d) = true) (h5 : PyData.eqv (toP d) (toP d) = true) : w_law_alike (n + 1) (d, d, ()) = ret true := by
  unfold w_law_alike
  simp only [bnd_ret, bnd_assoc, bnd_grd, bnd_ifr, grd_true, fnR_bnd, fnR_ite, fnR_grd, fnR_ret, sq_nx, sq_rt, h0, h1, h2, h3, h4, h5, ite_false, ite_true, bnd_ite, Bool.or_false, Bool.and_true, beq_self_eq_true]
theorem alike_node {n : Nat} {d : D} (h0 : nonD d = false) (h1 : (isD "list" d || isD "tuple" d) = true) (hs : seqD d = true) (hl : (itemsD d).length ≤ 16777216) (ih : ∀ e ∈ itemsD d, w_law_alike n (e, e, ()) = ret true) : w_law_alike (n + 1) (d, d, ()) = ret true := by
  have hk : isD "list" d = false → isD "tuple" d = true := fun z => by simpa [z] using h1
  unfold w_law_alike
  simp only [bnd_ret, bnd_assoc, bnd_grd, bnd_ifr, grd_true, fnR_bnd, fnR_ite, fnR_grd, fnR_ret, sq_nx, sq_rt, h0, h1, hs, ite_false, ite_true, bnd_ite, Bool.not_true, Bool.not_false, decide_true, fnR_stuck]
  cases e : isD "list" d
  · simp only [hk e, ite_false, ite_true, Bool.not_true, Bool.not_false]
    rw [grd_ok (by simp [rngOk]; omega), alike_loop ih _ fun y => rfl, bnd_ret]
    rfl
  · simp only [ite_false, ite_true, Bool.not_true, Bool.not_false]
    rw [grd_ok (by simp [rngOk]; omega), alike_loop ih _ fun y => rfl, bnd_ret]
    rfl
theorem alike_self : ∀ (n : Nat) (d : D), dOk n d → w_law_alike (n + 1) (d, d, ()) = ret true := by
  intro n
  induction n with
  | zero =>
    intro d h
    cases d with
    | lst ds => exact h.elim
    | tup ds => exact h.elim
    | str s => exact h.elim
    | non => rfl
    | int i => exact alike_leaf rfl rfl rfl rfl rfl (by simp [toP, PyData.eqv])
    | bl b => exact alike_leaf rfl rfl rfl rfl rfl (by simp [toP, PyData.eqv])
  | succ n ih =>
    intro d h
    cases d with
    | lst ds => exact alike_node rfl rfl rfl h.1 fun e he => ih e (h.2 e he)
    | tup ds => exact alike_node rfl rfl rfl h.1 fun e he => ih e (h.2 e he)
    | str s => exact h.elim
    | non => rfl
    | int i => exact alike_leaf rfl rfl rfl rfl rfl (by simp [toP, PyData.eqv])
    | bl b => exact alike_leaf rfl rfl rfl rfl rfl (by simp [toP, PyData.eqv])
end Dc
namespace Dc
open PySem PySem.Spec L2
def lineD (l : List Fr) : D := D.lst (l.map fun z => D.tup [D.int z.1, D.int z.2])
theorem alike_pair (a b : Int) : w_law_alike 6 (D.tup [D.int a, D.int b], D.tup [D.int a, D.int b], ()) = ret true := alike_self 5 _ ⟨by show 2 ≤ 16777216; decide, fun d hd => by
  simp only [List.mem_cons, List.not_mem_nil, or_false] at hd
  rcases hd with rfl | rfl <;> exact True.intro⟩
theorem alike_line {l : List Fr} (h : l.length ≤ 16777216) : w_law_alike 6 (D.lst (l.map fun z => D.tup [D.int z.1, D.int z.2]), D.lst (l.map fun z => D.tup [D.int z.1, D.int z.2]), ()) = ret true := alike_self 5 _ ⟨by rw [List.length_map]; exact h, fun d hd => by
  obtain ⟨x, _, rfl⟩ := List.mem_map.mp hd
  exact ⟨by show 2 ≤ 16777216; decide, fun d hd => by
    simp only [List.mem_cons, List.not_mem_nil, or_false] at hd
    rcases hd with rfl | rfl <;> exact True.intro⟩⟩
/-- not too great -/
def Sz (n : Nat) (x : Fr) : Prop := x.1.natAbs < 2 ^ n ∧ x.2.natAbs < 2 ^ n
theorem mul_lt_pow {a b n m : Nat} (h : a < 2 ^ n) (h2 : b < 2 ^ m) : a * b < 2 ^ (n + m) := by
  rw [Nat.pow_add]
  rcases Nat.eq_zero_or_pos b with z | z
  · rw [z, Nat.mul_zero]; exact Nat.mul_pos (Nat.pow_pos (by decide)) (Nat.pow_pos (by decide))
  · exact Nat.lt_of_lt_of_le ((Nat.mul_lt_mul_right z).mpr h) (Nat.mul_le_mul_left _ (Nat.le_of_lt h2))
theorem is_number_eq {x : Fr} (h : Red x) : w_is_number (x, ()) = ret true := by
  unfold w_is_number wb_is_number
  simp only [bnd_ret, bnd_assoc, bnd_grd, bnd_ite, grd_true, fnR_bnd, fnR_ite, fnR_grd, fnR_ret, sq_nx, sq_rt]
  rw [ite_ok (decide_eq_true h.1), h.2]
  rfl
theorem check_numbers_eq {l : List Fr} (h : ∀ x ∈ l, Red x) : w_check_numbers (l, ()) = ret () := by
  unfold w_check_numbers wb_check_numbers
  simp only [bnd_ret]
  rw [forW_eq (g := fun _ _ => ()) (fun x hx s => by
    simp only [bnd_ret, is_number_eq (h x hx), bnd_assoc, bnd_ifs]
    rfl), bnd_ret]
  rfl
theorem law_add_eq {x y : Fr} (hx : x.2 ≠ 0) (hy : y.2 ≠ 0) (sx : Sz 4000 x) (sy : Sz 4000 y) : w_law_add (x, y, ()) = ret (ofQ (toQ x + toQ y)) := by
  have b := mul_lt_pow sx.2 sy.2
  unfold w_law_add wb_law_add
  simp only [bnd_ret, bnd_assoc, bnd_grd, fnR_bnd, fnR_grd, fnR_ret]
  rw [grd_ok (mulOk_of sx.1 sy.2), grd_ok (mulOk_of sy.1 sx.2), grd_ok (mulOk_of sx.2 sy.2), law_low_eq (Int.mul_ne_zero hx hy) (by rw [Int.natAbs_mul]; exact Nat.lt_of_lt_of_le b (Nat.pow_le_pow_right (by decide) (by decide))), bnd_ret, toQ_add hx hy]
theorem law_mul_eq {x y : Fr} (hx : x.2 ≠ 0) (hy : y.2 ≠ 0) (sx : Sz 4000 x) (sy : Sz 4000 y) : w_law_mul (x, y, ()) = ret (ofQ (toQ x * toQ y)) := by
  have b := mul_lt_pow sx.2 sy.2
  unfold w_law_mul wb_law_mul
  simp only [bnd_ret, bnd_assoc, bnd_grd, fnR_bnd, fnR_grd, fnR_ret]
  rw [grd_ok (mulOk_of sx.1 sy.1), grd_ok (mulOk_of sx.2 sy.2), law_low_eq (Int.mul_ne_zero hx hy) (by rw [Int.natAbs_mul]; exact Nat.lt_of_lt_of_le b (Nat.pow_le_pow_right (by decide) (by decide))), bnd_ret, toQ_mul]
theorem law_add_gen {x y : Fr} (hx : x.2 ≠ 0) (hy : y.2 ≠ 0) (bx : x.1.natAbs < 2 ^ 100000) (by_ : y.1.natAbs < 2 ^ 100000) (b : x.2.natAbs * y.2.natAbs < 2 ^ 9000) : w_law_add (x, y, ()) = ret (ofQ (toQ x + toQ y)) := by
  have l1 : x.2.natAbs < 2 ^ 9000 := Nat.lt_of_le_of_lt (Nat.le_mul_of_pos_right _ (by omega)) b
  have l2 : y.2.natAbs < 2 ^ 9000 := Nat.lt_of_le_of_lt (Nat.le_mul_of_pos_left _ (by omega)) b
  unfold w_law_add wb_law_add
  simp only [bnd_ret, bnd_assoc, bnd_grd, fnR_bnd, fnR_grd, fnR_ret]
  rw [grd_ok (mulOk_of bx l2), grd_ok (mulOk_of by_ l1), grd_ok (mulOk_of l1 l2), law_low_eq (Int.mul_ne_zero hx hy) (by rw [Int.natAbs_mul]; exact b), bnd_ret, toQ_add hx hy]
theorem Num.sz {g : Bool} {x : Fr} (h : Num g x) : Sz 4000 x := by
  have h1 := h.up
  have h2 := h.dn
  have e : (2 : Nat) ^ 14 ≤ 2 ^ 4000 := Nat.pow_le_pow_right (by decide) (by decide)
  exact ⟨Nat.lt_of_lt_of_le (show x.1.natAbs < 2 ^ 14 by omega) e, Nat.lt_of_lt_of_le (show x.2.natAbs < 2 ^ 14 by omega) e⟩
theorem Num.ne {g : Bool} {x : Fr} (h : Num g x) : x.2 ≠ 0 := red_ne h.red
def addL (l m : List Fr) : List Fr := (l.zip m).map fun z => ofQ (toQ z.1 + toQ z.2)
def mulL (x : Fr) (l : List Fr) : List Fr := l.map fun z => ofQ (toQ x * toQ z)
theorem flat1 {α : Type} (x : α) : ∀ n : Nat, (List.replicate n [x]).flatten = List.replicate n x
  | 0 => rfl
  | n + 1 => by rw [List.replicate_succ, List.flatten_cons, flat1 x n]; rfl
theorem repOk1 {n : Int} (h0 : 0 ≤ n) (h : n ≤ 16777216) : repOk 1 n = true := by
  simp only [repOk, Bool.and_eq_true, decide_eq_true_eq]
  omega
end Dc
namespace Dc
open PySem PySem.Spec L2
theorem Tr.then {α β : Type} {n : Nat} (a : Nat) {m : W α} {k : α → W β} {S : α → Prop} {T : β → Prop} (h : Tr a m S) (h2 : ∀ x, S x → Tr (n - a) (k x) T) (ha : a ≤ n := by decide) : Tr n (Dc.bnd m k) T :=
  (Tr.bnd h h2).up (by omega)
theorem Tr.mapN {α β : Type} {n L N : Nat} {f : α → W β} {S : β → Prop} {xs : List α} (h : ∀ x ∈ xs, Tr n (f x) S) (hl : xs.length ≤ L) (hN : L * n ≤ N := by decide) : Tr N (mapW f xs) (fun ys => ys.length = xs.length ∧ ∀ y ∈ ys, S y) :=
  (Tr.map (S := fun _ y => S y) h).mono (Nat.le_trans (Nat.mul_le_mul_right n hl) hN) fun ys z => ⟨z.len, fun y hy => by
    obtain ⟨_, _, q⟩ := z.all y hy
    exact q⟩
theorem Tr.forN {α β γ δ : Type} {n L N : Nat} {f : γ → α → W (Fl γ γ β)} {xs : List α} {s : γ} (R : γ → Prop) (h0 : R s) (h : ∀ x ∈ xs, ∀ s, R s → Tr n (f s x) (fun fl => ∃ s', fl = .nx s' ∧ R s')) (hl : xs.length ≤ L) (hN : L * n ≤ N := by decide) : Tr N (forW (δ := δ) f s xs) (fun fl => ∃ s', fl = .nx s' ∧ R s') :=
  (Tr.for h0 h).up (Nat.le_trans (Nat.mul_le_mul_right n hl) hN)
/-- a line of numbers -/
def Lin (g : Bool) (n : Nat) (l : List Fr) : Prop := l.length = n ∧ ∀ x ∈ l, Num g x
theorem num_int {g : Bool} {n : Int} (h : n.natAbs ≤ 9999) : Num g (n, 1) := ⟨red_int n, h, by show (1 : Int).natAbs ≤ 9999; decide, fun _ => by show (1 : Int).natAbs ≤ 9; decide⟩
theorem lin_set {g : Bool} {n : Nat} {l : List Fr} (h : Lin g n l) {x : Fr} (hx : Num g x) (i : Nat) : Lin g n (l.set i x) := ⟨by rw [List.length_set]; exact h.1, fun y hy => by
  rcases List.mem_or_eq_of_mem_set hy with q | q
  · exact h.2 y q
  · rw [q]; exact hx⟩
theorem mem2 {a b x : Int} (h : x ∈ [a, b]) : x = a ∨ x = b := by simpa using h
theorem mulSmall {i j : Int} (hi : i.natAbs < 2 ^ 64) (hj : j.natAbs < 2 ^ 64) : mulOk i j = true := mulOk_of hi hj
theorem eqvAll_refl {α : Type} {to : α → PyData} (h : ∀ x, PyData.eqv (to x) (to x) = true) : ∀ l : List α, PyData.eqvAll (l.map to) (l.map to) = true
  | [] => rfl
  | x :: r => by
    show (PyData.eqv (to x) (to x) && PyData.eqvAll (r.map to) (r.map to)) = true
    rw [h, eqvAll_refl h r]
    rfl
theorem eqv_pair (x : Fr) : PyData.eqv (PyData.tuple [PyData.int x.1, PyData.int x.2]) (PyData.tuple [PyData.int x.1, PyData.int x.2]) = true := by simp [PyData.eqv, PyData.eqvAll]
theorem eqv_line (l : List Fr) : PyData.eqv (PyData.list (l.map fun z => PyData.tuple [PyData.int z.1, PyData.int z.2])) (PyData.list (l.map fun z => PyData.tuple [PyData.int z.1, PyData.int z.2])) = true := by
  simp only [PyData.eqv]
  exact eqvAll_refl eqv_pair l
theorem eqv_rows (l : List (List Fr)) : PyData.eqv (PyData.list (l.map fun z => PyData.list (z.map fun z => PyData.tuple [PyData.int z.1, PyData.int z.2]))) (PyData.list (l.map fun z => PyData.list (z.map fun z => PyData.tuple [PyData.int z.1, PyData.int z.2]))) = true := by
  simp only [PyData.eqv]
  exact eqvAll_refl eqv_line l
end Dc
namespace Dc
open PySem PySem.Spec L2
theorem mapW_ret {α : Type} (l : List α) : mapW (fun y => ret y) l = ret l := by
  rw [mapW_eq (g := fun y => y) fun _ _ => rfl, List.map_id']
theorem flat_eq {α : Type} : ∀ (n : Nat) (rows : List (List α)), n + rows.flatten.length ≤ 16777216 → flatW (fun y => ret y) (fun _ z => ret z) n rows = ret rows.flatten
  | _, [], _ => rfl
  | n, r :: t, h => by
    rw [List.flatten_cons, List.length_append] at h
    show bnd (ret r) _ = _
    rw [bnd_ret, grd_ok (decide_eq_true (by omega)), mapW_ret, bnd_ret, flat_eq (n + r.length) t (by omega), bnd_ret]
    rfl
/-- the least common denominator -/
def lcmL (l : List Fr) : Int := l.foldl (fun s x => ((Nat.lcm s.natAbs x.2.natAbs : Nat) : Int)) 1
theorem lcmL_go : ∀ (l : List Fr) (s : Int), 0 < s → (∀ x ∈ l, 1 ≤ x.2) → 0 < l.foldl (fun s x => ((Nat.lcm s.natAbs x.2.natAbs : Nat) : Int)) s ∧ s ∣ l.foldl (fun s x => ((Nat.lcm s.natAbs x.2.natAbs : Nat) : Int)) s ∧ ∀ x ∈ l, x.2 ∣ l.foldl (fun s x => ((Nat.lcm s.natAbs x.2.natAbs : Nat) : Int)) s
  | [], s, hs, _ => ⟨hs, Int.dvd_refl _, fun _ h => by cases h⟩
  | x :: r, s, hs, h => by
    have hx := h x (List.mem_cons_self ..)
    have hp : 0 < ((Nat.lcm s.natAbs x.2.natAbs : Nat) : Int) := by
      have := Nat.lcm_pos (m := s.natAbs) (n := x.2.natAbs) (by omega) (by omega)
      omega
    obtain ⟨h1, h2, h3⟩ := lcmL_go r _ hp fun y hy => h y (List.mem_cons_of_mem _ hy)
    have d1 : s ∣ ((Nat.lcm s.natAbs x.2.natAbs : Nat) : Int) := Int.natAbs_dvd_natAbs.mp (by rw [Int.natAbs_natCast]; exact Nat.dvd_lcm_left ..)
    have d2 : x.2 ∣ ((Nat.lcm s.natAbs x.2.natAbs : Nat) : Int) := Int.natAbs_dvd_natAbs.mp (by rw [Int.natAbs_natCast]; exact Nat.dvd_lcm_right ..)
    refine ⟨h1, Int.dvd_trans d1 h2, fun y hy => ?_⟩
    rcases List.mem_cons.mp hy with q | q
    · rw [q]; exact Int.dvd_trans d2 h2
    · exact h3 y q
theorem lcmL_loop {f : Int → Fr → W (Fl Int Int (List Int × Int))} (hf : ∀ s x, f s x = grd (lcmOk s x.2) (ret (.nx ((Nat.lcm s.natAbs x.2.natAbs : Nat) : Int)))) : ∀ (l : List Fr) (s : Int), 0 < s → (∀ x ∈ l, 1 ≤ x.2) → l.foldl (fun s x => ((Nat.lcm s.natAbs x.2.natAbs : Nat) : Int)) s < 2 ^ 13000 → forW (δ := Empty) f s l = ret (.nx (l.foldl (fun s x => ((Nat.lcm s.natAbs x.2.natAbs : Nat) : Int)) s))
  | [], s, hs, _, _ => rfl
  | x :: r, s, hs, h, hb => by
    have hx := h x (List.mem_cons_self ..)
    have hp : 0 < ((Nat.lcm s.natAbs x.2.natAbs : Nat) : Int) := by
      have := Nat.lcm_pos (m := s.natAbs) (n := x.2.natAbs) (by omega) (by omega)
      omega
    obtain ⟨h1, h2, h3⟩ := lcmL_go (x :: r) s hs h
    have l1 := Int.le_of_dvd h1 h2
    have l2 := Int.le_of_dvd h1 (h3 x (List.mem_cons_self ..))
    have e : ((2 : Int) ^ 13000) = ((2 ^ 13000 : Nat) : Int) := by simp
    generalize hB : List.foldl (fun s x => ((Nat.lcm s.natAbs x.2.natAbs : Nat) : Int)) s (x :: r) = B at *
    show bnd (f s x) _ = _
    rw [e] at hb
    rw [hf, grd_ok (lcmOk_of (by omega) (by omega)), bnd_ret]
    refine (lcmL_loop hf r _ hp (fun y hy => h y (List.mem_cons_of_mem _ hy)) (by rw [e]; rw [← hB] at hb; exact hb)).trans ?_
    rw [← hB]
    rfl
def intsL (l : List Fr) : List Int := l.map fun x => x.1 * Int.fdiv (lcmL l) x.2
theorem integers_of_eq {l : List Fr} (h : ∀ x ∈ l, Red x) (hz : ∀ x ∈ l, Sz 4000 x) (hb : lcmL l < 2 ^ 13000) : w_integers_of (l, ()) = ret (intsL l, lcmL l) := by
  have h1 : ∀ x ∈ l, 1 ≤ x.2 := fun x hx => (h x hx).1
  unfold w_integers_of wb_integers_of
  simp only [bnd_ret, bnd_assoc, bnd_grd, grd_true, fnR_bnd, fnR_ite, fnR_grd, fnR_ret, sq_nx, sq_rt]
  rw [lcmL_loop (fun s x => rfl) l 1 (by decide) h1 hb, bnd_ret, sq_nx]
  have hp := (lcmL_go l 1 (by decide) h1).1
  have e : ((2 : Int) ^ 13000) = ((2 ^ 13000 : Nat) : Int) := by simp
  rw [e] at hb
  change lcmL l < _ at hb
  change 0 < lcmL l at hp
  change fnR (bnd (mapW (fun y92 => grd (fdivOk (lcmL l) y92.2) (grd (mulOk y92.1 (Int.fdiv (lcmL l) y92.2)) (ret (y92.1 * Int.fdiv (lcmL l) y92.2)))) l) fun t => ret (Fl.rt (t, lcmL l))) = _
  rw [mapW_eq (g := fun x => x.1 * Int.fdiv (lcmL l) x.2) fun x hx => by
    have q := h1 x hx
    have z := hz x hx
    rw [grd_ok (fdivOk_of (by omega) (Nat.lt_of_lt_of_le z.2 (Nat.pow_le_pow_right (by decide) (by decide)))), grd_ok (mulOk_of (m := 13000) z.1 ?_)]
    rw [Int.fdiv_eq_ediv_of_nonneg _ (by omega)]
    have := Int.natAbs_ediv_le_natAbs (lcmL l) x.2
    omega, bnd_ret]
  rfl
theorem lcmL_dvd {l : List Fr} (h : ∀ x ∈ l, Red x) {x : Fr} (hx : x ∈ l) : x.2 ∣ lcmL l := (lcmL_go l 1 (by decide) fun y hy => (h y hy).1).2.2 x hx
theorem lcmL_pos {l : List Fr} (h : ∀ x ∈ l, Red x) : 0 < lcmL l := (lcmL_go l 1 (by decide) fun y hy => (h y hy).1).1
/-- over a common denominator -/
theorem over {x : Fr} {B : Int} (h : 1 ≤ x.2) (hB : 0 < B) (hd : x.2 ∣ B) : Rat.divInt (x.1 * Int.fdiv B x.2) B = toQ x := by
  obtain ⟨k, rfl⟩ := hd
  have hk : k ≠ 0 := by rintro rfl; simp at hB
  rw [Int.fdiv_eq_ediv_of_nonneg _ (by omega), Int.mul_ediv_cancel_left _ (by omega)]
  exact Rat.divInt_mul_right hk
theorem divInt_add_same {a b d : Int} (hd : d ≠ 0) : Rat.divInt a d + Rat.divInt b d = Rat.divInt (a + b) d := by
  rw [Rat.divInt_add_divInt _ _ hd hd, ← Int.add_mul, Rat.divInt_mul_right hd]
/-- totals -/
def zadd (f : Int) (T r : List Int) : List Int := List.zipWith (fun t m => t + f * m) T r
def totF : List Int → List Int → List (List Int) → List Int
  | T, f :: fs, r :: rs => totF (if f ≠ 0 then zadd f T r else T) fs rs
  | T, _, _ => T
theorem zadd_len {f : Int} {T r : List Int} (h : r.length = T.length) : (zadd f T r).length = T.length := by
  rw [zadd, List.length_zipWith]; omega
theorem add_loop {f : List Int → Int × Int → W (Fl (List Int) (List Int) (List Fr))} {c : Int} (hf : ∀ s y, f s y = grd (ixOk s y.1) (grd (mulOk c y.2) (ret (.nx (s.set ((ixN s.length y.1).getD 0) (ixAt s y.1 + c * y.2)))))) : ∀ (r T P : List Int), r.length = T.length → (∀ m ∈ r, mulOk c m = true) → forW (δ := List Int) f (P ++ T) (enumF P.length r) = ret (.nx (P ++ zadd c T r))
  | [], [], P, _, _ => by simp [zadd]; rfl
  | [], _ :: _, _, h, _ => by simp at h
  | _ :: _, [], _, h, _ => by simp at h
  | m :: r, t :: T, P, h, hm => by
    show bnd (f (P ++ t :: T) ((P.length : Int), m)) _ = _
    have hl : ((P ++ t :: T).length) = P.length + (T.length + 1) := by simp
    have e : ixN (P ++ t :: T).length (P.length : Int) = some P.length := by
      rw [ixN_of (by omega) (by omega)]; simp
    rw [hf, grd_ok (show ixOk (P ++ t :: T) (P.length : Int) = true by unfold ixOk; rw [e]; rfl), grd_ok (hm m (List.mem_cons_self ..)), bnd_ret]
    have e1 : ixAt (P ++ t :: T) (P.length : Int) = t := by
      unfold ixAt; rw [e]; simp
    have e2 : (P ++ t :: T).set ((ixN (P ++ t :: T).length (P.length : Int)).getD 0) (ixAt (P ++ t :: T) (P.length : Int) + c * m) = (P ++ [t + c * m]) ++ T := by
      rw [e1, e]; simp
    have ih := add_loop hf r T (P ++ [t + c * m]) (by simpa using h) fun x hx => hm x (List.mem_cons_of_mem _ hx)
    have e3 : ((P ++ [t + c * m]).length : Int) = (P.length : Int) + 1 := by simp
    rw [e3] at ih
    show forW f ((P ++ t :: T).set ((ixN (P ++ t :: T).length (P.length : Int)).getD 0) (ixAt (P ++ t :: T) (P.length : Int) + c * m)) (enumF ((P.length : Int) + 1) r) = _
    rw [e2, ih]
    simp [zadd]
end Dc
namespace Dc
open PySem PySem.Spec L2
theorem flat_slice {α : Type} {size : Nat} : ∀ (rows : List (List α)) (i : Nat) (h : i < rows.length), (∀ r ∈ rows, r.length = size) → (rows.flatten.drop (i * size)).take size = rows[i]
  | [], _, h, _ => by simp at h
  | r :: rs, 0, _, hr => by
    have := hr r (List.mem_cons_self ..)
    rw [Nat.zero_mul, List.drop_zero, List.flatten_cons, List.take_append_of_le_length (by omega), List.take_of_length_le (by omega), List.getElem_cons_zero]
  | r :: rs, i + 1, h, hr => by
    have hl := hr r (List.mem_cons_self ..)
    have e : (i + 1) * size = r.length + i * size := by rw [hl, Nat.add_mul]; omega
    rw [List.flatten_cons, e, List.drop_append, List.drop_eq_nil_of_le (by omega), List.nil_append, Nat.add_sub_cancel_left, flat_slice rs i (by simpa using h) fun x hx => hr x (List.mem_cons_of_mem _ hx), List.getElem_cons_succ]
theorem flat_len {α : Type} {size : Nat} : ∀ (rows : List (List α)), (∀ r ∈ rows, r.length = size) → rows.flatten.length = rows.length * size
  | [], _ => by simp
  | r :: rs, h => by
    rw [List.flatten_cons, List.length_append, flat_len rs fun x hx => h x (List.mem_cons_of_mem _ hx), h r (List.mem_cons_self ..), List.length_cons, Nat.add_mul]; omega
/-- a line over a common denominator -/
def over_ (F : Int) (l : List Fr) : List Int := l.map fun x => x.1 * Int.fdiv F x.2
theorem numbers_of_eq {l : List Int} {b : Int} (h : b ≠ 0) (hb : b.natAbs < 2 ^ 9000) : w_numbers_of (l, b, ()) = ret (l.map fun t => ofQ (Rat.divInt t b)) := by
  unfold w_numbers_of wb_numbers_of
  simp only [bnd_ret, bnd_assoc, fnR_bnd, fnR_ret]
  rw [mapW_eq (g := fun t => ofQ (Rat.divInt t b)) fun z _ => lowest_eq h hb, bnd_ret]
theorem natpow_cast (n : Nat) : ((2 : Int) ^ n) = ((2 ^ n : Nat) : Int) := by simp
theorem pow_mono {a n m : Nat} (h : a < 2 ^ n) (hnm : n ≤ m) : a < 2 ^ m := Nat.lt_of_lt_of_le h (Nat.pow_le_pow_right (by decide) hnm)
theorem sz_low {a b : Int} {n : Nat} (h : b ≠ 0) (ha : a.natAbs < 2 ^ n) (hb : b.natAbs < 2 ^ n) : Sz n (ofQ (Rat.divInt a b)) := by
  have := low_le (a := a) h
  exact ⟨by omega, by omega⟩
def toF (D t : Int) : Fr := ofQ (Rat.divInt t D)
end Dc
namespace Dc
open PySem PySem.Spec L2
theorem rng_loop {σ α β γ δ : Type} {R : σ → γ} {f : γ → Int → W (Fl γ γ β)} {g : σ → α → σ} {I : Nat → σ → Prop} : ∀ (xs : List α) (k : Nat) (s : σ), I k s →
    (∀ (i : Nat) (h : i < xs.length) (s : σ), I (k + i) s → f (R s) ((k + i : Nat) : Int) = ret (.nx (R (g s xs[i]))) ∧ I (k + i + 1) (g s xs[i])) →
    forW (δ := δ) f (R s) (rangeF (k : Int) xs.length) = ret (.nx (R (xs.foldl g s))) ∧ I (k + xs.length) (xs.foldl g s)
  | [], k, s, h0, _ => ⟨rfl, h0⟩
  | x :: r, k, s, h0, h => by
    obtain ⟨e, i⟩ := h 0 (by simp) s h0
    rw [show k + 0 = k by omega] at e
    have ih := rng_loop (δ := δ) (R := R) (f := f) (g := g) (I := I) r (k + 1) (g s x) i fun i hi s hs => by
      have := h (i + 1) (by simp; omega) s (by rw [show k + (i + 1) = k + 1 + i by omega]; exact hs)
      rw [show k + (i + 1) = k + 1 + i by omega] at this
      simpa using this
    rw [show k + (x :: r).length = k + 1 + r.length by simp; omega]
    refine ⟨?_, ih.2⟩
    show bnd (f (R s) (k : Int)) _ = _
    rw [e, bnd_ret]
    have e2 : ((k : Int) + 1) = ((k + 1 : Nat) : Int) := by simp
    show forW f (R (g s x)) (rangeF ((k : Int) + 1) r.length) = _
    rw [e2]
    exact ih.1
theorem ix_nat {α : Type} [Inhabited α] {l : List α} {i : Nat} (h : i < l.length) : ixOk l (i : Int) = true ∧ ixAt l (i : Int) = l[i] := by
  have e : ixN l.length (i : Int) = some i := by rw [ixN_of (by omega) (by omega)]; simp
  refine ⟨by unfold ixOk; rw [e]; rfl, ?_⟩
  unfold ixAt
  rw [e, Option.getD_some, List.getD_eq_getElem?_getD, List.getElem?_eq_getElem h]
  rfl
/-- totals, step by step -/
def stp (c : Int) (T r : List Int) : List Int := if c ≠ 0 then zadd c T r else T
def inn (a : Int) (b : List Int) (T : List Int) (P : List (List Int)) : List Int := (b.zip P).foldl (fun T z => stp (a * z.1) T z.2) T
def tot (a b : List Int) (P : List (List (List Int))) (T : List Int) : List Int := (a.zip P).foldl (fun T z => inn z.1 b T z.2) T
theorem stp_len {c : Int} {T r : List Int} (h : r.length = T.length) : (stp c T r).length = T.length := by
  unfold stp
  split
  · exact zadd_len h
  · rfl
/-- n lists of n lists of n -/
structure Cub {α : Type} (n : Nat) (P : List (List (List α))) : Prop where
  len : P.length = n
  row : ∀ r ∈ P, r.length = n
  lin : ∀ r ∈ P, ∀ l ∈ r, l.length = n
theorem rngOk_n {n : Nat} (h : n ≤ 1000000) : rngOk 0 (n : Int) = true := by simp [rngOk]; omega
theorem flat_at {α : Type} {n : Nat} : ∀ (P : List (List α)) (i j : Nat) (hi : i < P.length) (hj : j < P[i].length), (∀ r ∈ P, r.length = n) → ∃ h : i * n + j < P.flatten.length, P.flatten[i * n + j] = P[i][j]
  | [], _, _, hi, _, _ => by simp at hi
  | r :: t, 0, j, hi, hj, hr => by
    have hj' : j < r.length := hj
    refine ⟨by rw [List.flatten_cons, List.length_append]; omega, ?_⟩
    simp only [Nat.zero_mul, Nat.zero_add, List.flatten_cons]
    rw [List.getElem_append_left hj']
    rfl
  | r :: t, i + 1, j, hi, hj, hr => by
    have hl := hr r (List.mem_cons_self ..)
    obtain ⟨h, e⟩ := flat_at t i j (by simpa using hi) (by simpa using hj) fun q hq => hr q (List.mem_cons_of_mem _ hq)
    have e2 : (i + 1) * n + j = r.length + (i * n + j) := by rw [hl, Nat.add_mul]; omega
    refine ⟨by rw [List.flatten_cons, List.length_append]; omega, ?_⟩
    simp only [e2, List.flatten_cons]
    rw [List.getElem_append_right (by omega)]
    simp only [Nat.add_sub_cancel_left]
    exact e
theorem pwc_loop {n : Nat} {a b : List Int} {P : List (List (List Int))} (hn : n ≤ 1000) (ha : a.length = n) (hb : b.length = n) (hP : Cub n P) (ba : ∀ u ∈ a, u.natAbs < 2 ^ 4000) (bb : ∀ u ∈ b, u.natAbs < 2 ^ 4000) (bP : ∀ r ∈ P, ∀ l ∈ r, ∀ c ∈ l, c.natAbs < 2 ^ 8000) {f : List Int → Int → W (Fl (List Int) (List Int) (List Fr))}
    (hf : ∀ s y, f s y = grd (rngOk 0 (n : Int)) (bnd (forW (fun s2 y2 => grd (ixOk a y) (grd (ixOk b y2) (grd (mulOk (ixAt a y) (ixAt b y2)) (bnd (ite (!decide (ixAt a y * ixAt b y2 = 0)) (grd (mulOk y (n : Int)) (grd (ixOk P.flatten (y * (n : Int) + y2)) (bnd (forW (fun s3 y3 => grd (ixOk s3 y3.1) (grd (mulOk (ixAt a y * ixAt b y2) y3.2) (ret (Fl.nx (s3.set ((ixN s3.length y3.1).getD 0) (ixAt s3 y3.1 + ixAt a y * ixAt b y2 * y3.2)))))) s2 (enumF 0 (ixAt P.flatten (y * (n : Int) + y2)))) (sq fun s => ret (Fl.nx s))))) (ret (Fl.nx s2))) (sq fun s => ret (Fl.nx s)))))) s (rangeF 0 (n : Int).toNat)) (sq fun s => ret (Fl.nx s)))) :
    forW (δ := Empty) f (List.replicate n 0) (rangeF 0 (n : Int).toNat) = ret (.nx (tot a b P (List.replicate n 0))) ∧ (tot a b P (List.replicate n 0)).length = n := by
  have lz : (a.zip P).length = n := by rw [List.length_zip, ha, hP.len]; omega
  have key := rng_loop (δ := Empty) (R := fun T => T) (f := f) (g := fun T (z : Int × List (List Int)) => inn z.1 b T z.2) (I := fun _ T => T.length = n) (a.zip P) 0 (List.replicate n 0) (List.length_replicate ..) fun i hi T hT => ?_
  · rw [lz] at key
    exact key
  · rw [Nat.zero_add]
    rw [lz] at hi
    have hia : i < a.length := by omega
    have hiP : i < P.length := by rw [hP.len]; exact hi
    have lb : (b.zip P[i]).length = n := by rw [List.length_zip, hb, hP.row _ (List.getElem_mem hiP)]; omega
    rw [List.getElem_zip, hf, grd_ok (rngOk_n (by omega))]
    have k2 := rng_loop (δ := List Int) (R := fun T => T) (g := fun T (z : Int × List Int) => stp (a[i] * z.1) T z.2) (I := fun _ T => T.length = n) (f := fun s2 y2 => grd (ixOk a (i : Int)) (grd (ixOk b y2) (grd (mulOk (ixAt a (i : Int)) (ixAt b y2)) (bnd (ite (!decide (ixAt a (i : Int) * ixAt b y2 = 0)) (grd (mulOk (i : Int) (n : Int)) (grd (ixOk P.flatten ((i : Int) * (n : Int) + y2)) (bnd (forW (fun s3 y3 => grd (ixOk s3 y3.1) (grd (mulOk (ixAt a (i : Int) * ixAt b y2) y3.2) (ret (Fl.nx (s3.set ((ixN s3.length y3.1).getD 0) (ixAt s3 y3.1 + ixAt a (i : Int) * ixAt b y2 * y3.2)))))) s2 (enumF 0 (ixAt P.flatten ((i : Int) * (n : Int) + y2)))) (sq fun s => ret (Fl.nx s))))) (ret (Fl.nx s2))) (sq fun s => ret (Fl.nx s)))))) (β := List Fr)
      (b.zip P[i]) 0 T hT fun j hj T2 hT2 => ?_
    · rw [lb] at k2
      refine ⟨?_, k2.2⟩
      have e := k2.1
      refine (congrArg (fun z => bnd z _) e).trans ?_
      rfl
    · rw [Nat.zero_add]
      rw [lb] at hj
      have hjb : j < b.length := by omega
      have hjP : j < P[i].length := by rw [hP.row _ (List.getElem_mem hiP)]; exact hj
      have hl := hP.lin _ (List.getElem_mem hiP) _ (List.getElem_mem hjP)
      obtain ⟨hf1, hf2⟩ := flat_at (n := n) P i j hiP hjP hP.row
      have ea := ix_nat hia
      have eb := ix_nat hjb
      have ep := ix_nat hf1
      have en : ((i : Int) * (n : Int) + (j : Int)) = ((i * n + j : Nat) : Int) := by simp
      rw [List.getElem_zip]
      refine ⟨?_, ?_⟩
      · rw [grd_ok ea.1, grd_ok eb.1, ea.2, eb.2, grd_ok (mulOk_of (ba _ (List.getElem_mem hia)) (bb _ (List.getElem_mem hjb))), en, ep.2, hf2]
        by_cases q : a[i] * b[j] = 0
        · rw [ite_no (by simp [q]), bnd_ret, sq_nx]
          show _ = ret (Fl.nx (stp (a[i] * b[j]) T2 P[i][j]))
          rw [stp, if_neg (by simp [q])]
        · rw [ite_ok (by simp [q]), grd_ok (mulOk_of (n := 64) (m := 64) (by omega) (by omega)), grd_ok ep.1]
          have al := add_loop (f := fun s3 y3 => grd (ixOk s3 y3.1) (grd (mulOk (a[i] * b[j]) y3.2) (ret (Fl.nx (s3.set ((ixN s3.length y3.1).getD 0) (ixAt s3 y3.1 + a[i] * b[j] * y3.2)))))) (c := a[i] * b[j]) (fun _ _ => rfl) P[i][j] T2 [] (by rw [hl, hT2]) fun m hm =>
            mulOk_of (n := 8000) (m := 8000) (by rw [Int.natAbs_mul]; exact mul_lt_pow (n := 4000) (m := 4000) (ba _ (List.getElem_mem hia)) (bb _ (List.getElem_mem hjb))) (bP _ (List.getElem_mem hiP) _ (List.getElem_mem hjP) m hm)
          refine (congrArg (fun z => bnd (bnd z _) _) al).trans ?_
          show ret (Fl.nx (zadd (a[i] * b[j]) T2 P[i][j])) = ret (Fl.nx (stp (a[i] * b[j]) T2 P[i][j]))
          rw [stp, if_pos q]
      · show (stp (a[i] * b[j]) T2 P[i][j]).length = n
        rw [stp_len (by rw [hl, hT2]), hT2]
end Dc
namespace Dc
open PySem PySem.Spec L2
structure Bd (k : Nat) (x : Fr) : Prop where
  red : Red x
  sz : Sz k x
theorem Bd.up {k m : Nat} {x : Fr} (h : Bd k x) (hk : k ≤ m) : Bd m x := ⟨h.red, pow_mono h.sz.1 hk, pow_mono h.sz.2 hk⟩
theorem Bd.ne {k : Nat} {x : Fr} (h : Bd k x) : x.2 ≠ 0 := red_ne h.red
theorem Num.bd {g : Bool} {x : Fr} (h : Num g x) : Bd 14 x := ⟨h.red, by have := h.up; show x.1.natAbs < 2 ^ 14; omega, by have := h.dn; show x.2.natAbs < 2 ^ 14; omega⟩
theorem bd_ofQ {a b : Int} {k : Nat} (h : b ≠ 0) (ha : a.natAbs < 2 ^ k) (hb : b.natAbs < 2 ^ k) : Bd k (ofQ (Rat.divInt a b)) := ⟨red_ofQ _, sz_low h ha hb⟩
theorem lcmL_le {k : Nat} : ∀ (l : List Fr) (s : Int), 0 < s → (∀ x ∈ l, Bd k x) → (l.foldl (fun s x => ((Nat.lcm s.natAbs x.2.natAbs : Nat) : Int)) s).natAbs ≤ s.natAbs * 2 ^ (k * l.length)
  | [], s, _, _ => by simp
  | x :: r, s, hs, h => by
    have hx := h x (List.mem_cons_self ..)
    have h1 := hx.red.1
    have hp : 0 < ((Nat.lcm s.natAbs x.2.natAbs : Nat) : Int) := by
      have := Nat.lcm_pos (m := s.natAbs) (n := x.2.natAbs) (by omega) (by omega)
      omega
    have ih := lcmL_le r _ hp fun y hy => h y (List.mem_cons_of_mem _ hy)
    refine Nat.le_trans ih ?_
    have e : k * (x :: r).length = k + k * r.length := by simp [Nat.mul_add]; omega
    rw [e, Nat.pow_add, ← Nat.mul_assoc, Int.natAbs_natCast]
    refine Nat.mul_le_mul_right _ ?_
    refine Nat.le_trans (Nat.le_of_dvd (Nat.mul_pos (by omega) (by omega)) (Nat.lcm_dvd_mul _ _)) (Nat.mul_le_mul_left _ (Nat.le_of_lt hx.sz.2))
theorem lcmL_bd {k : Nat} {l : List Fr} (h : ∀ x ∈ l, Bd k x) : (lcmL l).natAbs ≤ 2 ^ (k * l.length) := by
  have := lcmL_le l 1 (by decide) h
  rw [show (1 : Int).natAbs = 1 from rfl, Nat.one_mul] at this
  exact this
theorem lcmL_lt {k n m : Nat} {l : List Fr} (h : ∀ x ∈ l, Bd k x) (hl : l.length ≤ n) (hm : k * n < m := by decide) : (lcmL l).natAbs < 2 ^ m :=
  Nat.lt_of_le_of_lt (Nat.le_trans (lcmL_bd h) (Nat.pow_le_pow_right (by decide) (Nat.mul_le_mul_left k hl))) (Nat.pow_lt_pow_right (by decide) hm)
theorem lcmL_z {l : List Fr} {m : Nat} (h : (lcmL l).natAbs < 2 ^ m) (hm : m ≤ 13000 := by decide) : lcmL l < 2 ^ 13000 := by
  have := pow_mono h hm
  rw [natpow_cast]
  omega
/-- a number over a common denominator -/
theorem ov_lt {k m : Nat} {x : Fr} {F : Int} (hx : Bd k x) (hF : F.natAbs < 2 ^ m) (h0 : 0 < F) : (x.1 * Int.fdiv F x.2).natAbs < 2 ^ (k + m) := by
  rw [Int.natAbs_mul]
  refine mul_lt_pow hx.sz.1 ?_
  have := hx.red.1
  rw [Int.fdiv_eq_ediv_of_nonneg _ (by omega)]
  have := Int.natAbs_ediv_le_natAbs F x.2
  omega
theorem pwc_eq {n m : Nat} {x y : List Fr} {PI : List (List (List Int))} {below : Int} {pr : List (List (List Fr))} (hn : n ≤ 6) (hx : x.length = n) (hy : y.length = n) (bx : ∀ z ∈ x, Bd 900 z) (by_ : ∀ z ∈ y, Bd 900 z) (zx : (lcmL x).natAbs < 2 ^ 900) (zy : (lcmL y).natAbs < 2 ^ 900) (hP : Cub n PI) (bP : ∀ r ∈ PI, ∀ l ∈ r, ∀ c ∈ l, c.natAbs < 2 ^ 8000) (h0 : 0 < below) (hb : below.natAbs < 2 ^ 6100) :
    w_Table_product_without_checks ((PI.flatten, below, pr, ()), x, y, ()) = ret ((tot (intsL x) (intsL y) PI (List.replicate n 0)).map (toF (lcmL x * lcmL y * below))) := by
  have rx : ∀ z ∈ x, Red z := fun z hz => (bx z hz).red
  have ry : ∀ z ∈ y, Red z := fun z hz => (by_ z hz).red
  have px := lcmL_pos rx
  have py := lcmL_pos ry
  have ia : (intsL x).length = n := by rw [intsL, List.length_map, hx]
  have ib : (intsL y).length = n := by rw [intsL, List.length_map, hy]
  unfold w_Table_product_without_checks wb_Table_product_without_checks
  simp only [bnd_ret, bnd_assoc, bnd_grd, grd_true, fnR_bnd, fnR_ite, fnR_grd, fnR_ret, sq_nx, sq_rt]
  rw [integers_of_eq rx (fun z hz => ((bx z hz).up (by decide)).sz) (lcmL_z zx), bnd_ret, integers_of_eq ry (fun z hz => ((by_ z hz).up (by decide)).sz) (lcmL_z zy), bnd_ret]
  dsimp only
  rw [ia, grd_ok (show repOk ([0] : List Int).length (n : Int) = true from repOk1 (by omega) (by omega)), grd_ok (rngOk_n (by omega)), flat1]
  have L := pwc_loop (n := n) (a := intsL x) (b := intsL y) (P := PI) (by omega) ia ib hP (fun u hu => by
    obtain ⟨z, hz, rfl⟩ := List.mem_map.mp hu
    exact pow_mono (ov_lt (bx z hz) zx px) (by decide)) (fun u hu => by
    obtain ⟨z, hz, rfl⟩ := List.mem_map.mp hu
    exact pow_mono (ov_lt (by_ z hz) zy py) (by decide)) bP (fun s y => rfl)
  have e : (n : Int).toNat = n := Int.toNat_natCast n
  rw [show List.replicate (n : Int).toNat (0 : Int) = List.replicate n 0 by rw [e]]
  refine (congrArg (fun z => bnd z _) L.1).trans ?_
  rw [bnd_ret, sq_nx]
  have m1 : (lcmL x * lcmL y).natAbs < 2 ^ 1800 := by rw [Int.natAbs_mul]; exact mul_lt_pow zx zy
  have m2 : (lcmL x * lcmL y * below).natAbs < 2 ^ 7900 := by rw [Int.natAbs_mul]; exact mul_lt_pow m1 hb
  rw [grd_ok (mulOk_of zx zy), grd_ok (mulOk_of m1 hb), numbers_of_eq (Int.mul_ne_zero (Int.mul_ne_zero (by omega) (by omega)) (by omega)) (pow_mono m2 (by decide)), bnd_ret, fnR_ret]
  rfl
theorem den_dvd {a b : Int} (h : 0 < b) : (ofQ (Rat.divInt a b)).2 ∣ b := by
  rw [← low_pos h]
  have d : (((Nat.gcd a.natAbs b.natAbs : Nat) : Int)) ∣ b := Int.natAbs_dvd_natAbs.mp (by rw [Int.natAbs_natCast]; exact Nat.gcd_dvd_right ..)
  exact ⟨_, (Int.ediv_mul_cancel d).symm⟩
theorem fee_eq {x y : Fr} {A B : Int} (hx : Red x) (hy : Red y) (hA : 0 < A) (hB : 0 < B) (dx : x.2 ∣ A) (dy : y.2 ∣ B) : (ofQ (toQ x * toQ y)).2 ∣ A * B ∧ (ofQ (toQ x * toQ y)).1 * Int.fdiv (A * B) (ofQ (toQ x * toQ y)).2 = (x.1 * Int.fdiv A x.2) * (y.1 * Int.fdiv B y.2) := by
  have hAB : 0 < A * B := Int.mul_pos hA hB
  have d : (ofQ (toQ x * toQ y)).2 ∣ A * B := by
    rw [← toQ_mul]
    exact Int.dvd_trans (den_dvd (Int.mul_pos (by have := hx.1; omega) (by have := hy.1; omega))) (Int.mul_dvd_mul dx dy)
  refine ⟨d, ?_⟩
  have e := over (x := ofQ (toQ x * toQ y)) (red_ofQ _).1 hAB d
  rw [toQ_ofQ] at e
  have e2 : toQ x * toQ y = Rat.divInt ((x.1 * Int.fdiv A x.2) * (y.1 * Int.fdiv B y.2)) (A * B) := by rw [← over hx.1 hA dx, ← over hy.1 hB dy, Rat.divInt_mul_divInt]
  have hne : A * B ≠ 0 := by omega
  have q := (Rat.divInt_eq_divInt_iff hne hne).mp (e.trans e2)
  exact Int.eq_of_mul_eq_mul_right hne q
theorem due_cell {fee x : Fr} {t C F : Int} (hf : Bd 1800 fee) (hx : Bd 900 x) (hC : 0 < C) (hF : 0 < F) (dC : fee.2 ∣ C) (dF : x.2 ∣ F) (ht : t.natAbs < 2 ^ 8000) (hD : (C * F).natAbs < 2 ^ 3000) :
    ite (decide (x.1 = 0)) (ret (ofQ (Rat.divInt t (C * F)))) (bnd (w_law_mul (fee, x, ())) fun u => w_law_add (ofQ (Rat.divInt t (C * F)), u, ())) = ret (ofQ (Rat.divInt (t + (fee.1 * Int.fdiv C fee.2) * (x.1 * Int.fdiv F x.2)) (C * F))) := by
  have hD0 : C * F ≠ 0 := Int.mul_ne_zero (by omega) (by omega)
  by_cases q : x.1 = 0
  · rw [ite_ok (by simp [q]), q, Int.zero_mul, Int.mul_zero, Int.add_zero]
  · rw [ite_no (by simp [q]), law_mul_eq hf.ne hx.ne (hf.up (by decide)).sz (hx.up (by decide)).sz, bnd_ret]
    have s2 : Sz 2700 (ofQ (toQ fee * toQ x)) := by
      rw [← toQ_mul]
      exact sz_low (Int.mul_ne_zero hf.ne hx.ne) (by rw [Int.natAbs_mul]; exact pow_mono (mul_lt_pow hf.sz.1 hx.sz.1) (by decide)) (by rw [Int.natAbs_mul]; exact pow_mono (mul_lt_pow hf.sz.2 hx.sz.2) (by decide))
    have s1 := low_le (a := t) hD0
    have s11 : (ofQ (Rat.divInt t (C * F))).1.natAbs < 2 ^ 8000 := Nat.lt_of_le_of_lt s1.1 ht
    have s12 : (ofQ (Rat.divInt t (C * F))).2.natAbs < 2 ^ 3000 := Nat.lt_of_le_of_lt s1.2 hD
    rw [law_add_gen (red_ne (red_ofQ _)) (red_ne (red_ofQ _)) (pow_mono s11 (by decide)) (pow_mono s2.1 (by decide)) (pow_mono (mul_lt_pow s12 s2.2) (by decide)), toQ_ofQ, toQ_ofQ, ← over (x := fee) hf.red.1 hC dC, ← over (x := x) hx.red.1 hF dF, Rat.divInt_mul_divInt, divInt_add_same hD0]
theorem due_row {fee : Fr} {C F : Int} (hf : Bd 1800 fee) (hC : 0 < C) (hF : 0 < F) (dC : fee.2 ∣ C) (hD : (C * F).natAbs < 2 ^ 3000) : ∀ (T : List Int) (line : List Fr), line.length = T.length → (∀ x ∈ line, Bd 900 x ∧ x.2 ∣ F) → (∀ t ∈ T, t.natAbs < 2 ^ 8000) →
    mapW (fun y1 : Fr × Fr => ite (decide (y1.2.1 = 0)) (ret y1.1) (bnd (w_law_mul (fee, y1.2, ())) fun u => w_law_add (y1.1, u, ()))) ((T.map (toF (C * F))).zip line) = ret ((zadd (fee.1 * Int.fdiv C fee.2) T (over_ F line)).map (toF (C * F)))
  | [], [], _, _, _ => rfl
  | [], _ :: _, h, _, _ => by simp at h
  | _ :: _, [], h, _, _ => by simp at h
  | t :: T, x :: line, h, hx, ht => by
    have h1 := hx x (List.mem_cons_self ..)
    have c := due_cell hf h1.1 hC hF dC h1.2 (ht t (List.mem_cons_self ..)) hD
    show bnd (ite (decide (x.1 = 0)) (ret (toF (C * F) t)) (bnd (w_law_mul (fee, x, ())) fun u => w_law_add (toF (C * F) t, u, ()))) _ = _
    unfold toF at c ⊢
    rw [c, bnd_ret]
    have ih := due_row hf hC hF dC hD T line (by simpa using h) (fun y hy => hx y (List.mem_cons_of_mem _ hy)) (fun y hy => ht y (List.mem_cons_of_mem _ hy))
    unfold toF at ih
    change bnd (mapW _ ((T.map fun t => ofQ (Rat.divInt t (C * F))).zip line)) _ = _
    rw [ih, bnd_ret]
    rfl
theorem zadd_small {f : Int} {T r : List Int} {k B : Nat} (hT : ∀ t ∈ T, t.natAbs ≤ k * B) (hr : ∀ m ∈ r, (f * m).natAbs ≤ B) : ∀ t ∈ zadd f T r, t.natAbs ≤ (k + 1) * B := fun t ht => by
  unfold zadd at ht
  rw [← List.map_uncurry_zip_eq_zipWith] at ht
  obtain ⟨⟨a, m⟩, hz, rfl⟩ := List.mem_map.mp ht
  have h1 := hT a (List.of_mem_zip hz).1
  have h2 := hr m (List.of_mem_zip hz).2
  show (a + f * m).natAbs ≤ _
  have := Int.natAbs_add_le a (f * m)
  rw [Nat.add_mul]
  omega
theorem stp_small {f : Int} {T r : List Int} {k B : Nat} (hT : ∀ t ∈ T, t.natAbs ≤ k * B) (hr : ∀ m ∈ r, (f * m).natAbs ≤ B) : ∀ t ∈ stp f T r, t.natAbs ≤ (k + 1) * B := fun t ht => by
  unfold stp at ht
  split at ht
  · exact zadd_small hT hr t ht
  · exact Nat.le_trans (hT t ht) (Nat.mul_le_mul_right _ (by omega))
end Dc
namespace Dc
open PySem PySem.Spec L2
def lcmP (P : List (List (List Fr))) : Int := lcmL P.flatten.flatten
def ovP (P : List (List (List Fr))) : List (List (List Int)) := P.map fun r => r.map (over_ (lcmP P))
def prodL (P : List (List (List Fr))) (x y : List Fr) : List Fr := (tot (intsL x) (intsL y) (ovP P) (List.replicate P.length 0)).map (toF (lcmL x * lcmL y * lcmP P))
/-- the products of a table -/
structure Tb (n : Nat) (P : List (List (List Fr))) : Prop where
  cub : Cub n P
  num : ∀ r ∈ P, ∀ l ∈ r, ∀ x ∈ l, Bd 900 x
  lcmb : (lcmP P).natAbs < 2 ^ 900
/-- a row -/
structure Rw (n : Nat) (x : List Fr) : Prop where
  len : x.length = n
  bd : ∀ z ∈ x, Bd 900 z
  lcm : (lcmL x).natAbs < 2 ^ 900
theorem Rw.red {n : Nat} {x : List Fr} (h : Rw n x) : ∀ z ∈ x, Red z := fun z hz => (h.bd z hz).red
theorem Tb.flat {n : Nat} {P : List (List (List Fr))} (h : Tb n P) : ∀ x ∈ P.flatten.flatten, Bd 900 x := fun x hx => by
  obtain ⟨l, hl, hx⟩ := List.mem_flatten.mp hx
  obtain ⟨r, hr, hl⟩ := List.mem_flatten.mp hl
  exact h.num r hr l hl x hx
theorem Tb.flen {n : Nat} {P : List (List (List Fr))} (h : Tb n P) : P.flatten.length = n * n := by rw [flat_len P h.cub.row, h.cub.len]
theorem Tb.fflen {n : Nat} {P : List (List (List Fr))} (h : Tb n P) : P.flatten.flatten.length = n * n * n := by
  rw [flat_len P.flatten (fun l hl => by
    obtain ⟨r, hr, hl⟩ := List.mem_flatten.mp hl
    exact h.cub.lin r hr l hl), h.flen]
theorem cube_le {n : Nat} (h : n ≤ 6) : n * n * n ≤ 216 := Nat.mul_le_mul (Nat.mul_le_mul h h) h
theorem Tb.lcm {n : Nat} {P : List (List (List Fr))} (h : Tb n P) (hn : n ≤ 6) : (lcmP P).natAbs < 2 ^ 900 := h.lcmb
theorem Tb.pos {n : Nat} {P : List (List (List Fr))} (h : Tb n P) : 0 < lcmP P := lcmL_pos fun x hx => (h.flat x hx).red
theorem Tb.dvd {n : Nat} {P : List (List (List Fr))} (h : Tb n P) : ∀ r ∈ P, ∀ l ∈ r, ∀ x ∈ l, x.2 ∣ lcmP P := fun r hr l hl x hx => lcmL_dvd (fun x hx => (h.flat x hx).red) (List.mem_flatten.mpr ⟨l, List.mem_flatten.mpr ⟨r, hr, hl⟩, hx⟩)
theorem Tb.ov {n : Nat} {P : List (List (List Fr))} (h : Tb n P) : Cub n (ovP P) := by
  refine ⟨by rw [ovP, List.length_map, h.cub.len], fun r hr => ?_, fun r hr l hl => ?_⟩
  · obtain ⟨q, hq, rfl⟩ := List.mem_map.mp hr
    rw [List.length_map, h.cub.row q hq]
  · obtain ⟨q, hq, rfl⟩ := List.mem_map.mp hr
    obtain ⟨m, hm, rfl⟩ := List.mem_map.mp hl
    rw [over_, List.length_map, h.cub.lin q hq m hm]
theorem Tb.ovlt {n : Nat} {P : List (List (List Fr))} (h : Tb n P) (hn : n ≤ 6) : ∀ r ∈ ovP P, ∀ l ∈ r, ∀ c ∈ l, c.natAbs < 2 ^ 1800 := fun r hr l hl c hc => by
  obtain ⟨q, hq, rfl⟩ := List.mem_map.mp hr
  obtain ⟨m, hm, rfl⟩ := List.mem_map.mp hl
  obtain ⟨x, hx, rfl⟩ := List.mem_map.mp hc
  exact ov_lt (h.num q hq m hm x hx) (h.lcm hn) h.pos
/-- the table's product -/
theorem table_mul {n : Nat} {P : List (List (List Fr))} {x y : List Fr} (h : Tb n P) (hn : n ≤ 6) (hx : Rw n x) (hy : Rw n y) : w_Table_product_without_checks (((ovP P).flatten, lcmP P, P, ()), x, y, ()) = ret (prodL P x y) := by
  rw [pwc_eq (m := 0) hn hx.len hy.len hx.bd hy.bd hx.lcm hy.lcm h.ov (fun r hr l hl c hc => pow_mono (h.ovlt hn r hr l hl c hc) (by decide)) h.pos (pow_mono (h.lcm hn) (by decide)), prodL, h.cub.len]
theorem check_rows_eq {rows : List (List Fr)} {n : Nat} (h : ∀ r ∈ rows, Rw n r) : w_check_rows (rows, (n : Int), ()) = ret () := by
  unfold w_check_rows wb_check_rows
  simp only [bnd_ret, bnd_assoc, bnd_grd, bnd_ifs, grd_true]
  rw [forW_eq (g := fun _ _ => ()) (fun r hr s => by
    rw [check_numbers_eq (h r hr).red, bnd_ret]), bnd_ret, sq_nx, forW_eq (g := fun _ _ => ()) (fun r hr s => by
    rw [ite_no (by simp [(h r hr).len])]), bnd_ret]
  rfl
theorem table_call {n : Nat} {P : List (List (List Fr))} {x y : List Fr} (h : Tb n P) (hn : n ≤ 6) (hx : Rw n x) (hy : Rw n y) : w_Table_call (((ovP P).flatten, lcmP P, P, ()), x, y, ()) = ret (prodL P x y) := by
  unfold w_Table_call wb_Table_call
  simp only [bnd_ret, bnd_assoc, bnd_grd, grd_true, fnR_bnd, fnR_ret]
  rw [h.cub.len, check_rows_eq (n := n) (fun r hr => by
    simp only [List.mem_cons, List.not_mem_nil, or_false] at hr
    rcases hr with rfl | rfl
    · exact hx
    · exact hy), bnd_ret, table_mul h hn hx hy, bnd_ret]
/-- the law's product -/
theorem times_step {n : Nat} {P : List (List (List Fr))} {x y : List Fr} (h : Tb n P) (hn : n ≤ 6) (hx : Rw n x) (hy : Rw n y) (i j : Nat) (hi : i < n) (hj : j < n) (T : List Int) (hT : T.length = n) (k : Nat) (hk : k ≤ 36) (bT : ∀ t ∈ T, t.natAbs ≤ k * 2 ^ 7340) (hia : i < x.length) (hjb : j < y.length) (hiP : i < P.length) (hjP : j < P[i].length) :
    bnd (w_law_mul (x[i], y[j], ())) (fun v => bnd (ite (!decide (v.1 = 0)) (bnd (mapW (fun y1 : Fr × Fr => ite (decide (y1.2.1 = 0)) (ret y1.1) (bnd (w_law_mul (v, y1.2, ())) fun u => w_law_add (y1.1, u, ()))) ((T.map (toF (lcmL x * lcmL y * lcmP P))).zip P[i][j])) fun w => ret (Fl.nx w)) (ret (Fl.nx (T.map (toF (lcmL x * lcmL y * lcmP P)))))) (sq fun s => ret (Fl.nx s)))
      = (ret (Fl.nx ((stp ((x[i].1 * Int.fdiv (lcmL x) x[i].2) * (y[j].1 * Int.fdiv (lcmL y) y[j].2)) T (over_ (lcmP P) P[i][j])).map (toF (lcmL x * lcmL y * lcmP P)))) : W (Fl (List Fr) (List Fr) (List Fr))) ∧ ∀ t ∈ stp ((x[i].1 * Int.fdiv (lcmL x) x[i].2) * (y[j].1 * Int.fdiv (lcmL y) y[j].2)) T (over_ (lcmP P) P[i][j]), t.natAbs ≤ (k + 1) * 2 ^ 7340 := by
  have bx := hx.bd _ (List.getElem_mem hia)
  have by_ := hy.bd _ (List.getElem_mem hjb)
  have zx := hx.lcm
  have zy := hy.lcm
  have zP := h.lcm hn
  have px := lcmL_pos hx.red
  have py := lcmL_pos hy.red
  have pP := h.pos
  have dx := lcmL_dvd hx.red (List.getElem_mem hia)
  have dy := lcmL_dvd hy.red (List.getElem_mem hjb)
  obtain ⟨fd, fe⟩ := fee_eq bx.red by_.red px py dx dy
  have hC : 0 < lcmL x * lcmL y := Int.mul_pos px py
  have zC : (lcmL x * lcmL y).natAbs < 2 ^ 1800 := by rw [Int.natAbs_mul]; exact mul_lt_pow zx zy
  have hD : (lcmL x * lcmL y * lcmP P).natAbs < 2 ^ 3000 := by rw [Int.natAbs_mul]; exact pow_mono (mul_lt_pow zC zP) (by decide)
  have bf : Bd 1800 (ofQ (toQ x[i] * toQ y[j])) := by
    rw [← toQ_mul]
    exact bd_ofQ (Int.mul_ne_zero bx.ne by_.ne) (by rw [Int.natAbs_mul]; exact pow_mono (mul_lt_pow bx.sz.1 by_.sz.1) (by decide)) (by rw [Int.natAbs_mul]; exact pow_mono (mul_lt_pow bx.sz.2 by_.sz.2) (by decide))
  rw [law_mul_eq bx.ne by_.ne (bx.up (by decide)).sz (by_.up (by decide)).sz, bnd_ret, ← fe]
  have hl := h.cub.lin _ (List.getElem_mem hiP) _ (List.getElem_mem hjP)
  have hline : ∀ z ∈ P[i][j], Bd 900 z ∧ z.2 ∣ lcmP P := fun z hz => ⟨h.num _ (List.getElem_mem hiP) _ (List.getElem_mem hjP) z hz, h.dvd _ (List.getElem_mem hiP) _ (List.getElem_mem hjP) z hz⟩
  have tT : ∀ t ∈ T, t.natAbs < 2 ^ 8000 := fun t ht => by
    have b1 := bT t ht
    have b2 : k * 2 ^ 7340 < 2 ^ (6 + 7340) := by
      rw [Nat.pow_add]
      exact (Nat.mul_lt_mul_right (Nat.pow_pos (by decide))).mpr (by omega)
    exact pow_mono (Nat.lt_of_le_of_lt b1 b2) (by decide)
  generalize hfee : ofQ (toQ x[i] * toQ y[j]) = fee at *
  have cz : fee.1 * Int.fdiv (lcmL x * lcmL y) fee.2 ≠ 0 ↔ fee.1 ≠ 0 := by
    obtain ⟨q, hq⟩ := fd
    have q0 : q ≠ 0 := by rintro rfl; simp at hq; omega
    rw [hq, Int.fdiv_eq_ediv_of_nonneg _ (by have := bf.red.1; omega), Int.mul_ediv_cancel_left _ bf.ne]
    constructor
    · intro z y; exact z (by rw [y, Int.zero_mul])
    · intro z; exact Int.mul_ne_zero z q0
  refine ⟨?_, stp_small bT fun m hm => ?_⟩
  · by_cases q : fee.1 = 0
    · rw [ite_no (by simp [q]), bnd_ret, sq_nx, stp, if_neg (by rw [cz]; simp [q])]
    · rw [ite_ok (by simp [q]), due_row bf hC pP fd hD T P[i][j] (by rw [hl, hT]) (fun z hz => ⟨(hline z hz).1.up (by decide), (hline z hz).2⟩) tT, bnd_ret, bnd_ret, sq_nx, stp, if_pos (cz.mpr q)]
  · obtain ⟨z, hz, rfl⟩ := List.mem_map.mp hm
    rw [fe, Int.natAbs_mul, Int.natAbs_mul]
    exact Nat.le_of_lt (pow_mono (mul_lt_pow (mul_lt_pow (ov_lt bx zx px) (ov_lt by_ zy py)) (ov_lt (hline z hz).1 zP pP)) (by decide))
theorem law_times_all {n : Nat} {P : List (List (List Fr))} {x y : List Fr} (h : Tb n P) (hn : n ≤ 6) (hx : Rw n x) (hy : Rw n y) : w_law_times (P, x, y, ()) = ret (prodL P x y) ∧ (tot (intsL x) (intsL y) (ovP P) (List.replicate n 0)).length = n ∧ ∀ t ∈ tot (intsL x) (intsL y) (ovP P) (List.replicate n 0), t.natAbs ≤ (n * n) * 2 ^ 7340 := by
  have ia : (intsL x).length = n := by rw [intsL, List.length_map, hx.len]
  have ib : (intsL y).length = n := by rw [intsL, List.length_map, hy.len]
  unfold w_law_times wb_law_times
  simp only [bnd_ret, bnd_assoc, bnd_grd, grd_true, fnR_bnd, fnR_ite, fnR_grd, fnR_ret, sq_nx, sq_rt]
  rw [h.cub.len, grd_ok (show repOk ([(0, 1)] : List Fr).length (n : Int) = true from repOk1 (by omega) (by omega)), grd_ok (rngOk_n (by omega)), flat1, Int.toNat_natCast]
  have lz : ((intsL x).zip (ovP P)).length = n := by rw [List.length_zip, ia, h.ov.len]; omega
  have e0 : List.replicate n ((0, 1) : Fr) = (List.replicate n (0 : Int)).map (toF (lcmL x * lcmL y * lcmP P)) := by
    rw [List.map_replicate]
    congr 1
    unfold toF
    rw [Rat.zero_divInt]
    rfl
  rw [e0]
  have key := rng_loop (δ := Empty) (β := List Fr) (R := fun T : List Int => T.map (toF (lcmL x * lcmL y * lcmP P))) (g := fun T (z : Int × List (List Int)) => inn z.1 (intsL y) T z.2) (I := fun i T => T.length = n ∧ ∀ t ∈ T, t.natAbs ≤ (i * n) * 2 ^ 7340)
    (f := fun s y1 => grd (rngOk 0 (n : Int)) (bnd (forW (fun s2 y2 => grd (ixOk x y1) (grd (ixOk y y2) (bnd (w_law_mul (ixAt x y1, ixAt y y2, ())) fun v => bnd (ite (!decide (v.1 = 0)) (grd (ixOk P y1) (grd (ixOk (ixAt P y1) y2) (bnd (mapW (fun y3 : Fr × Fr => ite (decide (y3.2.1 = 0)) (ret y3.1) (bnd (w_law_mul (v, y3.2, ())) fun u => w_law_add (y3.1, u, ()))) (s2.zip (ixAt (ixAt P y1) y2))) fun w => ret (Fl.nx w)))) (ret (Fl.nx s2))) (sq fun s => ret (Fl.nx s))))) s (rangeF 0 n)) (sq fun s => ret (Fl.nx s))))
    ((intsL x).zip (ovP P)) 0 (List.replicate n 0) ⟨List.length_replicate .., fun t ht => by rw [List.eq_of_mem_replicate ht]; simp⟩ fun i hi T hT => ?_
  · rw [lz] at key
    rw [Nat.zero_add] at key
    refine ⟨(congrArg (fun z => bnd z _) key.1).trans ?_, key.2.1, key.2.2⟩
    rw [bnd_ret, prodL, h.cub.len]
    rfl
  · rw [Nat.zero_add]
    rw [Nat.zero_add] at hT
    rw [lz] at hi
    have hia : i < x.length := by rw [hx.len]; exact hi
    have hiP : i < P.length := by rw [h.cub.len]; exact hi
    have hii : i < (intsL x).length := by rw [ia]; exact hi
    have hio : i < (ovP P).length := by rw [h.ov.len]; exact hi
    have lr := h.cub.row _ (List.getElem_mem hiP)
    have eo : (ovP P)[i] = P[i].map (over_ (lcmP P)) := by simp [ovP]
    have ea : (intsL x)[i] = x[i].1 * Int.fdiv (lcmL x) x[i].2 := by simp [intsL]
    have lb : ((intsL y).zip (ovP P)[i]).length = n := by rw [List.length_zip, ib, eo, List.length_map, lr]; omega
    rw [List.getElem_zip]
    have xi := ix_nat hia
    have pi_ := ix_nat hiP
    have k2 := rng_loop (δ := List Fr) (β := List Fr) (R := fun T : List Int => T.map (toF (lcmL x * lcmL y * lcmP P))) (g := fun T (z : Int × List Int) => stp ((intsL x)[i] * z.1) T z.2) (I := fun j T => T.length = n ∧ ∀ t ∈ T, t.natAbs ≤ (i * n + j) * 2 ^ 7340)
      (f := fun s2 y2 => grd (ixOk x (i : Int)) (grd (ixOk y y2) (bnd (w_law_mul (ixAt x (i : Int), ixAt y y2, ())) fun v => bnd (ite (!decide (v.1 = 0)) (grd (ixOk P (i : Int)) (grd (ixOk (ixAt P (i : Int)) y2) (bnd (mapW (fun y3 : Fr × Fr => ite (decide (y3.2.1 = 0)) (ret y3.1) (bnd (w_law_mul (v, y3.2, ())) fun u => w_law_add (y3.1, u, ()))) (s2.zip (ixAt (ixAt P (i : Int)) y2))) fun w => ret (Fl.nx w)))) (ret (Fl.nx s2))) (sq fun s => ret (Fl.nx s)))))
      ((intsL y).zip (ovP P)[i]) 0 T ⟨hT.1, by simpa using hT.2⟩ fun j hj T2 hT2 => ?_
    · rw [lb] at k2
      refine ⟨?_, k2.2.1, fun t ht => ?_⟩
      · show grd (rngOk 0 (n : Int)) _ = _
        rw [grd_ok (rngOk_n (by omega))]
        exact congrArg (fun z => bnd z _) k2.1
      · have q := k2.2.2 t ht
        rw [Nat.zero_add] at q
        rw [Nat.add_mul, Nat.one_mul]
        exact q
    · rw [Nat.zero_add]
      rw [Nat.zero_add] at hT2
      rw [lb] at hj
      have hjb : j < y.length := by rw [hy.len]; exact hj
      have hjP : j < P[i].length := by rw [lr]; exact hj
      have hk : i * n + j ≤ 35 := by
        have : i * n ≤ 5 * 6 := Nat.mul_le_mul (by omega) hn
        omega
      obtain ⟨s1, s2⟩ := times_step h hn hx hy i j hi hj T2 hT2.1 (i * n + j) (by omega) hT2.2 hia hjb hiP hjP
      have yj := ix_nat hjb
      have pj := ix_nat hjP
      have eb : (intsL y)[j]'(by rw [ib]; exact hj) = y[j].1 * Int.fdiv (lcmL y) y[j].2 := by simp [intsL]
      have el : ((ovP P)[i])[j]'(by rw [eo, List.length_map]; exact hjP) = over_ (lcmP P) P[i][j] := by simp [ovP]
      rw [List.getElem_zip]
      dsimp only
      rw [ea, eb, el]
      refine ⟨?_, ?_, s2⟩
      · rw [grd_ok xi.1, grd_ok yj.1, xi.2, yj.2]
        simp only [pi_.1, pi_.2, pj.1, pj.2, grd_true]
        exact s1
      · rw [stp_len (by rw [over_, List.length_map, h.cub.lin _ (List.getElem_mem hiP) _ (List.getElem_mem hjP), hT2.1]), hT2.1]
theorem law_times_eq {n : Nat} {P : List (List (List Fr))} {x y : List Fr} (h : Tb n P) (hn : n ≤ 6) (hx : Rw n x) (hy : Rw n y) : w_law_times (P, x, y, ()) = ret (prodL P x y) := (law_times_all h hn hx hy).1
theorem prodL_gen {n m : Nat} {P : List (List (List Fr))} {x y : List Fr} (h : Tb n P) (hn : n ≤ 6) (hx : Rw n x) (hy : Rw n y) (hD : (lcmL x * lcmL y * lcmP P).natAbs < 2 ^ m) : (prodL P x y).length = n ∧ ∀ z ∈ prodL P x y, Red z ∧ z.1.natAbs < 2 ^ 8000 ∧ z.2.natAbs < 2 ^ m := by
  obtain ⟨_, h1, h2⟩ := law_times_all h hn hx hy
  rw [← h.cub.len] at h1 h2
  refine ⟨by rw [prodL, List.length_map, h1, h.cub.len], fun z hz => ?_⟩
  obtain ⟨t, ht, rfl⟩ := List.mem_map.mp hz
  have b := h2 t ht
  rw [h.cub.len] at b
  have n2 : n * n ≤ 6 * 6 := Nat.mul_le_mul hn hn
  have px := lcmL_pos hx.red
  have py := lcmL_pos hy.red
  have pP := h.pos
  have b2 : (n * n) * 2 ^ 7340 < 2 ^ (6 + 7340) := by
    rw [Nat.pow_add]
    exact (Nat.mul_lt_mul_right (Nat.pow_pos (by decide))).mpr (by omega)
  have l := low_le (a := t) (Int.mul_ne_zero (Int.mul_ne_zero (show lcmL x ≠ 0 by omega) (show lcmL y ≠ 0 by omega)) (show lcmP P ≠ 0 by omega))
  exact ⟨red_ofQ _, Nat.lt_of_le_of_lt l.1 (pow_mono (Nat.lt_of_le_of_lt b b2) (by decide)), Nat.lt_of_le_of_lt l.2 hD⟩
theorem prodL_bd {n : Nat} {P : List (List (List Fr))} {x y : List Fr} (h : Tb n P) (hn : n ≤ 6) (hx : Rw n x) (hy : Rw n y) : (prodL P x y).length = n ∧ ∀ z ∈ prodL P x y, Bd 8000 z := by
  have zx := hx.lcm
  have zy := hy.lcm
  have zC : (lcmL x * lcmL y).natAbs < 2 ^ 1800 := by rw [Int.natAbs_mul]; exact mul_lt_pow zx zy
  obtain ⟨h1, h2⟩ := prodL_gen h hn hx hy (m := 8000) (by rw [Int.natAbs_mul]; exact pow_mono (mul_lt_pow zC (h.lcm hn)) (by decide))
  exact ⟨h1, fun z hz => ⟨(h2 z hz).1, (h2 z hz).2.1, (h2 z hz).2.2⟩⟩
end Dc
namespace Dc
open PySem PySem.Spec L2
theorem fld_add {β : Type} : ∀ (xs acc : List β), acc.length + xs.length ≤ 16777216 → fldW (fun acc y => addW (ret y) acc) acc xs = ret (acc ++ xs)
  | [], acc, _ => by rw [List.append_nil]; rfl
  | x :: r, acc, h => by
    simp at h
    show bnd (addW (ret x) acc) _ = _
    unfold addW
    rw [bnd_ret, grd_ok (decide_eq_true (by omega)), bnd_ret]
    have := fld_add r (acc ++ [x]) (by simp; omega)
    unfold addW at this
    rw [this, List.append_assoc]
    rfl
theorem fld_flat {β : Type} : ∀ (xs : List (List β)) (acc : List β), acc.length + xs.flatten.length ≤ 16777216 → fldW (fun acc y => fldW (fun acc z => addW (ret z) acc) acc y) acc xs = ret (acc ++ xs.flatten)
  | [], acc, _ => by rw [List.flatten_nil, List.append_nil]; rfl
  | x :: r, acc, h => by
    rw [List.flatten_cons, List.length_append] at h
    show bnd (fldW _ acc x) _ = _
    rw [fld_add x acc (by omega), bnd_ret, fld_flat r (acc ++ x) (by rw [List.length_append]; omega), List.append_assoc]
    rfl
theorem fld_flat2 {β : Type} : ∀ (xs : List (List (List β))) (acc : List β), acc.length + xs.flatten.flatten.length ≤ 16777216 → fldW (fun acc x => fldW (fun acc y => fldW (fun acc z => addW (ret z) acc) acc y) acc x) acc xs = ret (acc ++ xs.flatten.flatten)
  | [], acc, _ => by simp; rfl
  | x :: r, acc, h => by
    rw [List.flatten_cons, List.flatten_append, List.length_append] at h
    show bnd (fldW _ acc x) _ = _
    rw [fld_flat x acc (by omega), bnd_ret, fld_flat2 r (acc ++ x.flatten) (by rw [List.length_append]; omega), List.append_assoc, List.flatten_cons, List.flatten_append]
theorem slice_at {α : Type} {l : List α} {i n : Nat} (h : i * n + n ≤ l.length) :
    (l.drop (HT.sIx l.length 0 (some ((i : Int) * (n : Int))))).take (HT.sIx l.length l.length (some ((i : Int) * (n : Int) + (n : Int))) - HT.sIx l.length 0 (some ((i : Int) * (n : Int)))) = (l.drop (i * n)).take n := by
  have en : ((i : Int) * (n : Int)) = ((i * n : Nat) : Int) := by simp
  have en2 : ((i : Int) * (n : Int) + (n : Int)) = ((i * n + n : Nat) : Int) := by simp
  rw [en2, en, HT.sIx_nat, HT.sIx_nat, Nat.min_eq_left h, Nat.min_eq_left (by omega), Nat.add_sub_cancel_left]
theorem rg_ok {n : Nat} (h1 : 1 ≤ n) (h6 : n ≤ 6) : rgOk 0 ((n : Int) * (n : Int) * (n : Int)) (n : Int) = true ∧ rgN 0 ((n : Int) * (n : Int) * (n : Int)) (n : Int) = n * n := by
  have : n = 1 ∨ n = 2 ∨ n = 3 ∨ n = 4 ∨ n = 5 ∨ n = 6 := by omega
  rcases this with rfl | rfl | rfl | rfl | rfl | rfl <;> exact ⟨by decide +kernel, by decide +kernel⟩
theorem cells_eq {n : Nat} {rows : List (List Fr)} {F : Int} (hr : ∀ r ∈ rows, r.length = n) :
    (stepF 0 (n : Int) rows.length).map (fun y => ((rows.flatten.map fun x => x.1 * Int.fdiv F x.2).drop (HT.sIx (rows.flatten.map fun x => x.1 * Int.fdiv F x.2).length 0 (some y))).take (HT.sIx (rows.flatten.map fun x => x.1 * Int.fdiv F x.2).length (rows.flatten.map fun x => x.1 * Int.fdiv F x.2).length (some (y + (n : Int))) - HT.sIx (rows.flatten.map fun x => x.1 * Int.fdiv F x.2).length 0 (some y))) = rows.map (over_ F) := by
  refine List.ext_getElem (by rw [List.length_map, List.length_map, stepF_len]) fun i h1 h2 => ?_
  rw [List.length_map, stepF_len] at h1
  rw [List.getElem_map, List.getElem_map]
  have e : (stepF 0 (n : Int) rows.length)[i]'(by rw [stepF_len]; exact h1) = (i : Int) * (n : Int) := by
    have := stepF_get 0 (n : Int) rows.length i _ (List.getElem?_eq_getElem (by rw [stepF_len]; exact h1))
    rw [this, Int.zero_add]
  rw [e]
  have fl : (rows.flatten.map fun x => x.1 * Int.fdiv F x.2).length = rows.length * n := by rw [List.length_map, flat_len rows hr]
  have b : i * n + n ≤ rows.length * n := by
    have := Nat.mul_le_mul_right n (show i + 1 ≤ rows.length by omega)
    rw [Nat.add_mul] at this
    omega
  rw [slice_at (by rw [fl]; exact b), ← List.map_drop, ← List.map_take, flat_slice rows i h1 hr]
  rfl
theorem ov_flat (P : List (List (List Fr))) (F : Int) : (P.map fun r => r.map (over_ F)).flatten = P.flatten.map (over_ F) := by
  rw [List.map_flatten]
theorem all_true {α : Type} : ∀ l : List α, (l.map fun _ => true).all id = true
  | [] => rfl
  | _ :: r => by rw [List.map_cons, List.all_cons, all_true r]; rfl
theorem table_init {n : Nat} {P : List (List (List Fr))} (h : Tb n P) (h1 : 1 ≤ n) (hn : n ≤ 6) : w_Table_init (P, ()) = ret ((ovP P).flatten, lcmP P, P, ()) := by
  unfold w_Table_init wb_Table_init
  simp only [bnd_ret, bnd_assoc, bnd_grd, grd_true, fnR_bnd, fnR_ite, fnR_grd, fnR_ret, sq_nx, sq_rt]
  rw [forW_eq (g := fun _ _ => ()) (fun r hr s => by
    rw [forW_eq (g := fun _ _ => ()) (fun l hl s => by
      rw [check_numbers_eq fun x hx => (h.num r hr l hl x hx).red, bnd_ret]), bnd_ret]
    rfl), bnd_ret, sq_nx, h.cub.len, mapW_eq (g := fun _ => true) (fun r hr => by
    rw [h.cub.row r hr, ite_ok (decide_eq_true rfl), mapW_eq (g := fun _ => true) (fun l hl => by rw [h.cub.lin r hr l hl, decide_eq_true rfl]), bnd_ret, all_true]), bnd_ret]
  rw [all_true, ite_no (show decide ((n : Int) = 0) = false from decide_eq_false (by omega)), bnd_ret, ite_no (show (!true) = false from rfl), bnd_ret, sq_nx]
  have c216 := cube_le hn
  have ff := h.fflen
  rw [fld_flat2 P [] (by rw [ff]; simp; omega), bnd_ret, List.nil_append, integers_of_eq (fun x hx => (h.flat x hx).red) (fun x hx => ((h.flat x hx).up (by decide)).sz) (lcmL_z (h.lcm hn)), bnd_ret]
  obtain ⟨r1, r2⟩ := rg_ok h1 hn
  have n2 : n * n ≤ 6 * 6 := Nat.mul_le_mul hn hn
  have en : ((n : Int) * (n : Int)) = ((n * n : Nat) : Int) := by simp
  rw [grd_ok (mulOk_of (n := 64) (m := 64) (i := (n : Int)) (j := (n : Int)) (by omega) (by omega)), grd_ok (mulOk_of (n := 64) (m := 64) (i := (n : Int) * (n : Int)) (j := (n : Int)) (by rw [en]; omega) (by omega)), grd_ok r1, r2, ← h.flen]
  have cm : mapW (fun y => ret (((P.flatten.flatten.map fun x => x.1 * Int.fdiv (lcmP P) x.2).drop (HT.sIx (P.flatten.flatten.map fun x => x.1 * Int.fdiv (lcmP P) x.2).length 0 (some y))).take (HT.sIx (P.flatten.flatten.map fun x => x.1 * Int.fdiv (lcmP P) x.2).length (P.flatten.flatten.map fun x => x.1 * Int.fdiv (lcmP P) x.2).length (some (y + (n : Int))) - HT.sIx (P.flatten.flatten.map fun x => x.1 * Int.fdiv (lcmP P) x.2).length 0 (some y)))) (stepF 0 (n : Int) P.flatten.length) = ret (P.flatten.map (over_ (lcmP P))) := by
    rw [mapW_eq (g := _) fun y _ => rfl]
    exact congrArg ret (cells_eq fun l hl => by
      obtain ⟨r, hr, hl⟩ := List.mem_flatten.mp hl
      exact h.cub.lin r hr l hl)
  refine (congrArg (fun z => fnI (bnd z fun v => ret (Fl.nx (v, lcmP P, P, ())))) cm).trans ?_
  rw [ovP, ov_flat]
  rfl
theorem table_products {c : List (List Int)} {b : Int} {P : List (List (List Fr))} : w_Table_products ((c, b, P, ()), ()) = ret P := rfl
theorem table_size {c : List (List Int)} {b : Int} {P : List (List (List Fr))} : w_Table_size ((c, b, P, ()), ()) = ret (P.length : Int) := by
  unfold w_Table_size wb_Table_size
  simp only [bnd_ret, bnd_assoc, bnd_grd, grd_true, fnR_bnd, fnR_ret]
end Dc
namespace Dc
open PySem PySem.Spec L2
/-! ### the product in fractions -/
def zaddQ (f : Rat) (T r : List Rat) : List Rat := List.zipWith (fun t m => t + f * m) T r
def innQ (a : Rat) (b T : List Rat) (P : List (List Rat)) : List Rat := (b.zip P).foldl (fun T z => zaddQ (a * z.1) T z.2) T
def totQ (a b : List Rat) (P : List (List (List Rat))) (T : List Rat) : List Rat := (a.zip P).foldl (fun T z => innQ z.1 b T z.2) T
def addQ (T U : List Rat) : List Rat := List.zipWith (fun t u => t + u) T U
theorem zaddQ_len {f : Rat} {T r : List Rat} (h : r.length = T.length) : (zaddQ f T r).length = T.length := by
  rw [zaddQ, List.length_zipWith]; omega
theorem zaddQ_zero : ∀ {T r : List Rat}, r.length = T.length → zaddQ 0 T r = T
  | [], _, _ => rfl
  | _ :: _, [], h => by simp at h
  | t :: T, m :: r, h => by
    show (t + 0 * m) :: zaddQ 0 T r = _
    rw [zaddQ_zero (by simpa using h), Rat.zero_mul, Rat.add_zero]
theorem innQ_len {a : Rat} : ∀ {b T : List Rat} {P : List (List Rat)}, (∀ l ∈ P, l.length = T.length) → (innQ a b T P).length = T.length
  | [], T, P, _ => by simp [innQ]
  | _ :: _, T, [], _ => by simp [innQ]
  | z :: b, T, l :: P, h => by
    have hl := h l (List.mem_cons_self ..)
    have e := zaddQ_len (f := a * z) hl
    show (innQ a b (zaddQ (a * z) T l) P).length = _
    rw [innQ_len (fun q hq => by rw [e]; exact h q (List.mem_cons_of_mem _ hq)), e]
theorem innQ_zero : ∀ {b T : List Rat} {P : List (List Rat)}, (∀ l ∈ P, l.length = T.length) → innQ 0 b T P = T
  | [], T, P, _ => by simp [innQ]
  | _ :: _, T, [], _ => by simp [innQ]
  | z :: b, T, l :: P, h => by
    show innQ 0 b (zaddQ (0 * z) T l) P = _
    rw [Rat.zero_mul, zaddQ_zero (h l (List.mem_cons_self ..)), innQ_zero fun q hq => h q (List.mem_cons_of_mem _ hq)]
/-! from integers over a common denominator -/
def qd (D : Int) (T : List Int) : List Rat := T.map fun t => Rat.divInt t D
theorem qd_zadd {c C F : Int} (hC : C ≠ 0) (hF : F ≠ 0) : ∀ {T r : List Int}, qd (C * F) (zadd c T r) = zaddQ (Rat.divInt c C) (qd (C * F) T) (qd F r)
  | [], _ => rfl
  | _ :: _, [] => rfl
  | t :: T, m :: r => by
    show Rat.divInt (t + c * m) (C * F) :: qd (C * F) (zadd c T r) = (Rat.divInt t (C * F) + Rat.divInt c C * Rat.divInt m F) :: zaddQ _ (qd (C * F) T) (qd F r)
    rw [qd_zadd hC hF, Rat.divInt_mul_divInt, divInt_add_same (Int.mul_ne_zero hC hF)]
theorem qd_stp {c C F : Int} (hC : C ≠ 0) (hF : F ≠ 0) {T r : List Int} (h : r.length = T.length) : qd (C * F) (stp c T r) = zaddQ (Rat.divInt c C) (qd (C * F) T) (qd F r) := by
  unfold stp
  split
  · exact qd_zadd hC hF
  · rename_i q
    have q : c = 0 := by simpa using q
    rw [q, Rat.zero_divInt, zaddQ_zero (by simpa [qd] using h)]
theorem qd_inn {a A B F : Int} (hA : A ≠ 0) (hB : B ≠ 0) (hF : F ≠ 0) : ∀ {b T : List Int} {P : List (List Int)}, (∀ l ∈ P, l.length = T.length) → qd (A * B * F) (inn a b T P) = innQ (Rat.divInt a A) (qd B b) (qd (A * B * F) T) (P.map (qd F)) ∧ (inn a b T P).length = T.length
  | [], T, P, _ => ⟨by simp [inn, innQ, qd], by simp [inn]⟩
  | _ :: _, T, [], _ => ⟨by simp [inn, innQ, qd], by simp [inn]⟩
  | z :: b, T, l :: P, h => by
    have hl := h l (List.mem_cons_self ..)
    have e := stp_len (c := a * z) hl
    obtain ⟨i1, i2⟩ := qd_inn hA hB hF (a := a) (b := b) (T := stp (a * z) T l) (P := P) fun q hq => by rw [e]; exact h q (List.mem_cons_of_mem _ hq)
    refine ⟨?_, i2.trans e⟩
    show qd _ (inn a b (stp (a * z) T l) P) = innQ _ (qd B b) (zaddQ (Rat.divInt a A * Rat.divInt z B) (qd _ T) (qd F l)) (P.map (qd F))
    rw [i1, qd_stp (Int.mul_ne_zero hA hB) hF hl, Rat.divInt_mul_divInt]
theorem qd_tot {A B F : Int} (hA : A ≠ 0) (hB : B ≠ 0) (hF : F ≠ 0) : ∀ {a b T : List Int} {P : List (List (List Int))}, (∀ r ∈ P, ∀ l ∈ r, l.length = T.length) → qd (A * B * F) (tot a b P T) = totQ (qd A a) (qd B b) (P.map fun r => r.map (qd F)) (qd (A * B * F) T)
  | [], b, T, P, _ => by simp [tot, totQ, qd]
  | _ :: _, b, T, [], _ => by simp [tot, totQ, qd]
  | z :: a, b, T, r :: P, h => by
    obtain ⟨i1, i2⟩ := qd_inn hA hB hF (a := z) (b := b) (T := T) (P := r) (h r (List.mem_cons_self ..))
    show qd _ (tot a b P (inn z b T r)) = totQ (qd A a) (qd B b) (P.map fun r => r.map (qd F)) (innQ (Rat.divInt z A) (qd B b) (qd _ T) (r.map (qd F)))
    rw [← i1]
    exact qd_tot hA hB hF fun q hq l hl => by rw [i2]; exact h q (List.mem_cons_of_mem _ hq) l hl
abbrev tQ (l : List Fr) : List Rat := l.map toQ
def prodQ (P : List (List (List Fr))) (x y : List Fr) : List Rat := totQ (tQ x) (tQ y) (P.map fun r => r.map tQ) (List.replicate P.length 0)
theorem qd_over {F : Int} {l : List Fr} (hF : 0 < F) (h : ∀ x ∈ l, 1 ≤ x.2 ∧ x.2 ∣ F) : qd F (over_ F l) = tQ l := by
  unfold qd over_ tQ
  rw [List.map_map]
  exact List.map_congr_left fun x hx => over (h x hx).1 hF (h x hx).2
theorem prodL_Q {n : Nat} {P : List (List (List Fr))} {x y : List Fr} (h : Tb n P) (hx : Rw n x) (hy : Rw n y) : prodL P x y = (prodQ P x y).map ofQ := by
  have px := lcmL_pos hx.red
  have py := lcmL_pos hy.red
  have pP := h.pos
  have e : (tot (intsL x) (intsL y) (ovP P) (List.replicate P.length 0)).map (toF (lcmL x * lcmL y * lcmP P)) = (qd (lcmL x * lcmL y * lcmP P) (tot (intsL x) (intsL y) (ovP P) (List.replicate P.length 0))).map ofQ := by
    unfold qd
    rw [List.map_map]
    rfl
  rw [prodL, e, qd_tot (by omega) (by omega) (by omega) (fun r hr l hl => by rw [List.length_replicate, h.cub.len]; exact h.ov.lin r hr l hl), prodQ]
  have e1 : qd (lcmL x) (intsL x) = tQ x := qd_over px fun z hz => ⟨(hx.bd z hz).red.1, lcmL_dvd hx.red hz⟩
  have e2 : qd (lcmL y) (intsL y) = tQ y := qd_over py fun z hz => ⟨(hy.bd z hz).red.1, lcmL_dvd hy.red hz⟩
  have e3 : ((ovP P).map fun r => r.map (qd (lcmP P))) = P.map fun r => r.map tQ := by
    unfold ovP
    rw [List.map_map]
    refine List.map_congr_left fun r hr => ?_
    show (r.map (over_ (lcmP P))).map (qd (lcmP P)) = _
    rw [List.map_map]
    exact List.map_congr_left fun l hl => qd_over pP fun z hz => ⟨(h.num r hr l hl z hz).red.1, h.dvd r hr l hl z hz⟩
  have e4 : qd (lcmL x * lcmL y * lcmP P) (List.replicate P.length 0) = List.replicate P.length 0 := by
    unfold qd
    rw [List.map_replicate, Rat.zero_divInt]
  rw [e1, e2, e3, e4]
/-! ### sums -/
theorem zaddQ_add {f g : Rat} : ∀ {T U r : List Rat}, zaddQ (f + g) (addQ T U) r = addQ (zaddQ f T r) (zaddQ g U r)
  | [], _, _ => rfl
  | _ :: _, [], [] => rfl
  | _ :: _, [], _ :: _ => rfl
  | _ :: _, _ :: _, [] => rfl
  | t :: T, u :: U, m :: r => by
    show ((t + u) + (f + g) * m) :: zaddQ (f + g) (addQ T U) r = ((t + f * m) + (u + g * m)) :: addQ (zaddQ f T r) (zaddQ g U r)
    rw [zaddQ_add]
    congr 1
    grind
theorem innQ_add {a : Rat} : ∀ {b c T U : List Rat} {P : List (List Rat)}, b.length = c.length → innQ a (addQ b c) (addQ T U) P = addQ (innQ a b T P) (innQ a c U P)
  | [], [], T, U, P, _ => by simp [innQ, addQ]
  | [], _ :: _, _, _, _, h => by simp at h
  | _ :: _, [], _, _, _, h => by simp at h
  | z :: b, w :: c, T, U, [], _ => by simp [innQ]
  | z :: b, w :: c, T, U, l :: P, h => by
    show innQ a (addQ b c) (zaddQ (a * (z + w)) (addQ T U) l) P = addQ (innQ a b (zaddQ (a * z) T l) P) (innQ a c (zaddQ (a * w) U l) P)
    rw [Rat.mul_add, zaddQ_add, innQ_add (by simpa using h)]
theorem totQ_add : ∀ {a b c T U : List Rat} {P : List (List (List Rat))}, b.length = c.length → totQ a (addQ b c) P (addQ T U) = addQ (totQ a b P T) (totQ a c P U)
  | [], b, c, T, U, P, _ => by simp [totQ]
  | _ :: _, b, c, T, U, [], _ => by simp [totQ]
  | z :: a, b, c, T, U, r :: P, h => by
    show totQ a (addQ b c) P (innQ z (addQ b c) (addQ T U) r) = addQ (totQ a b P (innQ z b T r)) (totQ a c P (innQ z c U r))
    rw [innQ_add h, totQ_add h]
theorem addQ_zero : ∀ n : Nat, addQ (List.replicate n 0) (List.replicate n 0) = List.replicate n 0
  | 0 => rfl
  | n + 1 => by
    rw [List.replicate_succ]
    show (0 + 0 : Rat) :: addQ (List.replicate n 0) (List.replicate n 0) = _
    rw [addQ_zero n, Rat.add_zero]
theorem tQ_add : ∀ l m : List Fr, tQ (addL l m) = addQ (tQ l) (tQ m)
  | [], _ => rfl
  | _ :: _, [] => rfl
  | x :: l, y :: m => by
    have := tQ_add l m
    unfold addL at this ⊢
    show toQ (ofQ (toQ x + toQ y)) :: tQ ((l.zip m).map _) = (toQ x + toQ y) :: addQ (tQ l) (tQ m)
    rw [this, toQ_ofQ]
theorem addL_of : ∀ p q : List Rat, addL (p.map ofQ) (q.map ofQ) = (addQ p q).map ofQ
  | [], _ => rfl
  | _ :: _, [] => rfl
  | x :: p, y :: q => by
    have := addL_of p q
    unfold addL at this ⊢
    show ofQ (toQ (ofQ x) + toQ (ofQ y)) :: ((p.map ofQ).zip (q.map ofQ)).map _ = ofQ (x + y) :: (addQ p q).map ofQ
    rw [this, toQ_ofQ, toQ_ofQ]
theorem prodL_add {n : Nat} {P : List (List (List Fr))} {x y z : List Fr} (h : Tb n P) (hx : Rw n x) (hy : Rw n y) (hz : Rw n z) (hs : Rw n (addL y z)) : prodL P x (addL y z) = addL (prodL P x y) (prodL P x z) := by
  rw [prodL_Q h hx hs, prodL_Q h hx hy, prodL_Q h hx hz, addL_of, prodQ, tQ_add]
  have := totQ_add (a := tQ x) (b := tQ y) (c := tQ z) (T := List.replicate P.length 0) (U := List.replicate P.length 0) (P := P.map fun r => r.map tQ) (by rw [List.length_map, List.length_map, hy.len, hz.len])
  rw [addQ_zero] at this
  rw [this]
  rfl
theorem lcmL_min : ∀ (l : List Fr) (s M : Int), s ∣ M → (∀ x ∈ l, x.2 ∣ M) → l.foldl (fun s x => ((Nat.lcm s.natAbs x.2.natAbs : Nat) : Int)) s ∣ M
  | [], _, _, h, _ => h
  | x :: r, s, M, h, hx => lcmL_min r _ M (Int.natAbs_dvd_natAbs.mp (by rw [Int.natAbs_natCast]; exact Nat.lcm_dvd (Int.natAbs_dvd_natAbs.mpr h) (Int.natAbs_dvd_natAbs.mpr (hx x (List.mem_cons_self ..))))) fun y hy => hx y (List.mem_cons_of_mem _ hy)
theorem lcm_dvd_of {l : List Fr} {M : Int} (h : ∀ x ∈ l, x.2 ∣ M) : lcmL l ∣ M := lcmL_min l 1 M (Int.one_dvd _) h
/-- a row by what its lower numbers go into -/
theorem rw_of {n k : Nat} {x : List Fr} {M : Int} (hl : x.length = n) (hb : ∀ z ∈ x, Bd k z) (hk : k ≤ 900) (hM : 0 < M) (hm : M.natAbs < 2 ^ 900) (hd : ∀ z ∈ x, z.2 ∣ M) : Rw n x :=
  ⟨hl, fun z hz => (hb z hz).up hk, Nat.lt_of_le_of_lt (Nat.le_of_dvd (by omega) (Int.natAbs_dvd_natAbs.mpr (lcm_dvd_of hd))) hm⟩
theorem tb_of {n k : Nat} {P : List (List (List Fr))} {M : Int} (c : Cub n P) (hb : ∀ r ∈ P, ∀ l ∈ r, ∀ x ∈ l, Bd k x) (hk : k ≤ 900) (hM : 0 < M) (hm : M.natAbs < 2 ^ 900) (hd : ∀ r ∈ P, ∀ l ∈ r, ∀ x ∈ l, x.2 ∣ M) : Tb n P :=
  ⟨c, fun r hr l hl x hx => (hb r hr l hl x hx).up hk, Nat.lt_of_le_of_lt (Nat.le_of_dvd (by omega) (Int.natAbs_dvd_natAbs.mpr (lcm_dvd_of fun x hx => by
    obtain ⟨l, hl, hx⟩ := List.mem_flatten.mp hx
    obtain ⟨r, hr, hl⟩ := List.mem_flatten.mp hl
    exact hd r hr l hl x hx))) hm⟩
end Dc
namespace Dc
open PySem PySem.Spec L2
/-! ### units -/
def unitF (n : Nat) (s : Int) : List Fr := (rangeF 0 n).map fun k => ((if decide (k = s) = true then (1 : Int) else 0), (1 : Int))
def uQ (off : Int) (n : Nat) (s : Int) : List Rat := (rangeF off n).map fun k => if k = s then 1 else 0
theorem unitF_rw (n : Nat) (s : Int) : Rw n (unitF n s) := by
  refine rw_of (k := 64) (M := 1) (by rw [unitF, List.length_map, rangeF_len]) (fun z hz => ?_) (by decide) (by decide) (Nat.one_lt_two_pow (by decide)) fun z hz => ?_
  · obtain ⟨k, _, rfl⟩ := List.mem_map.mp hz
    refine ⟨red_int _, ?_, ?_⟩
    · show (if decide (k = s) = true then (1 : Int) else 0).natAbs < 2 ^ 64
      split <;> decide
    · show (1 : Int).natAbs < 2 ^ 64
      decide
  · obtain ⟨k, _, rfl⟩ := List.mem_map.mp hz
    exact Int.dvd_refl _
theorem toQ_one : toQ (1, 1) = 1 := by decide +kernel
theorem toQ_zero : toQ (0, 1) = 0 := by decide +kernel
theorem tQ_unit (n : Nat) (s : Int) : tQ (unitF n s) = uQ 0 n s := by
  unfold tQ unitF uQ
  rw [List.map_map]
  refine List.map_congr_left fun k _ => ?_
  show toQ ((if decide (k = s) = true then (1 : Int) else 0), (1 : Int)) = _
  by_cases q : k = s
  · rw [if_pos (decide_eq_true q), if_pos q, toQ_one]
  · rw [if_neg (by simp [q]), if_neg q, toQ_zero]
theorem zaddQ_one : ∀ (n : Nat) (l : List Rat), l.length = n → zaddQ 1 (List.replicate n 0) l = l
  | 0, [], _ => rfl
  | 0, _ :: _, h => by simp at h
  | n + 1, [], h => by simp at h
  | n + 1, x :: l, h => by
    rw [List.replicate_succ]
    show (0 + 1 * x) :: zaddQ 1 (List.replicate n 0) l = _
    rw [zaddQ_one n l (by simpa using h), Rat.one_mul, Rat.zero_add]
theorem inn_out {a : Rat} {s : Int} {T : List Rat} : ∀ (P : List (List Rat)) (off : Int) (n : Nat), s < off → (∀ l ∈ P, l.length = T.length) → innQ a (uQ off n s) T P = T
  | [], _, _, _, _ => by simp [innQ]
  | _ :: _, _, 0, _, _ => by simp [innQ, uQ, rangeF]
  | l :: P, off, n + 1, h, hl => by
    show innQ a (uQ (off + 1) n s) (zaddQ (a * (if off = s then 1 else 0)) T l) P = _
    rw [if_neg (by omega), Rat.mul_zero, zaddQ_zero (hl l (List.mem_cons_self ..))]
    exact inn_out P (off + 1) n (by omega) fun q hq => hl q (List.mem_cons_of_mem _ hq)
theorem inn_in {a : Rat} {T : List Rat} : ∀ (P : List (List Rat)) (off : Int) (k : Nat), k < P.length → (∀ l ∈ P, l.length = T.length) → innQ a (uQ off P.length (off + k)) T P = zaddQ a T (P.getD k [])
  | [], _, _, h, _ => by simp at h
  | l :: P, off, 0, _, hl => by
    have e := zaddQ_len (f := a) (hl l (List.mem_cons_self ..))
    show innQ a (uQ (off + 1) P.length (off + (0 : Nat))) (zaddQ (a * (if off = off + (0 : Nat) then 1 else 0)) T l) P = _
    rw [if_pos (by simp), Rat.mul_one, inn_out P (off + 1) _ (by simp; omega) fun q hq => by rw [e]; exact hl q (List.mem_cons_of_mem _ hq)]
    rfl
  | l :: P, off, k + 1, h, hl => by
    show innQ a (uQ (off + 1) P.length (off + (k + 1 : Nat))) (zaddQ (a * (if off = off + (k + 1 : Nat) then 1 else 0)) T l) P = _
    rw [if_neg (by omega), Rat.mul_zero, zaddQ_zero (hl l (List.mem_cons_self ..)), show off + ((k + 1 : Nat) : Int) = off + 1 + (k : Int) by omega, inn_in P (off + 1) k (by simpa using h) fun q hq => hl q (List.mem_cons_of_mem _ hq)]
    rfl
theorem tot_out {s : Int} {b T : List Rat} : ∀ (P : List (List (List Rat))) (off : Int) (n : Nat), s < off → (∀ r ∈ P, ∀ l ∈ r, l.length = T.length) → totQ (uQ off n s) b P T = T
  | [], _, _, _, _ => by simp [totQ]
  | _ :: _, _, 0, _, _ => by simp [totQ, uQ, rangeF]
  | r :: P, off, n + 1, h, hl => by
    show totQ (uQ (off + 1) n s) b P (innQ (if off = s then 1 else 0) b T r) = _
    rw [if_neg (by omega), innQ_zero (hl r (List.mem_cons_self ..))]
    exact tot_out P (off + 1) n (by omega) fun q hq => hl q (List.mem_cons_of_mem _ hq)
theorem tot_in {b T : List Rat} : ∀ (P : List (List (List Rat))) (off : Int) (k : Nat), k < P.length → (∀ r ∈ P, ∀ l ∈ r, l.length = T.length) → totQ (uQ off P.length (off + k)) b P T = innQ 1 b T (P.getD k [])
  | [], _, _, h, _ => by simp at h
  | r :: P, off, 0, _, hl => by
    have e := innQ_len (a := 1) (b := b) (hl r (List.mem_cons_self ..))
    show totQ (uQ (off + 1) P.length (off + (0 : Nat))) b P (innQ (if off = off + (0 : Nat) then 1 else 0) b T r) = _
    rw [if_pos (by simp), tot_out P (off + 1) _ (by simp; omega) fun q hq l hl' => by rw [e]; exact hl q (List.mem_cons_of_mem _ hq) l hl']
    rfl
  | r :: P, off, k + 1, h, hl => by
    show totQ (uQ (off + 1) P.length (off + (k + 1 : Nat))) b P (innQ (if off = off + (k + 1 : Nat) then 1 else 0) b T r) = _
    rw [if_neg (by omega), innQ_zero (hl r (List.mem_cons_self ..)), show off + ((k + 1 : Nat) : Int) = off + 1 + (k : Int) by omega, tot_in P (off + 1) k (by simpa using h) fun q hq => hl q (List.mem_cons_of_mem _ hq)]
    rfl
theorem ofQ_tQ {l : List Fr} (h : ∀ x ∈ l, Red x) : (tQ l).map ofQ = l := by
  unfold tQ
  rw [List.map_map]
  refine (List.map_congr_left (g := id) fun x hx => ofQ_toQ (h x hx)).trans ?_
  simp
theorem getD_map {α β : Type} {f : α → β} {l : List α} {k : Nat} {d : β} (h : k < l.length) : (l.map f).getD k d = f l[k] := by
  rw [List.getD_eq_getElem?_getD, List.getElem?_map, List.getElem?_eq_getElem h]
  rfl
theorem prodL_unit {n : Nat} {P : List (List (List Fr))} (h : Tb n P) (i j : Nat) (hi : i < P.length) (hj : j < P[i].length) : prodL P (unitF n (i : Int)) (unitF n (j : Int)) = P[i][j] := by
  have lr := h.cub.row _ (List.getElem_mem hi)
  have ll := h.cub.lin _ (List.getElem_mem hi) _ (List.getElem_mem hj)
  have t1 := tot_in (b := uQ 0 n (j : Int)) (T := List.replicate P.length 0) (P.map fun r => r.map tQ) 0 i (by rw [List.length_map]; exact hi) (fun r hr l hl => by
    obtain ⟨q, hq, rfl⟩ := List.mem_map.mp hr
    obtain ⟨m, hm, rfl⟩ := List.mem_map.mp hl
    rw [List.length_replicate, List.length_map, h.cub.lin q hq m hm, h.cub.len])
  have t2 := inn_in (a := 1) (T := List.replicate P.length 0) (P[i].map tQ) 0 j (by rw [List.length_map]; exact hj) (fun l hl => by
    obtain ⟨m, hm, rfl⟩ := List.mem_map.mp hl
    rw [List.length_replicate, List.length_map, h.cub.lin _ (List.getElem_mem hi) m hm, h.cub.len])
  rw [List.length_map, Int.zero_add, h.cub.len, getD_map hi] at t1
  rw [List.length_map, Int.zero_add, lr, getD_map hj, h.cub.len] at t2
  rw [prodL_Q h (unitF_rw n i) (unitF_rw n j), prodQ, tQ_unit, tQ_unit, h.cub.len, t1, t2, zaddQ_one _ _ (by rw [List.length_map, ll]), ofQ_tQ fun x hx => (h.num _ (List.getElem_mem hi) _ (List.getElem_mem hj) x hx).red]
/-! ### what the law draws -/
theorem Tr.rng {σ β δ : Type} {m : Nat} {f : σ → Int → W (Fl σ σ β)} {R : Nat → σ → Prop} : ∀ (n k : Nat) (s : σ), R k s → (∀ i, i < n → ∀ s, R (k + i) s → Tr m (f s ((k + i : Nat) : Int)) (fun fl => ∃ s', fl = .nx s' ∧ R (k + i + 1) s')) → Tr (n * m) (forW (δ := δ) f s (rangeF (k : Int) n)) (fun fl => ∃ s', fl = .nx s' ∧ R (k + n) s')
  | 0, k, s, h, _ => Tr.ret ⟨s, rfl, h⟩
  | n + 1, k, s, h, hf => by
    have e : (n + 1) * m = m + n * m := by rw [Nat.add_mul]; omega
    rw [e]
    have h0 := hf 0 (by omega) s h
    rw [show k + 0 = k by omega] at h0
    refine Tr.bnd h0 fun fl hfl => ?_
    obtain ⟨s', rfl, h'⟩ := hfl
    have ih := Tr.rng (δ := δ) (f := f) (R := R) n (k + 1) s' h' fun i hi s hs => by
      have := hf (i + 1) (by omega) s (by rw [show k + (i + 1) = k + 1 + i by omega]; exact hs)
      rw [show k + (i + 1) = k + 1 + i by omega] at this
      exact this
    rw [show k + 1 + n = k + (n + 1) by omega] at ih
    have e2 : ((k : Int) + 1) = ((k + 1 : Nat) : Int) := by simp
    show Tr (n * m) (forW f s' (rangeF ((k : Int) + 1) n)) _
    rw [e2]
    exact ih
structure Ln (n : Nat) (l : List Fr) : Prop where
  len : l.length = n
  bd : ∀ x ∈ l, Bd 14 x
theorem Ln.rw_ {n : Nat} {l : List Fr} (h : Ln n l) (hn : n ≤ 60 := by omega) : Rw n l := ⟨h.len, fun x hx => (h.bd x hx).up (by decide), lcmL_lt (n := 60) h.bd (by rw [h.len]; exact hn)⟩
theorem bd_int {k : Int} (h : k.natAbs < 2 ^ 14) : Bd 14 (k, 1) := ⟨red_int k, h, by show (1 : Int).natAbs < 2 ^ 14; decide⟩
theorem ln_noughts (n : Nat) : Ln n (List.replicate n (0, 1)) := ⟨List.length_replicate .., fun x hx => by rw [List.eq_of_mem_replicate hx]; exact bd_int (by decide)⟩
theorem ln_set {n : Nat} {l : List Fr} (h : Ln n l) {x : Fr} (hx : Bd 14 x) (i : Nat) : Ln n (l.set i x) := ⟨by rw [List.length_set]; exact h.len, fun y hy => by
  rcases List.mem_or_eq_of_mem_set hy with q | q
  · exact h.bd y q
  · rw [q]; exact hx⟩
theorem ln_draw {n : Nat} (g : Bool) (hn : n ≤ 6) : Tr 30 (mapW (fun _ : Int => w_law_number (g, ())) (rangeF 0 n)) (Ln n) :=
  (Tr.mapN (L := 6) (fun _ _ => (law_number_tr g)) (by rw [rangeF_len]; exact hn)).cons fun l hl => ⟨by rw [hl.1, rangeF_len], fun x hx => (hl.2 x hx).bd⟩
/-- products as they are drawn -/
structure Td (n k : Nat) (P : List (List (List Fr))) : Prop where
  cub : Cub n P
  num : ∀ r ∈ P, ∀ l ∈ r, ∀ x ∈ l, Bd k x
theorem Td.tb {n k : Nat} {P : List (List (List Fr))} (h : Td n k P) (hk : k ≤ 900) (hb : k * (n * n * n) < 900) : Tb n P := by
  have hf : ∀ x ∈ P.flatten.flatten, Bd k x := fun x hx => by
    obtain ⟨l, hl, hx⟩ := List.mem_flatten.mp hx
    obtain ⟨r, hr, hl⟩ := List.mem_flatten.mp hl
    exact h.num r hr l hl x hx
  have hl : P.flatten.flatten.length = n * n * n := by
    rw [flat_len P.flatten (fun l hl => by
      obtain ⟨r, hr, hl⟩ := List.mem_flatten.mp hl
      exact h.cub.lin r hr l hl), flat_len P h.cub.row, h.cub.len]
  refine ⟨h.cub, fun r hr l hl x hx => (h.num r hr l hl x hx).up hk, Nat.lt_of_le_of_lt (lcmL_bd hf) ?_⟩
  rw [hl]
  exact Nat.pow_lt_pow_right (by decide) hb
theorem law_products_tr {n : Nat} (g : Bool) (h1 : 1 ≤ n) (hn : n ≤ 6) : Tr 1500 (w_law_products ((n : Int), g, ())) (Td n 14) := by
  have hr : rngOk 0 (n : Int) = true := rngOk_n (by omega)
  unfold w_law_products wb_law_products
  simp only [bnd_ret, bnd_assoc, bnd_grd, bnd_ifr, grd_true, fnR_bnd, fnR_ite, fnR_grd, fnR_ret, sq_nx, sq_rt, hr, Int.toNat_natCast, flat1]
  refine Tr.then 1 Tr.pick fun kind _ => ?_
  refine Tr.then (6 * 240) (S := fun fl => ∃ s : List (List (List Fr)), fl = Fl.nx s ∧ s.length = n ∧ ∀ r ∈ s, r.length = n ∧ ∀ l ∈ r, Ln n l) ((Tr.rng (m := 240) (R := fun i (s : List (List (List Fr))) => s.length = i ∧ ∀ r ∈ s, r.length = n ∧ ∀ l ∈ r, Ln n l) n 0 [] ⟨rfl, fun _ h => by cases h⟩ fun i hi s hs => ?_).mono (Nat.mul_le_mul_right _ hn) fun fl hfl => by
    obtain ⟨s, e, q⟩ := hfl
    rw [Nat.zero_add] at q
    exact ⟨s, e, q⟩) fun fl hfl => ?_
  · rw [Nat.zero_add] at hs ⊢
    refine Tr.then (6 * 40) (S := fun fl => ∃ t : List (List Fr), fl = Fl.nx t ∧ t.length = n ∧ ∀ l ∈ t, Ln n l) ((Tr.rng (m := 40) (R := fun j (t : List (List Fr)) => t.length = j ∧ ∀ l ∈ t, Ln n l) n 0 [] ⟨rfl, fun _ h => by cases h⟩ fun j hj t ht => ?_).mono (Nat.mul_le_mul_right _ hn) fun fl hfl => by
      obtain ⟨s, e, q⟩ := hfl
      rw [Nat.zero_add] at q
      exact ⟨s, e, q⟩) fun fl hfl => ?_
    · rw [Nat.zero_add] at ht ⊢
      refine Tr.grd (repOk1 (by omega) (by omega)) ?_
      refine Tr.then 31 (S := fun fl => ∃ l : List Fr, fl = Fl.nx l ∧ Ln n l) (Tr.ite (fun _ => ?_) fun _ => ?_) fun fl hfl => ?_
      · refine Tr.then 5 (law_number_tr g) fun x hx => Tr.then 1 (Tr.pick (by omega) (lsmall (by omega))) fun u hu => ?_
        have i1 := ix_in (l := List.replicate n ((0, 1) : Fr)) (k := u) hu.1 (by rw [List.length_replicate]; exact hu.2)
        exact Tr.grd i1.1 (Tr.ret ⟨_, rfl, ln_set (ln_noughts n) hx.bd _⟩)
      · refine Tr.then 1 (S := fun _ => True) (Tr.ite (fun _ => Tr.ret trivial) fun _ => Tr.then 1 Tr.pick fun _ _ => Tr.ret trivial) fun b _ => ?_
        refine Tr.then 30 (S := fun fl => ∃ l : List Fr, fl = Fl.nx l ∧ Ln n l) (Tr.ite (fun _ => Tr.then 30 (ln_draw g hn) fun l hl => Tr.ret ⟨l, rfl, hl⟩) fun _ => Tr.ret ⟨_, rfl, ln_noughts n⟩) fun fl hfl => ?_
        obtain ⟨l, rfl, hl⟩ := hfl
        exact Tr.ret ⟨l, rfl, hl⟩
      · obtain ⟨l, rfl, hl⟩ := hfl
        simp only [sq_nx]
        refine Tr.then 0 (S := fun b => b = true → (j : Int) < (i : Int)) (Tr.ite (fun _ => Tr.ret fun z => of_decide_eq_true z) fun _ => Tr.ret fun z => by cases z) fun b hb => ?_
        refine Tr.then 0 (S := fun fl => ∃ l : List Fr, fl = Fl.nx l ∧ Ln n l) (Tr.ite (fun z => ?_) fun _ => Tr.ret ⟨l, rfl, hl⟩) fun fl hfl => ?_
        · have hji := hb z
          have i1 := ix_in (l := s) (k := (j : Int)) (by omega) (by rw [hs.1]; exact hji)
          have r1 := hs.2 _ i1.2
          have i2 := ix_in (l := ixAt s (j : Int)) (k := (i : Int)) (by omega) (by rw [r1.1]; omega)
          exact Tr.grd i1.1 (Tr.grd i2.1 (Tr.ret ⟨_, rfl, r1.2 _ i2.2⟩))
        · obtain ⟨l, rfl, hl⟩ := hfl
          simp only [sq_nx]
          refine Tr.grd (decide_eq_true (by rw [ht.1]; omega)) (Tr.ret ⟨_, rfl, by rw [List.length_append, ht.1]; rfl, fun q hq => ?_⟩)
          rcases List.mem_append.mp hq with q1 | q1
          · exact ht.2 q q1
          · rw [List.mem_singleton.mp q1]; exact hl
    · obtain ⟨t, rfl, ht⟩ := hfl
      simp only [sq_nx]
      refine Tr.grd (decide_eq_true (by rw [hs.1]; omega)) (Tr.ret ⟨_, rfl, by rw [List.length_append, hs.1]; rfl, fun q hq => ?_⟩)
      rcases List.mem_append.mp hq with q1 | q1
      · exact hs.2 q q1
      · rw [List.mem_singleton.mp q1]; exact ht
  · obtain ⟨s, rfl, hs⟩ := hfl
    simp only [sq_nx, fnR_ret, bnd_ret]
    exact Tr.ret ⟨⟨hs.1, fun r hr => (hs.2 r hr).1, fun r hr l hl => ((hs.2 r hr).2 l hl).len⟩, fun r hr l hl => ((hs.2 r hr).2 l hl).bd⟩
end Dc
namespace Dc
open PySem PySem.Spec L2
/-! ### sums by places -/
def sumN : Nat → (Nat → Rat) → Rat
  | 0, _ => 0
  | n + 1, f => f 0 + sumN n fun i => f (i + 1)
theorem sumN_congr : ∀ {n : Nat} {f g : Nat → Rat}, (∀ i, i < n → f i = g i) → sumN n f = sumN n g
  | 0, _, _, _ => rfl
  | n + 1, f, g, h => by
    show f 0 + _ = g 0 + _
    rw [h 0 (by omega), sumN_congr fun i hi => h (i + 1) (by omega)]
theorem sumN_zero : ∀ {n : Nat} {f : Nat → Rat}, (∀ i, i < n → f i = 0) → sumN n f = 0
  | 0, _, _ => rfl
  | n + 1, f, h => by
    show f 0 + _ = 0
    rw [h 0 (by omega), sumN_zero fun i hi => h (i + 1) (by omega), Rat.add_zero]
theorem sumN_add : ∀ {n : Nat} {f g : Nat → Rat}, sumN n (fun i => f i + g i) = sumN n f + sumN n g
  | 0, _, _ => by
    show (0 : Rat) = 0 + 0
    rw [Rat.add_zero]
  | n + 1, f, g => by
    show (f 0 + g 0) + sumN n (fun i => f (i + 1) + g (i + 1)) = (f 0 + sumN n fun i => f (i + 1)) + (g 0 + sumN n fun i => g (i + 1))
    rw [sumN_add]
    grind
theorem sumN_mul {c : Rat} : ∀ {n : Nat} {f : Nat → Rat}, sumN n (fun i => c * f i) = c * sumN n f
  | 0, _ => by
    show (0 : Rat) = c * 0
    rw [Rat.mul_zero]
  | n + 1, f => by
    show c * f 0 + sumN n (fun i => c * f (i + 1)) = c * (f 0 + sumN n fun i => f (i + 1))
    rw [sumN_mul, Rat.mul_add]
theorem sumN_comm : ∀ {n m : Nat} {f : Nat → Nat → Rat}, sumN n (fun i => sumN m (f i)) = sumN m (fun j => sumN n fun i => f i j)
  | 0, m, f => (sumN_zero fun _ _ => rfl).symm
  | n + 1, m, f => by
    show sumN m (f 0) + sumN n (fun i => sumN m (f (i + 1))) = sumN m fun j => f 0 j + sumN n fun i => f (i + 1) j
    rw [sumN_comm, sumN_add]
theorem getD_cons0 {α : Type} {x d : α} {l : List α} : (x :: l).getD 0 d = x := rfl
theorem getD_consS {α : Type} {x d : α} {l : List α} {i : Nat} : (x :: l).getD (i + 1) d = l.getD i d := by
  simp [List.getD_eq_getElem?_getD]
theorem zaddQ_get {f : Rat} : ∀ {T r : List Rat} {k : Nat}, r.length = T.length → (zaddQ f T r).getD k 0 = T.getD k 0 + f * r.getD k 0
  | [], [], k, _ => by
    show (0 : Rat) = 0 + f * 0
    rw [Rat.mul_zero, Rat.add_zero]
  | [], _ :: _, _, h => by simp at h
  | _ :: _, [], _, h => by simp at h
  | t :: T, m :: r, 0, _ => rfl
  | t :: T, m :: r, k + 1, h => by
    show ((t + f * m) :: zaddQ f T r).getD (k + 1) 0 = _
    rw [getD_consS, getD_consS, getD_consS, zaddQ_get (by simpa using h)]
theorem innQ_get {a : Rat} {k : Nat} : ∀ {b T : List Rat} {P : List (List Rat)}, b.length = P.length → (∀ l ∈ P, l.length = T.length) → (innQ a b T P).getD k 0 = T.getD k 0 + sumN b.length (fun j => a * b.getD j 0 * (P.getD j []).getD k 0)
  | [], T, [], _, _ => by
    show T.getD k 0 = T.getD k 0 + 0
    rw [Rat.add_zero]
  | [], _, _ :: _, h, _ => by simp at h
  | _ :: _, _, [], h, _ => by simp at h
  | z :: b, T, l :: P, h, hl => by
    have h0 := hl l (List.mem_cons_self ..)
    have e := zaddQ_len (f := a * z) h0
    show (innQ a b (zaddQ (a * z) T l) P).getD k 0 = T.getD k 0 + (a * z * l.getD k 0 + sumN b.length fun j => a * (z :: b).getD (j + 1) 0 * ((l :: P).getD (j + 1) []).getD k 0)
    rw [innQ_get (by simpa using h) fun q hq => by rw [e]; exact hl q (List.mem_cons_of_mem _ hq), zaddQ_get h0]
    simp only [getD_consS]
    rw [Rat.add_assoc]
theorem totQ_get {k : Nat} : ∀ {a b T : List Rat} {P : List (List (List Rat))}, a.length = P.length → (∀ r ∈ P, r.length = b.length) → (∀ r ∈ P, ∀ l ∈ r, l.length = T.length) →
    (totQ a b P T).getD k 0 = T.getD k 0 + sumN a.length (fun i => sumN b.length fun j => a.getD i 0 * b.getD j 0 * ((P.getD i []).getD j []).getD k 0)
  | [], _, T, [], _, _, _ => by
    show T.getD k 0 = T.getD k 0 + 0
    rw [Rat.add_zero]
  | [], _, _, _ :: _, h, _, _ => by simp at h
  | _ :: _, _, _, [], h, _, _ => by simp at h
  | z :: a, b, T, r :: P, h, hr, hl => by
    have h0 := hl r (List.mem_cons_self ..)
    have e := innQ_len (a := z) (b := b) h0
    show (totQ a b P (innQ z b T r)).getD k 0 = T.getD k 0 + ((sumN b.length fun j => z * b.getD j 0 * (r.getD j []).getD k 0) + sumN a.length fun i => sumN b.length fun j => (z :: a).getD (i + 1) 0 * b.getD j 0 * (((r :: P).getD (i + 1) []).getD j []).getD k 0)
    rw [totQ_get (by simpa using h) (fun q hq => hr q (List.mem_cons_of_mem _ hq)) (fun q hq l hl' => by rw [e]; exact hl q (List.mem_cons_of_mem _ hq) l hl'), innQ_get (hr r (List.mem_cons_self ..)).symm h0]
    simp only [getD_consS]
    rw [Rat.add_assoc]
theorem totQ_len {a b : List Rat} : ∀ {P : List (List (List Rat))} {T : List Rat}, (∀ r ∈ P, ∀ l ∈ r, l.length = T.length) → (totQ a b P T).length = T.length := by
  induction a with
  | nil => intro P T _; simp [totQ]
  | cons z a ih =>
    intro P T h
    cases P with
    | nil => simp [totQ]
    | cons r P =>
      have h0 := h r (List.mem_cons_self ..)
      have e := innQ_len (a := z) (b := b) h0
      show (totQ a b P (innQ z b T r)).length = _
      rw [ih fun q hq l hl => by rw [e]; exact h q (List.mem_cons_of_mem _ hq) l hl, e]
theorem getD_ext {α : Type} {d : α} {l m : List α} (h : l.length = m.length) (e : ∀ k, k < l.length → l.getD k d = m.getD k d) : l = m := by
  refine List.ext_getElem h fun k h1 h2 => ?_
  have := e k h1
  rw [List.getD_eq_getElem?_getD, List.getD_eq_getElem?_getD, List.getElem?_eq_getElem h1, List.getElem?_eq_getElem h2] at this
  exact this
/-! ### a table's product by places -/
def at3 (P : List (List (List Fr))) (i j k : Nat) : Rat := toQ (((P.getD i []).getD j []).getD k (0, 1))
def at1 (x : List Fr) (i : Nat) : Rat := toQ (x.getD i (0, 1))
theorem tQ_get (x : List Fr) (i : Nat) : (tQ x).getD i 0 = at1 x i := by
  unfold at1 tQ
  rw [List.getD_eq_getElem?_getD, List.getD_eq_getElem?_getD, List.getElem?_map]
  cases x[i]? with
  | none => exact toQ_zero.symm
  | some z => rfl
theorem tQ3_get (P : List (List (List Fr))) (i j k : Nat) : ((((P.map fun r => r.map tQ).getD i []).getD j []).getD k 0) = at3 P i j k := by
  unfold at3
  have e1 : (P.map fun r => r.map tQ).getD i [] = (P.getD i []).map tQ := by
    rw [List.getD_eq_getElem?_getD, List.getD_eq_getElem?_getD, List.getElem?_map]
    cases P[i]? <;> rfl
  have e2 : ∀ r : List (List Fr), (r.map tQ).getD j [] = tQ (r.getD j []) := fun r => by
    rw [List.getD_eq_getElem?_getD, List.getD_eq_getElem?_getD, List.getElem?_map]
    cases r[j]? <;> rfl
  rw [e1, e2]
  exact tQ_get _ _
theorem rep_get (n k : Nat) : (List.replicate n (0 : Rat)).getD k 0 = 0 := by
  rw [List.getD_eq_getElem?_getD]
  by_cases h : k < n
  · rw [List.getElem?_replicate_of_lt h]; rfl
  · rw [List.getElem?_eq_none (by rw [List.length_replicate]; omega)]; rfl
theorem prodQ_len {n : Nat} {P : List (List (List Fr))} {x y : List Fr} (h : Cub n P) : (prodQ P x y).length = n := by
  rw [prodQ, totQ_len (fun r hr l hl => by
    obtain ⟨q, hq, rfl⟩ := List.mem_map.mp hr
    obtain ⟨m, hm, rfl⟩ := List.mem_map.mp hl
    rw [List.length_replicate, List.length_map, h.lin q hq m hm, h.len]), List.length_replicate, h.len]
theorem prodQ_get {n : Nat} {P : List (List (List Fr))} {x y : List Fr} (h : Cub n P) (hx : x.length = n) (hy : y.length = n) (k : Nat) : (prodQ P x y).getD k 0 = sumN n fun i => sumN n fun j => at1 x i * at1 y j * at3 P i j k := by
  rw [prodQ, totQ_get (by rw [List.length_map, List.length_map, hx, h.len]) (fun r hr => by
    obtain ⟨q, hq, rfl⟩ := List.mem_map.mp hr
    rw [List.length_map, List.length_map, h.row q hq, hy]) (fun r hr l hl => by
    obtain ⟨q, hq, rfl⟩ := List.mem_map.mp hr
    obtain ⟨m, hm, rfl⟩ := List.mem_map.mp hl
    rw [List.length_replicate, List.length_map, h.lin q hq m hm, h.len]), rep_get, Rat.zero_add, List.length_map, List.length_map, hx, hy]
  exact sumN_congr fun i _ => sumN_congr fun j _ => by rw [tQ_get, tQ_get, tQ3_get]
/-! ### the product the other way about -/
def oppP (n : Nat) (P : List (List (List Fr))) : List (List (List Fr)) := (rangeF 0 n).map fun i => (rangeF 0 n).map fun j => ixAt (ixAt P j) i
theorem rangeF_at {n i : Nat} (h : i < n) : (rangeF 0 n)[i]'(by rw [rangeF_len]; exact h) = (i : Int) := by
  have e := rangeF_get 0 n i _ (List.getElem?_eq_getElem (by rw [rangeF_len]; exact h))
  rw [e.1, Int.zero_add]
theorem opp_at {n : Nat} {P : List (List (List Fr))} (h : Cub n P) {i j : Nat} (hi : i < n) (hj : j < n) : ((oppP n P).getD i []).getD j [] = (P.getD j []).getD i [] := by
  have hjP : j < P.length := by rw [h.len]; exact hj
  have hiP : i < P[j].length := by rw [h.row _ (List.getElem_mem hjP)]; exact hi
  unfold oppP
  rw [getD_map (by rw [rangeF_len]; exact hi), getD_map (by rw [rangeF_len]; exact hj), rangeF_at hi, rangeF_at hj, (ix_nat hjP).2, (ix_nat hiP).2]
  simp [List.getD_eq_getElem?_getD, List.getElem?_eq_getElem hjP, List.getElem?_eq_getElem hiP]
theorem lcm_sub {n : Nat} {P Q : List (List (List Fr))} (h : Tb n P) (hs : ∀ x ∈ Q.flatten.flatten, x ∈ P.flatten.flatten) : (lcmP Q).natAbs < 2 ^ 900 := by
  have d : lcmP Q ∣ lcmP P := lcm_dvd_of fun x hx => lcmL_dvd (fun x hx => (h.flat x hx).red) (hs x hx)
  have p := h.pos
  have le := Nat.le_of_dvd (by omega) (Int.natAbs_dvd_natAbs.mpr d)
  exact Nat.lt_of_le_of_lt le h.lcmb
theorem opp_tb {n : Nat} {P : List (List (List Fr))} (h : Tb n P) : Tb n (oppP n P) := by
  have key : ∀ r ∈ oppP n P, r.length = n ∧ ∀ l ∈ r, ∃ q ∈ P, l ∈ q := fun r hr => by
    obtain ⟨i, hi, rfl⟩ := List.mem_map.mp hr
    refine ⟨by rw [List.length_map, rangeF_len], fun l hl => ?_⟩
    obtain ⟨j, hj, rfl⟩ := List.mem_map.mp hl
    have mi := rangeF_mem hi
    have mj := rangeF_mem hj
    have i1 := ix_in (l := P) (k := j) (by omega) (by rw [h.cub.len]; omega)
    have i2 := ix_in (l := ixAt P j) (k := i) (by omega) (by rw [h.cub.row _ i1.2]; omega)
    exact ⟨_, i1.2, i2.2⟩
  have sub : ∀ x ∈ (oppP n P).flatten.flatten, x ∈ P.flatten.flatten := fun x hx => by
    obtain ⟨l, hl, hx⟩ := List.mem_flatten.mp hx
    obtain ⟨r, hr, hl⟩ := List.mem_flatten.mp hl
    obtain ⟨q, hq, hl⟩ := (key r hr).2 l hl
    exact List.mem_flatten.mpr ⟨l, List.mem_flatten.mpr ⟨q, hq, hl⟩, hx⟩
  refine ⟨⟨by rw [oppP, List.length_map, rangeF_len], fun r hr => (key r hr).1, fun r hr l hl => ?_⟩, fun r hr l hl => ?_, lcm_sub h sub⟩
  · obtain ⟨q, hq, hl⟩ := (key r hr).2 l hl
    exact h.cub.lin q hq l hl
  · obtain ⟨q, hq, hl⟩ := (key r hr).2 l hl
    exact h.num q hq l hl
theorem cub_ext {α : Type} {n : Nat} {P Q : List (List (List α))} (h : Cub n P) (h2 : Cub n Q) (e : ∀ i j, i < n → j < n → (P.getD i []).getD j [] = (Q.getD i []).getD j []) : P = Q := by
  refine getD_ext (d := []) (by rw [h.len, h2.len]) fun i hi => ?_
  rw [h.len] at hi
  have hiP : i < P.length := by rw [h.len]; exact hi
  have hiQ : i < Q.length := by rw [h2.len]; exact hi
  have e1 : P.getD i [] = P[i] := by simp [List.getD_eq_getElem?_getD, List.getElem?_eq_getElem hiP]
  have e2 : Q.getD i [] = Q[i] := by simp [List.getD_eq_getElem?_getD, List.getElem?_eq_getElem hiQ]
  have l1 := h.row _ (List.getElem_mem hiP)
  have l2 := h2.row _ (List.getElem_mem hiQ)
  refine getD_ext (d := []) (by rw [e1, e2, l1, l2]) fun j hj => ?_
  rw [e1, l1] at hj
  exact e i j hi hj
theorem opp_opp {n : Nat} {P : List (List (List Fr))} (h : Tb n P) : oppP n (oppP n P) = P := cub_ext (opp_tb (opp_tb h)).cub h.cub fun i j hi hj => by rw [opp_at (opp_tb h).cub hi hj, opp_at h.cub hj hi]
theorem prodL_opp {n : Nat} {P : List (List (List Fr))} {x y : List Fr} (h : Tb n P) (hx : Rw n x) (hy : Rw n y) : prodL (oppP n P) x y = prodL P y x := by
  have ho := opp_tb h
  rw [prodL_Q ho hx hy, prodL_Q h hy hx]
  congr 1
  refine getD_ext (d := 0) (by rw [prodQ_len ho.cub, prodQ_len h.cub]) fun k _ => ?_
  rw [prodQ_get ho.cub hx.len hy.len, prodQ_get h.cub hy.len hx.len, sumN_comm]
  refine sumN_congr fun i hi => sumN_congr fun j hj => ?_
  unfold at3
  rw [opp_at h.cub hj hi, Rat.mul_comm (at1 x j)]
end Dc
namespace Dc
open PySem PySem.Spec L2
/-! ### alike: lines, rows, products -/
def Few {α : Type} (l : List α) : Prop := l.length ≤ 1000000
theorem dok_line {n : Nat} {l : List Fr} (h : Few l) : dOk (n + 2) (D.lst (l.map fun z => D.tup [D.int z.1, D.int z.2])) := ⟨by rw [List.length_map]; exact Nat.le_trans h (by decide), fun d hd => by
  obtain ⟨x, _, rfl⟩ := List.mem_map.mp hd
  exact ⟨by show 2 ≤ 16777216; decide, fun d hd => by
    simp only [List.mem_cons, List.not_mem_nil, or_false] at hd
    rcases hd with rfl | rfl <;> cases n <;> exact True.intro⟩⟩
theorem dok_rows {n : Nat} {r : List (List Fr)} (h : Few r) (h2 : ∀ l ∈ r, Few l) : dOk (n + 3) (D.lst (r.map fun z => D.lst (z.map fun z => D.tup [D.int z.1, D.int z.2]))) := ⟨by rw [List.length_map]; exact Nat.le_trans h (by decide), fun d hd => by
  obtain ⟨x, hx, rfl⟩ := List.mem_map.mp hd
  exact dok_line (h2 x hx)⟩
theorem dok_prods {n : Nat} {P : List (List (List Fr))} (h : Few P) (h2 : ∀ r ∈ P, Few r) (h3 : ∀ r ∈ P, ∀ l ∈ r, Few l) : dOk (n + 4) (D.lst (P.map fun z => D.lst (z.map fun z => D.lst (z.map fun z => D.tup [D.int z.1, D.int z.2])))) := ⟨by rw [List.length_map]; exact Nat.le_trans h (by decide), fun d hd => by
  obtain ⟨x, hx, rfl⟩ := List.mem_map.mp hd
  exact dok_rows (h2 x hx) (h3 x hx)⟩
theorem alike_l {l : List Fr} (h : Few l) : w_law_alike 6 (D.lst (l.map fun z => D.tup [D.int z.1, D.int z.2]), D.lst (l.map fun z => D.tup [D.int z.1, D.int z.2]), ()) = ret true := alike_self 5 _ (dok_line h)
theorem alike_r {r : List (List Fr)} (h : Few r) (h2 : ∀ l ∈ r, Few l) : w_law_alike 6 (D.lst (r.map fun z => D.lst (z.map fun z => D.tup [D.int z.1, D.int z.2])), D.lst (r.map fun z => D.lst (z.map fun z => D.tup [D.int z.1, D.int z.2])), ()) = ret true := alike_self 5 _ (dok_rows h h2)
theorem alike_p {P : List (List (List Fr))} (h : Few P) (h2 : ∀ r ∈ P, Few r) (h3 : ∀ r ∈ P, ∀ l ∈ r, Few l) : w_law_alike 6 (D.lst (P.map fun z => D.lst (z.map fun z => D.lst (z.map fun z => D.tup [D.int z.1, D.int z.2]))), D.lst (P.map fun z => D.lst (z.map fun z => D.lst (z.map fun z => D.tup [D.int z.1, D.int z.2]))), ()) = ret true := alike_self 5 _ (dok_prods h h2 h3)
theorem few_n {α : Type} {n : Nat} {l : List α} (h : l.length = n) (hn : n ≤ 36) : Few l := by unfold Few; omega
theorem alike_c {n : Nat} {P : List (List (List Fr))} (h : Cub n P) (hn : n ≤ 36) : w_law_alike 6 (D.lst (P.map fun z => D.lst (z.map fun z => D.lst (z.map fun z => D.tup [D.int z.1, D.int z.2]))), D.lst (P.map fun z => D.lst (z.map fun z => D.lst (z.map fun z => D.tup [D.int z.1, D.int z.2]))), ()) = ret true := alike_p (few_n h.len hn) (fun r hr => few_n (h.row r hr) hn) fun r hr l hl => few_n (h.lin r hr l hl) hn
theorem alike_np {n : Nat} {P : List (List (List Fr))} (h : Cub n P) (hn : n ≤ 36) (k : Int) : w_law_alike 6 (D.lst (List.map (fun z => z) [D.int k, D.lst (P.map fun z => D.lst (z.map fun z => D.lst (z.map fun z => D.tup [D.int z.1, D.int z.2])))]), D.lst (List.map (fun z => z) [D.int k, D.lst (P.map fun z => D.lst (z.map fun z => D.lst (z.map fun z => D.tup [D.int z.1, D.int z.2])))]), ()) = ret true := by
  rw [List.map_id']
  refine alike_self 5 _ ⟨by show 2 ≤ 16777216; decide, fun d hd => ?_⟩
  simp only [List.mem_cons, List.not_mem_nil, or_false] at hd
  rcases hd with rfl | rfl
  · exact True.intro
  · exact dok_prods (n := 0) (few_n h.len hn) (fun r hr => few_n (h.row r hr) hn) fun r hr l hl => few_n (h.lin r hr l hl) hn
theorem eqv_prods (P : List (List (List Fr))) : PyData.eqv (PyData.list (P.map fun z => PyData.list (z.map fun z => PyData.list (z.map fun z => PyData.tuple [PyData.int z.1, PyData.int z.2])))) (PyData.list (P.map fun z => PyData.list (z.map fun z => PyData.list (z.map fun z => PyData.tuple [PyData.int z.1, PyData.int z.2])))) = true := by
  simp only [PyData.eqv]
  exact eqvAll_refl eqv_rows P
/-- a table as the program keeps it -/
abbrev tbV (P : List (List (List Fr))) : List (List Int) × Int × List (List (List Fr)) × Unit := ((ovP P).flatten, lcmP P, P, ())
theorem mapW_unit {n : Nat} {s : Int} : mapW (fun y => ret ((if decide (y = s) = true then (1 : Int) else 0), (1 : Int))) (rangeF 0 n) = ret (unitF n s) := mapW_eq fun _ _ => rfl
theorem mapW_unit2 {n : Nat} {s : Int} : mapW (fun y => ite (decide (y = s)) (ret (1, 1)) (ret (0, 1))) (rangeF 0 n) = ret (unitF n s) := mapW_eq fun y _ => by
  by_cases q : y = s
  · rw [ite_ok (decide_eq_true q), if_pos (decide_eq_true q)]
  · rw [ite_no (decide_eq_false q), if_neg (by simp [q])]
def unitsF (n : Nat) : List (List Fr) := (rangeF 0 n).map (unitF n)
theorem units_rw {n : Nat} : ∀ u ∈ unitsF n, Rw n u := fun u hu => by
  obtain ⟨s, _, rfl⟩ := List.mem_map.mp hu
  exact unitF_rw n s
theorem units_len (n : Nat) : (unitsF n).length = n := by rw [unitsF, List.length_map, rangeF_len]
theorem stepF_one : ∀ (lo : Int) (n : Nat), stepF lo 1 n = rangeF lo n
  | _, 0 => rfl
  | lo, n + 1 => by rw [stepF, rangeF, stepF_one (lo + 1) n]
theorem rg_one {n : Nat} (hn : n ≤ 36) : rgOk 0 (n : Int) 1 = true ∧ rgN 0 (n : Int) 1 = n := by
  have : ∀ m : Fin 37, rgOk 0 (m.val : Int) 1 = true ∧ rgN 0 (m.val : Int) 1 = m.val := by decide +kernel
  exact this ⟨n, by omega⟩
end Dc
namespace Dc
open PySem PySem.Spec L2
/-! ### divided -/
def gcdL (s : Int) (xs : List Int) : Int := xs.foldl (fun s y => ((Nat.gcd s.natAbs y.natAbs : Nat) : Int)) s
theorem gcdL_dvd : ∀ (xs : List Int) (s : Int), gcdL s xs ∣ s ∧ ∀ x ∈ xs, gcdL s xs ∣ x
  | [], s => ⟨Int.dvd_refl _, fun _ h => by cases h⟩
  | y :: r, s => by
    obtain ⟨h1, h2⟩ := gcdL_dvd r ((Nat.gcd s.natAbs y.natAbs : Nat) : Int)
    have g1 : ((Nat.gcd s.natAbs y.natAbs : Nat) : Int) ∣ s := Int.natAbs_dvd_natAbs.mp (by rw [Int.natAbs_natCast]; exact Nat.gcd_dvd_left ..)
    have g2 : ((Nat.gcd s.natAbs y.natAbs : Nat) : Int) ∣ y := Int.natAbs_dvd_natAbs.mp (by rw [Int.natAbs_natCast]; exact Nat.gcd_dvd_right ..)
    refine ⟨Int.dvd_trans h1 g1, fun x hx => ?_⟩
    rcases List.mem_cons.mp hx with e | e
    · rw [e]; exact Int.dvd_trans h1 g2
    · exact h2 x e
theorem div_loop {x0 : List Int} {f : Int → Int → W (Fl Int Int (List Int))} (hf : ∀ s y, f s y = bnd (ite (decide (((Nat.gcd s.natAbs y.natAbs : Nat) : Int) = 1)) (ret (Fl.rt x0)) (ret (Fl.nx ()))) (sq fun (_ : Unit) => ret (Fl.nx ((Nat.gcd s.natAbs y.natAbs : Nat) : Int)))) : ∀ (xs : List Int) (s : Int), forW (δ := Empty) f s xs = ret (.rt x0) ∨ forW (δ := Empty) f s xs = ret (.nx (gcdL s xs))
  | [], s => .inr rfl
  | y :: r, s => by
    by_cases q : ((Nat.gcd s.natAbs y.natAbs : Nat) : Int) = 1
    · refine .inl ?_
      show bnd (f s y) _ = _
      rw [hf, ite_ok (decide_eq_true q)]
      rfl
    · have e : forW (δ := Empty) f s (y :: r) = forW (δ := Empty) f ((Nat.gcd s.natAbs y.natAbs : Nat) : Int) r := by
        show bnd (f s y) _ = _
        rw [hf, ite_no (decide_eq_false q)]
        rfl
      rw [e]
      exact div_loop hf r _
theorem divided_eq {xs : List Int} (hb : ∀ x ∈ xs, x.natAbs < 2 ^ 8000) : ∃ ys, w_divided (xs, ()) = ret ys ∧ ∃ g : Int, 0 < g ∧ xs = ys.map (g * ·) := by
  have one : xs = xs.map ((1 : Int) * ·) := by
    conv => lhs; rw [← List.map_id xs]
    exact List.map_congr_left fun x _ => (Int.one_mul x).symm
  unfold w_divided wb_divided
  simp only [bnd_ret, bnd_assoc, bnd_grd, grd_true, fnR_bnd, fnR_grd, fnR_ret]
  rcases div_loop (x0 := xs) (f := fun s y => bnd (ite (decide (((Nat.gcd s.natAbs y.natAbs : Nat) : Int) = 1)) (ret (Fl.rt xs)) (ret (Fl.nx ()))) (sq fun (_ : Unit) => ret (Fl.nx ((Nat.gcd s.natAbs y.natAbs : Nat) : Int)))) (fun _ _ => rfl) xs 0 with e | e
  · refine ⟨xs, ?_, 1, by decide, one⟩
    exact (congrArg (fun z => bnd z _) e).trans rfl
  · obtain ⟨_, d⟩ := gcdL_dvd xs 0
    by_cases q : 0 < gcdL 0 xs
    · refine ⟨xs.map fun x => Int.fdiv x (gcdL 0 xs), ?_, gcdL 0 xs, q, ?_⟩
      · refine (congrArg (fun z => bnd z _) e).trans ?_
        simp only [bnd_ret, sq_nx, fnR_bnd]
        rw [ite_ok (decide_eq_true q), mapW_eq (g := fun x => Int.fdiv x (gcdL 0 xs)) fun x hx => ?_]
        · rfl
        · by_cases hz : ∃ y ∈ xs, y ≠ 0
          · obtain ⟨y, hy, h0⟩ := hz
            have le := Nat.le_of_dvd (by omega) (Int.natAbs_dvd_natAbs.mpr (d y hy))
            rw [grd_ok (fdivOk_of (by omega) (Nat.lt_of_le_of_lt le (pow_mono (hb y hy) (by decide))))]
          · exfalso
            have z : gcdL 0 xs = 0 := by
              have : ∀ (l : List Int), (∀ y ∈ l, y = 0) → gcdL 0 l = 0 := fun l hl => by
                induction l with
                | nil => rfl
                | cons a r ih =>
                  have e0 := hl a List.mem_cons_self
                  subst e0
                  exact ih fun y hy => hl y (List.mem_cons_of_mem _ hy)
              exact this xs fun y hy => Decidable.byContradiction fun h => hz ⟨y, hy, h⟩
            omega
      · rw [List.map_map]
        conv => lhs; rw [← List.map_id xs]
        refine List.map_congr_left fun x hx => ?_
        show x = gcdL 0 xs * Int.fdiv x (gcdL 0 xs)
        rw [Int.fdiv_eq_ediv_of_nonneg _ (by omega), Int.mul_ediv_cancel' (d x hx)]
    · refine ⟨xs, ?_, 1, by decide, one⟩
      refine (congrArg (fun z => bnd z _) e).trans ?_
      simp only [bnd_ret, sq_nx, fnR_bnd]
      rw [ite_no (decide_eq_false q)]
      rfl
/-! ### cleared -/
abbrev at0 (xs : List Int) (i : Nat) : Int := xs.getD i 0
theorem at0_get {xs : List Int} {i : Nat} (h : i < xs.length) : at0 xs i = xs[i] := by
  unfold at0
  rw [List.getD_eq_getElem?_getD, List.getElem?_eq_getElem h]
  rfl
theorem at0_out {xs : List Int} {i : Nat} (h : xs.length ≤ i) : at0 xs i = 0 := by
  unfold at0
  rw [List.getD_eq_getElem?_getD, List.getElem?_eq_none h]
  rfl
structure Clr (line head ys : List Int) (p : Nat) (A B : Nat) : Prop where
  len : ys.length = line.length
  eq : ∃ g sc sh : Int, 0 < g ∧ sc ≠ 0 ∧ ∀ i, g * at0 ys i = sc * at0 line i - sh * at0 head i
  zero : at0 ys p = 0
  bd : ∀ i, (at0 ys i).natAbs ≤ 2 * (A * B)
theorem cleared_eq {line head : List Int} {p A B : Nat} (hl : head.length = line.length) (hp : p < line.length) (h0 : at0 head p ≠ 0) (ha : ∀ i, (at0 line i).natAbs ≤ A) (hb : ∀ i, (at0 head i).natAbs ≤ B) (hA : A ≤ 2 ^ 3900) (hB : B ≤ 2 ^ 3900) : ∃ ys, w_cleared (line, head, (p : Int), ()) = ret ys ∧ Clr line head ys p A B := by
  have hp2 : p < head.length := by rw [hl]; exact hp
  have e1 := ix_nat hp
  have e2 := ix_nat hp2
  have v1 : ixAt line (p : Int) = at0 line p := by rw [e1.2, at0_get hp]
  have v2 : ixAt head (p : Int) = at0 head p := by rw [e2.2, at0_get hp2]
  generalize hx : at0 line p = x at v1
  generalize hy : at0 head p = y at v2 h0
  have bx : x.natAbs ≤ A := by rw [← hx]; exact ha p
  have byy : y.natAbs ≤ B := by rw [← hy]; exact hb p
  have cp : 0 < Nat.gcd x.natAbs y.natAbs := Nat.gcd_pos_of_pos_right _ (by omega)
  generalize hc : Nat.gcd x.natAbs y.natAbs = c at cp
  have dx : (c : Int) ∣ x := Int.natAbs_dvd_natAbs.mp (by rw [Int.natAbs_natCast, ← hc]; exact Nat.gcd_dvd_left ..)
  have dy : (c : Int) ∣ y := Int.natAbs_dvd_natAbs.mp (by rw [Int.natAbs_natCast, ← hc]; exact Nat.gcd_dvd_right ..)
  obtain ⟨u, hu⟩ := dx
  obtain ⟨v, hv⟩ := dy
  have fu : Int.fdiv x (c : Int) = u := by rw [Int.fdiv_eq_ediv_of_nonneg _ (by omega), hu, Int.mul_ediv_cancel_left _ (by omega)]
  have fv : Int.fdiv y (c : Int) = v := by rw [Int.fdiv_eq_ediv_of_nonneg _ (by omega), hv, Int.mul_ediv_cancel_left _ (by omega)]
  have v0 : v ≠ 0 := fun z => h0 (by rw [hv, z, Int.mul_zero])
  have bu : u.natAbs ≤ A := by
    have : u.natAbs ≤ x.natAbs := by rw [hu, Int.natAbs_mul, Int.natAbs_natCast]; exact Nat.le_mul_of_pos_left _ cp
    omega
  have bv : v.natAbs ≤ B := by
    have : v.natAbs ≤ y.natAbs := by rw [hv, Int.natAbs_mul, Int.natAbs_natCast]; exact Nat.le_mul_of_pos_left _ cp
    omega
  have cb : c ≤ 2 ^ 3900 := by
    have : c ≤ y.natAbs := by rw [← hc]; exact Nat.gcd_le_right _ (by omega)
    omega
  have p39 : (2 : Nat) ^ 3900 < 2 ^ 3901 := Nat.pow_lt_pow_right (by decide) (by decide)
  have fo : ∀ z : Int, fdivOk z (c : Int) = true := fun z => fdivOk_of (by omega) (by rw [Int.natAbs_natCast]; exact pow_mono (Nat.lt_of_le_of_lt cb p39) (by decide))
  have bd1 : ∀ i, (v * at0 line i - u * at0 head i).natAbs ≤ 2 * (A * B) := fun i => by
    have h1 : (v * at0 line i).natAbs ≤ A * B := by rw [Int.natAbs_mul, Nat.mul_comm]; exact Nat.mul_le_mul (ha i) bv
    have h2 : (u * at0 head i).natAbs ≤ A * B := by rw [Int.natAbs_mul]; exact Nat.mul_le_mul bu (hb i)
    have := Int.natAbs_sub_le (v * at0 line i) (u * at0 head i)
    omega
  have ab : 2 * (A * B) < 2 ^ 8000 := by
    have h1 : A * B ≤ 2 ^ 3900 * 2 ^ 3900 := Nat.mul_le_mul hA hB
    rw [← Nat.pow_add] at h1
    have h2 : 2 * 2 ^ (3900 + 3900) < 2 ^ 8000 := by
      rw [← Nat.pow_succ']
      exact Nat.pow_lt_pow_right (by decide) (by decide)
    omega
  have zl : (line.zip head).length = line.length := by rw [List.length_zip]; omega
  have gz : ∀ i, at0 ((line.zip head).map fun z => v * z.1 - u * z.2) i = v * at0 line i - u * at0 head i := fun i => by
    by_cases hi : i < line.length
    · rw [at0_get (by rw [List.length_map, zl]; exact hi), List.getElem_map, List.getElem_zip, at0_get hi, at0_get (by omega)]
    · rw [at0_out (by rw [List.length_map, zl]; omega), at0_out (by omega), at0_out (by omega), Int.mul_zero, Int.mul_zero]
      rfl
  obtain ⟨ys, w, g, gp, ge⟩ := divided_eq (xs := (line.zip head).map fun z => v * z.1 - u * z.2) fun q hq => by
    obtain ⟨i, hi, rfl⟩ := List.getElem_of_mem hq
    rw [← at0_get hi, gz]
    exact Nat.lt_of_le_of_lt (bd1 i) ab
  have ly : ys.length = line.length := by
    have := congrArg List.length ge
    rw [List.length_map, List.length_map, zl] at this
    exact this.symm
  have ey : ∀ i, g * at0 ys i = v * at0 line i - u * at0 head i := fun i => by
    rw [← gz, ge]
    by_cases hi : i < ys.length
    · rw [at0_get hi, at0_get (by rw [List.length_map]; exact hi), List.getElem_map]
    · rw [at0_out (by omega), at0_out (by rw [List.length_map]; omega), Int.mul_zero]
  refine ⟨ys, ?_, ly, ⟨g, v, u, gp, v0, ey⟩, ?_, fun i => ?_⟩
  · unfold w_cleared wb_cleared
    simp only [bnd_ret, bnd_assoc, bnd_grd, grd_true, fnR_bnd, fnR_grd, fnR_ret, e1.1, e2.1, v1, v2, hc, fo, fu, fv]
    rw [mapW_eq (g := fun z => v * z.1 - u * z.2) fun z hz => ?_, bnd_ret, w, bnd_ret]
    have b1 : z.1.natAbs ≤ A := by
      obtain ⟨i, hi, e⟩ := List.getElem_of_mem (List.of_mem_zip (show (z.1, z.2) ∈ line.zip head from hz)).1
      rw [← e, ← at0_get hi]
      exact ha i
    have b2 : z.2.natAbs ≤ B := by
      obtain ⟨i, hi, e⟩ := List.getElem_of_mem (List.of_mem_zip (show (z.1, z.2) ∈ line.zip head from hz)).2
      rw [← e, ← at0_get hi]
      exact hb i
    rw [grd_ok (mulOk_of (n := 3901) (m := 3901) (by omega) (by omega)), grd_ok (mulOk_of (n := 3901) (m := 3901) (by omega) (by omega))]
  · have e := ey p
    rw [hx, hy, hu, hv] at e
    have z : g * at0 ys p = 0 := by
      rw [e, show v * ((c : Int) * u) = u * ((c : Int) * v) by rw [Int.mul_left_comm, Int.mul_left_comm u, Int.mul_comm v u]]
      omega
    rcases Int.mul_eq_zero.mp z with q | q
    · omega
    · exact q
  · have e := bd1 i
    rw [← ey, Int.natAbs_mul] at e
    exact Nat.le_trans (Nat.le_mul_of_pos_left _ (by omega)) e
end Dc
namespace Dc
open PySem PySem.Spec L2
theorem rat_cancel {g a b : Rat} (h : g ≠ 0) (e : g * a = g * b) : a = b := by grind
theorem sumN_lin : ∀ {m : Nat} {a b : Rat} {f g r : Nat → Rat}, sumN m (fun i => (a * f i - b * g i) * r i) = a * sumN m (fun i => f i * r i) - b * sumN m (fun i => g i * r i)
  | 0, a, b, f, g, r => by show (0 : Rat) = a * 0 - b * 0; grind
  | m + 1, a, b, f, g, r => by
    show (a * f 0 - b * g 0) * r 0 + sumN m (fun i => (a * f (i + 1) - b * g (i + 1)) * r (i + 1)) = a * (f 0 * r 0 + sumN m fun i => f (i + 1) * r (i + 1)) - b * (g 0 * r 0 + sumN m fun i => g (i + 1) * r (i + 1))
    rw [sumN_lin (m := m) (f := fun i => f (i + 1)) (g := fun i => g (i + 1)) (r := fun i => r (i + 1))]
    grind
/-- a vector over the rows R and one more row r -/
def Rel (n m : Nat) (R : Nat → Nat → Rat) (r : Nat → Rat) (v : List Int) : Prop := ∀ j, j < n → ((at0 v j : Int) : Rat) = ((at0 v (n + m) : Int) : Rat) * r j + sumN m (fun i => ((at0 v (n + i) : Int) : Rat) * R i j)
theorem rel_clr {n m : Nat} {R : Nat → Nat → Rat} {r : Nat → Rat} {l h y : List Int} {p A B : Nat} (c : Clr l h y p A B) (h1 : Rel n m R r l) (h2 : Rel n m R r h) : Rel n m R r y := by
  obtain ⟨g, sc, sh, g0, _, e⟩ := c.eq
  have eq : ∀ i, (g : Rat) * ((at0 y i : Int) : Rat) = (sc : Rat) * ((at0 l i : Int) : Rat) - (sh : Rat) * ((at0 h i : Int) : Rat) := fun i => by
    have := congrArg (fun z : Int => (z : Rat)) (e i)
    simpa using this
  have gq : (g : Rat) ≠ 0 := fun z => by
    have : g = 0 := by exact_mod_cast z
    omega
  intro j hj
  refine rat_cancel gq ?_
  rw [eq j, h1 j hj, h2 j hj]
  have s : sumN m (fun i => ((at0 y (n + i) : Int) : Rat) * R i j) * (g : Rat) = sumN m (fun i => ((sc : Rat) * ((at0 l (n + i) : Int) : Rat) - (sh : Rat) * ((at0 h (n + i) : Int) : Rat)) * R i j) := by
    rw [Rat.mul_comm, ← sumN_mul]
    refine sumN_congr fun i _ => ?_
    rw [← eq]
    grind
  rw [sumN_lin (f := fun i => ((at0 l (n + i) : Int) : Rat)) (g := fun i => ((at0 h (n + i) : Int) : Rat)) (r := fun i => R i j)] at s
  have o := eq (n + m)
  generalize sumN m (fun i => ((at0 y (n + i) : Int) : Rat) * R i j) = s1 at s ⊢
  generalize sumN m (fun i => ((at0 l (n + i) : Int) : Rat) * R i j) = s2 at s ⊢
  generalize sumN m (fun i => ((at0 h (n + i) : Int) : Rat) * R i j) = s3 at s ⊢
  generalize ((at0 y (n + m) : Int) : Rat) = y1 at o ⊢
  generalize ((at0 l (n + m) : Int) : Rat) = l1 at o ⊢
  generalize ((at0 h (n + m) : Int) : Rat) = h1 at o ⊢
  grind
theorem at0_app {xs ys : List Int} {i : Nat} : at0 (xs ++ ys) i = if i < xs.length then at0 xs i else at0 ys (i - xs.length) := by
  by_cases h : i < xs.length
  · rw [if_pos h, at0_get (by rw [List.length_append]; omega), List.getElem_append_left h, at0_get h]
  · rw [if_neg h]
    by_cases h2 : i < (xs ++ ys).length
    · rw [at0_get h2, List.getElem_append_right (by omega), at0_get (by rw [List.length_append] at h2; omega)]
    · rw [at0_out (by omega), at0_out (by rw [List.length_append] at h2; omega)]
theorem at0_rep {k i : Nat} : at0 (List.replicate k 0) i = 0 := by
  by_cases h : i < (List.replicate k (0 : Int)).length
  · rw [at0_get h, List.getElem_replicate]
  · exact at0_out (by omega)
theorem at0_pad {xs : List Int} {k i : Nat} : at0 (xs ++ List.replicate k 0) i = at0 xs i := by
  rw [at0_app]
  by_cases h : i < xs.length
  · rw [if_pos h]
  · rw [if_neg h, at0_rep, at0_out (by omega)]
end Dc
namespace Dc
open PySem PySem.Spec L2
theorem sumN_split : ∀ (a b : Nat) (f : Nat → Rat), sumN (a + b) f = sumN a f + sumN b fun i => f (a + i)
  | 0, b, f => by
    rw [Nat.zero_add]
    show _ = 0 + _
    rw [Rat.zero_add]
    exact sumN_congr fun i _ => by rw [Nat.zero_add]
  | a + 1, b, f => by
    rw [show a + 1 + b = (a + b) + 1 by omega]
    show f 0 + sumN (a + b) (fun i => f (i + 1)) = (f 0 + sumN a fun i => f (i + 1)) + _
    rw [sumN_split a b, Rat.add_assoc]
    congr 2
    exact sumN_congr fun i _ => by rw [show a + i + 1 = a + 1 + i by omega]
theorem sumN_last {k m : Nat} {f : Nat → Rat} (h : k < m) (z : ∀ i, k < i → f i = 0) : sumN m f = f k + sumN k f := by
  obtain ⟨d, rfl⟩ : ∃ d, m = k + (1 + d) := ⟨m - k - 1, by omega⟩
  rw [sumN_split, sumN_split]
  have e : (sumN d fun i => f (k + (1 + i))) = 0 := sumN_zero fun i _ => z _ (by omega)
  rw [e]
  show sumN k f + ((f (k + 0) + 0) + 0) = _
  rw [Rat.add_zero, Rat.add_zero, Rat.add_comm]
  rfl
/-- a kept line: of row k, with its place p -/
structure Kp (n k : Nat) (R : Nat → Nat → Rat) (B : Nat) (e : Int × List Int) (p : Nat) : Prop where
  pl : e.1 = (p : Int)
  lt : p < n
  ne : at0 e.2 p ≠ 0
  len : e.2.length = n + k + 1
  rel : Rel n k R (R k) e.2
  bd : ∀ i, (at0 e.2 i).natAbs ≤ B
theorem Kp.far {n k m : Nat} {R : Nat → Nat → Rat} {r : Nat → Rat} {B : Nat} {e : Int × List Int} {p : Nat} (h : Kp n k R B e p) (hm : k < m) : Rel n m R r e.2 ∧ at0 e.2 (n + m) = 0 := by
  have z : at0 e.2 (n + m) = 0 := at0_out (by rw [h.len]; omega)
  refine ⟨fun j hj => ?_, z⟩
  rw [h.rel j hj, z, sumN_last (k := k) hm fun i hi => by rw [at0_out (by rw [h.len]; omega)]; show (0 : Rat) * _ = 0; rw [Rat.zero_mul]]
  show _ = (0 : Rat) * _ + _
  rw [Rat.zero_mul, Rat.zero_add]
structure KL (n : Nat) (R : Nat → Nat → Rat) (c : Nat) (ls : List (Int × List Int)) (pl : Nat → Nat) : Prop where
  k : ∀ k (h : k < ls.length), Kp n k R (2 ^ (2 ^ k * c - 1)) ls[k] (pl k)
  z : ∀ k (h : k < ls.length), ∀ j, j < k → at0 ls[k].2 (pl j) = 0
structure Inv_ (n m : Nat) (R : Nat → Nat → Rat) (r : Nat → Rat) (pl : Nat → Nat) (a c t : Nat) (v : List Int) : Prop where
  len : v.length = n + m + 1
  rel : Rel n m R r v
  own : at0 v (n + m) ≠ 0
  zer : ∀ j, j < t → at0 v (pl j) = 0
  bd : ∀ i, (at0 v i).natAbs ≤ 2 ^ (a + (2 ^ t * c - c))
theorem two_le {c t : Nat} (h : 1 ≤ c) : c ≤ 2 ^ t * c := Nat.le_mul_of_pos_left _ (Nat.pow_pos (by decide))
theorem rest_loop {n m : Nat} {R : Nat → Nat → Rat} {r : Nat → Rat} {pl : Nat → Nat} {a c : Nat} {ls : List (Int × List Int)} (hn : n ≤ 6) (hm : ls.length = m) (hm6 : m ≤ 6) (K : KL n R c ls pl) (c1 : 1 ≤ c) (hA : a + 2 ^ 6 * c ≤ 3900)
    {f : List Int → Int × List Int → W (Fl (List Int) (List Int) (List Int × Int × List Int))} (hf : ∀ s y, f s y = grd (ixOk s y.1) (bnd (ite (!decide (ixAt s y.1 = 0)) (grd (repOk 1 ((n : Int) + (m : Int) + 1 - (y.2.length : Int))) (grd (decide (y.2.length + (List.replicate ((n : Int) + (m : Int) + 1 - (y.2.length : Int)).toNat (0 : Int)).length ≤ 16777216)) (bnd (w_cleared (s, y.2 ++ List.replicate ((n : Int) + (m : Int) + 1 - (y.2.length : Int)).toNat 0, y.1, ())) fun v => ret (Fl.nx v)))) (ret (Fl.nx s))) (sq fun s => ret (Fl.nx s)))) :
    ∀ (d t : Nat) (v : List Int), d + t = m → Inv_ n m R r pl a c t v → ∃ w, forW (δ := Empty) f v (ls.drop t) = ret (.nx w) ∧ Inv_ n m R r pl a c m w
  | 0, t, v, e, h => by
    have e : t = m := by omega
    subst e
    rw [← hm, List.drop_length]
    exact ⟨v, rfl, by rw [hm]; exact h⟩
  | d + 1, t, v, e, h => by
    have ht : t < ls.length := by omega
    have kp := K.k t ht
    rw [List.drop_eq_getElem_cons ht]
    have p1 := kp.lt
    have i1 := ix_nat (l := v) (i := pl t) (by rw [h.len]; omega)
    have v1 : ixAt v ((pl t : Nat) : Int) = at0 v (pl t) := by rw [i1.2, at0_get (by rw [h.len]; omega)]
    have ct := two_le (t := t) c1
    have ct1 : 2 ^ (t + 1) * c = 2 * (2 ^ t * c) := by rw [Nat.pow_succ]; rw [Nat.mul_comm (2 ^ t) 2, Nat.mul_assoc]
    have c6 : 2 ^ t * c ≤ 2 ^ 6 * c := Nat.mul_le_mul_right _ (Nat.pow_le_pow_right (by decide) (by omega))
    by_cases q : at0 v (pl t) = 0
    · have h2 : Inv_ n m R r pl a c (t + 1) v := ⟨h.len, h.rel, h.own, fun j hj => by
        rcases Nat.lt_succ_iff_lt_or_eq.mp hj with z | z
        · exact h.zer j z
        · rw [z]; exact q, fun i => Nat.le_trans (h.bd i) (Nat.pow_le_pow_right (by decide) (by omega))⟩
      obtain ⟨w, e2, h3⟩ := rest_loop hn hm hm6 K c1 hA hf d (t + 1) v (by omega) h2
      refine ⟨w, ?_, h3⟩
      show bnd (f v ls[t]) _ = _
      rw [hf, kp.pl, grd_ok i1.1, v1, ite_no (by rw [q]; rfl)]
      exact e2
    · have cnt : (n : Int) + (m : Int) + 1 - (ls[t].2.length : Int) = ((m - t : Nat) : Int) := by rw [kp.len]; omega
      have hl : (ls[t].2 ++ List.replicate (m - t) (0 : Int)).length = v.length := by rw [List.length_append, List.length_replicate, kp.len, h.len]; omega
      obtain ⟨y, w1, cl⟩ := cleared_eq (line := v) (head := ls[t].2 ++ List.replicate (m - t) 0) (p := pl t) (A := 2 ^ (a + (2 ^ t * c - c))) (B := 2 ^ (2 ^ t * c - 1)) hl (by rw [h.len]; omega) (by rw [at0_pad]; exact kp.ne) h.bd (fun i => by rw [at0_pad]; exact kp.bd i) (Nat.pow_le_pow_right (by decide) (by omega)) (Nat.pow_le_pow_right (by decide) (by omega))
      have far := kp.far (m := m) (r := r) (by omega)
      have relh : Rel n m R r (ls[t].2 ++ List.replicate (m - t) 0) := fun j hj => by
        simp only [at0_pad]
        exact far.1 j hj
      obtain ⟨g, sc, sh, g0, s0, eq⟩ := cl.eq
      have h2 : Inv_ n m R r pl a c (t + 1) y := by
        refine ⟨by rw [cl.len, h.len], rel_clr cl h.rel relh, fun z => ?_, fun j hj => ?_, fun i => ?_⟩
        · have e3 := eq (n + m)
          rw [z, at0_pad, far.2, Int.mul_zero, Int.mul_zero, Int.sub_zero] at e3
          rcases Int.mul_eq_zero.mp e3.symm with x | x
          · exact s0 x
          · exact h.own x
        · rcases Nat.lt_succ_iff_lt_or_eq.mp hj with z | z
          · have e3 := eq (pl j)
            rw [h.zer j z, at0_pad, K.z t ht j z, Int.mul_zero, Int.mul_zero, Int.sub_zero] at e3
            rcases Int.mul_eq_zero.mp e3 with x | x
            · omega
            · exact x
          · rw [z]; exact cl.zero
        · have b := cl.bd i
          rw [← Nat.pow_add, ← Nat.pow_succ'] at b
          exact Nat.le_trans b (Nat.pow_le_pow_right (by decide) (by omega))
      obtain ⟨w, e2, h3⟩ := rest_loop hn hm hm6 K c1 hA hf d (t + 1) y (by omega) h2
      refine ⟨w, ?_, h3⟩
      show bnd (f v ls[t]) _ = _
      rw [hf, kp.pl, grd_ok i1.1, v1, ite_ok (by rw [decide_eq_false q]; rfl), cnt, Int.toNat_natCast, grd_ok (repOk1 (by omega) (by omega)), grd_ok (decide_eq_true (by rw [List.length_replicate, kp.len]; omega)), w1]
      exact e2
end Dc
namespace Dc
open PySem PySem.Spec L2
theorem ix_last {l : List Int} {k : Nat} (h : l.length = k + 1) : ixOk l (-1) = true ∧ ixAt l (-1) = at0 l k := by
  have e : ixN l.length (-1) = some k := by
    rw [h]
    unfold ixN
    simp
    try omega
  unfold ixOk ixAt
  rw [e]
  refine ⟨rfl, ?_⟩
  show l.getD k default = l.getD k 0
  rfl
theorem cast_over {x : Fr} {F : Int} (h : 1 ≤ x.2) (hF : 0 < F) (hd : x.2 ∣ F) : ((x.1 * Int.fdiv F x.2 : Int) : Rat) = (F : Rat) * toQ x := by
  have e := over h hF hd
  rw [← e, Rat.divInt_eq_div]
  have : (F : Rat) ≠ 0 := fun z => by
    have : F = 0 := by exact_mod_cast z
    omega
  grind
theorem rest_eq {n m : Nat} {R : Nat → Nat → Rat} {pl : Nat → Nat} {a c : Nat} {ls : List (Int × List Int)} {x : List Fr} (hn : n ≤ 6) (hm : ls.length = m) (hm6 : m ≤ 6) (K : KL n R c ls pl) (c1 : 1 ≤ c) (hA : a + 2 ^ 6 * c ≤ 3900)
    (hx : x.length = n) (rx : ∀ z ∈ x, Red z) (sx : ∀ z ∈ x, Sz 4000 z) (bi : ∀ u ∈ intsL x, u.natAbs ≤ 2 ^ a) (bl : (lcmL x).natAbs ≤ 2 ^ a) :
    ∃ w, w_Basis_rest ((ls, ()), x, ()) = ret (w.take n, at0 w (n + m), (w.drop n).take m) ∧ Inv_ n m R (at1 x) pl a c m w := by
  have px := lcmL_pos rx
  have il : (intsL x).length = n := by rw [intsL, List.length_map, hx]
  have ll : lcmL x < 2 ^ 13000 := by
    have : (lcmL x).natAbs < 2 ^ 13000 := Nat.lt_of_le_of_lt bl (Nat.pow_lt_pow_right (by decide) (by omega))
    have e : ((2 : Int) ^ 13000) = ((2 ^ 13000 : Nat) : Int) := natpow_cast 13000
    rw [e]
    omega
  have v0l : ((intsL x ++ List.replicate m 0) ++ [lcmL x]).length = n + m + 1 := by
    simp [il]
    omega
  have at_lo : ∀ j, j < n → at0 ((intsL x ++ List.replicate m 0) ++ [lcmL x]) j = at0 (intsL x) j := fun j hj => by
    rw [at0_app, if_pos (by simp [il]; omega), at0_app, if_pos (by omega)]
  have at_mid : ∀ i, i < m → at0 ((intsL x ++ List.replicate m 0) ++ [lcmL x]) (n + i) = 0 := fun i hi => by
    rw [at0_app, if_pos (by simp [il]; omega), at0_app, if_neg (by omega), at0_rep]
  have at_hi : at0 ((intsL x ++ List.replicate m 0) ++ [lcmL x]) (n + m) = lcmL x := by
    rw [at0_app, if_neg (by simp [il]), show n + m - (intsL x ++ List.replicate m (0 : Int)).length = 0 by simp [il]]
    rfl
  have i0 : Inv_ n m R (at1 x) pl a c 0 ((intsL x ++ List.replicate m 0) ++ [lcmL x]) := by
    refine ⟨v0l, fun j hj => ?_, by rw [at_hi]; omega, fun j hj => by omega, fun i => ?_⟩
    · have z : (sumN m fun i => ((at0 ((intsL x ++ List.replicate m 0) ++ [lcmL x]) (n + i) : Int) : Rat) * R i j) = 0 := sumN_zero fun i hi => by
        rw [at_mid i hi]
        show (0 : Rat) * _ = 0
        rw [Rat.zero_mul]
      rw [z, Rat.add_zero, at_lo j hj, at_hi]
      have hj2 : j < x.length := by omega
      have e1 : at0 (intsL x) j = x[j].1 * Int.fdiv (lcmL x) x[j].2 := by
        rw [at0_get (by omega)]
        simp [intsL]
      have e2 : at1 x j = toQ x[j] := by
        unfold at1
        rw [List.getD_eq_getElem?_getD, List.getElem?_eq_getElem hj2]
        rfl
      rw [e1, e2]
      exact cast_over (rx _ (List.getElem_mem hj2)).1 px (lcmL_dvd rx (List.getElem_mem hj2))
    · have up : 2 ^ a ≤ 2 ^ (a + (2 ^ 0 * c - c)) := Nat.pow_le_pow_right (by decide) (by omega)
      refine Nat.le_trans ?_ up
      by_cases h1 : i < n
      · rw [at_lo i h1, at0_get (by omega)]
        exact bi _ (List.getElem_mem _)
      · by_cases h2 : i < n + m
        · rw [show i = n + (i - n) by omega, at_mid (i - n) (by omega)]
          simp
        · by_cases h3 : i = n + m
          · rw [h3, at_hi]; exact bl
          · rw [at0_out (by omega)]; simp
  obtain ⟨w, e, iw⟩ := rest_loop (r := at1 x) hn hm hm6 K c1 hA (f := fun s y => grd (ixOk s y.1) (bnd (ite (!decide (ixAt s y.1 = 0)) (grd (repOk 1 ((n : Int) + (m : Int) + 1 - (y.2.length : Int))) (grd (decide (y.2.length + (List.replicate ((n : Int) + (m : Int) + 1 - (y.2.length : Int)).toNat (0 : Int)).length ≤ 16777216)) (bnd (w_cleared (s, y.2 ++ List.replicate ((n : Int) + (m : Int) + 1 - (y.2.length : Int)).toNat 0, y.1, ())) fun v => ret (Fl.nx v)))) (ret (Fl.nx s))) (sq fun s => ret (Fl.nx s)))) (fun _ _ => rfl) m 0 _ (by omega) i0
  rw [List.drop_zero] at e
  refine ⟨w, ?_, iw⟩
  unfold w_Basis_rest wb_Basis_rest
  simp only [bnd_ret, bnd_assoc, bnd_grd, grd_true, fnR_bnd, fnR_grd, fnR_ret, integers_of_eq rx sx ll, il, hm, flat1, Int.toNat_natCast]
  rw [grd_ok (show repOk ([0] : List Int).length (m : Int) = true from repOk1 (by omega) (by omega)), grd_ok (decide_eq_true (by simp [il]; omega)), grd_ok (decide_eq_true (by simp [il]; omega))]
  refine (congrArg (fun z => bnd z _) e).trans ?_
  obtain ⟨l1, l2⟩ := ix_last (l := w) (k := n + m) iw.len
  have s1 : HT.sIx w.length w.length (some ((n : Nat) : Int)) = n := by rw [HT.sIx_nat, iw.len]; omega
  have s2 : HT.sIx w.length 0 (some ((n : Nat) : Int)) = n := by rw [HT.sIx_nat, iw.len]; omega
  have s3 : HT.sIx w.length w.length (some (-1)) = n + m := by
    have e0 : HT.sIx w.length w.length (some (-1)) = ((-1 : Int) + (w.length : Int)).toNat := rfl
    rw [e0, iw.len]
    omega
  rw [bnd_ret, sq_nx]
  simp only [bnd_ret, bnd_grd, fnR_grd, fnR_ret, HT.sIx_none, List.drop_zero, s1, s2, s3, l1, l2, grd_true, Nat.sub_zero, Nat.add_sub_cancel_left]
end Dc
namespace Dc
open PySem PySem.Spec L2
def Ind (n m : Nat) (R : Nat → Nat → Rat) : Prop := ∀ c : Nat → Rat, (∀ j, j < n → sumN m (fun i => c i * R i j) = 0) → ∀ i, i < m → c i = 0
theorem Ind.less {n m k : Nat} {R : Nat → Nat → Rat} (h : Ind n m R) (hk : k ≤ m) : Ind n k R := fun c hc i hi => by
  have z := h (fun i => if i < k then c i else 0) (fun j hj => by
    obtain ⟨d, rfl⟩ : ∃ d, m = k + d := ⟨m - k, by omega⟩
    rw [sumN_split]
    have e1 : (sumN k fun i => (if i < k then c i else 0) * R i j) = sumN k fun i => c i * R i j := sumN_congr fun i hi => by rw [if_pos hi]
    have e2 : (sumN d fun i => (if k + i < k then c (k + i) else 0) * R (k + i) j) = 0 := sumN_zero fun i _ => by rw [if_neg (by omega), Rat.zero_mul]
    rw [e1, e2, hc j hj, Rat.add_zero]) i (by omega)
  rwa [if_pos hi] at z
theorem nz_loop {β δ : Type} {G : Int → β} {f : Unit → Int × Int → W (Fl Unit Unit β)} (hf : ∀ y, f () y = bnd (ite (!decide (y.2 = 0)) (ret (Fl.rt (G y.1))) (ret (Fl.nx ()))) (sq fun (_ : Unit) => ret (Fl.nx ()))) : ∀ (xs : List Int) (k : Nat), (∃ x ∈ xs, x ≠ 0) → ∃ i : Nat, i < xs.length ∧ at0 xs i ≠ 0 ∧ forW (δ := δ) f () (enumF (k : Int) xs) = ret (.rt (G ((k + i : Nat) : Int)))
  | [], _, h => by obtain ⟨_, h, _⟩ := h; cases h
  | x :: r, k, h => by
    by_cases q : x = 0
    · have h2 : ∃ y ∈ r, y ≠ 0 := by
        obtain ⟨y, hy, h0⟩ := h
        rcases List.mem_cons.mp hy with e | e
        · exact absurd (e.trans q) h0
        · exact ⟨y, e, h0⟩
      obtain ⟨i, h3, h4, h5⟩ := nz_loop (δ := δ) hf r (k + 1) h2
      refine ⟨i + 1, by rw [List.length_cons]; omega, h4, ?_⟩
      show bnd (f () ((k : Int), x)) _ = _
      rw [hf, ite_no (by rw [decide_eq_true q]; rfl), bnd_ret, sq_nx, bnd_ret]
      show forW f () (enumF ((k : Int) + 1) r) = _
      rw [show ((k : Int) + 1) = ((k + 1 : Nat) : Int) by omega, h5, show k + 1 + i = k + (i + 1) by omega]
    · refine ⟨0, by rw [List.length_cons]; omega, q, ?_⟩
      show bnd (f () ((k : Int), x)) _ = _
      rw [hf, ite_ok (by rw [decide_eq_false q]; rfl)]
      rfl
theorem parts {w : List Int} {n m : Nat} (h : w.length = n + m + 1) : (w.take n ++ (w.drop n).take m) ++ [at0 w (n + m)] = w := by
  rw [← List.take_add]
  have e : [at0 w (n + m)] = w.drop (n + m) := by
    rw [List.drop_eq_getElem_cons (by omega), at0_get (by omega), List.drop_eq_nil_of_le (by omega)]
  rw [e, List.take_append_drop]
/-- a row as it is put to a basis -/
structure Rb (n a : Nat) (x : List Fr) : Prop where
  len : x.length = n
  red : ∀ z ∈ x, Red z
  sz : ∀ z ∈ x, Sz 4000 z
  bi : ∀ u ∈ intsL x, u.natAbs ≤ 2 ^ a
  bl : (lcmL x).natAbs ≤ 2 ^ a
theorem put_eq {n m : Nat} {R : Nat → Nat → Rat} {pl : Nat → Nat} {c : Nat} {ls : List (Int × List Int)} {x : List Fr} (hn : n ≤ 6) (hm : ls.length = m) (hm6 : m ≤ 6) (K : KL n R c ls pl) (c1 : 1 ≤ c) (hA : c - 1 + 2 ^ 6 * c ≤ 3900) (hx : Rb n (c - 1) x) (hR : ∀ j, j < n → at1 x j = R m j) (hI : Ind n (m + 1) R) :
    ∃ p w, w_Basis_put (ls, x, ()) = ret (some (((p : Nat) : Int), w)) ∧ gdL (((p : Nat) : Int), w) = true ∧ Kp n m R (2 ^ (2 ^ m * c - 1)) (((p : Nat) : Int), w) p ∧ ∀ j, j < m → at0 w (pl j) = 0 := by
  obtain ⟨w, e, iw⟩ := rest_eq hn hm hm6 K c1 hA hx.len hx.red hx.sz hx.bi hx.bl
  have rl : Rel n m R (R m) w := fun j hj => by rw [iw.rel j hj, hR j hj]
  have tl : (w.take n).length = n := by rw [List.length_take, iw.len]; omega
  have dl : ((w.drop n).take m).length = m := by rw [List.length_take, List.length_drop, iw.len]; omega
  have tk : ∀ j, j < n → at0 (w.take n) j = at0 w j := fun j hj => by
    rw [at0_get (by omega), at0_get (by rw [iw.len]; omega), List.getElem_take]
  have nz : ∃ y ∈ w.take n, y ≠ 0 := Decidable.byContradiction fun h => by
    have all : ∀ j, j < n → at0 w j = 0 := fun j hj => by
      rw [← tk j hj, at0_get (by omega)]
      exact Decidable.byContradiction fun h0 => h ⟨_, List.getElem_mem _, h0⟩
    have z := hI (fun i => ((at0 w (n + i) : Int) : Rat)) (fun j hj => by
      have r := rl j hj
      rw [all j hj] at r
      have s := sumN_split m 1 fun i => ((at0 w (n + i) : Int) : Rat) * R i j
      rw [s]
      show (sumN m fun i => ((at0 w (n + i) : Int) : Rat) * R i j) + (((at0 w (n + (m + 0)) : Int) : Rat) * R (m + 0) j + 0) = 0
      rw [Nat.add_zero, Rat.add_zero, Rat.add_comm]
      exact r.symm) m (by omega)
    have z2 : at0 w (n + m) = 0 := by exact_mod_cast z
    exact iw.own z2
  obtain ⟨i, hi, h0, hl⟩ := nz_loop (δ := Empty) (β := Option (Int × List Int)) (G := fun p => some (p, w)) (f := fun _ y => bnd (ite (!decide (y.2 = 0)) (ret (Fl.rt (some (y.1, w)))) (ret (Fl.nx ()))) (sq fun (_ : Unit) => ret (Fl.nx ()))) (fun _ => rfl) (w.take n) 0 nz
  rw [tl] at hi
  rw [Nat.zero_add] at hl
  rw [tk i hi] at h0
  have wn : w ≠ [] := fun z => by
    have := iw.len
    rw [z] at this
    simp at this
  have two := two_le (t := m) c1
  refine ⟨i, w, ?_, ?_, ⟨rfl, hi, h0, iw.len, rl, fun q => Nat.le_trans (iw.bd q) (Nat.pow_le_pow_right (by decide) (by omega))⟩, iw.zer⟩
  · unfold w_Basis_put wb_Basis_put
    simp only [bnd_ret, bnd_assoc, bnd_grd, grd_true, fnR_bnd, fnR_grd, fnR_ret, e, tl, dl, List.length_append, hm]
    rw [show decide (n + m ≤ 16777216) = true from decide_eq_true (by omega), show decide (m < 16777216) = true from decide_eq_true (by omega)]
    have g2 : decide (n + m + [at0 w (n + m)].length ≤ 16777216) = true := decide_eq_true (by show n + m + 1 ≤ _; omega)
    simp only [g2, grd_true, parts iw.len]
    refine (congrArg (fun z => bnd z _) hl).trans ?_
    rfl
  · show (!w.isEmpty) = true
    cases w with
    | nil => exact absurd rfl wn
    | cons _ _ => rfl
end Dc
namespace Dc
open PySem PySem.Spec L2
/-! ### n places of n -/
theorem noinj : ∀ (n m : Nat) (f : Nat → Nat), (∀ i, i < n → f i < m) → (∀ i j, i < n → j < i → f i ≠ f j) → n ≤ m
  | 0, _, _, _, _ => Nat.zero_le _
  | n + 1, m, f, h, hi => by
    have h0 := h n (by omega)
    have ne : ∀ i, i < n → f i ≠ f n := fun i q => fun z => hi n i (by omega) q z.symm
    have := noinj n (m - 1) (fun i => if f n < f i then f i - 1 else f i) (fun i q => by
      have h1 := h i (by omega)
      have h2 := ne i q
      show (if f n < f i then f i - 1 else f i) < m - 1
      split <;> omega) (fun i j q1 q2 => by
      have h1 := ne i q1
      have h2 := ne j (by omega)
      have h3 := hi i j (by omega) q2
      show (if f n < f i then f i - 1 else f i) ≠ (if f n < f j then f j - 1 else f j)
      split <;> split <;> omega)
    omega
theorem surj {n : Nat} {f : Nat → Nat} (h : ∀ i, i < n → f i < n) (hi : ∀ i j, i < n → j < i → f i ≠ f j) : ∀ q, q < n → ∃ i, i < n ∧ f i = q := fun q hq => Decidable.byContradiction fun z => by
  have ne : ∀ i, i < n → f i ≠ q := fun i h1 h2 => z ⟨i, h1, h2⟩
  have := noinj n (n - 1) (fun i => if q < f i then f i - 1 else f i) (fun i h1 => by
    have a := h i h1
    have b := ne i h1
    show (if q < f i then f i - 1 else f i) < n - 1
    split <;> omega) (fun i j q1 q2 => by
    have h1 := ne i q1
    have h2 := ne j (by omega)
    have h3 := hi i j q1 q2
    show (if q < f i then f i - 1 else f i) ≠ (if q < f j then f j - 1 else f j)
    split <;> split <;> omega)
  omega
/-! ### all rows of a basis put -/
theorem puts_eq {n c : Nat} {rows : List (List Fr)} {R : Nat → Nat → Rat} (hn : n ≤ 6) (hm : rows.length ≤ 6) (c1 : 1 ≤ c) (hA : c - 1 + 2 ^ 6 * c ≤ 3900) (hr : ∀ x ∈ rows, Rb n (c - 1) x) (hR : ∀ i, i < rows.length → ∀ j, j < n → at1 (rows.getD i []) j = R i j) (hI : Ind n rows.length R) :
    ∀ (d k : Nat) (ls : List (Int × List Int)) (pl : Nat → Nat), d + k = rows.length → ls.length = k → KL n R c ls pl → ∃ ls' pl', putsW gdL w_Basis_put ls (rows.drop k) = ret (ls', List.replicate d true) ∧ ls'.length = rows.length ∧ KL n R c ls' pl'
  | 0, k, ls, pl, e, hl, K => by
    have e : k = rows.length := by omega
    subst e
    rw [List.drop_length]
    exact ⟨ls, pl, rfl, hl, K⟩
  | d + 1, k, ls, pl, e, hl, K => by
    have hk : k < rows.length := by omega
    rw [List.drop_eq_getElem_cons hk]
    have gk : rows.getD k [] = rows[k] := by rw [List.getD_eq_getElem?_getD, List.getElem?_eq_getElem hk]; rfl
    obtain ⟨p, w, e1, g1, kp, z⟩ := put_eq hn hl (by omega) K c1 hA (hr _ (List.getElem_mem hk)) (fun j hj => by rw [← gk]; exact hR k hk j hj) (hI.less (by omega))
    have K2 : KL n R c (ls ++ [(((p : Nat) : Int), w)]) (fun j => if j < k then pl j else p) := by
      refine ⟨fun q hq => ?_, fun q hq j hj => ?_⟩
      · rw [List.length_append, List.length_singleton] at hq
        by_cases h : q < k
        · rw [List.getElem_append_left (by omega)]
          simp only [if_pos h]
          exact K.k q (by omega)
        · have h2 : q = k := by omega
          subst h2
          rw [List.getElem_append_right (by omega)]
          simp only [if_neg (Nat.lt_irrefl _), hl, Nat.sub_self, List.getElem_cons_zero]
          exact kp
      · rw [List.length_append, List.length_singleton] at hq
        by_cases h : q < k
        · rw [List.getElem_append_left (by omega)]
          simp only [if_pos (show j < k by omega)]
          exact K.z q (by omega) j hj
        · have h2 : q = k := by omega
          subst h2
          rw [List.getElem_append_right (by omega)]
          simp only [if_pos hj, hl, Nat.sub_self, List.getElem_cons_zero]
          exact z j hj
    obtain ⟨ls', pl', e2, l2, K3⟩ := puts_eq hn hm c1 hA hr hR hI d (k + 1) _ _ (by omega) (by rw [List.length_append, hl]; rfl) K2
    refine ⟨ls', pl', ?_, l2, K3⟩
    show bnd (w_Basis_put (ls, rows[k], ())) _ = _
    rw [e1, bnd_ret]
    show grd (gdL (((p : Nat) : Int), w)) (bnd (putsW gdL w_Basis_put (ls ++ [(((p : Nat) : Int), w)]) (rows.drop (k + 1))) _) = _
    rw [g1, grd_true, e2, bnd_ret]
    rfl
/-! ### the numbers told -/
theorem told_eq {n : Nat} {R : Nat → Nat → Rat} {pl : Nat → Nat} {a c : Nat} {ls : List (Int × List Int)} {x : List Fr} {cs : Nat → Rat} (hn : n ≤ 6) (hm : ls.length = n) (K : KL n R c ls pl) (c1 : 1 ≤ c) (hA : a + 2 ^ 6 * c ≤ 3900) (hx : Rb n a x) (hI : Ind n n R) (hc : ∀ j, j < n → at1 x j = sumN n fun i => cs i * R i j) :
    w_Basis_told ((ls, ()), x, ()) = ret (some ((List.range n).map fun i => ofQ (cs i))) := by
  obtain ⟨w, e, iw⟩ := rest_eq hn hm hn K c1 hA hx.len hx.red hx.sz hx.bi hx.bl
  have zero : ∀ j, j < n → at0 w j = 0 := fun j hj => by
    obtain ⟨i, hi, rfl⟩ := surj (f := pl) (fun i hi => (K.k i (by omega)).lt) (fun i j hi hj z => (K.k i (by omega)).ne (by rw [z]; exact K.z i (by omega) j hj)) j hj
    exact iw.zer i hi
  have hz0 : w.take n = List.replicate n 0 := by
    refine List.ext_getElem (by rw [List.length_take, List.length_replicate, iw.len]; omega) fun i h1 h2 => ?_
    rw [List.length_replicate] at h2
    rw [List.getElem_take, List.getElem_replicate, ← at0_get (by rw [iw.len]; omega), zero i h2]
  have own : ((at0 w (n + n) : Int) : Rat) ≠ 0 := fun z => iw.own (by exact_mod_cast z)
  have key := hI (fun i => ((at0 w (n + n) : Int) : Rat) * cs i + ((at0 w (n + i) : Int) : Rat)) fun j hj => by
    have r := iw.rel j hj
    rw [zero j hj, hc j hj] at r
    have s : (sumN n fun i => (((at0 w (n + n) : Int) : Rat) * cs i + ((at0 w (n + i) : Int) : Rat)) * R i j) = ((at0 w (n + n) : Int) : Rat) * (sumN n fun i => cs i * R i j) + sumN n fun i => ((at0 w (n + i) : Int) : Rat) * R i j := by
      rw [← sumN_mul, ← sumN_add]
      exact sumN_congr fun i _ => by grind
    rw [s]
    exact r.symm
  have pos : at0 w (n + n) ≠ 0 := iw.own
  have ob : (at0 w (n + n)).natAbs < 2 ^ 9000 := by
    have two : 2 ^ n * c ≤ 2 ^ 6 * c := Nat.mul_le_mul_right _ (Nat.pow_le_pow_right (by decide) hn)
    exact Nat.lt_of_le_of_lt (iw.bd _) (Nat.pow_lt_pow_right (by decide) (by omega))
  unfold w_Basis_told wb_Basis_told
  simp only [bnd_ret, bnd_assoc, bnd_grd, grd_true, fnR_bnd, fnR_grd, fnR_ret, e]
  rw [mapW_eq (g := fun _ => false) (fun y hy => by rw [hz0] at hy; rw [List.eq_of_mem_replicate hy]; rfl), bnd_ret]
  have anyf : ∀ l : List Int, (l.map fun _ => false).any id = false := fun l => by induction l with
    | nil => rfl
    | cons _ _ ih => exact ih
  rw [anyf, ite_no rfl, bnd_ret, sq_nx]
  simp only [bnd_ret, bnd_assoc, fnR_bnd, fnR_ret]
  have sh : mapW (fun y => w_lowest (-y, at0 w (n + n), ())) ((w.drop n).take n) = ret ((List.range n).map fun i => ofQ (cs i)) := by
    rw [mapW_eq (g := fun y => ofQ (Rat.divInt (-y) (at0 w (n + n)))) fun y _ => lowest_eq pos ob]
    congr 1
    refine List.ext_getElem (by rw [List.length_map, List.length_take, List.length_drop, iw.len, List.length_map, List.length_range]; omega) fun i h1 h2 => ?_
    rw [List.length_map, List.length_range] at h2
    rw [List.getElem_map, List.getElem_map, List.getElem_take, List.getElem_drop, List.getElem_range, ← at0_get (by rw [iw.len]; omega)]
    congr 1
    have k := key i h2
    rw [Rat.divInt_eq_div]
    have cast : ((-(at0 w (n + i)) : Int) : Rat) = -((at0 w (n + i) : Int) : Rat) := by simp
    rw [cast]
    generalize ((at0 w (n + n) : Int) : Rat) = o at own k ⊢
    generalize ((at0 w (n + i) : Int) : Rat) = s at k ⊢
    generalize cs i = q at k ⊢
    grind
  rw [sh, bnd_ret]
end Dc
namespace Dc
open PySem PySem.Spec L2
theorem sumN_one : ∀ {m : Nat} {f : Nat → Rat} (k : Nat), k < m → (∀ i, i < m → i ≠ k → f i = 0) → sumN m f = f k
  | m + 1, f, 0, _, z => by
    show f 0 + sumN m (fun i => f (i + 1)) = f 0
    rw [sumN_zero fun i hi => z (i + 1) (by omega) (by omega), Rat.add_zero]
  | m + 1, f, k + 1, h, z => by
    show f 0 + sumN m (fun i => f (i + 1)) = f (k + 1)
    rw [z 0 (by omega) (by omega), Rat.zero_add]
    exact sumN_one (f := fun i => f (i + 1)) k (by omega) fun i hi h2 => z (i + 1) (by omega) (by omega)
theorem perm_ix {α : Type} {l m : List α} (p : l.Perm m) : ∃ f : Nat → Nat, (∀ i, i < l.length → f i < l.length) ∧ (∀ i j, i < l.length → j < i → f i ≠ f j) ∧ ∀ i, i < l.length → l[i]? = m[f i]? := by
  induction p with
  | nil => exact ⟨fun i => i, fun i h => absurd h (Nat.not_lt_zero _), fun i j h => absurd h (Nat.not_lt_zero _), fun i h => absurd h (Nat.not_lt_zero _)⟩
  | @cons x l m p ih =>
    obtain ⟨f, h1, h2, h3⟩ := ih
    refine ⟨fun i => match i with | 0 => 0 | i + 1 => f i + 1, fun i hi => ?_, fun i j hi hj => ?_, fun i hi => ?_⟩
    · cases i with
      | zero => show 0 < _; simp
      | succ i =>
        have := h1 i (by simpa using hi)
        show f i + 1 < _
        simp only [List.length_cons]; omega
    · cases i with
      | zero => omega
      | succ i =>
        cases j with
        | zero => show f i + 1 ≠ 0; omega
        | succ j =>
          have := h2 i j (by simpa using hi) (by omega)
          show f i + 1 ≠ f j + 1
          omega
    · cases i with
      | zero => rfl
      | succ i =>
        show l[i]? = m[f i]?
        exact h3 i (by simpa using hi)
  | swap x y l =>
    refine ⟨fun i => match i with | 0 => 1 | 1 => 0 | i + 2 => i + 2, fun i hi => ?_, fun i j hi hj => ?_, fun i hi => ?_⟩
    · match i, hi with
      | 0, _ => show 1 < _; simp
      | 1, _ => show 0 < _; simp
      | i + 2, hi => exact hi
    · match i, j, hj with
      | 1, 0, _ => show (0 : Nat) ≠ 1; omega
      | i + 2, 0, _ => show i + 2 ≠ 1; omega
      | i + 2, 1, _ => show i + 2 ≠ 0; omega
      | i + 2, j + 2, h => show i + 2 ≠ j + 2; omega
    · match i, hi with
      | 0, _ => rfl
      | 1, _ => rfl
      | i + 2, _ => rfl
  | @trans l1 l2 l3 p q ih1 ih2 =>
    obtain ⟨f, f1, f2, f3⟩ := ih1
    obtain ⟨g, g1, g2, g3⟩ := ih2
    have e := p.length_eq
    refine ⟨fun i => g (f i), fun i hi => ?_, fun i j hi hj => ?_, fun i hi => ?_⟩
    · have := g1 (f i) (by rw [← e]; exact f1 i hi)
      rw [e]; exact this
    · have ne := f2 i j hi hj
      have a := f1 i hi
      have b := f1 j (by omega)
      rcases Nat.lt_or_gt_of_ne ne with h | h
      · exact (g2 (f j) (f i) (by rw [← e]; exact b) h).symm
      · exact g2 (f i) (f j) (by rw [← e]; exact a) h
    · rw [f3 i hi, g3 (f i) (by rw [← e]; exact f1 i hi)]
/-- rows of steps: row a is e/6-th at its place s a, whole numbers up to 2 at the places of those ahead, 0 behind -/
structure Tri (n : Nat) (R : Nat → Nat → Rat) (s : Nat → Nat) : Prop where
  lt : ∀ a, a < n → s a < n
  inj : ∀ a b, a < n → b < a → s a ≠ s b
  dia : ∀ a, a < n → ∃ e : Int, e ≠ 0 ∧ e.natAbs ≤ 18 ∧ (e : Rat) * R a (s a) = 6
  low : ∀ a b, a < n → b < a → ∃ k : Int, k.natAbs ≤ 2 ∧ R a (s b) = (k : Rat)
  up : ∀ a b, a < n → b < n → a < b → R a (s b) = 0
theorem Tri.ind {n : Nat} {R : Nat → Nat → Rat} {s f : Nat → Nat} (T : Tri n R s) (h1 : ∀ i, i < n → f i < n) (h2 : ∀ i j, i < n → j < i → f i ≠ f j) : Ind n n (fun i j => R (f i) j) := fun c hc => by
  have key : ∀ d q, q + d = n → ∀ i, i < n → q ≤ f i → c i = 0 := fun d => by
    induction d with
    | zero => intro q e i hi hq; have := h1 i hi; omega
    | succ d ih =>
      intro q e i hi hq
      rcases Nat.lt_or_ge q (f i) with h | h
      · exact ih (q + 1) (by omega) i hi (by omega)
      · have fe : f i = q := by omega
        have z := hc (s q) (T.lt q (by omega))
        rw [sumN_one (f := fun i => c i * R (f i) (s q)) i hi fun i' hi' ne => ?_] at z
        · obtain ⟨e1, e0, _, ed⟩ := T.dia q (by omega)
          have z : c i * R (f i) (s q) = 0 := z
          rw [fe] at z
          have ne : R q (s q) ≠ 0 := fun h0 => by
            rw [h0, Rat.mul_zero] at ed
            exact absurd ed (by decide)
          grind
        · have fn : f i' ≠ q := fun z => by
            rcases Nat.lt_or_gt_of_ne ne with h3 | h3
            · exact h2 i i' hi h3 (by rw [fe, z])
            · exact h2 i' i hi' h3 (by rw [fe, z])
          rcases Nat.lt_or_gt_of_ne fn with h3 | h3
          · rw [T.up (f i') q (h1 i' hi') (by omega) h3, Rat.mul_zero]
          · rw [ih (q + 1) (by omega) i' hi' (by omega), Rat.zero_mul]
  intro i hi
  exact key n 0 (by omega) i hi (Nat.zero_le _)
end Dc
namespace Dc
open PySem PySem.Spec L2
/-- any whole row, over 6 so many times, by rows of steps -/
theorem Tri.back {n : Nat} {R : Nat → Nat → Rat} {s : Nat → Nat} (T : Tri n R s) : ∀ (q : Nat), q ≤ n → ∀ (P : Nat → Int) (B : Nat), (∀ j, q ≤ j → j < n → P (s j) = 0) → (∀ j, j < n → (P j).natAbs ≤ B) → ∃ X : Nat → Int, (∀ a, a < q → (X a).natAbs ≤ 18 * 42 ^ q * B) ∧ ∀ j, j < n → (((6 ^ q : Int) : Int) : Rat) * (P j : Rat) = sumN q fun a => (X a : Rat) * R a j
  | 0, _, P, B, hz, hb => ⟨fun _ => 0, fun a h => absurd h (Nat.not_lt_zero _), fun j hj => by
    obtain ⟨b, hb, rfl⟩ := surj T.lt T.inj j hj
    rw [hz b (Nat.zero_le _) hb]
    show _ * (0 : Rat) = 0
    rw [Rat.mul_zero]⟩
  | q + 1, hq, P, B, hz, hb => by
    obtain ⟨e, e0, eb, ed⟩ := T.dia q (by omega)
    have hx := hb (s q) (T.lt q (by omega))
    generalize hxx : P (s q) = x at hx
    have ex : ∀ j, ∃ z : Int, j < n → (z : Rat) = 6 * (P j : Rat) - (x : Rat) * (e : Rat) * R q j ∧ z.natAbs ≤ 42 * B := fun j => by
      by_cases hj : j < n
      · obtain ⟨b, hbn, rfl⟩ := surj T.lt T.inj j hj
        rcases Nat.lt_trichotomy b q with h | h | h
        · obtain ⟨k, kb, ke⟩ := T.low q b (by omega) h
          refine ⟨6 * P (s b) - x * e * k, fun _ => ⟨by rw [ke]; simp, ?_⟩⟩
          have b1 := hb (s b) hj
          have b2 : (x * e * k).natAbs ≤ B * 18 * 2 := by
            rw [Int.natAbs_mul, Int.natAbs_mul]
            exact Nat.mul_le_mul (Nat.mul_le_mul hx eb) kb
          have b3 : (6 * P (s b)).natAbs ≤ 6 * B := by
            rw [Int.natAbs_mul]
            exact Nat.mul_le_mul (Nat.le_refl _) b1
          have := Int.natAbs_sub_le (6 * P (s b)) (x * e * k)
          omega
        · subst h
          refine ⟨0, fun _ => ⟨?_, by simp⟩⟩
          rw [hxx]
          show (0 : Rat) = _
          grind
        · refine ⟨0, fun _ => ⟨?_, by simp⟩⟩
          rw [T.up q b (by omega) hbn h, hz b (by omega) hbn]
          show (0 : Rat) = 6 * (0 : Rat) - _ * 0
          grind
      · exact ⟨0, fun h => absurd h hj⟩
    obtain ⟨P', hP'⟩ := Classical.skolem.mp ex
    have z' : ∀ j, q ≤ j → j < n → P' (s j) = 0 := fun j h1 h2 => by
      have e1 := (hP' (s j) (T.lt j h2)).1
      have e2 : ((P' (s j) : Int) : Rat) = 0 := by
        rcases Nat.lt_or_eq_of_le h1 with h | h
        · rw [e1, T.up q j (by omega) h2 h, hz j (by omega) h2]
          show 6 * (0 : Rat) - _ * 0 = 0
          grind
        · subst h
          rw [e1, hxx]
          grind
      exact_mod_cast e2
    obtain ⟨X', hX, hE⟩ := T.back q (by omega) P' (42 * B) z' fun j hj => (hP' j hj).2
    refine ⟨fun a => if a < q then X' a else 6 ^ q * x * e, fun a ha => ?_, fun j hj => ?_⟩
    · by_cases h : a < q
      · simp only [if_pos h]
        have := hX a h
        have e1 : 18 * 42 ^ q * (42 * B) = 18 * 42 ^ (q + 1) * B := by rw [Nat.pow_succ, ← Nat.mul_assoc, Nat.mul_assoc 18]
        rw [← e1]
        exact this
      · simp only [if_neg h]
        rw [Int.natAbs_mul, Int.natAbs_mul, Int.natAbs_pow]
        have h1 : (6 : Int).natAbs ^ q ≤ 42 ^ (q + 1) := Nat.le_trans (Nat.pow_le_pow_left (show (6 : Int).natAbs ≤ 42 by decide) q) (Nat.pow_le_pow_right (by decide) (by omega))
        calc (6 : Int).natAbs ^ q * x.natAbs * e.natAbs ≤ 42 ^ (q + 1) * B * 18 := Nat.mul_le_mul (Nat.mul_le_mul h1 hx) eb
          _ = 18 * 42 ^ (q + 1) * B := by rw [Nat.mul_comm _ 18, Nat.mul_assoc]
    · have e1 := (hP' j hj).1
      have e2 := hE j hj
      rw [sumN_split q 1]
      have e3 : (sumN q fun a => (((if a < q then X' a else 6 ^ q * x * e : Int)) : Rat) * R a j) = sumN q fun a => (X' a : Rat) * R a j := sumN_congr fun a ha => by rw [if_pos ha]
      rw [e3, ← e2, e1]
      show _ = _ + ((((if q + 0 < q then X' (q + 0) else 6 ^ q * x * e : Int)) : Rat) * R (q + 0) j + 0)
      rw [if_neg (by omega), Nat.add_zero, Rat.add_zero]
      have c1 : ((6 ^ (q + 1) : Int) : Rat) = ((6 ^ q : Int) : Rat) * 6 := by rw [Int.pow_succ]; simp
      have c2 : ((6 ^ q * x * e : Int) : Rat) = ((6 ^ q : Int) : Rat) * (x : Rat) * (e : Rat) := by simp
      rw [c1, c2]
      grind
end Dc
namespace Dc
open PySem PySem.Spec L2
theorem ixN_val {n : Nat} {k : Int} (h : 0 ≤ k) (h2 : k < n) : (ixN n k).getD 0 = k.toNat := by
  rw [ixN_of h h2]
  rfl
theorem erase_perm {α : Type} : ∀ (l : List α) (i : Nat) (h : i < l.length), (l[i] :: l.eraseIdx i).Perm l
  | y :: r, 0, _ => List.Perm.refl _
  | y :: r, i + 1, h =>
    have h2 : i < r.length := by simpa using h
    (List.Perm.swap y (r[i]'h2) (r.eraseIdx i)).trans ((erase_perm r i h2).cons y)
theorem moved_loop {α β : Type} [Inhabited α] {xs : List α} (hn : xs.length ≤ 60) {f : List α × List α → Int → W (Fl (List α × List α) (List α × List α) β)}
    (hf : ∀ s y, f s y = bnd (pickW (s.2.length : Int)) fun t => grd (popOk s.1 s.2 t) (ret (.nx (s.1 ++ [ixAt s.2 t], s.2.eraseIdx ((ixN s.2.length t).getD 0))))) : Tr xs.length (forW (δ := Empty) f ([], xs) (rangeF 0 xs.length)) (fun fl => ∃ s, fl = .nx s ∧ s.1.Perm xs) := by
  have h := Tr.rng (δ := Empty) (m := 1) (f := f) (R := fun i (s : List α × List α) => (s.1 ++ s.2).Perm xs ∧ s.1.length = i ∧ s.2.length + i = xs.length) xs.length 0 ([], xs) ⟨by simp, rfl, by simp⟩ fun i hi s hs => ?_
  · refine h.mono (by omega) fun fl hfl => ?_
    obtain ⟨s, e, p, l1, l2⟩ := hfl
    refine ⟨s, e, ?_⟩
    have z : s.2 = [] := List.eq_nil_of_length_eq_zero (by omega)
    rw [z, List.append_nil] at p
    exact p
  · obtain ⟨p, l1, l2⟩ := hs
    rw [hf]
    refine Tr.then 1 (Tr.pick (by omega) (lsmall (by omega))) fun k hk => ?_
    have ik := ix_in (l := s.2) (k := k) hk.1 hk.2
    have hk2 : k.toNat < s.2.length := by omega
    have ek : ixAt s.2 k = s.2[k.toNat] := by
      have := (ix_nat (l := s.2) (i := k.toNat) hk2).2
      rwa [show ((k.toNat : Nat) : Int) = k by omega] at this
    refine Tr.grd ?_ (Tr.ret ⟨_, rfl, ?_, ?_, ?_⟩)
    · simp only [popOk, Bool.and_eq_true, decide_eq_true_eq]
      exact ⟨⟨⟨ik.1, by omega⟩, by omega⟩, by omega⟩
    · rw [ixN_val hk.1 hk.2, ek]
      refine List.Perm.trans ?_ p
      rw [List.append_assoc]
      exact List.Perm.append_left _ (erase_perm s.2 k.toNat hk2)
    · rw [List.length_append, l1]; simp
    · rw [ixN_val hk.1 hk.2, List.length_eraseIdx_of_lt hk2]; omega
theorem law_moved_tr {xs : List Int} (hn : xs.length ≤ 60) : Tr xs.length (w_law_moved (xs, ())) (fun ys => ys.Perm xs) := by
  have hr : rngOk 0 (xs.length : Int) = true := rngOk_n (by omega)
  unfold w_law_moved wb_law_moved
  simp only [bnd_ret, bnd_assoc, bnd_grd, grd_true, fnR_bnd, fnR_grd, fnR_ret, hr, Int.toNat_natCast]
  refine Tr.then xs.length (moved_loop hn fun s y => rfl) (fun fl hfl => ?_) (Nat.le_refl _)
  obtain ⟨s, rfl, p⟩ := hfl
  exact Tr.ret p
theorem law_moved2_tr {xs : List (List Fr)} (hn : xs.length ≤ 60) : Tr xs.length (w_law_moved_v2 (xs, ())) (fun ys => ys.Perm xs) := by
  have hr : rngOk 0 (xs.length : Int) = true := rngOk_n (by omega)
  unfold w_law_moved_v2 wb_law_moved_v2
  simp only [bnd_ret, bnd_assoc, bnd_grd, grd_true, fnR_bnd, fnR_grd, fnR_ret, hr, Int.toNat_natCast]
  refine Tr.then xs.length (moved_loop hn fun s y => rfl) (fun fl hfl => ?_) (Nat.le_refl _)
  obtain ⟨s, rfl, p⟩ := hfl
  exact Tr.ret p
end Dc
namespace Dc
open PySem PySem.Spec L2
abbrev g1 (l : List Fr) (i : Nat) : Fr := l.getD i (0, 1)
theorem g1_set {l : List Fr} {i j : Nat} {v : Fr} (h : i < l.length) : g1 (l.set i v) j = if j = i then v else g1 l j := by
  unfold g1
  rw [List.getD_eq_getElem?_getD, List.getD_eq_getElem?_getD]
  by_cases e : j = i
  · subst e
    rw [if_pos rfl, List.getElem?_set_self h]
    rfl
  · rw [if_neg e, List.getElem?_set_ne (Ne.symm e)]
def dias : List Fr := [(1, 1), (-1, 1), (2, 1), (1, 3), (-3, 2)]
structure LineOk (n : Nat) (s : Nat → Nat) (a : Nat) (l : List Fr) : Prop where
  len : l.length = n
  low : ∀ b, b < a → ∃ z : Int, z.natAbs ≤ 2 ∧ g1 l (s b) = (z, 1)
  dia : g1 l (s a) ∈ dias
  up : ∀ b, a < b → b < n → g1 l (s b) = (0, 1)
structure Half (n : Nat) (s : Nat → Nat) (k : Nat) (l : List Fr) : Prop where
  len : l.length = n
  low : ∀ b, b < k → ∃ z : Int, z.natAbs ≤ 2 ∧ g1 l (s b) = (z, 1)
  up : ∀ b, k ≤ b → b < n → g1 l (s b) = (0, 1)
structure Bas (n : Nat) (L : List (List Fr)) : Prop where
  len : L.length = n
  row : ∀ x ∈ L, x.length = n ∧ ∀ z ∈ x, Red z ∧ z.1.natAbs ≤ 3 ∧ z.2.natAbs ≤ 3
  tri : ∃ (R : Nat → Nat → Rat) (s f : Nat → Nat), Tri n R s ∧ (∀ i, i < n → f i < n) ∧ (∀ i j, i < n → j < i → f i ≠ f j) ∧ ∀ i, i < n → ∀ j, j < n → at1 (L.getD i []) j = R (f i) j
theorem bas_of {n : Nat} {s : Nat → Nat} {ls L : List (List Fr)} (h1 : ∀ a, a < n → s a < n) (h2 : ∀ a b, a < n → b < a → s a ≠ s b) (hl : ls.length = n) (hk : ∀ a, a < n → LineOk n s a (ls.getD a [])) (p : L.Perm ls) : Bas n L := by
  have lL : L.length = n := p.length_eq.trans hl
  obtain ⟨f, f1, f2, f3⟩ := perm_ix p
  rw [lL] at f1 f2 f3
  refine ⟨lL, fun x hx => ?_, fun a j => at1 (ls.getD a []) j, s, f, ⟨h1, h2, fun a ha => ?_, fun a b ha hb => ?_, fun a b ha hb hab => ?_⟩, f1, f2, fun i hi j hj => ?_⟩
  · have hx2 := p.mem_iff.mp hx
    obtain ⟨a, ha, rfl⟩ := List.getElem_of_mem hx2
    have ha2 : a < n := by omega
    have q := hk a ha2
    rw [List.getD_eq_getElem?_getD, List.getElem?_eq_getElem ha] at q
    have q : LineOk n s a ls[a] := q
    refine ⟨q.len, fun z hz => ?_⟩
    obtain ⟨j, hj, rfl⟩ := List.getElem_of_mem hz
    have gj : g1 ls[a] j = ls[a][j] := by
      unfold g1
      rw [List.getD_eq_getElem?_getD, List.getElem?_eq_getElem hj]
      rfl
    rw [← gj]
    obtain ⟨b, hb, rfl⟩ := surj h1 h2 j (by rw [← q.len]; exact hj)
    rcases Nat.lt_trichotomy b a with h | h | h
    · obtain ⟨z, zb, e⟩ := q.low b h
      rw [e]
      exact ⟨red_int z, by show z.natAbs ≤ 3; omega, by show (1 : Int).natAbs ≤ 3; decide⟩
    · subst h
      have d := q.dia
      generalize g1 ls[b] (s b) = z at d
      simp only [dias, List.mem_cons, List.not_mem_nil, or_false] at d
      rcases d with rfl | rfl | rfl | rfl | rfl <;> exact ⟨⟨by decide, by decide⟩, by decide, by decide⟩
    · rw [q.up b h hb]
      exact ⟨red_int 0, by decide, by decide⟩
  · have d := (hk a ha).dia
    show ∃ e : Int, e ≠ 0 ∧ e.natAbs ≤ 18 ∧ (e : Rat) * toQ (g1 (ls.getD a []) (s a)) = 6
    generalize g1 (ls.getD a []) (s a) = z at d
    simp only [dias, List.mem_cons, List.not_mem_nil, or_false] at d
    rcases d with rfl | rfl | rfl | rfl | rfl
    · exact ⟨6, by decide, by decide, by decide +kernel⟩
    · exact ⟨-6, by decide, by decide, by decide +kernel⟩
    · exact ⟨3, by decide, by decide, by decide +kernel⟩
    · exact ⟨18, by decide, by decide, by decide +kernel⟩
    · exact ⟨-4, by decide, by decide, by decide +kernel⟩
  · obtain ⟨z, zb, e⟩ := (hk a ha).low b hb
    refine ⟨z, zb, ?_⟩
    show toQ (g1 (ls.getD a []) (s b)) = _
    rw [e, toQ_int]
  · show toQ (g1 (ls.getD a []) (s b)) = 0
    rw [(hk a ha).up b hab hb, toQ_zero]
  · have e := f3 i hi
    rw [List.getD_eq_getElem?_getD, e]
    show _ = at1 (ls.getD (f i) []) j
    rw [List.getD_eq_getElem?_getD]
theorem law_basis_tr {n : Nat} (h1 : 1 ≤ n) (hn : n ≤ 6) : Tr 100 (w_law_basis ((n : Int), ())) (Bas n) := by
  have hr : rngOk 0 (n : Int) = true := rngOk_n (by omega)
  have hd : ([(1, 1), (-1, 1), (2, 1), (1, 3), (-3, 2)] : List Fr) = dias := rfl
  unfold w_law_basis wb_law_basis
  simp only [bnd_ret, bnd_assoc, bnd_grd, grd_true, fnR_bnd, fnR_grd, fnR_ret, hr, Int.toNat_natCast, flat1]
  refine Tr.then 6 ((law_moved_tr (by rw [rangeF_len]; omega)).up (by rw [rangeF_len]; exact hn)) fun Q hQ => ?_
  obtain ⟨s, s1, s2, s3⟩ := perm_ix hQ
  have lQ : Q.length = n := by rw [hQ.length_eq, rangeF_len]
  rw [lQ] at s1 s2 s3
  have vQ : ∀ b, b < n → ixOk Q (b : Int) = true ∧ ixAt Q (b : Int) = ((s b : Nat) : Int) := fun b hb => by
    have i1 := ix_nat (l := Q) (i := b) (by omega)
    refine ⟨i1.1, ?_⟩
    have e := s3 b hb
    rw [List.getElem?_eq_getElem (by omega), List.getElem?_eq_getElem (by rw [rangeF_len]; exact s1 b hb), rangeF_at (s1 b hb)] at e
    rw [i1.2]
    exact Option.some.inj e
  refine Tr.then 60 (S := fun fl => ∃ ls : List (List Fr), fl = Fl.nx ls ∧ ls.length = n ∧ ∀ a, a < n → LineOk n s a (ls.getD a [])) ((Tr.rng (m := 10) (R := fun i (ls : List (List Fr)) => ls.length = i ∧ ∀ a, a < i → LineOk n s a (ls.getD a [])) n 0 [] ⟨rfl, fun _ h => absurd h (Nat.not_lt_zero _)⟩ fun i hi ls hls => ?_).mono (Nat.mul_le_mul_right _ hn) fun fl hfl => by
    obtain ⟨ls, e, q⟩ := hfl
    rw [Nat.zero_add] at q
    exact ⟨ls, e, q⟩) fun fl hfl => ?_
  · rw [Nat.zero_add] at hls ⊢
    refine Tr.grd (repOk1 (by omega) (by omega)) (Tr.grd (rngOk_n (by omega)) ?_)
    rw [Int.toNat_natCast]
    refine Tr.then 6 (S := fun fl => ∃ l : List Fr, fl = Fl.nx l ∧ Half n s i l) ((Tr.rng (m := 1) (R := fun k (l : List Fr) => Half n s k l) i 0 (List.replicate n (0, 1)) ⟨List.length_replicate, fun _ h => absurd h (Nat.not_lt_zero _), fun b _ hb => by
        unfold g1
        rw [List.getD_eq_getElem?_getD, List.getElem?_replicate]
        split <;> rfl⟩ fun k hk l hl => ?_).mono (by omega) fun fl hfl => by
      obtain ⟨l, e, q⟩ := hfl
      rw [Nat.zero_add] at q
      exact ⟨l, e, q⟩) fun fl hfl => ?_
    · rw [Nat.zero_add] at hl ⊢
      refine Tr.then 1 Tr.pick fun z hz => ?_
      have v := vQ k (by omega)
      have sk := s1 k (by omega)
      have i2 := ix_nat (l := l) (i := s k) (by rw [hl.len]; exact sk)
      refine Tr.grd v.1 ?_
      rw [v.2]
      refine Tr.grd i2.1 (Tr.ret ⟨_, rfl, ?_⟩)
      rw [ixN_val (by omega) (by rw [hl.len]; omega), Int.toNat_natCast]
      refine ⟨by rw [List.length_set]; exact hl.len, fun b hb => ?_, fun b h3 h4 => ?_⟩
      · rw [g1_set (by rw [hl.len]; exact sk)]
        by_cases e : b = k
        · subst e
          rw [if_pos rfl]
          exact ⟨_, by omega, rfl⟩
        · rw [if_neg (s2 k b (by omega) (by omega)).symm]
          exact hl.low b (by omega)
      · rw [g1_set (by rw [hl.len]; exact sk), if_neg (s2 b k h4 (by omega))]
        exact hl.up b (by omega) h4
    · obtain ⟨l, rfl, hl⟩ := hfl
      simp only [sq_nx, bnd_ret, bnd_assoc, bnd_grd, grd_true]
      refine Tr.then 1 Tr.pick fun z hz => ?_
      rw [hd]
      have iz := ix_in (l := dias) (k := z) hz.1 hz.2
      have v := vQ i hi
      have si := s1 i hi
      have i2 := ix_nat (l := l) (i := s i) (by rw [hl.len]; exact si)
      refine Tr.grd iz.1 (Tr.grd v.1 ?_)
      rw [v.2]
      refine Tr.grd i2.1 (Tr.grd (decide_eq_true (by rw [hls.1]; omega)) (Tr.ret ⟨_, rfl, by rw [List.length_append, hls.1]; rfl, fun a ha => ?_⟩))
      rw [ixN_val (by omega) (by rw [hl.len]; omega), Int.toNat_natCast]
      by_cases e : a = i
      · subst e
        rw [List.getD_eq_getElem?_getD, List.getElem?_append_right (by omega), hls.1, Nat.sub_self]
        show LineOk n s a (l.set (s a) (ixAt dias z))
        refine ⟨by rw [List.length_set]; exact hl.len, fun b hb => ?_, ?_, fun b h3 h4 => ?_⟩
        · rw [g1_set (by rw [hl.len]; exact si), if_neg (s2 a b hi hb).symm]
          exact hl.low b hb
        · rw [g1_set (by rw [hl.len]; exact si), if_pos rfl]
          exact iz.2
        · rw [g1_set (by rw [hl.len]; exact si), if_neg (s2 b a h4 h3)]
          exact hl.up b (by omega) h4
      · rw [List.getD_eq_getElem?_getD, List.getElem?_append_left (by rw [hls.1]; omega), ← List.getD_eq_getElem?_getD]
        exact hls.2 a (by omega)
  · obtain ⟨ls, rfl, hl, hk⟩ := hfl
    simp only [sq_nx, bnd_ret, fnR_bnd, fnR_ret]
    refine Tr.then 6 ((law_moved2_tr (by omega)).up (by omega)) fun L hL => Tr.ret ?_
    exact bas_of s1 s2 hl hk hL
end Dc
namespace Dc
open PySem PySem.Spec L2
theorem sumN_perm {n : Nat} {f : Nat → Nat} {g : Nat → Rat} (h1 : ∀ i, i < n → f i < n) (h2 : ∀ i j, i < n → j < i → f i ≠ f j) : sumN n (fun i => g (f i)) = sumN n g := by
  have e1 : sumN n (fun i => g (f i)) = sumN n fun i => sumN n fun a => if a = f i then g a else 0 := sumN_congr fun i hi => by
    rw [sumN_one (f := fun a => if a = f i then g a else 0) (f i) (h1 i hi) fun a _ ne => if_neg ne]
    show _ = if f i = f i then g (f i) else 0
    rw [if_pos rfl]
  rw [e1, sumN_comm]
  refine sumN_congr fun a ha => ?_
  obtain ⟨i, hi, rfl⟩ := surj h1 h2 a ha
  rw [sumN_one (f := fun i' => if f i = f i' then g (f i) else 0) i hi fun i' hi' ne => if_neg fun z => ?_]
  · show (if f i = f i then g (f i) else 0) = _
    rw [if_pos rfl]
  · rcases Nat.lt_or_gt_of_ne ne with h | h
    · exact h2 i i' hi h z
    · exact h2 i' i hi' h z.symm
/-- the rows of a basis as numbers -/
abbrev rowQ (L : List (List Fr)) (i j : Nat) : Rat := at1 (L.getD i []) j
theorem Ind.congr {n m : Nat} {R S : Nat → Nat → Rat} (h : Ind n m R) (e : ∀ i, i < m → ∀ j, j < n → S i j = R i j) : Ind n m S := fun c hc => h c fun j hj => by
  rw [← hc j hj]
  exact sumN_congr fun i hi => by rw [e i hi j hj]
theorem Bas.ind {n : Nat} {L : List (List Fr)} (h : Bas n L) : Ind n n (rowQ L) := by
  obtain ⟨R, s, f, T, f1, f2, e⟩ := h.tri
  exact (T.ind f1 f2).congr e
theorem dv6 {z : Fr} (h : Red z) (h3 : z.2.natAbs ≤ 3) : z.2 ∣ 6 := by
  have := h.1
  have e : z.2 = 1 ∨ z.2 = 2 ∨ z.2 = 3 := by omega
  rcases e with e | e | e <;> rw [e] <;> decide
theorem Bas.lcm {n : Nat} {L : List (List Fr)} (h : Bas n L) {x : List Fr} (hx : x ∈ L) : 0 < lcmL x ∧ lcmL x ≤ 6 := by
  have r := (h.row x hx).2
  have d := lcm_dvd_of fun z hz => dv6 (r z hz).1 (r z hz).2.2
  exact ⟨lcmL_pos fun z hz => (r z hz).1, Int.le_of_dvd (by decide) d⟩
theorem Bas.bd {n : Nat} {L : List (List Fr)} (h : Bas n L) {x : List Fr} (hx : x ∈ L) : ∀ z ∈ x, Bd 2 z := fun z hz => by
  have r := (h.row x hx).2 z hz
  exact ⟨r.1, by show z.1.natAbs < 2 ^ 2; omega, by show z.2.natAbs < 2 ^ 2; omega⟩
theorem Bas.rb {n : Nat} {L : List (List Fr)} (h : Bas n L) {x : List Fr} (hx : x ∈ L) : Rb n 5 x := by
  obtain ⟨p, l⟩ := h.lcm hx
  have b := h.bd hx
  refine ⟨(h.row x hx).1, fun z hz => (b z hz).red, fun z hz => ((b z hz).up (by decide)).sz, fun u hu => ?_, by show _ ≤ 32; omega⟩
  obtain ⟨z, hz, rfl⟩ := List.mem_map.mp hu
  exact Nat.le_of_lt (ov_lt (m := 3) (b z hz) (by show (lcmL x).natAbs < 8; omega) p)
theorem Bas.rw_ {n : Nat} {L : List (List Fr)} (h : Bas n L) {x : List Fr} (hx : x ∈ L) : Rw n x :=
  rw_of (k := 2) (M := 6) (h.row x hx).1 (h.bd hx) (by decide) (by decide) (Nat.lt_of_lt_of_le (show (6 : Int).natAbs < 2 ^ 3 by decide) (Nat.pow_le_pow_right (by decide) (by decide))) fun z hz => dv6 ((h.row x hx).2 z hz).1 ((h.row x hx).2 z hz).2.2
/-- the units over a basis: whole numbers over 6 so many times -/
theorem Bas.units {n : Nat} {L : List (List Fr)} (h : Bas n L) : ∃ X : Nat → Nat → Int, (∀ s i, s < n → i < n → (X s i).natAbs ≤ 18 * 42 ^ n) ∧ ∀ s, s < n → ∀ j, j < n → (if s = j then (1 : Rat) else 0) = sumN n fun i => ((X s i : Int) : Rat) / ((6 ^ n : Int) : Rat) * rowQ L i j := by
  obtain ⟨R, s, f, T, f1, f2, e⟩ := h.tri
  have ex : ∀ u, ∃ X : Nat → Int, (∀ a, a < n → (X a).natAbs ≤ 18 * 42 ^ n * 1) ∧ ∀ j, j < n → ((6 ^ n : Int) : Rat) * ((if u = j then (1 : Int) else 0 : Int) : Rat) = sumN n fun a => (X a : Rat) * R a j := fun u =>
    T.back n (Nat.le_refl _) (fun j => if u = j then 1 else 0) 1 (fun j h1 h2 => by omega) fun j _ => by split <;> decide
  obtain ⟨X, hX⟩ := Classical.skolem.mp ex
  have six : ((6 ^ n : Int) : Rat) ≠ 0 := fun z => by
    have z : (6 ^ n : Int) = 0 := by exact_mod_cast z
    exact absurd z (Int.pow_ne_zero (by decide))
  refine ⟨fun u i => X u (f i), fun u i hu hi => by
    have := (hX u).1 (f i) (f1 i hi)
    show (X u (f i)).natAbs ≤ _
    omega, fun u hu j hj => ?_⟩
  have e1 := (hX u).2 j hj
  have e2 : (sumN n fun i => ((X u (f i) : Int) : Rat) / ((6 ^ n : Int) : Rat) * rowQ L i j) = sumN n fun i => (fun a => ((X u a : Int) : Rat) / ((6 ^ n : Int) : Rat) * R a j) (f i) := sumN_congr fun i hi => by
    show _ * at1 (L.getD i []) j = ((X u (f i) : Int) : Rat) / ((6 ^ n : Int) : Rat) * R (f i) j
    rw [e i hi j hj]
  rw [e2, sumN_perm (g := fun a => ((X u a : Int) : Rat) / ((6 ^ n : Int) : Rat) * R a j) f1 f2]
  have e3 : (sumN n fun a => ((X u a : Int) : Rat) / ((6 ^ n : Int) : Rat) * R a j) = (1 / ((6 ^ n : Int) : Rat)) * sumN n fun a => ((X u a : Int) : Rat) * R a j := by
    rw [← sumN_mul]
    exact sumN_congr fun a _ => by grind
  rw [e3, ← e1]
  by_cases q : u = j
  · simp only [if_pos q]
    show (1 : Rat) = 1 / _ * (_ * ((1 : Int) : Rat))
    have : ((1 : Int) : Rat) = 1 := rfl
    rw [this]
    grind
  · simp only [if_neg q]
    show (0 : Rat) = 1 / _ * (_ * ((0 : Int) : Rat))
    have : ((0 : Int) : Rat) = 0 := rfl
    rw [this]
    grind
end Dc
namespace Dc
open PySem PySem.Spec L2
/-- a row by its numbers -/
def vec (n : Nat) (f : Nat → Rat) : List Fr := (List.range n).map fun k => ofQ (f k)
theorem vec_len {n : Nat} {f : Nat → Rat} : (vec n f).length = n := by rw [vec, List.length_map, List.length_range]
theorem vec_at {n k : Nat} {f : Nat → Rat} (h : k < n) : at1 (vec n f) k = f k := by
  unfold at1 vec
  rw [List.getD_eq_getElem?_getD, List.getElem?_map, List.getElem?_range h]
  exact toQ_ofQ _
theorem vec_red {n : Nat} {f : Nat → Rat} : ∀ z ∈ vec n f, Red z := fun z hz => by
  obtain ⟨k, _, rfl⟩ := List.mem_map.mp hz
  exact red_ofQ _
theorem vec_congr {n : Nat} {f g : Nat → Rat} (h : ∀ k, k < n → f k = g k) : vec n f = vec n g := List.map_congr_left fun k hk => by rw [h k (List.mem_range.mp hk)]
theorem at1_get {x : List Fr} {k : Nat} (h : k < x.length) : at1 x k = toQ x[k] := by
  unfold at1
  rw [List.getD_eq_getElem?_getD, List.getElem?_eq_getElem h]
  rfl
theorem vec_get {n k : Nat} {f : Nat → Rat} (h : k < (vec n f).length) : (vec n f)[k] = ofQ (f k) := by
  simp only [vec, List.getElem_map, List.getElem_range]
theorem vec_self {n : Nat} {x : List Fr} (hl : x.length = n) (hr : ∀ z ∈ x, Red z) : vec n (at1 x) = x := by
  refine List.ext_getElem (by rw [vec_len, hl]) fun k h1 h2 => ?_
  rw [vec_get, at1_get h2, ofQ_toQ (hr _ (List.getElem_mem h2))]
/-! ### rows over a common denominator -/
structure Fx (n M K : Nat) (x : List Fr) : Prop where
  len : x.length = n
  red : ∀ z ∈ x, Red z
  val : ∀ i, i < n → ∃ t : Int, t.natAbs ≤ K ∧ (M : Rat) * at1 x i = (t : Rat)
theorem fz {M K : Nat} (hM : 0 < M) {z : Fr} (r : Red z) {t : Int} (ht : t.natAbs ≤ K) (e : (M : Rat) * toQ z = (t : Rat)) : z.2 ∣ (M : Int) ∧ z.1.natAbs ≤ K ∧ ∀ F : Int, 0 < F → z.2 ∣ F → F ∣ (M : Int) → (z.1 * Int.fdiv F z.2).natAbs ≤ K := by
  have p := r.1
  have pq : ((z.2 : Int) : Rat) ≠ 0 := fun h => by
    have : z.2 = 0 := by exact_mod_cast h
    omega
  have e1 : ((M : Int) * z.1 : Int) = t * z.2 := by
    have e2 : (((M : Int) * z.1 : Int) : Rat) = ((t * z.2 : Int) : Rat) := by
      have q : toQ z = (z.1 : Rat) / (z.2 : Rat) := Rat.divInt_eq_div ..
      rw [q] at e
      have c1 : (((M : Int) * z.1 : Int) : Rat) = (M : Rat) * (z.1 : Rat) := by rw [Rat.intCast_mul]; rfl
      have c2 : ((t * z.2 : Int) : Rat) = (t : Rat) * (z.2 : Rat) := by simp
      rw [c1, c2, ← e]
      grind
    exact_mod_cast e2
  have d : z.2 ∣ (M : Int) := by
    refine Int.natAbs_dvd_natAbs.mp ?_
    rw [Int.natAbs_natCast]
    have dv : z.2.natAbs ∣ M * z.1.natAbs := ⟨t.natAbs, by rw [← Int.natAbs_natCast M, ← Int.natAbs_mul, e1, Int.natAbs_mul, Nat.mul_comm]⟩
    exact Nat.Coprime.dvd_of_dvd_mul_right (Nat.Coprime.symm r.2) dv
  have key : ∀ F : Int, 0 < F → z.2 ∣ F → F ∣ (M : Int) → (z.1 * Int.fdiv F z.2).natAbs ≤ K := fun F hF d1 d2 => by
    obtain ⟨f, rfl⟩ := d1
    obtain ⟨m, hm⟩ := d2
    rw [Int.fdiv_eq_ediv_of_nonneg _ (by omega), Int.mul_ediv_cancel_left _ (by omega)]
    have m0 : m ≠ 0 := fun h => by rw [h, Int.mul_zero] at hm; omega
    have e3 : t = z.1 * f * m := by
      have : z.2 * t = z.2 * (z.1 * f * m) := by
        rw [Int.mul_comm, ← e1, hm]
        simp only [Int.mul_assoc, Int.mul_comm, Int.mul_left_comm]
      exact Int.eq_of_mul_eq_mul_left (by omega) this
    rw [e3, Int.natAbs_mul] at ht
    exact Nat.le_trans (Nat.le_mul_of_pos_right _ (by omega)) ht
  refine ⟨d, ?_, key⟩
  have := key z.2 (by omega) (Int.dvd_refl _) d
  rw [Int.fdiv_eq_ediv_of_nonneg _ (by omega), Int.ediv_self (by omega), Int.mul_one] at this
  exact this
theorem Fx.mem {n M K : Nat} {x : List Fr} (h : Fx n M K x) {z : Fr} (hz : z ∈ x) : Red z ∧ ∃ t : Int, t.natAbs ≤ K ∧ (M : Rat) * toQ z = (t : Rat) := by
  obtain ⟨i, hi, rfl⟩ := List.getElem_of_mem hz
  refine ⟨h.red _ hz, ?_⟩
  rw [← at1_get hi]
  exact h.val i (by rw [← h.len]; exact hi)
theorem Fx.bd {n M K k : Nat} {x : List Fr} (h : Fx n M K x) (hM : 0 < M) (h1 : M < 2 ^ k) (h2 : K < 2 ^ k) {z : Fr} (hz : z ∈ x) : Bd k z ∧ z.2 ∣ (M : Int) := by
  obtain ⟨r, t, ht, e⟩ := h.mem hz
  obtain ⟨d, b, _⟩ := fz hM r ht e
  refine ⟨⟨r, Nat.lt_of_le_of_lt b h2, ?_⟩, d⟩
  have := Int.le_of_dvd (by omega) d
  have := r.1
  show z.2.natAbs < 2 ^ k
  omega
theorem Fx.rw_ {n M K : Nat} {x : List Fr} (h : Fx n M K x) (hM : 0 < M) (h1 : M < 2 ^ 900) (h2 : K < 2 ^ 900) : Rw n x :=
  rw_of (k := 900) (M := (M : Int)) h.len (fun z hz => (h.bd hM h1 h2 hz).1) (Nat.le_refl _) (by omega) (by rw [Int.natAbs_natCast]; exact h1) fun z hz => (h.bd hM h1 h2 hz).2
theorem Fx.rb {n M K a : Nat} {x : List Fr} (h : Fx n M K x) (hM : 0 < M) (h1 : M ≤ 2 ^ a) (h2 : K ≤ 2 ^ a) (ha : a < 4000) : Rb n a x := by
  have up : 2 ^ a < 2 ^ 4000 := Nat.pow_lt_pow_right (by decide) ha
  have b : ∀ z ∈ x, Bd 4000 z ∧ z.2 ∣ (M : Int) := fun z hz => h.bd hM (Nat.lt_of_le_of_lt h1 up) (Nat.lt_of_le_of_lt h2 up) hz
  have dM : lcmL x ∣ (M : Int) := lcm_dvd_of fun z hz => (b z hz).2
  have pl := lcmL_pos h.red
  refine ⟨h.len, h.red, fun z hz => (b z hz).1.sz, fun u hu => ?_, ?_⟩
  · obtain ⟨z, hz, rfl⟩ := List.mem_map.mp hu
    obtain ⟨r, t, ht, e⟩ := h.mem hz
    exact Nat.le_trans ((fz hM r ht e).2.2 _ pl (lcmL_dvd h.red hz) dM) h2
  · have := Int.le_of_dvd (by omega) dM
    omega
theorem Fx.of_vec {n M K : Nat} {f : Nat → Rat} (h : ∀ i, i < n → ∃ t : Int, t.natAbs ≤ K ∧ (M : Rat) * f i = (t : Rat)) : Fx n M K (vec n f) := ⟨vec_len, vec_red, fun i hi => by rw [vec_at hi]; exact h i hi⟩
theorem Fx.mono {n M K K' : Nat} {x : List Fr} (h : Fx n M K x) (hk : K ≤ K') : Fx n M K' x := ⟨h.len, h.red, fun i hi => by
  obtain ⟨t, ht, e⟩ := h.val i hi
  exact ⟨t, Nat.le_trans ht hk, e⟩⟩
theorem Fx.up {n M K : Nat} {x : List Fr} (c : Nat) (h : Fx n M K x) : Fx n (c * M) (c * K) x := ⟨h.len, h.red, fun i hi => by
  obtain ⟨t, ht, e⟩ := h.val i hi
  refine ⟨c * t, by rw [Int.natAbs_mul, Int.natAbs_natCast]; exact Nat.mul_le_mul_left _ ht, ?_⟩
  have c1 : ((c * M : Nat) : Rat) = (c : Rat) * (M : Rat) := by simp
  have c2 : (((c : Int) * t : Int) : Rat) = (c : Rat) * (t : Rat) := by rw [Rat.intCast_mul]; rfl
  rw [c1, c2, ← e, Rat.mul_assoc]⟩
theorem sumN_int {c : Rat} {K : Nat} : ∀ {n : Nat} {f : Nat → Rat}, (∀ i, i < n → ∃ t : Int, t.natAbs ≤ K ∧ c * f i = (t : Rat)) → ∃ t : Int, t.natAbs ≤ n * K ∧ c * sumN n f = (t : Rat)
  | 0, _, _ => ⟨0, by simp, by show c * 0 = 0; grind⟩
  | n + 1, f, h => by
    obtain ⟨t, ht, e⟩ := h 0 (by omega)
    obtain ⟨u, hu, e2⟩ := sumN_int (n := n) (f := fun i => f (i + 1)) fun i hi => h (i + 1) (by omega)
    refine ⟨t + u, ?_, ?_⟩
    · have := Int.natAbs_add_le t u
      rw [Nat.add_mul, Nat.one_mul]
      omega
    · show c * (f 0 + sumN n fun i => f (i + 1)) = _
      rw [Rat.mul_add, e, e2]
      simp
theorem mul_int {a b x y : Rat} {B K : Nat} (hx : ∃ t : Int, t.natAbs ≤ B ∧ a * x = (t : Rat)) (hy : ∃ t : Int, t.natAbs ≤ K ∧ b * y = (t : Rat)) : ∃ t : Int, t.natAbs ≤ B * K ∧ (a * b) * (x * y) = (t : Rat) := by
  obtain ⟨t, ht, e⟩ := hx
  obtain ⟨u, hu, e2⟩ := hy
  refine ⟨t * u, by rw [Int.natAbs_mul]; exact Nat.mul_le_mul ht hu, ?_⟩
  have c : ((t * u : Int) : Rat) = (t : Rat) * (u : Rat) := by simp
  rw [c, ← e, ← e2]
  grind
/-! ### tables over a common denominator -/
structure Tx (n M K : Nat) (P : List (List (List Fr))) : Prop where
  cub : Cub n P
  row : ∀ r ∈ P, ∀ l ∈ r, Fx n M K l
theorem Tx.tb {n M K : Nat} {P : List (List (List Fr))} (h : Tx n M K P) (hM : 0 < M) (h1 : M < 2 ^ 900) (h2 : K < 2 ^ 900) : Tb n P :=
  tb_of (k := 900) (M := (M : Int)) h.cub (fun r hr l hl z hz => ((h.row r hr l hl).bd hM h1 h2 hz).1) (Nat.le_refl _) (by omega) (by rw [Int.natAbs_natCast]; exact h1) fun r hr l hl z hz => ((h.row r hr l hl).bd hM h1 h2 hz).2
theorem getD_mem {α : Type} {l : List α} {d : α} {i : Nat} (h : i < l.length) : l.getD i d ∈ l := by
  rw [List.getD_eq_getElem?_getD, List.getElem?_eq_getElem h]
  exact List.getElem_mem h
theorem cub_mem {α : Type} {n i j : Nat} {P : List (List (List α))} (h : Cub n P) (hi : i < n) (hj : j < n) : P.getD i [] ∈ P ∧ (P.getD i []).getD j [] ∈ P.getD i [] := by
  have h1 : P.getD i [] ∈ P := getD_mem (by rw [h.len]; exact hi)
  exact ⟨h1, getD_mem (by rw [h.row _ h1]; exact hj)⟩
theorem Tx.val {n M K : Nat} {P : List (List (List Fr))} (h : Tx n M K P) {i j k : Nat} (hi : i < n) (hj : j < n) (hk : k < n) : ∃ t : Int, t.natAbs ≤ K ∧ (M : Rat) * at3 P i j k = (t : Rat) := by
  obtain ⟨m1, m2⟩ := cub_mem h.cub hi hj
  exact (h.row _ m1 _ m2).val k hk
def prodV (n : Nat) (P : Nat → Nat → Nat → Rat) (f g : Nat → Rat) (k : Nat) : Rat := sumN n fun i => sumN n fun j => f i * g j * P i j k
theorem prodV_congr {n : Nat} {P P' : Nat → Nat → Nat → Rat} {f f' g g' : Nat → Rat} {k : Nat} (h1 : ∀ i, i < n → f i = f' i) (h2 : ∀ i, i < n → g i = g' i) (h3 : ∀ i j, i < n → j < n → P i j k = P' i j k) : prodV n P f g k = prodV n P' f' g' k := sumN_congr fun i hi => sumN_congr fun j hj => by rw [h1 i hi, h2 j hj, h3 i j hi hj]
theorem prodL_vec {n : Nat} {P : List (List (List Fr))} {x y : List Fr} (h : Tb n P) (hx : Rw n x) (hy : Rw n y) : prodL P x y = vec n (prodV n (at3 P) (at1 x) (at1 y)) := by
  rw [prodL_Q h hx hy]
  have l := prodQ_len (x := x) (y := y) h.cub
  refine List.ext_getElem (by rw [List.length_map, l, vec_len]) fun k h1 h2 => ?_
  rw [List.length_map] at h1
  rw [List.getElem_map, vec_get]
  congr 1
  have e := prodQ_get h.cub hx.len hy.len k
  rw [List.getD_eq_getElem?_getD, List.getElem?_eq_getElem h1] at e
  exact e
theorem prod_fx {n M K A A' B B' : Nat} {P : List (List (List Fr))} {x y : List Fr} (h : Tx n M K P) (hx : Fx n A B x) (hy : Fx n A' B' y) : Fx n (A * A' * M) (n * (n * (B * B' * K))) (vec n (prodV n (at3 P) (at1 x) (at1 y))) := Fx.of_vec fun k hk => by
  have c : ((A * A' * M : Nat) : Rat) = (A : Rat) * (A' : Rat) * (M : Rat) := by simp
  rw [c]
  exact sumN_int fun i hi => sumN_int fun j hj => mul_int (mul_int (hx.val i hi) (hy.val j hj)) (h.val hi hj hk)
end Dc
namespace Dc
open PySem PySem.Spec L2
/-- so many times each row, added up -/
def lin (m : Nat) (c : Nat → Rat) (R : Nat → Nat → Rat) (k : Nat) : Rat := sumN m fun i => c i * R i k
theorem lin_congr {m k : Nat} {c c' : Nat → Rat} {R R' : Nat → Nat → Rat} (h : ∀ i, i < m → c i = c' i) (h2 : ∀ i, i < m → R i k = R' i k) : lin m c R k = lin m c' R' k := sumN_congr fun i hi => by rw [h i hi, h2 i hi]
theorem sz_fz {M K : Nat} (hM : 0 < M) (hM2 : M < 2 ^ 4000) (hK : K < 2 ^ 4000) {q : Rat} (h : ∃ t : Int, t.natAbs ≤ K ∧ (M : Rat) * q = (t : Rat)) : Sz 4000 (ofQ q) := by
  obtain ⟨t, ht, e⟩ := h
  have r := red_ofQ q
  obtain ⟨d, b, _⟩ := fz hM r ht (by rw [toQ_ofQ]; exact e)
  have := Int.le_of_dvd (by omega) d
  have := r.1
  exact ⟨Nat.lt_of_le_of_lt b hK, by omega⟩
theorem at1_cons0 {z : Fr} {x : List Fr} : at1 (z :: x) 0 = toQ z := rfl
theorem at1_consS {z : Fr} {x : List Fr} {i : Nat} : at1 (z :: x) (i + 1) = at1 x i := by
  unfold at1
  rw [getD_consS]
theorem total_step {n A B M K j : Nat} (hA : 0 < A) (hM : 0 < M) (hAM : A * M < 2 ^ 4000) (hB : (j + 1) * (B * K) < 2 ^ 4000) {c : Fr} {l : List Fr} {g : Nat → Rat} (rc : Red c) (hc : ∃ t : Int, t.natAbs ≤ B ∧ (A : Rat) * toQ c = (t : Rat)) (hl : Fx n M K l) (hg : ∀ k, k < n → ∃ t : Int, t.natAbs ≤ j * (B * K) ∧ ((A * M : Nat) : Rat) * g k = (t : Rat)) (sc : Sz 4000 c) (sl : ∀ z ∈ l, Sz 4000 z) :
    mapW (fun z : Fr × Fr => bnd (w_law_mul (c, z.2, ())) fun m => w_law_add (z.1, m, ())) ((vec n g).zip l) = ret (vec n fun k => g k + toQ c * at1 l k) ∧ ∀ k, k < n → ∃ t : Int, t.natAbs ≤ (j + 1) * (B * K) ∧ ((A * M : Nat) : Rat) * (g k + toQ c * at1 l k) = (t : Rat) := by
  have cm : ((A * M : Nat) : Rat) = (A : Rat) * (M : Rat) := by simp
  have pAM : 0 < A * M := Nat.mul_pos hA hM
  have lz : ((vec n g).zip l).length = n := by rw [List.length_zip, vec_len, hl.len, Nat.min_self]
  have jb : j * (B * K) ≤ (j + 1) * (B * K) := Nat.mul_le_mul_right _ (by omega)
  have jb2 : B * K ≤ (j + 1) * (B * K) := Nat.le_mul_of_pos_left _ (by omega)
  have pr : ∀ k, k < n → ∃ t : Int, t.natAbs ≤ B * K ∧ ((A * M : Nat) : Rat) * (toQ c * at1 l k) = (t : Rat) := fun k hk => by
    rw [cm]
    exact mul_int hc (hl.val k hk)
  refine ⟨?_, fun k hk => ?_⟩
  · rw [mapW_eq (g := fun z => ofQ (toQ z.1 + toQ (ofQ (toQ c * toQ z.2)))) fun z hz => ?_]
    · congr 1
      refine List.ext_getElem (by rw [List.length_map, lz, vec_len]) fun k h1 h2 => ?_
      rw [vec_len] at h2
      rw [List.getElem_map, List.getElem_zip, vec_get, vec_get, toQ_ofQ, toQ_ofQ, at1_get (by rw [hl.len]; exact h2)]
    · obtain ⟨k, hk, rfl⟩ := List.getElem_of_mem hz
      rw [lz] at hk
      have kl : k < l.length := by rw [hl.len]; exact hk
      rw [List.getElem_zip, vec_get]
      have r2 := hl.red _ (List.getElem_mem kl)
      rw [law_mul_eq (red_ne rc) (red_ne r2) sc (sl _ (List.getElem_mem kl)), bnd_ret]
      have s1 := sz_fz pAM hAM (Nat.lt_of_le_of_lt jb hB) (hg k hk)
      have s2 := sz_fz pAM hAM (Nat.lt_of_le_of_lt jb2 hB) (pr k hk)
      rw [at1_get kl] at s2
      exact law_add_eq (red_ne (red_ofQ _)) (red_ne (red_ofQ _)) s1 s2
  · obtain ⟨t, ht, e⟩ := hg k hk
    obtain ⟨u, hu, e2⟩ := pr k hk
    refine ⟨t + u, ?_, by rw [Rat.mul_add, e, e2]; simp⟩
    have := Int.natAbs_add_le t u
    rw [Nat.add_mul, Nat.one_mul]
    omega
theorem total_loop {β : Type} {n A B M K : Nat} (hA : 0 < A) (hM : 0 < M) (hAM : A * M < 2 ^ 4000) (hB : 7 * (B * K) < 2 ^ 4000) {f : List Fr → Fr × List Fr → W (Fl (List Fr) (List Fr) β)} (hf : ∀ s y, f s y = bnd (mapW (fun z : Fr × Fr => bnd (w_law_mul (y.1, z.2, ())) fun m => w_law_add (z.1, m, ())) (s.zip y.2)) fun v => ret (.nx v)) :
    ∀ (x : List Fr) (rows : List (List Fr)) (g : Nat → Rat) (j : Nat), x.length = rows.length → (∀ z ∈ x, Red z ∧ (∃ t : Int, t.natAbs ≤ B ∧ (A : Rat) * toQ z = (t : Rat)) ∧ Sz 4000 z) → (∀ l ∈ rows, Fx n M K l ∧ ∀ z ∈ l, Sz 4000 z) → (∀ k, k < n → ∃ t : Int, t.natAbs ≤ j * (B * K) ∧ ((A * M : Nat) : Rat) * g k = (t : Rat)) → j + x.length ≤ 6 →
      forW (δ := Empty) f (vec n g) (x.zip rows) = ret (.nx (vec n fun k => g k + lin x.length (at1 x) (rowQ rows) k))
  | [], [], g, j, _, _, _, _, _ => by
    show ret (Fl.nx (vec n g)) = _
    congr 2
    exact vec_congr fun k _ => by
      show g k = g k + 0
      rw [Rat.add_zero]
  | [], _ :: _, _, _, h, _, _, _, _ => by simp at h
  | _ :: _, [], _, _, h, _, _, _, _ => by simp at h
  | c :: x, l :: rows, g, j, h, hx, hr, hg, hj => by
    obtain ⟨c1, c2, c3⟩ := hx c List.mem_cons_self
    obtain ⟨l1, l2⟩ := hr l List.mem_cons_self
    rw [List.length_cons] at hj
    obtain ⟨s1, s2⟩ := total_step (j := j) hA hM hAM (Nat.lt_of_le_of_lt (Nat.mul_le_mul_right _ (by omega)) hB) c1 c2 l1 hg c3 l2
    show bnd (f (vec n g) (c, l)) _ = _
    rw [hf]
    show bnd (bnd (mapW (fun z : Fr × Fr => bnd (w_law_mul (c, z.2, ())) fun m => w_law_add (z.1, m, ())) ((vec n g).zip l)) _) _ = _
    rw [s1, bnd_ret, bnd_ret]
    refine (total_loop hA hM hAM hB hf x rows _ (j + 1) (by simpa using h) (fun z hz => hx z (List.mem_cons_of_mem _ hz)) (fun z hz => hr z (List.mem_cons_of_mem _ hz)) s2 (by omega)).trans ?_
    congr 2
    refine vec_congr fun k _ => ?_
    show g k + toQ c * at1 l k + sumN x.length (fun i => at1 x i * at1 (rows.getD i []) k) = g k + (at1 (c :: x) 0 * at1 ((l :: rows).getD 0 []) k + sumN x.length fun i => at1 (c :: x) (i + 1) * at1 ((l :: rows).getD (i + 1) []) k)
    rw [at1_cons0, getD_cons0, Rat.add_assoc]
    congr 2
theorem rep_vec {n : Nat} : List.replicate n ((0, 1) : Fr) = vec n fun _ => 0 := by
  refine List.ext_getElem (by rw [List.length_replicate, vec_len]) fun k h1 h2 => ?_
  rw [List.getElem_replicate, vec_get]
  rfl
theorem law_total_eq {n A B M K : Nat} {x : List Fr} {rows : List (List Fr)} (hn : n ≤ 6) (hA : 0 < A) (hM : 0 < M) (hA2 : A < 2 ^ 2000) (hM2 : M < 2 ^ 2000) (hB : B < 2 ^ 2000) (hK : K < 2 ^ 1900) (hx : Fx n A B x) (hl : rows.length = n) (hr : ∀ l ∈ rows, Fx n M K l) : w_law_total (x, rows, (n : Int), ()) = ret (vec n (lin n (at1 x) (rowQ rows))) := by
  have up : ∀ {a : Nat}, a < 2 ^ 2000 → a < 2 ^ 4000 := fun h => pow_mono h (by decide)
  have b1 : A * M < 2 ^ 4000 := mul_lt_pow hA2 hM2
  have b2 : 7 * (B * K) < 2 ^ 4000 := by
    have := mul_lt_pow (show 7 < 2 ^ 3 by decide) (mul_lt_pow hB hK)
    exact pow_mono this (by decide)
  unfold w_law_total wb_law_total
  simp only [bnd_ret, bnd_assoc, bnd_grd, grd_true, fnR_bnd, fnR_grd, fnR_ret, Int.toNat_natCast, flat1]
  rw [grd_ok (show repOk [((0, 1) : Fr)].length (n : Int) = true from repOk1 (by omega) (by omega)), rep_vec]
  have e := total_loop (β := List Fr) hA hM b1 b2 (f := fun s y => bnd (mapW (fun z : Fr × Fr => bnd (w_law_mul (y.1, z.2, ())) fun m => w_law_add (z.1, m, ())) (s.zip y.2)) fun v => ret (.nx v)) (fun _ _ => rfl) x rows (fun _ => 0) 0 (by rw [hx.len, hl]) (fun z hz => by
      obtain ⟨r, t⟩ := hx.mem hz
      exact ⟨r, t, (hx.bd hA (up hA2) (up hB) hz).1.sz⟩) (fun l hl => ⟨hr l hl, fun z hz => ((hr l hl).bd hM (up hM2) (pow_mono hK (by decide)) hz).1.sz⟩) (fun k _ => ⟨0, by simp, by show _ * (0 : Rat) = 0; rw [Rat.mul_zero]⟩) (by rw [hx.len]; omega)
  refine (congrArg (fun z => bnd z _) e).trans ?_
  rw [bnd_ret, sq_nx, fnR_ret, hx.len]
  congr 1
  exact vec_congr fun k _ => Rat.zero_add _
end Dc
namespace Dc
open PySem PySem.Spec L2
theorem tot_loop {f : List Int → Int × Int → W (Fl (List Int) (List Int) (List Fr))} {size : Nat} : ∀ (fs : List Int) (rs : List (List Int)) (k : Int) (T : List Int), fs.length = rs.length → T.length = size → (∀ r ∈ rs, r.length = size) →
    (∀ (i : Nat) (h : i < rs.length) (c : Int) (T : List Int), c ∈ fs → T.length = size → f T (k + i, c) = ret (.nx (if c ≠ 0 then zadd c T rs[i] else T))) → forW (δ := Empty) f T (enumF k fs) = ret (.nx (totF T fs rs))
  | [], [], _, _, _, _, _, _ => rfl
  | [], _ :: _, _, _, h, _, _, _ => by simp at h
  | _ :: _, [], _, _, h, _, _, _ => by simp at h
  | c :: fs, r :: rs, k, T, h, hT, hr, hf => by
    show bnd (f T (k, c)) _ = _
    have h0 := hf 0 (by simp) c T (List.mem_cons_self ..) hT
    rw [show k + ((0 : Nat) : Int) = k by simp] at h0
    rw [h0, bnd_ret]
    refine (tot_loop fs rs (k + 1) _ (by simpa using h) ?_ (fun x hx => hr x (List.mem_cons_of_mem _ hx)) fun i hi c' T' hc' hT' => ?_).trans rfl
    · split
      · rw [List.getElem_cons_zero, zadd_len (by rw [hr r (List.mem_cons_self ..), hT]), hT]
      · exact hT
    · have := hf (i + 1) (by simp; omega) c' T' (List.mem_cons_of_mem _ hc') hT'
      rw [show k + ((i + 1 : Nat) : Int) = k + 1 + (i : Int) by omega] at this
      rw [this, List.getElem_cons_succ]
structure RowsOk (rows : List (List Fr)) (n : Nat) : Prop where
  len : ∀ r ∈ rows, r.length = n
  red : ∀ r ∈ rows, ∀ x ∈ r, Red x
  sz : ∀ r ∈ rows, ∀ x ∈ r, Sz 4000 x
theorem over_small {F : Int} {x : Fr} (hF : 0 < F) (hb : F < 2 ^ 4000) (h : 1 ≤ x.2) (hx : Sz 4000 x) : (x.1 * Int.fdiv F x.2).natAbs < 2 ^ 8000 := by
  rw [Int.natAbs_mul]
  refine mul_lt_pow (n := 4000) (m := 4000) hx.1 ?_
  have e : ((2 : Int) ^ 4000) = ((2 ^ 4000 : Nat) : Int) := by simp
  rw [e] at hb
  rw [Int.fdiv_eq_ediv_of_nonneg _ (by omega)]
  have := Int.natAbs_ediv_le_natAbs F x.2
  omega
def combL (ns : List Fr) (rows : List (List Fr)) (n : Nat) : List Fr :=
  (totF (List.replicate n 0) (over_ (lcmL ns) ns) (rows.map (over_ (lcmL rows.flatten)))).map fun t => ofQ (Rat.divInt t (lcmL ns * lcmL rows.flatten))
theorem combination_eq {ns : List Fr} {rows : List (List Fr)} {size : Int} (h0 : 0 ≤ size) (h1 : size ≤ 1000) (hl : ns.length = rows.length) (hn : rows.length ≤ 1000) (hr : RowsOk rows size.toNat) (hN : ∀ x ∈ ns, Red x) (hS : ∀ x ∈ ns, Sz 4000 x) (hC : lcmL ns < 2 ^ 4000) (hF : lcmL rows.flatten < 2 ^ 4000) :
    w_combination (ns, rows, size, ()) = ret (combL ns rows size.toNat) := by
  have big : (2 : Int) ^ 4000 ≤ 2 ^ 13000 := by
    have : (2 : Nat) ^ 4000 ≤ 2 ^ 13000 := Nat.pow_le_pow_right (by decide) (by decide)
    have e : ((2 : Int) ^ 4000) = ((2 ^ 4000 : Nat) : Int) := by simp
    have e2 : ((2 : Int) ^ 13000) = ((2 ^ 13000 : Nat) : Int) := by simp
    omega
  have fl := flat_len rows hr.len
  have fb : rows.length * size.toNat ≤ 1000 * 1000 := Nat.mul_le_mul hn (by omega)
  have fred : ∀ x ∈ rows.flatten, Red x := fun x hx => by
    obtain ⟨r, hr', hx'⟩ := List.mem_flatten.mp hx
    exact hr.red r hr' x hx'
  have fsz : ∀ x ∈ rows.flatten, Sz 4000 x := fun x hx => by
    obtain ⟨r, hr', hx'⟩ := List.mem_flatten.mp hx
    exact hr.sz r hr' x hx'
  have pC := lcmL_pos hN
  have pF := lcmL_pos fred
  unfold w_combination wb_combination
  simp only [bnd_ret, bnd_assoc, bnd_grd, grd_true, fnR_bnd, fnR_ite, fnR_grd, fnR_ret, sq_nx, sq_rt]
  rw [integers_of_eq hN hS (Int.lt_of_lt_of_le hC big), bnd_ret, flat_eq 0 rows (by omega), bnd_ret, integers_of_eq fred fsz (Int.lt_of_lt_of_le hF big), bnd_ret, grd_ok (show repOk ([0] : List Int).length size = true from repOk1 h0 (by omega)), flat1]
  have ol : ∀ (F : Int) (l : List Fr), (over_ F l).length = l.length := fun F l => List.length_map ..
  have e1 : (intsL rows.flatten).length = rows.length * size.toNat := by rw [intsL, List.length_map, fl]
  dsimp only
  rw [show intsL ns = over_ (lcmL ns) ns from rfl, tot_loop (size := size.toNat) (over_ (lcmL ns) ns) (rows.map (over_ (lcmL rows.flatten))) 0 (List.replicate size.toNat 0) (by rw [ol, List.length_map, hl]) (List.length_replicate ..) (fun r hr' => by
    obtain ⟨q, hq, rfl⟩ := List.mem_map.mp hr'
    rw [ol, hr.len q hq]) (fun i hi c T hc hT => ?_)]
  rotate_left
  · rw [List.length_map] at hi
    have es : i * size.toNat + size.toNat ≤ rows.length * size.toNat := by
      have := Nat.mul_le_mul_right size.toNat (show i + 1 ≤ rows.length by omega)
      rw [Nat.add_mul] at this
      omega
    have en : ((i : Int) * size) = ((i * size.toNat : Nat) : Int) := by rw [Int.natCast_mul, Int.toNat_of_nonneg h0]
    have en2 : ((i : Int) * size + size) = ((i * size.toNat + size.toNat : Nat) : Int) := by rw [Int.natCast_add, ← en, Int.toNat_of_nonneg h0]
    have sl : List.take (HT.sIx (intsL rows.flatten).length (intsL rows.flatten).length (some ((i : Int) * size + size)) - HT.sIx (intsL rows.flatten).length 0 (some ((i : Int) * size))) (List.drop (HT.sIx (intsL rows.flatten).length 0 (some ((i : Int) * size))) (intsL rows.flatten)) = over_ (lcmL rows.flatten) rows[i] := by
      rw [en2, en, HT.sIx_nat, HT.sIx_nat, e1, Nat.min_eq_left es, Nat.min_eq_left (by omega), Nat.add_sub_cancel_left, intsL, ← List.map_drop, ← List.map_take, flat_slice rows i hi hr.len]
      rfl
    show bnd (ite (!decide (c = 0)) (grd (mulOk (0 + i) size) (grd (mulOk (0 + i) size) (bnd (forW _ T (enumF 0 (List.take (HT.sIx (intsL rows.flatten).length (intsL rows.flatten).length (some ((0 + i : Int) * size + size)) - HT.sIx (intsL rows.flatten).length 0 (some ((0 + i : Int) * size))) (List.drop (HT.sIx (intsL rows.flatten).length 0 (some ((0 + i : Int) * size))) (intsL rows.flatten))))) (sq fun s => ret (Fl.nx s))))) (ret (Fl.nx T))) (sq fun s => ret (Fl.nx s)) = _
    rw [Int.zero_add, sl]
    by_cases q : c = 0
    · rw [ite_no (by simp [q]), bnd_ret, sq_nx, if_neg (by simp [q])]
    · have hm : mulOk (i : Int) size = true := mulSmall (by omega) (by omega)
      rw [ite_ok (by simp [q]), grd_ok hm, grd_ok hm, if_pos q, List.getElem_map]
      have := add_loop (f := fun s185 y186 => grd (ixOk s185 y186.1) (grd (mulOk c y186.2) (ret (Fl.nx (s185.set ((ixN s185.length y186.1).getD 0) (ixAt s185 y186.1 + c * y186.2)))))) (c := c) (fun _ _ => rfl) (over_ (lcmL rows.flatten) rows[i]) T [] (by rw [ol, hr.len _ (List.getElem_mem hi), hT]) fun m hm => by
        obtain ⟨x, hx, rfl⟩ := List.mem_map.mp hm
        obtain ⟨y, hy, rfl⟩ := List.mem_map.mp hc
        have r1 := hr.red _ (List.getElem_mem hi) x hx
        have s1 := hr.sz _ (List.getElem_mem hi) x hx
        exact mulOk_of (over_small pC hC (hN y hy).1 (hS y hy)) (over_small pF hF r1.1 s1)
      refine (congrArg (fun z => bnd (bnd z _) _) this).trans ?_
      rfl
  · rw [bnd_ret, sq_nx]
    have m1 : (lcmL ns).natAbs < 2 ^ 4000 := by
      have e : ((2 : Int) ^ 4000) = ((2 ^ 4000 : Nat) : Int) := by simp
      omega
    have m2 : (lcmL rows.flatten).natAbs < 2 ^ 4000 := by
      have e : ((2 : Int) ^ 4000) = ((2 ^ 4000 : Nat) : Int) := by simp
      omega
    rw [grd_ok (mulOk_of m1 m2), numbers_of_eq (Int.mul_ne_zero (by omega) (by omega)) (by
      rw [Int.natAbs_mul]
      exact Nat.lt_of_lt_of_le (mul_lt_pow m1 m2) (Nat.pow_le_pow_right (by decide) (by decide))), bnd_ret, fnR_ret]
    rfl

/-! ### the numbers of a combination -/
theorem at0_zadd {c : Int} {k : Nat} : ∀ {T r : List Int}, r.length = T.length → at0 (zadd c T r) k = at0 T k + c * at0 r k
  | [], [], _ => by
    show at0 [] k = at0 [] k + c * at0 [] k
    rw [at0_out (Nat.zero_le _), Int.mul_zero, Int.add_zero]
  | [], _ :: _, h => by simp at h
  | _ :: _, [], h => by simp at h
  | t :: T, m :: r, h => by
    cases k with
    | zero => rfl
    | succ k =>
      show at0 ((t + c * m) :: zadd c T r) (k + 1) = _
      unfold at0
      rw [getD_consS, getD_consS, getD_consS]
      exact at0_zadd (by simpa using h)
theorem at0_totF {n k : Nat} : ∀ (fs : List Int) (rs : List (List Int)) (T : List Int), fs.length = rs.length → T.length = n → (∀ r ∈ rs, r.length = n) → ((at0 (totF T fs rs) k : Int) : Rat) = ((at0 T k : Int) : Rat) + sumN rs.length (fun i => ((at0 fs i : Int) : Rat) * ((at0 (rs.getD i []) k : Int) : Rat)) ∧ (totF T fs rs).length = n
  | [], [], T, _, h, _ => ⟨by
    show _ = _ + (0 : Rat)
    rw [Rat.add_zero]
    rfl, h⟩
  | [], _ :: _, _, h, _, _ => by simp at h
  | _ :: _, [], _, h, _, _ => by simp at h
  | c :: fs, r :: rs, T, h, hT, hr => by
    have hl := hr r List.mem_cons_self
    have l1 : (if c ≠ 0 then zadd c T r else T).length = n := by
      split
      · rw [zadd_len (by rw [hl, hT]), hT]
      · exact hT
    obtain ⟨e, l⟩ := at0_totF (k := k) fs rs (if c ≠ 0 then zadd c T r else T) (by simpa using h) l1 fun q hq => hr q (List.mem_cons_of_mem _ hq)
    refine ⟨?_, l⟩
    show ((at0 (totF (if c ≠ 0 then zadd c T r else T) fs rs) k : Int) : Rat) = _
    rw [e]
    have e2 : ((at0 (if c ≠ 0 then zadd c T r else T) k : Int) : Rat) = ((at0 T k : Int) : Rat) + (c : Rat) * ((at0 r k : Int) : Rat) := by
      split
      · rw [at0_zadd (by rw [hl, hT])]
        simp
      · rename_i q
        have q : c = 0 := by simpa using q
        rw [q]
        show _ = _ + (0 : Rat) * _
        rw [Rat.zero_mul, Rat.add_zero]
    rw [e2]
    show _ = ((at0 T k : Int) : Rat) + (((at0 (c :: fs) 0 : Int) : Rat) * ((at0 ((r :: rs).getD 0 []) k : Int) : Rat) + sumN rs.length fun i => ((at0 (c :: fs) (i + 1) : Int) : Rat) * ((at0 ((r :: rs).getD (i + 1) []) k : Int) : Rat))
    rw [Rat.add_assoc]
    rfl
theorem at0_over {F : Int} (hF : 0 < F) {l : List Fr} (h : ∀ z ∈ l, 1 ≤ z.2 ∧ z.2 ∣ F) {k : Nat} (hk : k < l.length) : ((at0 (over_ F l) k : Int) : Rat) = (F : Rat) * at1 l k := by
  rw [at0_get (by rw [over_, List.length_map]; exact hk), at1_get hk]
  simp only [over_, List.getElem_map]
  exact cast_over (h _ (List.getElem_mem hk)).1 hF (h _ (List.getElem_mem hk)).2
theorem combL_vec {n : Nat} {x : List Fr} {rows : List (List Fr)} (hx : x.length = n) (rx : ∀ z ∈ x, Red z) (hl : rows.length = n) (hr : ∀ l ∈ rows, l.length = n ∧ ∀ z ∈ l, Red z) : combL x rows n = vec n (lin n (at1 x) (rowQ rows)) := by
  have fred : ∀ z ∈ rows.flatten, Red z := fun z hz => by
    obtain ⟨r, hr', hx'⟩ := List.mem_flatten.mp hz
    exact (hr r hr').2 z hx'
  have pC := lcmL_pos rx
  have pF := lcmL_pos fred
  have ol : ∀ (F : Int) (l : List Fr), (over_ F l).length = l.length := fun F l => List.length_map ..
  have tot := fun k => at0_totF (n := n) (k := k) (over_ (lcmL x) x) (rows.map (over_ (lcmL rows.flatten))) (List.replicate n 0) (by rw [ol, List.length_map, hx, hl]) List.length_replicate fun r hr' => by
    obtain ⟨q, hq, rfl⟩ := List.mem_map.mp hr'
    rw [ol, (hr q hq).1]
  refine List.ext_getElem (by rw [combL, List.length_map, (tot 0).2, vec_len]) fun k h1 h2 => ?_
  have hk : k < n := by rw [vec_len] at h2; exact h2
  rw [vec_get]
  simp only [combL, List.getElem_map]
  congr 1
  have e := (tot k).1
  rw [at0_rep, List.length_map, hl, at0_get (by rw [(tot 0).2]; exact hk)] at e
  have s : (sumN n fun i => ((at0 (over_ (lcmL x) x) i : Int) : Rat) * ((at0 ((rows.map (over_ (lcmL rows.flatten))).getD i []) k : Int) : Rat)) = ((lcmL x : Rat) * (lcmL rows.flatten : Rat)) * lin n (at1 x) (rowQ rows) k := by
    unfold lin
    rw [← sumN_mul]
    refine sumN_congr fun i hi => ?_
    have hi2 : i < rows.length := by rw [hl]; exact hi
    have m := hr _ (List.getElem_mem hi2)
    have g1 : (rows.map (over_ (lcmL rows.flatten))).getD i [] = over_ (lcmL rows.flatten) rows[i] := by
      rw [List.getD_eq_getElem?_getD, List.getElem?_map, List.getElem?_eq_getElem hi2]
      rfl
    have g2 : rows.getD i [] = rows[i] := by
      rw [List.getD_eq_getElem?_getD, List.getElem?_eq_getElem hi2]
      rfl
    rw [g1, at0_over pC (fun z hz => ⟨(rx z hz).1, lcmL_dvd rx hz⟩) (by rw [hx]; exact hi), at0_over pF (fun z hz => ⟨(m.2 z hz).1, lcmL_dvd fred (List.mem_flatten.mpr ⟨_, List.getElem_mem hi2, hz⟩)⟩) (by rw [m.1]; exact hk)]
    show _ = _ * (at1 x i * at1 (rows.getD i []) k)
    rw [g2]
    grind
  rw [s] at e
  rw [Rat.divInt_eq_div, e]
  have c0 : ((lcmL x : Int) : Rat) ≠ 0 := fun z => by
    have : lcmL x = 0 := by exact_mod_cast z
    omega
  have f0 : ((lcmL rows.flatten : Int) : Rat) ≠ 0 := fun z => by
    have : lcmL rows.flatten = 0 := by exact_mod_cast z
    omega
  rw [Rat.intCast_mul]
  generalize ((lcmL x : Int) : Rat) = a at c0 ⊢
  generalize ((lcmL rows.flatten : Int) : Rat) = b at f0 ⊢
  show ((0 : Rat) + a * b * _) / (a * b) = _
  grind
theorem combined_eq {n A B M K : Nat} {x : List Fr} {rows : List (List Fr)} (hn : n ≤ 6) (hA : 0 < A) (hM : 0 < M) (hA2 : A < 2 ^ 900) (hM2 : M < 2 ^ 900) (hB : B < 2 ^ 900) (hK : K < 2 ^ 900) (hx : Fx n A B x) (hl : rows.length = n) (hr : ∀ l ∈ rows, Fx n M K l) : w_combined (x, rows, (n : Int), ()) = ret (vec n (lin n (at1 x) (rowQ rows))) := by
  have bx : ∀ z ∈ x, Bd 900 z ∧ z.2 ∣ (A : Int) := fun z hz => hx.bd hA hA2 hB hz
  have br : ∀ l ∈ rows, ∀ z ∈ l, Bd 900 z ∧ z.2 ∣ (M : Int) := fun l hl z hz => (hr l hl).bd hM hM2 hK hz
  have e9 : ((2 : Int) ^ 4000) = ((2 ^ 4000 : Nat) : Int) := by simp
  have u9 : (2 : Nat) ^ 900 < 2 ^ 4000 := Nat.pow_lt_pow_right (by decide) (by decide)
  have l1 := Int.le_of_dvd (by omega) (lcm_dvd_of fun z hz => (bx z hz).2)
  have l2 : lcmL rows.flatten ≤ (M : Int) := Int.le_of_dvd (by omega) (lcm_dvd_of fun z hz => by
    obtain ⟨l, hl, hz⟩ := List.mem_flatten.mp hz
    exact (br l hl z hz).2)
  have rr : ∀ l ∈ rows, Rw n l := fun l hl => (hr l hl).rw_ hM hM2 hK
  unfold w_combined wb_combined
  simp only [bnd_ret, bnd_assoc, bnd_grd, grd_true, fnR_bnd, fnR_grd, fnR_ret]
  rw [check_numbers_eq hx.red, bnd_ret, check_rows_eq rr, bnd_ret, ite_no (by simp [hl, hx.len]), bnd_ret, sq_nx, fnR_bnd, combination_eq (by omega) (by omega) (by rw [hx.len, hl]) (by omega) ⟨fun l hl => by rw [Int.toNat_natCast]; exact (hr l hl).len, fun l hl => (hr l hl).red, fun l hl z hz => ((br l hl z hz).1.up (by decide)).sz⟩ hx.red (fun z hz => ((bx z hz).1.up (by decide)).sz) (by rw [e9]; omega) (by rw [e9]; omega), bnd_ret, Int.toNat_natCast, combL_vec hx.len hx.red hl fun l hl => ⟨(hr l hl).len, (hr l hl).red⟩]
  rfl
end Dc
namespace Dc
open PySem PySem.Spec L2
/-! ### tables by their numbers -/
def tab (n : Nat) (F : Nat → Nat → Nat → Rat) : List (List (List Fr)) := (List.range n).map fun i => (List.range n).map fun j => vec n (F i j)
theorem range_getD {α : Type} {n i : Nat} {d : α} {g : Nat → α} (h : i < n) : ((List.range n).map g).getD i d = g i := by
  rw [List.getD_eq_getElem?_getD, List.getElem?_map, List.getElem?_range h]
  rfl
theorem tab_get {n i j : Nat} {F : Nat → Nat → Nat → Rat} (hi : i < n) (hj : j < n) : ((tab n F).getD i []).getD j [] = vec n (F i j) := by
  rw [tab, range_getD hi, range_getD hj]
theorem tab_at {n i j k : Nat} {F : Nat → Nat → Nat → Rat} (hi : i < n) (hj : j < n) (hk : k < n) : at3 (tab n F) i j k = F i j k := by
  show at1 (((tab n F).getD i []).getD j []) k = _
  rw [tab_get hi hj, vec_at hk]
theorem tab_cub {n : Nat} {F : Nat → Nat → Nat → Rat} : Cub n (tab n F) := ⟨by rw [tab, List.length_map, List.length_range], fun r hr => by
  obtain ⟨i, _, rfl⟩ := List.mem_map.mp hr
  rw [List.length_map, List.length_range], fun r hr l hl => by
  obtain ⟨i, _, rfl⟩ := List.mem_map.mp hr
  obtain ⟨j, _, rfl⟩ := List.mem_map.mp hl
  exact vec_len⟩
theorem tab_tx {n M K : Nat} {F : Nat → Nat → Nat → Rat} (h : ∀ i j k, i < n → j < n → k < n → ∃ t : Int, t.natAbs ≤ K ∧ (M : Rat) * F i j k = (t : Rat)) : Tx n M K (tab n F) := ⟨tab_cub, fun r hr l hl => by
  obtain ⟨i, hi, rfl⟩ := List.mem_map.mp hr
  obtain ⟨j, hj, rfl⟩ := List.mem_map.mp hl
  exact Fx.of_vec fun k hk => h i j k (List.mem_range.mp hi) (List.mem_range.mp hj) hk⟩
theorem tab_self {n : Nat} {P : List (List (List Fr))} (h : Cub n P) (hr : ∀ r ∈ P, ∀ l ∈ r, ∀ z ∈ l, Red z) : tab n (at3 P) = P := cub_ext tab_cub h fun i j hi hj => by
  obtain ⟨m1, m2⟩ := cub_mem h hi hj
  rw [tab_get hi hj]
  exact vec_self (h.lin _ m1 _ m2) (hr _ m1 _ m2)
theorem tab_congr {n : Nat} {F G : Nat → Nat → Nat → Rat} (h : ∀ i j k, i < n → j < n → k < n → F i j k = G i j k) : tab n F = tab n G := List.map_congr_left fun i hi => List.map_congr_left fun j hj => vec_congr fun k hk => h i j k (List.mem_range.mp hi) (List.mem_range.mp hj) hk
theorem mapW_ix {α β : Type} {f : α → W β} : ∀ {xs : List α} {g : Nat → β}, (∀ i (h : i < xs.length), f xs[i] = ret (g i)) → mapW f xs = ret ((List.range xs.length).map g)
  | [], _, _ => rfl
  | x :: xs, g, h => by
    have h0 := h 0 (by simp)
    have ih := mapW_ix (f := f) (xs := xs) (g := fun i => g (i + 1)) fun i hi => h (i + 1) (by simpa using hi)
    show bnd (f x) _ = _
    rw [List.getElem_cons_zero] at h0
    rw [h0, bnd_ret, ih, bnd_ret, List.length_cons, List.range_succ_eq_map, List.map_cons, List.map_map]
    rfl
/-- rows that make a basis, as they are put -/
structure Bs (n c : Nat) (rows : List (List Fr)) : Prop where
  n6 : n ≤ 6
  len : rows.length = n
  rb : ∀ x ∈ rows, Rb n (c - 1) x
  rw_ : ∀ x ∈ rows, Rw n x
  ind : Ind n n (rowQ rows)
  c1 : 1 ≤ c
  cA : c - 1 + 2 ^ 6 * c ≤ 3900
theorem Bs.puts {n c : Nat} {rows : List (List Fr)} (h : Bs n c rows) : ∃ ls pl, putsW gdL w_Basis_put [] rows = ret (ls, List.replicate n true) ∧ ls.length = n ∧ KL n (rowQ rows) c ls pl := by
  obtain ⟨ls, pl, e, l, K⟩ := puts_eq (R := rowQ rows) h.n6 (by rw [h.len]; exact h.n6) h.c1 h.cA h.rb (fun i hi j hj => rfl) (by rw [h.len]; exact h.ind) n 0 [] (fun _ => 0) (by rw [h.len]; omega) rfl ⟨fun q hq => absurd hq (Nat.not_lt_zero _), fun q hq => absurd hq (Nat.not_lt_zero _)⟩
  rw [List.drop_zero] at e
  exact ⟨ls, pl, e, by rw [l, h.len], K⟩
theorem all_rep (n : Nat) : (List.replicate n true).all id = true := by
  induction n with
  | zero => rfl
  | succ n ih => rw [List.replicate_succ]; exact ih
theorem over_gen {n c a : Nat} {P : List (List (List Fr))} {F : Nat → Nat → Nat → Rat} {rows : List (List Fr)} (h1 : 1 ≤ n) (hP : Tb n P) (hQ : Tb n (tab n F)) (h : Bs n c rows) (hA : a + 2 ^ 6 * c ≤ 3900) (hp : ∀ x ∈ rows, ∀ y ∈ rows, Rb n a (prodL P x y)) (he : ∀ i j k, i < n → j < n → k < n → prodV n (at3 P) (rowQ rows i) (rowQ rows j) k = lin n (F i j) (rowQ rows) k) : w_over (tbV P, rows, ()) = ret (tbV (tab n F)) := by
  obtain ⟨ls, pl, e, l, K⟩ := h.puts
  have hn := h.n6
  unfold w_over wb_over
  simp only [bnd_ret, bnd_assoc, bnd_grd, grd_true, fnR_bnd, fnR_grd, fnR_ret, table_size, hP.cub.len, h.len]
  rw [check_rows_eq h.rw_, bnd_ret, e, bnd_ret]
  simp only [all_rep]
  rw [ite_no (by simp), bnd_ret, ite_no (by rfl), bnd_ret, sq_nx]
  simp only [bnd_ret, bnd_assoc, bnd_grd, grd_true, fnR_bnd, fnR_grd, fnR_ret]
  rw [mapW_ix (g := fun i => (List.range rows.length).map fun j => vec n (F i j)) fun i hi => ?_, bnd_ret]
  · rw [h.len]
    have ti := table_init hQ h1 hn
    refine (congrArg (fun z => bnd z _) ti).trans ?_
    rfl
  · refine mapW_ix fun j hj => ?_
    have mi := List.getElem_mem hi
    have mj := List.getElem_mem hj
    have gi : rows[i] = rows.getD i [] := by rw [List.getD_eq_getElem?_getD, List.getElem?_eq_getElem hi]; rfl
    have gj : rows[j] = rows.getD j [] := by rw [List.getD_eq_getElem?_getD, List.getElem?_eq_getElem hj]; rfl
    have pm := table_mul hP hn (h.rw_ _ mi) (h.rw_ _ mj)
    have pq : w_product_of (tbV P, rows[i], rows[j], ()) = ret (prodL P rows[i] rows[j]) := by
      unfold w_product_of wb_product_of
      simp only [bnd_ret, bnd_assoc, fnR_bnd, fnR_ret]
      refine (congrArg (fun z => bnd z _) pm).trans ?_
      rfl
    refine (congrArg (fun z => bnd z _) pq).trans ?_
    rw [bnd_ret, told_eq (cs := F i j) hn l K h.c1 hA (hp _ mi _ mj) h.ind fun k hk => ?_, bnd_ret]
    · rfl
    · rw [prodL_vec hP (h.rw_ _ mi) (h.rw_ _ mj), vec_at hk, gi, gj]
      exact he i j k (by rw [← h.len]; exact hi) (by rw [← h.len]; exact hj) hk
/-! ### the numbers told of a row -/
theorem keep_loop {β δ : Type} {n : Nat} {sh : List Fr} (hs : sh.length = n) (hn : n ≤ 6) {f : Int × List Fr → Int × Bool → W (Fl (Int × List Fr) (Int × List Fr) β)} (hf : ∀ s k, f s (k, true) = grd (ixOk sh s.1) (grd (ixOk s.2 k) (ret (.nx (s.1 + 1, s.2.set ((ixN s.2.length k).getD 0) (ixAt sh s.1)))))) :
    ∀ (d i : Nat), d + i = n → forW (δ := δ) f ((i : Int), sh.take i ++ List.replicate d (0, 1)) (enumF (i : Int) (List.replicate d true)) = ret (.nx ((n : Int), sh))
  | 0, i, e => by
    have e : i = n := by omega
    subst e
    rw [List.replicate_zero, List.append_nil, List.take_of_length_le (by omega)]
    rfl
  | d + 1, i, e => by
    have hi : i < sh.length := by omega
    have l : (sh.take i ++ List.replicate (d + 1) ((0, 1) : Fr)).length = n := by rw [List.length_append, List.length_take, List.length_replicate]; omega
    have i1 := ix_nat hi
    have i2 := ix_nat (l := sh.take i ++ List.replicate (d + 1) ((0, 1) : Fr)) (i := i) (by omega)
    rw [List.replicate_succ (a := true)]
    show bnd (f ((i : Int), sh.take i ++ List.replicate (d + 1) (0, 1)) ((i : Int), true)) _ = _
    rw [hf, grd_ok i1.1, grd_ok i2.1, bnd_ret]
    have es : (sh.take i ++ List.replicate (d + 1) ((0, 1) : Fr)).set ((ixN (sh.take i ++ List.replicate (d + 1) ((0, 1) : Fr)).length (i : Int)).getD 0) (ixAt sh (i : Int)) = sh.take (i + 1) ++ List.replicate d (0, 1) := by
      rw [l, ixN_val (by omega) (by omega), Int.toNat_natCast, i1.2, List.set_append_right _ _ (by rw [List.length_take]; omega), List.length_take, Nat.min_eq_left (by omega), Nat.sub_self, List.replicate_succ, List.set_cons_zero, List.take_succ_eq_append_getElem hi, List.append_assoc]
      rfl
    show forW f ((i : Int) + 1, _) (enumF ((i : Int) + 1) (List.replicate d true)) = _
    rw [es]
    exact keep_loop hs hn hf d (i + 1) (by omega)
theorem told_by_eq {n c a : Nat} {x : List Fr} {rows : List (List Fr)} {cs : Nat → Rat} (h : Bs n c rows) (hA : a + 2 ^ 6 * c ≤ 3900) (hx : Rb n a x) (hw : Rw n x) (he : ∀ j, j < n → at1 x j = lin n cs (rowQ rows) j) : w_told_by (x, rows, ()) = ret (some (vec n cs)) := by
  obtain ⟨ls, pl, e, l, K⟩ := h.puts
  have hn := h.n6
  unfold w_told_by wb_told_by
  simp only [bnd_ret, bnd_assoc, bnd_grd, grd_true, fnR_bnd, fnR_grd, fnR_ret, hx.len, h.len]
  rw [grd_ok (decide_eq_true (by simp; omega)), check_rows_eq (n := n) (fun r hr => by
    rcases List.mem_append.mp hr with q | q
    · rw [List.mem_singleton.mp q]; exact hw
    · exact h.rw_ r q), bnd_ret, e, bnd_ret]
  rw [told_eq (cs := cs) hn l K h.c1 hA hx h.ind he, bnd_ret]
  rw [ite_no (show (some _ : Option (List Fr)).isNone = false from rfl), bnd_ret, sq_nx]
  simp only [bnd_ret, bnd_assoc, bnd_grd, grd_true, fnR_bnd, fnR_grd, fnR_ret]
  rw [grd_ok (show repOk [((0, 1) : Fr)].length (n : Int) = true from repOk1 (by omega) (by omega)), flat1, Int.toNat_natCast]
  have kl := keep_loop (β := Option (List Fr)) (δ := Empty) (n := n) (sh := vec n cs) vec_len hn (f := fun s y => bnd (ite y.2 (bnd (someW (some (vec n cs))) fun t => grd (ixOk t s.1) (grd (ixOk s.2 y.1) (ret (Fl.nx (s.1 + 1, s.2.set ((ixN s.2.length y.1).getD 0) (ixAt t s.1)))))) (ret (Fl.nx (s.1, s.2)))) (sq fun s => ret (Fl.nx (s.1, s.2)))) (fun s k => rfl) n 0 (by omega)
  refine (congrArg (fun z => bnd z _) kl).trans ?_
  rfl
end Dc
namespace Dc
open PySem PySem.Spec L2
/-! ### terms -/
inductive Tm where
  | let_ (b : Bool)
  | take (p q : Int) (t : Tm)
  | bin (pl : Bool) (t u : Tm)
abbrev sLetter : Str := Str.ofString "letter"
abbrev sTake : Str := Str.ofString "take"
abbrev sPlus : Str := Str.ofString "plus"
abbrev sTimes : Str := Str.ofString "times"
def tmD : Tm → D
  | .let_ b => .tup [.str sLetter, .int (if b then 1 else 0)]
  | .take p q t => .tup [.str sTake, .tup [.int p, .int q], tmD t]
  | .bin pl t u => .tup [.str (if pl then sPlus else sTimes), tmD t, tmD u]
def okT : Nat → Tm → Prop
  | _, .let_ _ => True
  | d + 1, .take p q t => p.natAbs ≤ 3 ∧ (q = 1 ∨ q = 7) ∧ okT d t
  | d + 1, .bin _ t u => okT d t ∧ okT d u
  | 0, _ => False
def termN : Nat → Nat
  | 0 => 2
  | d + 1 => 2 * termN d + 3
theorem ok_let (d : Nat) (b : Bool) : okT d (.let_ b) := by cases d <;> exact trivial
theorem law_term_tr : ∀ (d m : Nat), d ≤ m → d ≤ 60 → Tr (termN d) (w_law_term (m + 1) ((d : Int), ())) (fun r => ∃ t, okT d t ∧ r = tmD t) := by
  intro d
  induction d with
  | zero =>
    intro m _ _
    unfold w_law_term
    simp only [bnd_ret, bnd_assoc, bnd_grd, grd_true, fnR_bnd, fnR_grd, fnR_ret]
    refine Tr.then 1 Tr.pick fun k hk => ?_
    rw [ite_ok (show decide (((0 : Nat) : Int) = 0) = true from rfl), bnd_ret, ite_ok rfl]
    simp only [bnd_ret, bnd_assoc, sq_rt, fnR_bnd, fnR_ret]
    refine Tr.then 1 Tr.pick fun j hj => ?_
    refine Tr.ret ⟨.let_ (decide (j = 1)), ok_let _ _, ?_⟩
    have : j = 0 ∨ j = 1 := by omega
    rcases this with rfl | rfl <;> rfl
  | succ d ih =>
    intro m hm h60
    obtain ⟨m, rfl⟩ : ∃ m', m = m' + 1 := ⟨m - 1, by omega⟩
    have ih := ih m (by omega) (by omega)
    have e1 : (((d + 1 : Nat) : Int) - 1) = (d : Int) := by omega
    unfold w_law_term
    simp only [bnd_ret, bnd_assoc, bnd_grd, grd_true, fnR_bnd, fnR_grd, fnR_ret, e1]
    refine Tr.then 1 Tr.pick (fun k hk => ?_) (by show 1 ≤ 2 * termN d + 3; omega)
    rw [ite_no (show decide (((d + 1 : Nat) : Int) = 0) = false from decide_eq_false (by omega)), bnd_ret]
    have cost : termN (d + 1) - 1 = 2 * termN d + 2 := rfl
    rw [cost]
    by_cases k0 : k = 0
    · rw [ite_ok (decide_eq_true k0)]
      simp only [bnd_ret, bnd_assoc, sq_rt, fnR_bnd, fnR_ret]
      refine Tr.then 1 Tr.pick (fun j hj => ?_) (by omega)
      refine Tr.ret ⟨.let_ (decide (j = 1)), ok_let _ _, ?_⟩
      have : j = 0 ∨ j = 1 := by omega
      rcases this with rfl | rfl <;> rfl
    · rw [ite_no (decide_eq_false k0), bnd_ret, sq_nx]
      by_cases k1 : k = 1
      · rw [ite_ok (decide_eq_true k1)]
        simp only [bnd_ret, bnd_assoc, bnd_grd, sq_rt, fnR_bnd, fnR_grd, fnR_ret]
        refine Tr.then 1 Tr.pick (fun p hp => ?_) (by omega)
        refine Tr.then 1 Tr.pick (fun q hq => Tr.grd (mulSmall (by omega) (by decide)) ?_) (by omega)
        refine Tr.then (termN d) ih (fun r hr => ?_) (by omega)
        obtain ⟨t, ht, rfl⟩ := hr
        refine Tr.ret ⟨.take (p - 3) (1 + 6 * q) t, ⟨by omega, by omega, ht⟩, ?_⟩
        have c : q * 6 = 6 * q := Int.mul_comm _ _
        first
          | rfl
          | rw [c]; rfl
      · rw [ite_no (decide_eq_false k1), bnd_ret, sq_nx]
        have kk : k = 2 ∨ k = 3 ∨ k = 4 := by omega
        have hfd : fdivOk k 3 = true := fdivOk_of (by decide) (small (by decide))
        have key : ∀ (b : Bool), Int.fdiv k 3 = (if b then 0 else 1) → Tr (2 * termN d + 2) (fnR (bnd (bnd (bnd (bnd (ret [sPlus, sTimes]) fun t1323 => bnd (bnd (ret k) fun t1321 => bnd (ret (3 : Int)) fun t1322 => grd (fdivOk t1321 t1322) (ret (Int.fdiv t1321 t1322))) fun t1324 => grd (ixOk t1323 t1324) (ret (ixAt t1323 t1324))) fun t1325 => ret (D.str t1325)) fun t1338 => bnd (bnd (w_law_term (m + 1) ((d : Int), ())) fun t1336 => bnd (bnd (w_law_term (m + 1) ((d : Int), ())) fun t1334 => ret [t1334]) fun t1337 => ret (t1336 :: t1337)) fun t1339 => ret (D.tup (t1338 :: t1339))) fun t1341 => ret (Fl.rt t1341))) (fun r => ∃ t, okT (d + 1) t ∧ r = tmD t) := fun b hb => by
          simp only [bnd_ret, bnd_assoc, bnd_grd, fnR_bnd, fnR_grd, fnR_ret, hb]
          refine Tr.grd hfd (Tr.grd (by cases b <;> rfl) ?_)
          refine Tr.then (termN d) ih (fun r hr => ?_) (by omega)
          obtain ⟨t, ht, rfl⟩ := hr
          refine Tr.then (termN d) ih (fun r hr => ?_) (by omega)
          obtain ⟨u, hu, rfl⟩ := hr
          exact Tr.ret ⟨.bin b t u, ⟨ht, hu⟩, by cases b <;> rfl⟩
        simp only [bnd_ret, bnd_assoc, bnd_grd, fnR_bnd, fnR_grd, fnR_ret] at key ⊢
        rcases kk with rfl | rfl | rfl
        · exact key true (by decide)
        · exact key false (by decide)
        · exact key false (by decide)
/-! ### what a term is worth -/
def wq (n : Nat) (P : Nat → Nat → Nat → Rat) (l : Bool → Nat → Rat) : Tm → Nat → Rat
  | .let_ b => l b
  | .take p q t => fun k => Rat.divInt p q * wq n P l t k
  | .bin true t u => fun k => wq n P l t k + wq n P l u k
  | .bin false t u => prodV n P (wq n P l t) (wq n P l u)
def aA (A M : Nat) : Nat → Nat
  | 0 => A
  | d + 1 => 7 * (aA A M d * aA A M d * M)
def bB (A B M K : Nat) : Nat → Nat
  | 0 => B
  | d + 1 => 7 * aA A M d * M * (4 * bB A B M K d) + 7 * (36 * (bB A B M K d * bB A B M K d * K))
theorem aA_pos {A M : Nat} (hA : 0 < A) (hM : 0 < M) : ∀ d, 0 < aA A M d
  | 0 => hA
  | d + 1 => Nat.mul_pos (by decide) (Nat.mul_pos (Nat.mul_pos (aA_pos hA hM d) (aA_pos hA hM d)) hM)
theorem aA_le {A M d α μ : Nat} (h : aA A M d ≤ 2 ^ α) (hM : M ≤ 2 ^ μ) : aA A M (d + 1) ≤ 2 ^ (2 * α + μ + 3) := by
  show 7 * (aA A M d * aA A M d * M) ≤ _
  calc 7 * (aA A M d * aA A M d * M) ≤ 2 ^ 3 * (2 ^ α * 2 ^ α * 2 ^ μ) := Nat.mul_le_mul (by decide) (Nat.mul_le_mul (Nat.mul_le_mul h h) hM)
    _ = 2 ^ (2 * α + μ + 3) := by rw [← Nat.pow_add, ← Nat.pow_add, ← Nat.pow_add]; congr 1; omega
theorem bB_le {A B M K d α β μ κ γ : Nat} (h : aA A M d ≤ 2 ^ α) (h2 : bB A B M K d ≤ 2 ^ β) (hM : M ≤ 2 ^ μ) (hK : K ≤ 2 ^ κ) (g1 : α + μ + β + 6 ≤ γ) (g2 : 2 * β + κ + 9 + 1 ≤ γ) : bB A B M K (d + 1) ≤ 2 ^ γ := by
  show 7 * aA A M d * M * (4 * bB A B M K d) + 7 * (36 * (bB A B M K d * bB A B M K d * K)) ≤ _
  have e1 : 7 * aA A M d * M * (4 * bB A B M K d) ≤ 2 ^ (γ - 1) := by
    calc 7 * aA A M d * M * (4 * bB A B M K d) ≤ 2 ^ 3 * 2 ^ α * 2 ^ μ * (2 ^ 2 * 2 ^ β) := Nat.mul_le_mul (Nat.mul_le_mul (Nat.mul_le_mul (by decide) h) hM) (Nat.mul_le_mul (by decide) h2)
      _ = 2 ^ (α + μ + β + 5) := by rw [← Nat.pow_add, ← Nat.pow_add, ← Nat.pow_add, ← Nat.pow_add]; congr 1; omega
      _ ≤ _ := Nat.pow_le_pow_right (by decide) (by omega)
  have e2 : 7 * (36 * (bB A B M K d * bB A B M K d * K)) ≤ 2 ^ (γ - 1) := by
    calc 7 * (36 * (bB A B M K d * bB A B M K d * K)) ≤ 2 ^ 3 * (2 ^ 6 * (2 ^ β * 2 ^ β * 2 ^ κ)) := Nat.mul_le_mul (by decide) (Nat.mul_le_mul (by decide) (Nat.mul_le_mul (Nat.mul_le_mul h2 h2) hK))
      _ = 2 ^ (2 * β + κ + 9) := by rw [← Nat.pow_add, ← Nat.pow_add, ← Nat.pow_add, ← Nat.pow_add]; congr 1; omega
      _ ≤ _ := Nat.pow_le_pow_right (by decide) (by omega)
  have e3 : 2 ^ γ = 2 ^ (γ - 1) + 2 ^ (γ - 1) := by
    rw [← Nat.two_mul, ← Nat.pow_succ']
    congr 1
    omega
  omega
end Dc
namespace Dc
open PySem PySem.Spec L2
theorem product_two_eq {x y : Fr} (hx : Bd 4000 x) (hy : Bd 4000 y) : w_product_two (x, y, ()) = ret (ofQ (toQ x * toQ y)) := by
  have b := mul_lt_pow hx.sz.2 hy.sz.2
  unfold w_product_two wb_product_two
  simp only [bnd_ret, bnd_assoc, bnd_grd, fnR_bnd, fnR_grd, fnR_ret]
  rw [grd_ok (mulOk_of hx.sz.1 hy.sz.1), grd_ok (mulOk_of hx.sz.2 hy.sz.2), lowest_eq (Int.mul_ne_zero hx.ne hy.ne) (by rw [Int.natAbs_mul]; exact pow_mono b (by decide)), bnd_ret, toQ_mul]
theorem sum_two_eq {x y : Fr} (hx : Bd 4000 x) (hy : Bd 4000 y) : w_sum_two (x, y, ()) = ret (ofQ (toQ x + toQ y)) := by
  have b := mul_lt_pow hx.sz.2 hy.sz.2
  unfold w_sum_two wb_sum_two
  simp only [bnd_ret, bnd_assoc, bnd_grd, fnR_bnd, fnR_grd, fnR_ret]
  rw [grd_ok (mulOk_of hx.sz.1 hy.sz.2), grd_ok (mulOk_of hy.sz.1 hx.sz.2), grd_ok (mulOk_of hx.sz.2 hy.sz.2), lowest_eq (Int.mul_ne_zero hx.ne hy.ne) (by rw [Int.natAbs_mul]; exact pow_mono b (by decide)), bnd_ret, toQ_add hx.ne hy.ne]
theorem checked_eq {x : Fr} (h : Red x) : w_checked (x, ()) = ret x := by
  unfold w_checked wb_checked
  simp only [bnd_ret, bnd_assoc, fnR_bnd, fnR_ret, is_number_eq h]
  rfl
theorem sum_of_vec {n : Nat} {f g : Nat → Rat} (hn : n ≤ 6) (hf : ∀ z ∈ vec n f, Bd 900 z) (hg : ∀ z ∈ vec n g, Bd 900 z) : w_sum_of (vec n f, vec n g, ()) = ret (vec n fun k => f k + g k) := by
  have all : ∀ z ∈ vec n f ++ vec n g, Red z := fun z hz => by
    rcases List.mem_append.mp hz with q | q
    · exact vec_red z q
    · exact vec_red z q
  unfold w_sum_of wb_sum_of
  simp only [bnd_ret, bnd_assoc, bnd_grd, grd_true, fnR_bnd, fnR_grd, fnR_ret, vec_len]
  rw [grd_ok (decide_eq_true (by omega)), check_numbers_eq all, bnd_ret, ite_no (by simp), bnd_ret, sq_nx]
  unfold w_plus_row wb_plus_row
  simp only [bnd_ret, bnd_assoc, bnd_grd, grd_true, fnR_bnd, fnR_grd, fnR_ret]
  have e : mapW (fun z : Fr × Fr => w_sum_two (z.1, z.2, ())) ((vec n f).zip (vec n g)) = ret (((vec n f).zip (vec n g)).map fun z => ofQ (toQ z.1 + toQ z.2)) := mapW_eq fun z hz => by
    have m := List.of_mem_zip (show (z.1, z.2) ∈ (vec n f).zip (vec n g) from hz)
    exact sum_two_eq ((hf _ m.1).up (by decide)) ((hg _ m.2).up (by decide))
  rw [e, bnd_ret]
  congr 1
  refine List.ext_getElem (by rw [List.length_map, List.length_zip, vec_len, vec_len, vec_len, Nat.min_self]) fun k h1 h2 => ?_
  rw [List.getElem_map, List.getElem_zip, vec_get, vec_get, vec_get, toQ_ofQ, toQ_ofQ]
theorem times_vec {n : Nat} {c : Fr} {f : Nat → Rat} (hc : Bd 900 c) (hf : ∀ z ∈ vec n f, Bd 900 z) : w_times (c, vec n f, ()) = ret (vec n fun k => toQ c * f k) := by
  unfold w_times wb_times
  simp only [bnd_ret, bnd_assoc, bnd_grd, grd_true, fnR_bnd, fnR_grd, fnR_ret]
  rw [checked_eq hc.red, bnd_ret, check_numbers_eq vec_red, bnd_ret]
  unfold w_scaled_row wb_scaled_row
  simp only [bnd_ret, bnd_assoc, bnd_grd, grd_true, fnR_bnd, fnR_grd, fnR_ret]
  rw [mapW_eq (g := fun z => ofQ (toQ c * toQ z)) fun z hz => product_two_eq (hc.up (by decide)) ((hf z hz).up (by decide)), bnd_ret]
  congr 1
  refine List.ext_getElem (by rw [List.length_map, vec_len, vec_len]) fun k h1 h2 => ?_
  rw [List.getElem_map, vec_get, vec_get, toQ_ofQ]
theorem eqs (a b : Str) (h : PyData.eqv (PyData.str a) (PyData.str b) = false) : PyData.eqv (toP (D.str a)) (toP (D.str b)) = false := h
theorem e_ll : PyData.eqv (toP (D.str sLetter)) (toP (D.str sLetter)) = true := by decide +kernel
theorem e_tl : PyData.eqv (toP (D.str sTake)) (toP (D.str sLetter)) = false := by decide +kernel
theorem e_pl : PyData.eqv (toP (D.str sPlus)) (toP (D.str sLetter)) = false := by decide +kernel
theorem e_sl : PyData.eqv (toP (D.str sTimes)) (toP (D.str sLetter)) = false := by decide +kernel
theorem e_tt : PyData.eqv (toP (D.str sTake)) (toP (D.str sTake)) = true := by decide +kernel
theorem e_pt : PyData.eqv (toP (D.str sPlus)) (toP (D.str sTake)) = false := by decide +kernel
theorem e_st : PyData.eqv (toP (D.str sTimes)) (toP (D.str sTake)) = false := by decide +kernel
theorem e_pp : PyData.eqv (toP (D.str sPlus)) (toP (D.str sPlus)) = true := by decide +kernel
theorem e_sp : PyData.eqv (toP (D.str sTimes)) (toP (D.str sPlus)) = false := by decide +kernel
theorem sh_le : SeqAt.shaped (toP (D.str sLetter)) = true := by decide +kernel
theorem sh_ta : SeqAt.shaped (toP (D.str sTake)) = true := by decide +kernel
theorem sh_pl : SeqAt.shaped (toP (D.str sPlus)) = true := by decide +kernel
theorem sh_ti : SeqAt.shaped (toP (D.str sTimes)) = true := by decide +kernel
theorem sq_t {l : List D} : seqD (D.tup l) = true := rfl
theorem it_t {l : List D} : itemsD (D.tup l) = l := rfl
theorem ix30 {a b c : D} : ixAt [a, b, c] 0 = a := rfl
theorem ix31 {a b c : D} : ixAt [a, b, c] 1 = b := rfl
theorem ix32 {a b c : D} : ixAt [a, b, c] 2 = c := rfl
theorem ix20 {a b : D} : ixAt [a, b] 0 = a := rfl
theorem ix21 {a b : D} : ixAt [a, b] 1 = b := rfl
theorem io30 {a b c : D} : ixOk [a, b, c] 0 = true := rfl
theorem io31 {a b c : D} : ixOk [a, b, c] 1 = true := rfl
theorem io32 {a b c : D} : ixOk [a, b, c] 2 = true := rfl
theorem io20 {a b : D} : ixOk [a, b] 0 = true := rfl
theorem io21 {a b : D} : ixOk [a, b] 1 = true := rfl
theorem int_t {i : Int} : isIntD (D.int i) = true := rfl
theorem int_v {i : Int} : intD (D.int i) = i := rfl
theorem worth_eq {n A B M K : Nat} {P : List (List (List Fr))} {x y : List Fr} (hn : n ≤ 6) (hT : Tx n M K P) (hA : 0 < A) (hM : 0 < M) (hx : Fx n A B x) (hy : Fx n A B y) (bM : M < 2 ^ 900) (bK : K < 2 ^ 900) : ∀ (t : Tm) (d m : Nat), okT d t → d ≤ m → (∀ e, e ≤ d → aA A M e < 2 ^ 900 ∧ bB A B M K e < 2 ^ 900) →
    w_law_worth (m + 1) (tbV P, tmD t, [x, y], ()) = ret (vec n (wq n (at3 P) (fun b => if b then at1 y else at1 x) t)) ∧ Fx n (aA A M d) (bB A B M K d) (vec n (wq n (at3 P) (fun b => if b then at1 y else at1 x) t)) := by
  have hTb := hT.tb hM bM bK
  intro t
  induction t with
  | let_ b =>
    intro d m _ _ _
    have v : vec n (if b then at1 y else at1 x) = (if b then y else x) := by
      cases b
      · exact vec_self hx.len hx.red
      · exact vec_self hy.len hy.red
    refine ⟨?_, ?_⟩
    · unfold w_law_worth tmD
      simp only [bnd_ret, bnd_assoc, bnd_grd, grd_true, fnR_bnd, fnR_grd, fnR_ret, sq_t, it_t, ix20, ix21, io20, io21, sh_le, sh_ta, sh_pl, sh_ti, e_ll, int_t, int_v, Bool.and_self, ite_true, sq_rt]
      show grd (ixOk [x, y] (if b then 1 else 0)) (ret (ixAt [x, y] (if b then 1 else 0))) = ret (vec n (if b then at1 y else at1 x))
      rw [v]
      cases b
      · exact grd_ok rfl _
      · exact grd_ok rfl _
    · show Fx n _ _ (vec n (if b then at1 y else at1 x))
      rw [v]
      have all : ∀ d, Fx n (aA A M d) (bB A B M K d) (if b then y else x) := fun d => by
       induction d with
       | zero =>
        cases b
        · exact hx
        · exact hy
       | succ d ih =>
        have z := ih.up (7 * (aA A M d * M))
        have e1 : 7 * (aA A M d * M) * aA A M d = aA A M (d + 1) := by
          show _ = 7 * (aA A M d * aA A M d * M)
          simp only [Nat.mul_assoc, Nat.mul_comm, Nat.mul_left_comm]
        rw [e1] at z
        refine z.mono ?_
        show _ ≤ 7 * aA A M d * M * (4 * bB A B M K d) + _
        refine Nat.le_trans ?_ (Nat.le_add_right _ _)
        rw [← Nat.mul_assoc 7]
        exact Nat.mul_le_mul_left _ (by omega)
      exact all d
  | take p q t ih =>
    intro d m ok hd hb
    cases d with
    | zero => exact absurd ok id
    | succ d =>
      obtain ⟨m, rfl⟩ : ∃ m', m = m' + 1 := ⟨m - 1, by omega⟩
      obtain ⟨p3, q7, ok⟩ := ok
      obtain ⟨e, f⟩ := ih d m ok (by omega) fun e he => hb e (by omega)
      obtain ⟨b1, b2⟩ := hb d (by omega)
      have q0 : q ≠ 0 := by omega
      have qb : q.natAbs < 2 ^ 9000 := small (by omega)
      have pos := aA_pos hA hM d
      have fb : ∀ z ∈ vec n (wq n (at3 P) (fun b => if b then at1 y else at1 x) t), Bd 900 z := fun z hz => (f.bd pos b1 b2 hz).1
      have cb : Bd 900 (ofQ (Rat.divInt p q)) := (bd_ofQ (k := 4) q0 (by omega) (by omega)).up (by decide)
      refine ⟨?_, ?_⟩
      · unfold w_law_worth tmD
        simp only [bnd_ret, bnd_assoc, bnd_grd, grd_true, fnR_bnd, fnR_grd, fnR_ret, sq_t, it_t, ix30, ix31, ix32, ix20, ix21, io30, io31, io32, io20, io21, sh_le, sh_ta, sh_pl, sh_ti, e_tl, e_tt, int_t, int_v, Bool.and_self, ite_true, ite_false, sq_rt, sq_nx]
        rw [law_low_eq q0 qb, bnd_ret, e, bnd_ret, times_vec cb fb, bnd_ret, toQ_ofQ]
        rfl
      · refine Fx.of_vec fun k hk => ?_
        obtain ⟨u, hu, eu⟩ := f.val k hk
        rw [vec_at hk] at eu
        have b4 : ∃ c : Int, c.natAbs ≤ 21 ∧ (7 : Rat) * Rat.divInt p q = (c : Rat) := by
          rcases q7 with rfl | rfl
          · refine ⟨7 * p, by omega, ?_⟩
            show (7 : Rat) * toQ (p, 1) = _
            rw [toQ_int, Rat.intCast_mul]
            rfl
          · refine ⟨p, by omega, ?_⟩
            rw [Rat.divInt_eq_div]
            show (7 : Rat) * ((p : Rat) / 7) = _
            grind
        obtain ⟨c, hc, ec⟩ := b4
        refine ⟨(aA A M d * M : Nat) * (c * u), ?_, ?_⟩
        · rw [Int.natAbs_mul, Int.natAbs_natCast, Int.natAbs_mul]
          show _ ≤ 7 * aA A M d * M * (4 * bB A B M K d) + _
          refine Nat.le_trans ?_ (Nat.le_add_right _ _)
          have h1 : c.natAbs * u.natAbs ≤ 21 * bB A B M K d := Nat.mul_le_mul hc hu
          have h2 : aA A M d * M * (c.natAbs * u.natAbs) ≤ aA A M d * M * (28 * bB A B M K d) := Nat.mul_le_mul_left _ (Nat.le_trans h1 (Nat.mul_le_mul_right _ (by decide)))
          have h3 : aA A M d * M * (28 * bB A B M K d) = 7 * aA A M d * M * (4 * bB A B M K d) := by
            rw [show 28 * bB A B M K d = 7 * (4 * bB A B M K d) by omega]
            simp only [Nat.mul_assoc, Nat.mul_comm, Nat.mul_left_comm]
          omega
        · have c1 : ((aA A M (d + 1) : Nat) : Rat) = (7 : Rat) * ((aA A M d : Nat) : Rat) * ((aA A M d : Nat) : Rat) * (M : Rat) := by
            show ((7 * (aA A M d * aA A M d * M) : Nat) : Rat) = _
            simp only [Rat.natCast_mul]
            show (7 : Rat) * _ = _
            grind
          have c2 : ((((aA A M d * M : Nat) : Int) * (c * u) : Int) : Rat) = ((aA A M d : Nat) : Rat) * (M : Rat) * ((c : Rat) * (u : Rat)) := by
            rw [Rat.intCast_mul, Rat.intCast_mul]
            show ((aA A M d * M : Nat) : Rat) * _ = _
            rw [Rat.natCast_mul]
          rw [c1, c2, ← ec, ← eu]
          show _ * (Rat.divInt p q * wq n (at3 P) (fun b => if b then at1 y else at1 x) t k) = _
          generalize wq n (at3 P) (fun b => if b then at1 y else at1 x) t k = w
          generalize Rat.divInt p q = r
          grind
  | bin pl t u iht ihu =>
    intro d m ok hd hb
    cases d with
    | zero => exact absurd ok id
    | succ d =>
      obtain ⟨m, rfl⟩ : ∃ m', m = m' + 1 := ⟨m - 1, by omega⟩
      obtain ⟨ok1, ok2⟩ := ok
      obtain ⟨e, f⟩ := iht d m ok1 (by omega) fun e he => hb e (by omega)
      obtain ⟨e2, f2⟩ := ihu d m ok2 (by omega) fun e he => hb e (by omega)
      obtain ⟨b1, b2⟩ := hb d (by omega)
      have pos := aA_pos hA hM d
      have fb : ∀ z ∈ vec n (wq n (at3 P) (fun b => if b then at1 y else at1 x) t), Bd 900 z := fun z hz => (f.bd pos b1 b2 hz).1
      have fb2 : ∀ z ∈ vec n (wq n (at3 P) (fun b => if b then at1 y else at1 x) u), Bd 900 z := fun z hz => (f2.bd pos b1 b2 hz).1
      cases pl with
      | true =>
        refine ⟨?_, ?_⟩
        · unfold w_law_worth tmD
          simp only [if_pos, bnd_ret, bnd_assoc, bnd_grd, grd_true, fnR_bnd, fnR_grd, fnR_ret, sq_t, it_t, ix30, ix31, ix32, ix20, ix21, io30, io31, io32, io20, io21, sh_le, sh_ta, sh_pl, sh_ti, e_pl, e_pt, e_pp, int_t, int_v, Bool.and_self, ite_true, ite_false, sq_rt, sq_nx, e, e2, sum_of_vec hn fb fb2]
          rfl
        · have s1 := f.up (7 * (aA A M d * M))
          have s2 := f2.up (7 * (aA A M d * M))
          have e1 : 7 * (aA A M d * M) * aA A M d = aA A M (d + 1) := by
            show _ = 7 * (aA A M d * aA A M d * M)
            simp only [Nat.mul_assoc, Nat.mul_comm, Nat.mul_left_comm]
          rw [e1] at s1 s2
          refine Fx.of_vec fun k hk => ?_
          obtain ⟨v1, h1, g1⟩ := s1.val k hk
          obtain ⟨v2, h2, g2⟩ := s2.val k hk
          rw [vec_at hk] at g1 g2
          refine ⟨v1 + v2, ?_, ?_⟩
          · have := Int.natAbs_add_le v1 v2
            show _ ≤ 7 * aA A M d * M * (4 * bB A B M K d) + _
            refine Nat.le_trans ?_ (Nat.le_add_right _ _)
            have h3 : 7 * (aA A M d * M) * bB A B M K d + 7 * (aA A M d * M) * bB A B M K d ≤ 7 * aA A M d * M * (4 * bB A B M K d) := by
              rw [← Nat.mul_assoc 7, ← Nat.mul_add]
              exact Nat.mul_le_mul_left _ (by omega)
            omega
          · show _ * (wq n (at3 P) (fun b => if b then at1 y else at1 x) t k + wq n (at3 P) (fun b => if b then at1 y else at1 x) u k) = _
            rw [Rat.mul_add, g1, g2]
            simp
      | false =>
        have r1 := f.rw_ pos b1 b2
        have r2 := f2.rw_ pos b1 b2
        have pe : vec n (prodV n (at3 P) (at1 (vec n (wq n (at3 P) (fun b => if b then at1 y else at1 x) t))) (at1 (vec n (wq n (at3 P) (fun b => if b then at1 y else at1 x) u)))) = vec n (wq n (at3 P) (fun b => if b then at1 y else at1 x) (.bin false t u)) :=
          vec_congr fun k hk => prodV_congr (fun i hi => vec_at hi) (fun i hi => vec_at hi) fun _ _ _ _ => rfl
        refine ⟨?_, ?_⟩
        · unfold w_law_worth tmD
          simp only [Bool.false_eq_true, if_false, bnd_ret, bnd_assoc, bnd_grd, grd_true, fnR_bnd, fnR_grd, fnR_ret, sq_t, it_t, ix30, ix31, ix32, ix20, ix21, io30, io31, io32, io20, io21, sh_le, sh_ta, sh_pl, sh_ti, e_sl, e_st, e_sp, int_t, int_v, Bool.and_self, ite_true, ite_false, sq_rt, sq_nx, e, e2, table_call hTb hn r1 r2, prodL_vec hTb r1 r2, pe]
        · rw [← pe]
          have p := (prod_fx hT f f2).up 7
          have e1 : 7 * (aA A M d * aA A M d * M) = aA A M (d + 1) := rfl
          rw [e1] at p
          refine p.mono ?_
          show _ ≤ _ + 7 * (36 * (bB A B M K d * bB A B M K d * K))
          refine Nat.le_trans (Nat.mul_le_mul_left 7 ?_) (Nat.le_add_left _ _)
          rw [← Nat.mul_assoc]
          exact Nat.mul_le_mul_right _ (Nat.mul_le_mul hn hn)
end Dc
namespace Dc
open PySem PySem.Spec L2
theorem sumN_mulr {c : Rat} {n : Nat} {f : Nat → Rat} : sumN n f * c = sumN n fun i => f i * c := by
  rw [Rat.mul_comm, ← sumN_mul]
  exact sumN_congr fun i _ => Rat.mul_comm ..
theorem lin_lin {n m k : Nat} {c : Nat → Rat} {R S : Nat → Nat → Rat} : lin n (lin m c R) S k = sumN m fun i => c i * lin n (R i) S k := by
  unfold lin
  have e : (sumN n fun a => (sumN m fun i => c i * R i a) * S a k) = sumN n fun a => sumN m fun i => c i * (R i a * S a k) := sumN_congr fun a _ => by
    rw [sumN_mulr]
    exact sumN_congr fun i _ => by rw [Rat.mul_assoc]
  rw [e, sumN_comm]
  exact sumN_congr fun i _ => sumN_mul
theorem lin_unit {n s k : Nat} {S : Nat → Nat → Rat} (hs : s < n) : lin n (fun i => if s = i then 1 else 0) S k = S s k := by
  unfold lin
  rw [sumN_one (f := fun i => (if s = i then (1 : Rat) else 0) * S i k) s hs fun i _ ne => by rw [if_neg (fun z => ne z.symm), Rat.zero_mul]]
  show (if s = s then (1 : Rat) else 0) * S s k = _
  rw [if_pos rfl, Rat.one_mul]
theorem prodV_l {n : Nat} {P : Nat → Nat → Nat → Rat} {f g : Nat → Rat} {k : Nat} : prodV n P f g k = lin n f (fun a k => lin n g (fun b k => P a b k) k) k := by
  unfold prodV lin
  refine sumN_congr fun a _ => ?_
  show (sumN n fun b => f a * g b * P a b k) = f a * sumN n fun b => g b * P a b k
  rw [← sumN_mul]
  exact sumN_congr fun b _ => Rat.mul_assoc ..
theorem prodV_r {n : Nat} {P : Nat → Nat → Nat → Rat} {f g : Nat → Rat} {k : Nat} : prodV n P f g k = lin n g (fun b k => lin n f (fun a k => P a b k) k) k := by
  have e : prodV n P f g k = sumN n fun b => sumN n fun a => f a * g b * P a b k := sumN_comm
  rw [e]
  unfold lin
  refine sumN_congr fun b _ => ?_
  show (sumN n fun a => f a * g b * P a b k) = g b * sumN n fun a => f a * P a b k
  rw [← sumN_mul]
  exact sumN_congr fun a _ => by grind
theorem prodV_linL {n m k : Nat} {P : Nat → Nat → Nat → Rat} {c g : Nat → Rat} {R : Nat → Nat → Rat} : prodV n P (lin m c R) g k = sumN m fun i => c i * prodV n P (R i) g k := by
  rw [prodV_l, lin_lin]
  exact sumN_congr fun i _ => by rw [prodV_l]
theorem prodV_linR {n m k : Nat} {P : Nat → Nat → Nat → Rat} {c f : Nat → Rat} {R : Nat → Nat → Rat} : prodV n P f (lin m c R) k = sumN m fun i => c i * prodV n P f (R i) k := by
  rw [prodV_r, lin_lin]
  exact sumN_congr fun i _ => by rw [prodV_r]
theorem prodV_bil {n k : Nat} {P : Nat → Nat → Nat → Rat} {f g : Nat → Rat} {R S : Nat → Nat → Rat} : prodV n P (lin n f R) (lin n g S) k = sumN n fun i => sumN n fun j => f i * g j * prodV n P (R i) (S j) k := by
  rw [prodV_linL]
  refine sumN_congr fun i _ => ?_
  rw [prodV_linR, ← sumN_mul]
  exact sumN_congr fun j _ => (Rat.mul_assoc ..).symm
theorem lin_prodV {n k : Nat} {F : Nat → Nat → Nat → Rat} {f g : Nat → Rat} {S : Nat → Nat → Rat} : lin n (prodV n F f g) S k = sumN n fun i => sumN n fun j => f i * g j * lin n (F i j) S k := by
  have e : lin n (prodV n F f g) S k = lin n (lin n f fun a k => lin n g (fun b k => F a b k) k) S k := lin_congr (fun i _ => prodV_l) fun _ _ => rfl
  rw [e, lin_lin]
  refine sumN_congr fun i _ => ?_
  have e2 : lin n ((fun a k => lin n g (fun b k => F a b k) k) i) S k = sumN n fun j => g j * lin n (F i j) S k := lin_lin
  rw [e2, ← sumN_mul]
  exact sumN_congr fun j _ => (Rat.mul_assoc ..).symm
/-! ### a basis B, the units N over it, a table P, and the table F over the basis -/
structure Inv2 (n : Nat) (B N : Nat → Nat → Rat) : Prop where
  nb : ∀ s j, s < n → j < n → lin n (N s) B j = if s = j then 1 else 0
theorem Inv2.back {n : Nat} {B N : Nat → Nat → Rat} (h : Inv2 n B N) {c : Nat → Rat} {k : Nat} (hk : k < n) : lin n (lin n c N) B k = c k := by
  rw [lin_lin, sumN_one (f := fun i => c i * lin n (N i) B k) k hk fun i hi ne => by rw [h.nb i k hi hk, if_neg ne, Rat.mul_zero]]
  show c k * lin n (N k) B k = c k
  rw [h.nb k k hk hk, if_pos rfl, Rat.mul_one]
theorem Inv2.ind {n : Nat} {B N : Nat → Nat → Rat} (h : Inv2 n B N) : Ind n n N := fun c hc i hi => by
  rw [← h.back (c := c) hi]
  have e : lin n (lin n c N) B i = lin n (fun _ => 0) B i := lin_congr (fun j hj => hc j hj) fun _ _ => rfl
  rw [e]
  exact sumN_zero fun j _ => Rat.zero_mul _
def ovF (n : Nat) (P : Nat → Nat → Nat → Rat) (B N : Nat → Nat → Rat) (i j k : Nat) : Rat := lin n (prodV n P (B i) (B j)) N k
theorem ovF_prod {n : Nat} {P : Nat → Nat → Nat → Rat} {B N : Nat → Nat → Rat} {f g : Nat → Rat} {k : Nat} : prodV n (ovF n P B N) f g k = lin n (prodV n P (lin n f B) (lin n g B)) N k := by
  have e : lin n (prodV n P (lin n f B) (lin n g B)) N k = lin n (prodV n (fun i j => prodV n P (B i) (B j)) f g) N k := lin_congr (fun i _ => prodV_bil) fun _ _ => rfl
  rw [e, lin_prodV]
  rfl
theorem Inv2.hom {n : Nat} {P : Nat → Nat → Nat → Rat} {B N : Nat → Nat → Rat} (h : Inv2 n B N) {f g : Nat → Rat} {k : Nat} (hk : k < n) : lin n (prodV n (ovF n P B N) f g) B k = prodV n P (lin n f B) (lin n g B) k := by
  rw [← h.back (c := prodV n P (lin n f B) (lin n g B)) hk]
  exact lin_congr (fun i _ => ovF_prod) fun _ _ => rfl
theorem Inv2.worth {n : Nat} {P : Nat → Nat → Nat → Rat} {B N : Nat → Nat → Rat} (h : Inv2 n B N) {l : Bool → Nat → Rat} : ∀ (t : Tm) (k : Nat), k < n → lin n (wq n (ovF n P B N) l t) B k = wq n P (fun b => lin n (l b) B) t k
  | .let_ b, k, _ => rfl
  | .take p q t, k, hk => by
    show (sumN n fun i => Rat.divInt p q * wq n (ovF n P B N) l t i * B i k) = Rat.divInt p q * wq n P (fun b => lin n (l b) B) t k
    rw [← h.worth t k hk, lin, ← sumN_mul]
    exact sumN_congr fun i _ => Rat.mul_assoc ..
  | .bin true t u, k, hk => by
    show (sumN n fun i => (wq n (ovF n P B N) l t i + wq n (ovF n P B N) l u i) * B i k) = wq n P (fun b => lin n (l b) B) t k + wq n P (fun b => lin n (l b) B) u k
    rw [← h.worth t k hk, ← h.worth u k hk, lin, lin, ← sumN_add]
    exact sumN_congr fun i _ => Rat.add_mul ..
  | .bin false t u, k, hk => by
    show lin n (prodV n (ovF n P B N) (wq n (ovF n P B N) l t) (wq n (ovF n P B N) l u)) B k = prodV n P (wq n P (fun b => lin n (l b) B) t) (wq n P (fun b => lin n (l b) B) u) k
    rw [h.hom hk]
    exact prodV_congr (fun i hi => h.worth t i hi) (fun i hi => h.worth u i hi) fun _ _ _ _ => rfl
theorem prodV_unit {n i j k : Nat} {P : Nat → Nat → Nat → Rat} (hi : i < n) (hj : j < n) : prodV n P (fun a => if i = a then 1 else 0) (fun a => if j = a then 1 else 0) k = P i j k := by
  rw [prodV_l, lin_unit hi, lin_unit hj]
theorem Inv2.again {n : Nat} {P : Nat → Nat → Nat → Rat} {B N : Nat → Nat → Rat} (h : Inv2 n B N) {i j k : Nat} (hi : i < n) (hj : j < n) : prodV n (ovF n P B N) (N i) (N j) k = lin n (P i j) N k := by
  rw [ovF_prod]
  refine lin_congr (fun s _ => ?_) fun _ _ => rfl
  rw [prodV_congr (P' := P) (f' := fun a => if i = a then 1 else 0) (g' := fun a => if j = a then 1 else 0) (fun a ha => h.nb i a hi ha) (fun a ha => h.nb j a hj ha) fun _ _ _ _ => rfl]
  exact prodV_unit hi hj
end Dc
namespace Dc
open PySem PySem.Spec L2
structure Tk (n : Nat) (P : List (List (List Fr))) : Prop where
  td : Td n 14 P
  dv : ∃ M : Int, 0 < M ∧ M.natAbs ≤ 2 ^ 14 ∧ ∀ r ∈ P, ∀ l ∈ r, ∀ x ∈ l, x.2 ∣ M
theorem lin_draw {n : Nat} (g : Bool) (hn : n ≤ 6) : Tr 30 (mapW (fun _ : Int => w_law_number (g, ())) (rangeF 0 n)) (Lin g n) :=
  (Tr.mapN (L := 6) (fun _ _ => law_number_tr g) (by rw [rangeF_len]; exact hn)).cons fun l hl => ⟨by rw [hl.1, rangeF_len], hl.2⟩
theorem lin_noughts (g : Bool) (n : Nat) : Lin g n (List.replicate n (0, 1)) := ⟨List.length_replicate .., fun x hx => by rw [List.eq_of_mem_replicate hx]; exact num_int (by decide)⟩
structure Tn (g : Bool) (n : Nat) (P : List (List (List Fr))) : Prop where
  cub : Cub n P
  num : ∀ r ∈ P, ∀ l ∈ r, ∀ x ∈ l, Num g x
theorem products_num {n : Nat} (g : Bool) (h1 : 1 ≤ n) (hn : n ≤ 6) : Tr 1500 (w_law_products ((n : Int), g, ())) (Tn g n) := by
  have hr : rngOk 0 (n : Int) = true := rngOk_n (by omega)
  unfold w_law_products wb_law_products
  simp only [bnd_ret, bnd_assoc, bnd_grd, bnd_ifr, grd_true, fnR_bnd, fnR_ite, fnR_grd, fnR_ret, sq_nx, sq_rt, hr, Int.toNat_natCast, flat1]
  refine Tr.then 1 Tr.pick fun kind _ => ?_
  refine Tr.then (6 * 240) (S := fun fl => ∃ s : List (List (List Fr)), fl = Fl.nx s ∧ s.length = n ∧ ∀ r ∈ s, r.length = n ∧ ∀ l ∈ r, Lin g n l) ((Tr.rng (m := 240) (R := fun i (s : List (List (List Fr))) => s.length = i ∧ ∀ r ∈ s, r.length = n ∧ ∀ l ∈ r, Lin g n l) n 0 [] ⟨rfl, fun _ h => by cases h⟩ fun i hi s hs => ?_).mono (Nat.mul_le_mul_right _ hn) fun fl hfl => by
    obtain ⟨s, e, q⟩ := hfl
    rw [Nat.zero_add] at q
    exact ⟨s, e, q⟩) fun fl hfl => ?_
  · rw [Nat.zero_add] at hs ⊢
    refine Tr.then (6 * 40) (S := fun fl => ∃ t : List (List Fr), fl = Fl.nx t ∧ t.length = n ∧ ∀ l ∈ t, Lin g n l) ((Tr.rng (m := 40) (R := fun j (t : List (List Fr)) => t.length = j ∧ ∀ l ∈ t, Lin g n l) n 0 [] ⟨rfl, fun _ h => by cases h⟩ fun j hj t ht => ?_).mono (Nat.mul_le_mul_right _ hn) fun fl hfl => by
      obtain ⟨s, e, q⟩ := hfl
      rw [Nat.zero_add] at q
      exact ⟨s, e, q⟩) fun fl hfl => ?_
    · rw [Nat.zero_add] at ht ⊢
      refine Tr.grd (repOk1 (by omega) (by omega)) ?_
      refine Tr.then 31 (S := fun fl => ∃ l : List Fr, fl = Fl.nx l ∧ Lin g n l) (Tr.ite (fun _ => ?_) fun _ => ?_) fun fl hfl => ?_
      · refine Tr.then 5 (law_number_tr g) fun x hx => Tr.then 1 (Tr.pick (by omega) (lsmall (by omega))) fun u hu => ?_
        have i1 := ix_in (l := List.replicate n ((0, 1) : Fr)) (k := u) hu.1 (by rw [List.length_replicate]; exact hu.2)
        exact Tr.grd i1.1 (Tr.ret ⟨_, rfl, lin_set (lin_noughts g n) hx _⟩)
      · refine Tr.then 1 (S := fun _ => True) (Tr.ite (fun _ => Tr.ret trivial) fun _ => Tr.then 1 Tr.pick fun _ _ => Tr.ret trivial) fun b _ => ?_
        refine Tr.then 30 (S := fun fl => ∃ l : List Fr, fl = Fl.nx l ∧ Lin g n l) (Tr.ite (fun _ => Tr.then 30 (lin_draw g hn) fun l hl => Tr.ret ⟨l, rfl, hl⟩) fun _ => Tr.ret ⟨_, rfl, lin_noughts g n⟩) fun fl hfl => ?_
        obtain ⟨l, rfl, hl⟩ := hfl
        exact Tr.ret ⟨l, rfl, hl⟩
      · obtain ⟨l, rfl, hl⟩ := hfl
        simp only [sq_nx]
        refine Tr.then 0 (S := fun b => b = true → (j : Int) < (i : Int)) (Tr.ite (fun _ => Tr.ret fun z => of_decide_eq_true z) fun _ => Tr.ret fun z => by cases z) fun b hb => ?_
        refine Tr.then 0 (S := fun fl => ∃ l : List Fr, fl = Fl.nx l ∧ Lin g n l) (Tr.ite (fun z => ?_) fun _ => Tr.ret ⟨l, rfl, hl⟩) fun fl hfl => ?_
        · have hji := hb z
          have i1 := ix_in (l := s) (k := (j : Int)) (by omega) (by rw [hs.1]; exact hji)
          have r1 := hs.2 _ i1.2
          have i2 := ix_in (l := ixAt s (j : Int)) (k := (i : Int)) (by omega) (by rw [r1.1]; omega)
          exact Tr.grd i1.1 (Tr.grd i2.1 (Tr.ret ⟨_, rfl, r1.2 _ i2.2⟩))
        · obtain ⟨l, rfl, hl⟩ := hfl
          simp only [sq_nx]
          refine Tr.grd (decide_eq_true (by rw [ht.1]; omega)) (Tr.ret ⟨_, rfl, by rw [List.length_append, ht.1]; rfl, fun q hq => ?_⟩)
          rcases List.mem_append.mp hq with q1 | q1
          · exact ht.2 q q1
          · rw [List.mem_singleton.mp q1]; exact hl
    · obtain ⟨t, rfl, ht⟩ := hfl
      simp only [sq_nx]
      refine Tr.grd (decide_eq_true (by rw [hs.1]; omega)) (Tr.ret ⟨_, rfl, by rw [List.length_append, hs.1]; rfl, fun q hq => ?_⟩)
      rcases List.mem_append.mp hq with q1 | q1
      · exact hs.2 q q1
      · rw [List.mem_singleton.mp q1]; exact ht
  · obtain ⟨s, rfl, hs⟩ := hfl
    simp only [sq_nx, fnR_ret, bnd_ret]
    exact Tr.ret ⟨⟨hs.1, fun r hr => (hs.2 r hr).1, fun r hr l hl => ((hs.2 r hr).2 l hl).1⟩, fun r hr l hl => ((hs.2 r hr).2 l hl).2⟩
theorem dv2520 {x : Fr} (h : Num false x) : x.2 ∣ 2520 := by
  have r := h.red.1
  have s := h.sm rfl
  have e : x.2 = 1 ∨ x.2 = 2 ∨ x.2 = 3 ∨ x.2 = 4 ∨ x.2 = 5 ∨ x.2 = 6 ∨ x.2 = 7 ∨ x.2 = 8 ∨ x.2 = 9 := by omega
  rcases e with e | e | e | e | e | e | e | e | e <;> rw [e] <;> decide
theorem Tn.td {g : Bool} {n : Nat} {P : List (List (List Fr))} (h : Tn g n P) : Td n 14 P := ⟨h.cub, fun r hr l hl x hx => (h.num r hr l hl x hx).bd⟩
theorem tk_small {n : Nat} {P : List (List (List Fr))} (h : Tn false n P) : Tk n P := ⟨h.td, 2520, by decide, by decide, fun r hr l hl x hx => dv2520 (h.num r hr l hl x hx)⟩
def whP (P : List (List (List Fr))) : List (List (List Fr)) := P.map fun z => z.map fun z => z.map fun z => (z.1, (1 : Int))
theorem tk_whole {g : Bool} {n : Nat} {P : List (List (List Fr))} (h : Tn g n P) : Tk n (whP P) := by
  refine ⟨⟨⟨by rw [whP, List.length_map, h.cub.len], fun r hr => ?_, fun r hr l hl => ?_⟩, fun r hr l hl x hx => ?_⟩, 1, by decide, by decide, fun r hr l hl x hx => ?_⟩
  · obtain ⟨q, hq, rfl⟩ := List.mem_map.mp hr
    rw [List.length_map, h.cub.row q hq]
  · obtain ⟨q, hq, rfl⟩ := List.mem_map.mp hr
    obtain ⟨m, hm, rfl⟩ := List.mem_map.mp hl
    rw [List.length_map, h.cub.lin q hq m hm]
  · obtain ⟨q, hq, rfl⟩ := List.mem_map.mp hr
    obtain ⟨m, hm, rfl⟩ := List.mem_map.mp hl
    obtain ⟨y, hy, rfl⟩ := List.mem_map.mp hx
    exact bd_int (h.num q hq m hm y hy).bd.sz.1
  · obtain ⟨q, hq, rfl⟩ := List.mem_map.mp hr
    obtain ⟨m, hm, rfl⟩ := List.mem_map.mp hl
    obtain ⟨y, hy, rfl⟩ := List.mem_map.mp hx
    exact Int.dvd_refl _
theorem Tk.tx {n : Nat} {P : List (List (List Fr))} (h : Tk n P) : ∃ M : Nat, 0 < M ∧ M ≤ 2 ^ 14 ∧ Tx n M (2 ^ 28) P := by
  obtain ⟨M, hM, hb, hd⟩ := h.dv
  refine ⟨M.natAbs, by omega, hb, h.td.cub, fun r hr l hl => ⟨h.td.cub.lin r hr l hl, fun z hz => (h.td.num r hr l hl z hz).red, fun i hi => ?_⟩⟩
  have hi2 : i < l.length := by rw [h.td.cub.lin r hr l hl]; exact hi
  have m := List.getElem_mem hi2
  have b := h.td.num r hr l hl _ m
  have d := hd r hr l hl _ m
  refine ⟨l[i].1 * Int.fdiv M l[i].2, ?_, ?_⟩
  · rw [Int.natAbs_mul, show (2 : Nat) ^ 28 = 2 ^ 14 * 2 ^ 14 from rfl]
    refine Nat.mul_le_mul (Nat.le_of_lt b.sz.1) ?_
    have p := b.red.1
    rw [Int.fdiv_eq_ediv_of_nonneg _ (by omega)]
    have := Int.natAbs_ediv_le_natAbs M l[i].2
    omega
  · rw [cast_over b.red.1 hM d, at1_get hi2]
    have e : ((M.natAbs : Nat) : Rat) = ((M : Int) : Rat) := by
      have : M = ((M.natAbs : Nat) : Int) := by omega
      conv => rhs; rw [this]
      rfl
    rw [e]
theorem Bas.fx {n : Nat} {L : List (List Fr)} (h : Bas n L) {x : List Fr} (hx : x ∈ L) : Fx n 6 18 x := ⟨(h.row x hx).1, fun z hz => ((h.row x hx).2 z hz).1, fun i hi => by
  have hi2 : i < x.length := by rw [(h.row x hx).1]; exact hi
  have m := (h.row x hx).2 _ (List.getElem_mem hi2)
  refine ⟨x[i].1 * Int.fdiv 6 x[i].2, ?_, ?_⟩
  · rw [Int.natAbs_mul]
    show _ ≤ 3 * 6
    refine Nat.mul_le_mul m.2.1 ?_
    have p := m.1.1
    rw [Int.fdiv_eq_ediv_of_nonneg _ (by omega)]
    exact Int.natAbs_ediv_le_natAbs 6 x[i].2
  · rw [cast_over m.1.1 (by decide) (dv6 m.1 m.2.2), at1_get hi2]
    rfl⟩
theorem Bas.inv {n : Nat} {L : List (List Fr)} (h : Bas n L) : ∃ N, Inv2 n (rowQ L) N ∧ ∀ s, s < n → Fx n (6 ^ n) (18 * 42 ^ n) (vec n (N s)) := by
  obtain ⟨X, hX, e⟩ := h.units
  refine ⟨fun s i => ((X s i : Int) : Rat) / ((6 ^ n : Int) : Rat), ⟨fun s j hs hj => (e s hs j hj).symm⟩, fun s hs => Fx.of_vec fun i hi => ⟨X s i, hX s i hs hi, ?_⟩⟩
  have six : ((6 ^ n : Int) : Rat) ≠ 0 := fun z => by
    have z : (6 ^ n : Int) = 0 := by exact_mod_cast z
    exact absurd z (Int.pow_ne_zero (by decide))
  have c : ((6 ^ n : Nat) : Rat) = ((6 ^ n : Int) : Rat) := by simp
  rw [c]
  grind
structure Setup (n M U V : Nat) (P : List (List (List Fr))) (L : List (List Fr)) (N : Nat → Nat → Rat) : Prop where
  n1 : 1 ≤ n
  n6 : n ≤ 6
  M0 : 0 < M
  Mb : M ≤ 2 ^ 14
  tx : Tx n M (2 ^ 28) P
  bas : Bas n L
  inv : Inv2 n (rowQ L) N
  U0 : 0 < U
  Ub : U ≤ 2 ^ 16
  Vb : V ≤ 2 ^ 37
  nfx : ∀ s, s < n → Fx n U V (vec n (N s))
theorem setup {n : Nat} {P : List (List (List Fr))} {L : List (List Fr)} (h1 : 1 ≤ n) (hn : n ≤ 6) (h : Tk n P) (hL : Bas n L) : ∃ M U V N, Setup n M U V P L N := by
  obtain ⟨M, m0, mb, tx⟩ := h.tx
  obtain ⟨N, inv, fx⟩ := hL.inv
  refine ⟨M, 6 ^ n, 18 * 42 ^ n, N, h1, hn, m0, mb, tx, hL, inv, Nat.pow_pos (by decide), ?_, ?_, fx⟩
  · exact Nat.le_trans (Nat.pow_le_pow_right (by decide) hn) (by decide)
  · exact Nat.le_trans (Nat.mul_le_mul_left _ (Nat.pow_le_pow_right (by decide) hn)) (by decide)
section
variable {n M U V : Nat} {P : List (List (List Fr))} {L : List (List Fr)} {N : Nat → Nat → Rat}
theorem lt9 {a b : Nat} (h : a ≤ 2 ^ b) (hb : b < 900) : a < 2 ^ 900 := Nat.lt_of_le_of_lt h (Nat.pow_lt_pow_right (by decide) hb)
theorem Setup.tb (S : Setup n M U V P L N) : Tb n P := S.tx.tb S.M0 (lt9 S.Mb (by decide)) (lt9 (Nat.le_refl (2 ^ 28)) (by decide))
abbrev ovQ (n : Nat) (P : List (List (List Fr))) (L : List (List Fr)) (N : Nat → Nat → Rat) : List (List (List Fr)) := tab n (ovF n (at3 P) (rowQ L) N)
theorem Bas.getD {n : Nat} {L : List (List Fr)} (h : Bas n L) {i : Nat} (hi : i < n) : L.getD i [] ∈ L := getD_mem (by rw [h.len]; exact hi)
abbrev kQ (n V : Nat) : Nat := n * (n * (n * (18 * 18 * 2 ^ 28)) * V)
theorem Setup.pfx (S : Setup n M U V P L N) {i j : Nat} (hi : i < n) (hj : j < n) : Fx n (6 * 6 * M) (n * (n * (18 * 18 * 2 ^ 28))) (vec n (prodV n (at3 P) (rowQ L i) (rowQ L j))) := prod_fx S.tx (S.bas.fx (S.bas.getD hi)) (S.bas.fx (S.bas.getD hj))
theorem Setup.qx (S : Setup n M U V P L N) : Tx n (6 * 6 * M * U) (kQ n V) (ovQ n P L N) := tab_tx fun i j k hi hj hk => by
  have c : ((6 * 6 * M * U : Nat) : Rat) = ((6 * 6 * M : Nat) : Rat) * ((U : Nat) : Rat) := Rat.natCast_mul ..
  rw [c]
  refine sumN_int fun s hs => mul_int ?_ ?_
  · have := (S.pfx hi hj).val s hs
    rwa [vec_at hs] at this
  · have := (S.nfx s hs).val k hk
    rwa [vec_at hk] at this
theorem nn_le (hn : n ≤ 6) : n * (n * (18 * 18 * 2 ^ 28)) ≤ 2 ^ 42 := Nat.le_trans (Nat.mul_le_mul hn (Nat.mul_le_mul_right _ hn)) (by decide)
theorem Setup.MQ (S : Setup n M U V P L N) : 0 < 6 * 6 * M * U ∧ 6 * 6 * M * U ≤ 2 ^ 36 := ⟨Nat.mul_pos (Nat.mul_pos (by decide) S.M0) S.U0, Nat.le_trans (Nat.mul_le_mul (Nat.mul_le_mul_left _ S.Mb) S.Ub) (by decide)⟩
theorem Setup.KQ (S : Setup n M U V P L N) : kQ n V ≤ 2 ^ 82 := Nat.le_trans (Nat.mul_le_mul S.n6 (Nat.mul_le_mul (nn_le S.n6) S.Vb)) (by decide)
theorem Setup.qb (S : Setup n M U V P L N) : Tb n (ovQ n P L N) := S.qx.tb S.MQ.1 (lt9 S.MQ.2 (by decide)) (lt9 S.KQ (by decide))
theorem Setup.bs (S : Setup n M U V P L N) : Bs n 6 L := ⟨S.n6, S.bas.len, fun x hx => S.bas.rb hx, fun x hx => S.bas.rw_ hx, S.bas.ind, by decide, by decide⟩
theorem rows_ix {n : Nat} {L : List (List Fr)} (hl : L.length = n) {x : List Fr} (hx : x ∈ L) : ∃ i, i < n ∧ x = L.getD i [] := by
  obtain ⟨i, hi, rfl⟩ := List.getElem_of_mem hx
  exact ⟨i, by omega, by rw [List.getD_eq_getElem?_getD, List.getElem?_eq_getElem hi]; rfl⟩
theorem Setup.over_L (S : Setup n M U V P L N) : w_over (tbV P, L, ()) = ret (tbV (ovQ n P L N)) := by
  refine over_gen (c := 6) (a := 42) S.n1 S.tb S.qb S.bs (by decide) (fun x hx y hy => ?_) fun i j k hi hj hk => (S.inv.back hk).symm
  obtain ⟨i, hi, rfl⟩ := rows_ix S.bas.len hx
  obtain ⟨j, hj, rfl⟩ := rows_ix S.bas.len hy
  rw [prodL_vec S.tb (S.bas.rw_ hx) (S.bas.rw_ hy)]
  exact (S.pfx hi hj).rb (Nat.mul_pos (by decide) S.M0) (Nat.le_trans (Nat.mul_le_mul_left _ S.Mb) (by decide)) (nn_le S.n6) (by decide)
abbrev backL (n : Nat) (N : Nat → Nat → Rat) : List (List Fr) := (List.range n).map fun s => vec n (N s)
theorem back_row {s k : Nat} (hs : s < n) (hk : k < n) : rowQ (backL n N) s k = N s k := by
  show at1 ((backL n N).getD s []) k = _
  rw [range_getD hs, vec_at hk]
theorem Setup.bfx (S : Setup n M U V P L N) : ∀ x ∈ backL n N, Fx n U V x := fun x hx => by
  obtain ⟨s, hs, rfl⟩ := List.mem_map.mp hx
  exact S.nfx s (List.mem_range.mp hs)
theorem Setup.bb (S : Setup n M U V P L N) : Bs n 38 (backL n N) := ⟨S.n6, by rw [List.length_map, List.length_range], fun x hx => (S.bfx x hx).rb S.U0 (Nat.le_trans S.Ub (by decide)) S.Vb (by decide), fun x hx => (S.bfx x hx).rw_ S.U0 (lt9 S.Ub (by decide)) (lt9 S.Vb (by decide)), S.inv.ind.congr fun i hi j hj => back_row hi hj, by decide, by decide⟩
theorem Tx.red {n M K : Nat} {P : List (List (List Fr))} (h : Tx n M K P) : tab n (at3 P) = P := tab_self h.cub fun r hr l hl => (h.row r hr l hl).red
theorem Setup.over_back (S : Setup n M U V P L N) : w_over (tbV (ovQ n P L N), backL n N, ()) = ret (tbV P) := by
  have e := S.tx.red
  have tb := S.tb
  rw [← e] at tb
  have g := over_gen (c := 38) (a := 170) (F := at3 P) S.n1 S.qb tb S.bb (by decide) (fun x hx y hy => ?_) fun i j k hi hj hk => ?_
  · rw [e] at g
    exact g
  · have fx := S.bfx x hx
    have fy := S.bfx y hy
    rw [prodL_vec S.qb (S.bb.rw_ x hx) (S.bb.rw_ y hy)]
    refine (prod_fx S.qx fx fy).rb (Nat.mul_pos (Nat.mul_pos S.U0 S.U0) S.MQ.1) ?_ ?_ (by decide)
    · exact Nat.le_trans (Nat.mul_le_mul (Nat.mul_le_mul S.Ub S.Ub) S.MQ.2) (by rw [← Nat.pow_add, ← Nat.pow_add]; exact Nat.pow_le_pow_right (by decide) (by decide))
    · exact Nat.le_trans (Nat.mul_le_mul S.n6 (Nat.mul_le_mul S.n6 (Nat.mul_le_mul (Nat.mul_le_mul S.Vb S.Vb) S.KQ))) (by decide)
  · have e1 : prodV n (at3 (ovQ n P L N)) (rowQ (backL n N) i) (rowQ (backL n N) j) k = prodV n (ovF n (at3 P) (rowQ L) N) (N i) (N j) k := prodV_congr (fun a ha => back_row hi ha) (fun a ha => back_row hj ha) fun a b ha hb => tab_at ha hb hk
    have e2 : lin n (at3 P i j) (rowQ (backL n N)) k = lin n (at3 P i j) N k := lin_congr (fun _ _ => rfl) fun s hs => back_row hs hk
    rw [e1, e2]
    exact S.inv.again hi hj
/-! ### the units -/
theorem unitF_vec {s : Nat} : unitF n (s : Int) = vec n fun k => if s = k then 1 else 0 := by
  refine List.ext_getElem (by rw [unitF, List.length_map, rangeF_len, vec_len]) fun k h1 h2 => ?_
  have hk : k < n := by rw [vec_len] at h2; exact h2
  rw [vec_get]
  simp only [unitF, List.getElem_map, rangeF_at hk]
  by_cases q : s = k
  · subst q
    rw [if_pos rfl, if_pos (by simp)]
    rfl
  · rw [if_neg q, if_neg (by simp; omega)]
    rfl
theorem unit_fx {s : Nat} : Fx n 1 1 (unitF n (s : Int)) := by
  rw [unitF_vec]
  refine Fx.of_vec fun i _ => ⟨if s = i then 1 else 0, by split <;> decide, ?_⟩
  show (1 : Rat) * _ = _
  rw [Rat.one_mul]
  split <;> rfl
theorem unitsF_range : unitsF n = (List.range n).map fun s : Nat => unitF n (s : Int) := by
  refine List.ext_getElem (by rw [units_len, List.length_map, List.length_range]) fun k h1 h2 => ?_
  have hk : k < n := by rw [units_len] at h1; exact h1
  simp only [unitsF, List.getElem_map, rangeF_at hk, List.getElem_range]
theorem unit_row {s k : Nat} (hs : s < n) (hk : k < n) : rowQ (unitsF n) s k = if s = k then 1 else 0 := by
  show at1 ((unitsF n).getD s []) k = _
  rw [unitsF_range, range_getD hs, unitF_vec, vec_at hk]
theorem units_fx : ∀ x ∈ unitsF n, Fx n 1 1 x := fun x hx => by
  rw [unitsF_range] at hx
  obtain ⟨s, hs, rfl⟩ := List.mem_map.mp hx
  exact unit_fx
theorem lin_units {c : Nat → Rat} {k : Nat} (hk : k < n) : lin n c (rowQ (unitsF n)) k = c k := by
  unfold lin
  rw [sumN_one (f := fun i => c i * rowQ (unitsF n) i k) k hk fun i hi ne => by rw [unit_row hi hk, if_neg ne, Rat.mul_zero]]
  show c k * rowQ (unitsF n) k k = _
  rw [unit_row hk hk, if_pos rfl, Rat.mul_one]
theorem units_bs (hn : n ≤ 6) : Bs n 1 (unitsF n) := ⟨hn, units_len n, fun x hx => (units_fx x hx).rb (by decide) (by decide) (by decide) (by decide), fun x hx => (units_fx x hx).rw_ (by decide) (lt9 (b := 0) (by decide) (by decide)) (lt9 (b := 0) (by decide) (by decide)), fun c hc i hi => by
  rw [← lin_units (c := c) hi]
  exact hc i hi, by decide, by decide⟩
theorem Setup.over_units (S : Setup n M U V P L N) : w_over (tbV P, unitsF n, ()) = ret (tbV P) := by
  have e := S.tx.red
  have tb := S.tb
  rw [← e] at tb
  have g := over_gen (c := 1) (a := 42) (F := at3 P) S.n1 S.tb tb (units_bs S.n6) (by decide) (fun x hx y hy => ?_) fun i j k hi hj hk => ?_
  · rw [e] at g
    exact g
  · rw [prodL_vec S.tb ((units_bs S.n6).rw_ x hx) ((units_bs S.n6).rw_ y hy)]
    refine (prod_fx S.tx (units_fx x hx) (units_fx y hy)).rb (Nat.mul_pos (by decide) S.M0) ?_ ?_ (by decide)
    · exact Nat.le_trans (Nat.mul_le_mul_left _ S.Mb) (by decide)
    · exact Nat.le_trans (Nat.mul_le_mul S.n6 (Nat.mul_le_mul_right _ S.n6)) (by decide)
  · rw [lin_units hk, prodV_congr (P' := at3 P) (fun a ha => unit_row hi ha) (fun a ha => unit_row hj ha) fun _ _ _ _ => rfl]
    exact prodV_unit hi hj
theorem Setup.told (S : Setup n M U V P L N) {s : Nat} (hs : s < n) : w_told_by (unitF n (s : Int), L, ()) = ret (some (vec n (N s))) :=
  told_by_eq (c := 6) (a := 0) S.bs (by decide) (unit_fx.rb (by decide) (by decide) (by decide) (by decide)) (unitF_rw n s) fun j hj => by
    rw [unitF_vec, vec_at hj]
    exact (S.inv.nb s j hs hj).symm
end
end Dc
namespace Dc
open PySem PySem.Spec L2
theorem nott : (!true) = false := rfl
theorem Tr.eqB {α β : Type} {n : Nat} {m : W α} {x : α} {k : α → W β} {T : β → Prop} (h : m = Dc.ret x) (h2 : Tr n (k x) T) : Tr n (Dc.bnd m k) T := by
  rw [h, bnd_ret]
  exact h2
theorem forW_unit {α β δ : Type} {f : Unit → α → W (Fl Unit Unit β)} : ∀ (xs : List α), (∀ x ∈ xs, f () x = ret (.nx ())) → forW (δ := δ) f () xs = ret (.nx ())
  | [], _ => rfl
  | x :: r, h => by
    show bnd (f () x) _ = _
    rw [h x List.mem_cons_self, bnd_ret]
    exact forW_unit r fun y hy => h y (List.mem_cons_of_mem _ hy)
theorem alike_int (k : Int) : w_law_alike 6 (D.int k, D.int k, ()) = ret true := alike_self 5 _ trivial
theorem table_eq {P Q : List (List (List Fr))} : w_Table_eq (tbV P, tbV Q, ()) = ret (PyData.eqv (PyData.list (P.map fun z => PyData.list (z.map fun z => PyData.list (z.map fun z => PyData.tuple [PyData.int z.1, PyData.int z.2])))) (PyData.list (Q.map fun z => PyData.list (z.map fun z => PyData.list (z.map fun z => PyData.tuple [PyData.int z.1, PyData.int z.2]))))) := by
  unfold w_Table_eq wb_Table_eq
  simp only [bnd_ret, bnd_assoc, bnd_grd, bnd_ifr, grd_true, fnR_bnd, fnR_ite, fnR_grd, fnR_ret, sq_nx, sq_rt, ite_true]
theorem lin_fx {n A B M K : Nat} {x : List Fr} {rows : List (List Fr)} (hx : Fx n A B x) (hl : rows.length = n) (hr : ∀ l ∈ rows, Fx n M K l) : Fx n (A * M) (n * (B * K)) (vec n (lin n (at1 x) (rowQ rows))) := Fx.of_vec fun k hk => by
  have c : ((A * M : Nat) : Rat) = (A : Rat) * (M : Rat) := Rat.natCast_mul ..
  rw [c]
  exact sumN_int fun i hi => mul_int (hx.val i hi) ((hr _ (getD_mem (by rw [hl]; exact hi))).val k hk)
theorem wq_congr {n : Nat} {P P' : Nat → Nat → Nat → Rat} {l l' : Bool → Nat → Rat} (h : ∀ b k, k < n → l b k = l' b k) (h2 : ∀ i j k, i < n → j < n → k < n → P i j k = P' i j k) : ∀ (t : Tm) (k : Nat), k < n → wq n P l t k = wq n P' l' t k
  | .let_ b, k, hk => h b k hk
  | .take p q t, k, hk => by
    show Rat.divInt p q * wq n P l t k = Rat.divInt p q * wq n P' l' t k
    rw [wq_congr h h2 t k hk]
  | .bin true t u, k, hk => by
    show wq n P l t k + wq n P l u k = wq n P' l' t k + wq n P' l' u k
    rw [wq_congr h h2 t k hk, wq_congr h h2 u k hk]
  | .bin false t u, k, hk => prodV_congr (fun i hi => wq_congr h h2 t i hi) (fun i hi => wq_congr h h2 u i hi) fun i j hi hj => h2 i j k hi hj hk
theorem bds {A B M K α0 β0 μ κ α1 α2 α3 β1 β2 β3 : Nat} (hA : A ≤ 2 ^ α0) (hB : B ≤ 2 ^ β0) (hM : M ≤ 2 ^ μ) (hK : K ≤ 2 ^ κ) (a1 : 2 * α0 + μ + 3 ≤ α1) (a2 : 2 * α1 + μ + 3 ≤ α2) (a3 : 2 * α2 + μ + 3 ≤ α3)
    (b1 : α0 + μ + β0 + 6 ≤ β1) (c1 : 2 * β0 + κ + 9 + 1 ≤ β1) (b2 : α1 + μ + β1 + 6 ≤ β2) (c2 : 2 * β1 + κ + 9 + 1 ≤ β2) (b3 : α2 + μ + β2 + 6 ≤ β3) (c3 : 2 * β2 + κ + 9 + 1 ≤ β3) (fa : α3 < 900) (fb : β3 < 900) : ∀ e, e ≤ 3 → aA A M e < 2 ^ 900 ∧ bB A B M K e < 2 ^ 900 := by
  have up : ∀ {x a b : Nat}, x ≤ 2 ^ a → a ≤ b → x ≤ 2 ^ b := fun h hab => Nat.le_trans h (Nat.pow_le_pow_right (by decide) hab)
  have A0 : aA A M 0 ≤ 2 ^ α0 := hA
  have B0 : bB A B M K 0 ≤ 2 ^ β0 := hB
  have A1 := up (aA_le A0 hM) a1
  have B1 := bB_le A0 B0 hM hK b1 c1
  have A2 := up (aA_le A1 hM) a2
  have B2 := bB_le A1 B1 hM hK b2 c2
  have A3 := up (aA_le A2 hM) a3
  have B3 := bB_le A2 B2 hM hK b3 c3
  intro e he
  have : e = 0 ∨ e = 1 ∨ e = 2 ∨ e = 3 := by omega
  rcases this with rfl | rfl | rfl | rfl
  · exact ⟨lt9 A0 (by omega), lt9 B0 (by omega)⟩
  · exact ⟨lt9 A1 (by omega), lt9 B1 (by omega)⟩
  · exact ⟨lt9 A2 (by omega), lt9 B2 (by omega)⟩
  · exact ⟨lt9 A3 (by omega), lt9 B3 (by omega)⟩
section
variable {n M U V : Nat} {P : List (List (List Fr))} {L : List (List Fr)} {N : Nat → Nat → Rat}
theorem lt20 {a b : Nat} (h : a ≤ 2 ^ b) (hb : b < 1900) : a < 2 ^ 2000 := Nat.lt_of_le_of_lt h (Nat.pow_lt_pow_right (by decide) (by omega))
theorem lt19 {a b : Nat} (h : a ≤ 2 ^ b) (hb : b < 1900) : a < 2 ^ 1900 := Nat.lt_of_le_of_lt h (Nat.pow_lt_pow_right (by decide) hb)
theorem Setup.total (S : Setup n M U V P L N) {A B : Nat} {x : List Fr} (hx : Fx n A B x) (hA : 0 < A) (h1 : A < 2 ^ 900) (h2 : B < 2 ^ 900) : w_law_total (x, L, (n : Int), ()) = ret (vec n (lin n (at1 x) (rowQ L))) :=
  law_total_eq S.n6 hA (by decide) (pow_mono h1 (by decide)) (lt20 (b := 3) (by decide) (by decide)) (pow_mono h2 (by decide)) (lt19 (b := 5) (by decide) (by decide)) hx S.bas.len fun l hl => S.bas.fx hl
theorem Setup.comb (S : Setup n M U V P L N) {A B : Nat} {x : List Fr} (hx : Fx n A B x) (hA : 0 < A) (h1 : A < 2 ^ 900) (h2 : B < 2 ^ 900) : w_combined (x, L, (n : Int), ()) = ret (vec n (lin n (at1 x) (rowQ L))) :=
  combined_eq S.n6 hA (by decide) h1 (lt9 (b := 3) (by decide) (by decide)) h2 (lt9 (b := 5) (by decide) (by decide)) hx S.bas.len fun l hl => S.bas.fx hl
theorem few_v {f : Nat → Rat} (hn : n ≤ 6) : Few (vec n f) := few_n vec_len (by omega)
theorem get_getD {α : Type} {l : List α} {d : α} {i : Nat} (h : i < l.length) : l[i] = l.getD i d := by
  rw [List.getD_eq_getElem?_getD, List.getElem?_eq_getElem h]
  rfl
theorem Setup.cell (S : Setup n M U V P L N) {i j : Nat} (hi : i < n) (hj : j < n) : ixOk (ovQ n P L N) (i : Int) = true ∧ ixOk (ixAt (ovQ n P L N) (i : Int)) (j : Int) = true ∧ ixOk L (i : Int) = true ∧ ixOk L (j : Int) = true ∧
    w_law_total (ixAt (ixAt (ovQ n P L N) (i : Int)) (j : Int), L, (n : Int), ()) = ret (vec n (prodV n (at3 P) (rowQ L i) (rowQ L j))) ∧ w_law_times (P, ixAt L (i : Int), ixAt L (j : Int), ()) = ret (vec n (prodV n (at3 P) (rowQ L i) (rowQ L j))) := by
  have c := S.qx.cub
  have q1 := ix_nat (l := ovQ n P L N) (i := i) (by rw [c.len]; exact hi)
  have ei : (ovQ n P L N)[i]'(by rw [c.len]; exact hi) = (ovQ n P L N).getD i [] := get_getD _
  obtain ⟨m1, m2⟩ := cub_mem c hi hj
  have q2 := ix_nat (l := (ovQ n P L N).getD i []) (i := j) (by rw [c.row _ m1]; exact hj)
  have ej : ((ovQ n P L N).getD i [])[j]'(by rw [c.row _ m1]; exact hj) = ((ovQ n P L N).getD i []).getD j [] := get_getD _
  have l1 := ix_nat (l := L) (i := i) (by rw [S.bas.len]; exact hi)
  have l2 := ix_nat (l := L) (i := j) (by rw [S.bas.len]; exact hj)
  have g1 : L[i]'(by rw [S.bas.len]; exact hi) = L.getD i [] := get_getD _
  have g2 : L[j]'(by rw [S.bas.len]; exact hj) = L.getD j [] := get_getD _
  refine ⟨q1.1, ?_, l1.1, l2.1, ?_, ?_⟩
  · rw [q1.2, ei]; exact q2.1
  · rw [q1.2, ei, q2.2, ej, S.total (S.qx.row _ m1 _ m2) S.MQ.1 (lt9 S.MQ.2 (by decide)) (lt9 S.KQ (by decide))]
    congr 1
    refine vec_congr fun k hk => ?_
    rw [← S.inv.back (c := prodV n (at3 P) (rowQ L i) (rowQ L j)) hk]
    refine lin_congr (fun s hs => ?_) fun _ _ => rfl
    rw [tab_get hi hj, vec_at hs]
    rfl
  · have r1 := S.bas.rw_ (S.bas.getD hi)
    have r2 := S.bas.rw_ (S.bas.getD hj)
    rw [l1.2, l2.2, g1, g2, law_times_eq S.tb S.n6 r1 r2, prodL_vec S.tb r1 r2]
/-- the product of two rows over the basis -/
theorem Setup.pair (S : Setup n M U V P L N) {x y : List Fr} (hx : Fx n 1 9 x) (hy : Fx n 1 9 y) :
    (bnd (w_Table_call (tbV (ovQ n P L N), x, y, ())) fun z => w_law_total (z, L, (n : Int), ())) = ret (vec n (prodV n (at3 P) (lin n (at1 x) (rowQ L)) (lin n (at1 y) (rowQ L)))) ∧
    w_law_times (P, vec n (lin n (at1 x) (rowQ L)), vec n (lin n (at1 y) (rowQ L)), ()) = ret (vec n (prodV n (at3 P) (lin n (at1 x) (rowQ L)) (lin n (at1 y) (rowQ L)))) := by
  have n6 := S.n6
  have rx := hx.rw_ (by decide) (lt9 (b := 0) (by decide) (by decide)) (lt9 (b := 4) (by decide) (by decide))
  have ry := hy.rw_ (by decide) (lt9 (b := 0) (by decide) (by decide)) (lt9 (b := 4) (by decide) (by decide))
  have fx := lin_fx hx S.bas.len fun l hl => S.bas.fx hl
  have fy := lin_fx hy S.bas.len fun l hl => S.bas.fx hl
  have kb : n * (9 * 18) ≤ 2 ^ 10 := Nat.le_trans (Nat.mul_le_mul_right _ n6) (by decide)
  have qx := fx.rw_ (by decide) (lt9 (b := 3) (by decide) (by decide)) (lt9 kb (by decide))
  have qy := fy.rw_ (by decide) (lt9 (b := 3) (by decide) (by decide)) (lt9 kb (by decide))
  refine ⟨?_, ?_⟩
  · rw [table_call S.qb n6 rx ry, bnd_ret, prodL_vec S.qb rx ry]
    have f := prod_fx S.qx hx hy
    rw [S.total f (Nat.mul_pos (by decide) S.MQ.1) (lt9 (b := 36) (by rw [Nat.one_mul]; exact S.MQ.2) (by decide)) (lt9 (b := 100) (Nat.le_trans (Nat.mul_le_mul n6 (Nat.mul_le_mul n6 (Nat.mul_le_mul_left _ S.KQ))) (by decide)) (by decide))]
    congr 1
    refine vec_congr fun k hk => ?_
    rw [← S.inv.hom hk]
    refine lin_congr (fun s hs => ?_) fun _ _ => rfl
    rw [vec_at hs]
    exact prodV_congr (fun _ _ => rfl) (fun _ _ => rfl) fun i j hi hj => tab_at hi hj hs
  · rw [law_times_eq S.tb n6 qx qy, prodL_vec S.tb qx qy]
    congr 1
    exact vec_congr fun k hk => prodV_congr (fun i hi => vec_at hi) (fun i hi => vec_at hi) fun _ _ _ _ => rfl
/-- a term over the basis -/
theorem Setup.term (S : Setup n M U V P L N) {x y : List Fr} (hx : Fx n 1 9 x) (hy : Fx n 1 9 y) {t : Tm} (ht : okT 3 t) : ∃ r : List Fr,
    (bnd (w_law_worth 5 (tbV (ovQ n P L N), tmD t, [x, y], ())) fun z => w_law_total (z, L, (n : Int), ())) = ret r ∧
    w_law_worth 5 (tbV P, tmD t, [vec n (lin n (at1 x) (rowQ L)), vec n (lin n (at1 y) (rowQ L))], ()) = ret r := by
  have n6 := S.n6
  have fx := lin_fx hx S.bas.len fun l hl => S.bas.fx hl
  have fy := lin_fx hy S.bas.len fun l hl => S.bas.fx hl
  have kb : n * (9 * 18) ≤ 2 ^ 10 := Nat.le_trans (Nat.mul_le_mul_right _ n6) (by decide)
  have b1 := bds (A := 1) (B := 9) (α0 := 0) (β0 := 4) (μ := 36) (κ := 82) (α1 := 40) (α2 := 120) (α3 := 280) (β1 := 100) (β2 := 292) (β3 := 676) (by decide) (by decide) S.MQ.2 S.KQ (by decide) (by decide) (by decide) (by decide) (by decide) (by decide) (by decide) (by decide) (by decide) (by decide) (by decide)
  have b2 := bds (A := 1 * 6) (B := n * (9 * 18)) (α0 := 3) (β0 := 10) (μ := 14) (κ := 28) (α1 := 23) (α2 := 63) (α3 := 143) (β1 := 60) (β2 := 160) (β3 := 360) (by decide) kb S.Mb (Nat.le_refl (2 ^ 28)) (by decide) (by decide) (by decide) (by decide) (by decide) (by decide) (by decide) (by decide) (by decide) (by decide) (by decide)
  obtain ⟨e1, f1⟩ := worth_eq n6 S.qx (by decide) S.MQ.1 hx hy (lt9 S.MQ.2 (by decide)) (lt9 S.KQ (by decide)) t 3 4 ht (by decide) b1
  obtain ⟨e2, f2⟩ := worth_eq n6 S.tx (by decide) S.M0 fx fy (lt9 S.Mb (by decide)) (lt9 (Nat.le_refl (2 ^ 28)) (by decide)) t 3 4 ht (by decide) b2
  refine ⟨_, ?_, e2⟩
  rw [e1, bnd_ret, S.total f1 (aA_pos (by decide) S.MQ.1 3) (b1 3 (by decide)).1 (b1 3 (by decide)).2]
  congr 1
  refine vec_congr fun k hk => ?_
  have h1 : lin n (at1 (vec n (wq n (at3 (ovQ n P L N)) (fun b => if b then at1 y else at1 x) t))) (rowQ L) k = lin n (wq n (ovF n (at3 P) (rowQ L) N) (fun b => if b then at1 y else at1 x) t) (rowQ L) k := lin_congr (fun s hs => by
    rw [vec_at hs]
    exact wq_congr (fun _ _ _ => rfl) (fun i j k hi hj hk => tab_at hi hj hk) t s hs) fun _ _ => rfl
  rw [h1, S.inv.worth t k hk]
  refine wq_congr (fun b k hk => ?_) (fun _ _ _ _ _ _ => rfl) t k hk
  cases b
  · exact (vec_at hk).symm
  · exact (vec_at hk).symm
end
end Dc
namespace Dc
open PySem PySem.Spec L2
theorem i20 {α : Type} [Inhabited α] {a b : α} : ixAt [a, b] 0 = a := rfl
theorem i21 {α : Type} [Inhabited α] {a b : α} : ixAt [a, b] 1 = b := rfl
theorem o20 {α : Type} {a b : α} : ixOk [a, b] 0 = true := rfl
theorem o21 {α : Type} {a b : α} : ixOk [a, b] 1 = true := rfl
theorem lot_tr {n : Nat} (hn : n ≤ 6) : Tr 6 (mapW (fun _ : Int => bnd (pickW 19) fun x => ret ((x - 9, 1) : Fr)) (rangeF 0 n)) (Fx n 1 9) :=
  (Tr.mapN (n := 1) (L := 6) (S := fun z : Fr => z.2 = 1 ∧ z.1.natAbs ≤ 9) (fun _ _ => Tr.then 1 Tr.pick fun x hx => Tr.ret ⟨rfl, by show (x - 9).natAbs ≤ 9; omega⟩) (by rw [rangeF_len]; exact hn)).cons fun l hl => ⟨by rw [hl.1, rangeF_len], fun z hz => by
    obtain ⟨a, b⟩ := z
    have := (hl.2 _ hz).1
    have this : b = 1 := this
    subst this
    exact red_int a, fun i hi => by
    have hi2 : i < l.length := by rw [hl.1, rangeF_len]; exact hi
    have m := hl.2 _ (List.getElem_mem hi2)
    refine ⟨l[i].1, m.2, ?_⟩
    rw [at1_get hi2]
    generalize l[i] = z at m
    obtain ⟨a, b⟩ := z
    have this : b = 1 := m.1
    subst this
    show (1 : Rat) * toQ (a, 1) = _
    rw [toQ_int, Rat.one_mul]⟩
theorem someL_ok {α : Type} {g : Nat → α} {n : Nat} : someL ((List.range n).map fun s => some (g s)) = ret ((List.range n).map g) := by
  unfold someL
  have h1 : ((List.range n).map fun s => some (g s)).all (·.isSome) = true := by
    rw [List.all_map]
    exact List.all_eq_true.mpr fun x _ => rfl
  have h2 : ((List.range n).map fun s => some (g s)).filterMap id = (List.range n).map g := by
    rw [List.filterMap_map]
    show (List.range n).filterMap (fun s => some (g s)) = _
    rw [List.filterMap_eq_map']
  rw [h1, grd_true, h2]
section
variable {n M U V : Nat} {P : List (List (List Fr))} {L : List (List Fr)} {N : Nat → Nat → Rat}
theorem law_over_right_tr (S : Setup n M U V P L N) : Tr 100 (w_law_over_right (tbV P, P, L, ())) (fun r => r = true) := by
  have n6 := S.n6
  have hr : rngOk 0 (n : Int) = true := rngOk_n (by omega)
  have hr0 : rngOk 0 2 = true := rfl
  have e2 : Int.toNat 2 = 2 := rfl
  unfold w_law_over_right wb_law_over_right
  simp only [bnd_ret, bnd_assoc, bnd_grd, grd_true, fnR_bnd, fnR_grd, fnR_ret, sq_nx, sq_rt, S.tx.cub.len, Int.toNat_natCast, hr, hr0, e2, S.over_L, table_size, table_products]
  rw [eqv_rows, S.qx.cub.len]
  simp only [nott, ite_false, ite_true, sq_nx, sq_rt, bnd_ret, bnd_assoc, bnd_grd, grd_true, fnR_bnd, fnR_grd, fnR_ret, alike_int]
  refine Tr.eqB (x := Fl.nx ()) (forW_unit _ fun i hi => ?_) ?_
  · have mi := rangeF_mem hi
    obtain ⟨a, rfl⟩ : ∃ a : Nat, i = (a : Int) := ⟨i.toNat, by omega⟩
    refine (congrArg (fun z => bnd z _) (forW_unit _ fun j hj => ?_)).trans rfl
    have mj := rangeF_mem hj
    obtain ⟨b, rfl⟩ : ∃ b : Nat, j = (b : Int) := ⟨j.toNat, by omega⟩
    obtain ⟨c1, c2, c3, c4, c5, c6⟩ := S.cell (i := a) (j := b) (by omega) (by omega)
    rw [grd_ok c1, grd_ok c2, c5, bnd_ret, grd_ok c3, grd_ok c4, c6, bnd_ret, alike_l (few_v n6), bnd_ret, nott, ite_false, bnd_ret]
    rfl
  simp only [nott, ite_false, ite_true, sq_nx, sq_rt, bnd_ret, bnd_assoc, bnd_grd, grd_true, fnR_bnd, fnR_grd, fnR_ret, table_eq, eqv_prods]
  refine Tr.then 12 (S := fun v => ∃ x y, v = [x, y] ∧ Fx n 1 9 x ∧ Fx n 1 9 y) ((Tr.mapN (n := 6) (L := 2) (S := Fx n 1 9) (fun _ _ => lot_tr n6) (by rw [rangeF_len]; exact Nat.le_refl 2)).cons fun v hv => ?_) fun v hv => ?_
  · have l := hv.1
    rw [rangeF_len] at l
    match v, l, hv with
    | [x, y], _, hv => exact ⟨x, y, rfl, hv.2 x (by simp), hv.2 y (by simp)⟩
  obtain ⟨x, y, rfl, hx, hy⟩ := hv
  have mem : ∀ l ∈ [x, y], Fx n 1 9 l := fun l hl => by
    simp only [List.mem_cons, List.not_mem_nil, or_false] at hl
    rcases hl with rfl | rfl
    · exact hx
    · exact hy
  have k1 : (1 : Nat) < 2 ^ 900 := lt9 (b := 0) (by decide) (by decide)
  have k9 : (9 : Nat) < 2 ^ 900 := lt9 (b := 4) (by decide) (by decide)
  refine Tr.eqB (x := [vec n (lin n (at1 x) (rowQ L)), vec n (lin n (at1 y) (rowQ L))]) (mapW_eq (g := fun l => vec n (lin n (at1 l) (rowQ L))) fun l hl => S.comb (mem l hl) (by decide) k1 k9) ?_
  refine Tr.eqB (x := [vec n (lin n (at1 x) (rowQ L)), vec n (lin n (at1 y) (rowQ L))]) (mapW_eq (g := fun l => vec n (lin n (at1 l) (rowQ L))) fun l hl => S.total (mem l hl) (by decide) k1 k9) ?_
  rw [eqv_rows]
  simp only [nott, ite_false, ite_true, sq_nx, sq_rt, bnd_ret, bnd_assoc, bnd_grd, grd_true, fnR_bnd, fnR_grd, fnR_ret, i20, i21, o20, o21]
  obtain ⟨p1, p2⟩ := S.pair hx hy
  have p1' : ∀ {β : Type} (k : List Fr → W β), bnd (w_Table_call (tbV (ovQ n P L N), x, y, ())) (fun z => bnd (w_law_total (z, L, (n : Int), ())) k) = k (vec n (prodV n (at3 P) (lin n (at1 x) (rowQ L)) (lin n (at1 y) (rowQ L)))) := fun k => by
    rw [← bnd_assoc, p1, bnd_ret]
  rw [p1', p2, bnd_ret, alike_l (few_v n6), bnd_ret]
  simp only [nott, ite_false, ite_true, sq_nx, sq_rt, bnd_ret, bnd_assoc, bnd_grd, grd_true, fnR_bnd, fnR_grd, fnR_ret]
  refine Tr.then 37 (law_term_tr 3 4 (by decide) (by decide)) fun d hd => ?_
  obtain ⟨t, ht, rfl⟩ := hd
  obtain ⟨r, q1, q2⟩ := S.term hx hy ht
  have q1' : ∀ {β : Type} (k : List Fr → W β), bnd (w_law_worth 5 (tbV (ovQ n P L N), tmD t, [x, y], ())) (fun z => bnd (w_law_total (z, L, (n : Int), ())) k) = k r := fun k => by
    rw [← bnd_assoc, q1, bnd_ret]
  rw [q1', q2, bnd_ret, eqv_line]
  simp only [nott, ite_false, ite_true, sq_nx, sq_rt, bnd_ret, bnd_assoc, bnd_grd, grd_true, fnR_bnd, fnR_grd, fnR_ret]
  refine Tr.eqB (x := unitsF n) (mapW_eq (g := unitF n) fun s _ => mapW_unit) ?_
  have tb : mapW (fun y => w_told_by (y, L, ())) (unitsF n) = ret ((List.range n).map fun s => some (vec n (N s))) := by
    have := mapW_ix (f := fun y => w_told_by (y, L, ())) (xs := unitsF n) (g := fun s => some (vec n (N s))) fun i hi => ?_
    · rw [this, units_len]
    · have hi' : i < n := by rw [units_len] at hi; exact hi
      have ui : (unitsF n)[i] = unitF n (i : Int) := by simp only [unitsF, List.getElem_map, rangeF_at hi']
      show w_told_by ((unitsF n)[i], L, ()) = _
      rw [ui]
      exact S.told hi'
  refine Tr.eqB tb ?_
  refine Tr.eqB (x := Fl.nx ()) (forW_unit _ fun i hi => ?_) ?_
  · have mi := rangeF_mem hi
    obtain ⟨a, rfl⟩ : ∃ a : Nat, i = (a : Int) := ⟨i.toNat, by omega⟩
    have ha : a < n := by omega
    have l1 := ix_nat (l := (List.range n).map fun s => some (vec n (N s))) (i := a) (by rw [List.length_map, List.length_range]; exact ha)
    have l2 := ix_nat (l := unitsF n) (i := a) (by rw [units_len]; exact ha)
    have v1 : ixAt ((List.range n).map fun s => some (vec n (N s))) (a : Int) = some (vec n (N a)) := by rw [l1.2, List.getElem_map, List.getElem_range]
    have v2 : ixAt (unitsF n) (a : Int) = unitF n (a : Int) := by rw [l2.2]; simp only [unitsF, List.getElem_map, rangeF_at ha]
    have st : w_law_total (vec n (N a), L, (n : Int), ()) = ret (unitF n (a : Int)) := by
      rw [S.total (S.nfx a ha) S.U0 (lt9 S.Ub (by decide)) (lt9 S.Vb (by decide)), unitF_vec]
      refine congrArg ret (vec_congr fun k hk => ?_)
      rw [← S.inv.nb a k ha hk]
      exact lin_congr (fun s hs => vec_at hs) fun _ _ => rfl
    rw [v1, v2, grd_ok l1.1, ite_no (show (some (vec n (N a))).isNone = false from rfl)]
    have sm : someW (some (vec n (N a))) = ret (vec n (N a)) := rfl
    simp only [sm, l1.1, l2.1, grd_true, bnd_ret, bnd_assoc, st, eqv_line, nott, ite_false]
    rfl
  simp only [nott, ite_false, ite_true, sq_nx, sq_rt, bnd_ret, bnd_assoc, bnd_grd, grd_true, fnR_bnd, fnR_grd, fnR_ret, someL_ok, S.over_back, S.over_units, table_eq, eqv_prods, table_products, alike_c S.tx.cub (show n ≤ 36 by omega)]
  exact Tr.ret rfl
end
theorem law_tr (ns : List Int) : Tr 6000 (w_law (ns, ())) (fun r => r = true) := by
  have hr0 : rngOk 0 2 = true := rfl
  have e2 : Int.toNat 2 = 2 := rfl
  unfold w_law wb_law
  simp only [bnd_ret, bnd_assoc, bnd_grd, grd_true, fnR_bnd, fnR_grd, fnR_ret, sq_nx, sq_rt, hr0, e2]
  refine Tr.then 6000 (S := fun fl => fl = Fl.nx ()) ((Tr.rng (m := 3000) (R := fun _ (_ : Unit) => True) 2 0 () trivial fun i hi s _ => ?_).cons fun fl h => by
    obtain ⟨s, e, _⟩ := h
    exact e) fun fl hfl => by
    rw [hfl]
    simp only [sq_nx, fnR_ret]
    exact Tr.ret rfl
  have ik := ix_in (l := ([4, 6] : List Int)) (k := ((0 + i : Nat) : Int)) (by omega) (by show _ < (2 : Int); omega)
  have lk : ixAt ([4, 6] : List Int) ((0 + i : Nat) : Int) = 4 ∨ ixAt ([4, 6] : List Int) ((0 + i : Nat) : Int) = 6 := by simpa using ik.2
  refine Tr.grd ik.1 ?_
  generalize ixAt ([4, 6] : List Int) ((0 + i : Nat) : Int) = many at lk
  refine Tr.then 1 (Tr.pick (by omega) (lsmall (by omega))) fun k hk => ?_
  refine Tr.then 1 Tr.pick fun g _ => ?_
  obtain ⟨n, hn⟩ : ∃ n : Nat, 1 + k = (n : Int) := ⟨(1 + k).toNat, by omega⟩
  rw [hn]
  have h1 : 1 ≤ n := by omega
  have h6 : n ≤ 6 := by omega
  generalize hg : decide (g = 0) = gr
  refine Tr.then 1500 (products_num gr h1 h6) fun Q hQ => ?_
  refine Tr.then 0 (S := fun b : Bool => b = false → gr = false) (Tr.ite (fun z => Tr.ret fun h => by cases h) fun z => Tr.ret fun h => h) fun b hb => ?_
  refine Tr.then 0 (S := fun fl => ∃ P, fl = Fl.nx P ∧ Tk n P) (Tr.ite (fun z => Tr.ret ⟨_, rfl, tk_whole hQ⟩) fun z => Tr.ret ⟨_, rfl, by
    have := hb z
    subst this
    exact tk_small hQ⟩) fun fl hfl => ?_
  obtain ⟨P, rfl, hP⟩ := hfl
  simp only [sq_nx]
  obtain ⟨M, m0, mb, tx⟩ := hP.tx
  have tb : Tb n P := tx.tb m0 (lt9 mb (by decide)) (lt9 (Nat.le_refl (2 ^ 28)) (by decide))
  refine Tr.eqB (table_init tb h1 h6) ?_
  refine Tr.then 100 (law_basis_tr h1 h6) fun L hL => ?_
  obtain ⟨M, U, V, N, S⟩ := setup h1 h6 hP hL
  refine Tr.then 100 (law_over_right_tr S) fun r hr => ?_
  subst hr
  rw [ite_no nott, bnd_ret, sq_nx, table_products, bnd_ret, alike_c S.tx.cub (show n ≤ 36 by omega), bnd_ret, ite_no nott, bnd_ret, sq_nx]
  exact Tr.ret ⟨_, rfl, trivial⟩
theorem law_true (ns : List Int) (_ : ns.length ≤ 63) : w_law (ns, ()) (fun r _ => r = true) noX 0 := law_tr ns _ _ 0 (Nat.le_trans (show 0 + 6000 ≤ 2 ^ 17 by decide) (Nat.pow_le_pow_right (by decide) (by decide))) fun r _ _ h => h
end Dc
open PySem PySem.W PyProof.Rows
set_option maxHeartbeats 0 in
theorem PySem.Challenge.cw_toldproducts_k12_whole_over_another_basi_holds : PySem.Challenge.rw_toldproducts_k12_whole_over_another_basi.Holds := by
  w_on; o_law; k_head; (case hw => w_witness2)
  k_fill
  refine L2.walk_of (l := PySem.Challenge.rw_toldproducts_k12_whole_over_another_basi) (n := 63) (k := 13) (x := Str.ofString "_law_script") (CX := fun _ => L2.CX0) (sp := fun w => Dc.spLaw _) rfl (by decide) rfl ⟨rfl, by decide, by decide⟩ (fun w h Y => PySem.W.kIn_of Y) ?F (fun _ _ a ns hl _ hS => ⟨a, ns, rfl, hS, hl, fun _ => rfl⟩) (fun _ _ _ _ _ h => h)
  case F =>
    intro w mg fa h KX G hmg
    refine' Dc.all_mk KX G hmg ?aC_Basis ?pg_Basis ?hd_Basis ?po_Basis ?sa_Basis ?ms_Basis ?kc_Basis ?nf_Basis_lines ?aC_Table ?pg_Table ?hd_Table ?po_Table ?sa_Table ?ms_Table ?kc_Table ?nf_Table_products ?nf_Table_below ?nf_Table_cells ?iha_Table ?ihn_Table ?ihk_Table ?ihm_Table ?a0 ?l0 ?c0 ?k0 ?a1 ?l1 ?c1 ?k1 ?a2 ?l2 ?c2 ?k2 ?a3 ?l3 ?c3 ?k3 ?a4 ?l4 ?c4 ?k4 ?a5 ?l5 ?c5 ?k5 ?a6 ?l6 ?c6 ?k6 ?a7 ?l7 ?c7 ?k7 ?a8 ?l8 ?c8 ?k8 ?a9 ?l9 ?c9 ?k9 ?a10 ?l10 ?c10 ?k10 ?a11 ?l11 ?c11 ?k11 ?a12 ?l12 ?c12 ?k12 ?a13 ?l13 ?c13 ?k13 ?a14 ?l14 ?c14 ?k14 ?a15 ?l15 ?c15 ?k15 ?a16 ?i16 ?l16 ?c16 ?k16 ?a17 ?i17 ?l17 ?c17 ?k17 ?a18 ?i18 ?l18 ?c18 ?k18 ?a19 ?i19 ?l19 ?c19 ?k19 ?a20 ?l20 ?c20 ?k20 ?a21 ?l21 ?c21 ?k21 ?a22 ?l22 ?c22 ?k22 ?a23 ?l23 ?c23 ?k23 ?a24 ?l24 ?c24 ?k24 ?a25 ?i25 ?l25 ?c25 ?k25 ?a26 ?g26 ?t26 ?r26 ?l26 ?c26 ?k26 ?a27 ?g27 ?t27 ?r27 ?l27 ?c27 ?k27 ?a28 ?i28 ?l28 ?c28 ?k28 ?a29 ?i29 ?l29 ?c29 ?k29 ?a30 ?i30 ?y30 ?l30 ?c30 ?k30 ?a31 ?l31 ?c31 ?k31 ?a32 ?l32 ?c32 ?k32 ?a33 ?l33 ?c33 ?k33 ?a34 ?l34 ?c34 ?k34 ?a35 ?l35 ?c35 ?k35 ?a36 ?l36 ?c36 ?k36 ?a37 ?l37 ?c37 ?k37 ?a38 ?l38 ?c38 ?k38 ?a39 ?l39 ?c39 ?k39 ?a40 ?l40 ?c40 ?k40 ?a41 ?l41 ?c41 ?k41 ?a42 ?l42 ?c42 ?k42 ?a43 ?l43 ?c43 ?k43 ?a44 ?l44 ?c44 ?k44 ?a45 ?l45 ?c45 ?k45 ?a46 ?l46 ?c46 ?k46 ?a47 ?l47 ?c47 ?k47 ?a48 ?l48 ?c48 ?k48 ?a49 ?l49 ?c49 ?k49 ?z_abs ?z_all ?z_any ?z_bool ?z_enumerate ?z_int ?z_isinstance ?z_len ?z_list ?z_range ?z_tuple ?z_zip ?g_gcd ?g_lcm ?m_NOUGHT ?q_NOUGHT Dc.law_true
    (case aC_Basis => k_is)
    (case pg_Basis => k_is)
    (case hd_Basis => k_is)
    (case po_Basis => k_is)
    (case sa_Basis => k_is)
    (case ms_Basis => k_is)
    (case kc_Basis => k_is)
    (case nf_Basis_lines => k_is)
    (case aC_Table => k_is)
    (case pg_Table => k_is)
    (case hd_Table => k_is)
    (case po_Table => k_is)
    (case sa_Table => k_is)
    (case ms_Table => k_is)
    (case kc_Table => k_is)
    (case nf_Table_products => k_is)
    (case nf_Table_below => k_is)
    (case nf_Table_cells => k_is)
    (case iha_Table => k_is)
    (case ihn_Table => k_is)
    (case ihk_Table => k_is)
    (case ihm_Table => k_is)
    (case a0 => k_is)
    (case l0 => k_is)
    (case c0 => k_is)
    (case k0 => k_is)
    (case a1 => k_is)
    (case l1 => k_is)
    (case c1 => k_is)
    (case k1 => k_is)
    (case a2 => k_is)
    (case l2 => k_is)
    (case c2 => k_is)
    (case k2 => k_is)
    (case a3 => k_is)
    (case l3 => k_is)
    (case c3 => k_is)
    (case k3 => k_is)
    (case a4 => k_is)
    (case l4 => k_is)
    (case c4 => k_is)
    (case k4 => k_is)
    (case a5 => k_is)
    (case l5 => k_is)
    (case c5 => k_is)
    (case k5 => k_is)
    (case a6 => k_is)
    (case l6 => k_is)
    (case c6 => k_is)
    (case k6 => k_is)
    (case a7 => k_is)
    (case l7 => k_is)
    (case c7 => k_is)
    (case k7 => k_is)
    (case a8 => k_is)
    (case l8 => k_is)
    (case c8 => k_is)
    (case k8 => k_is)
    (case a9 => k_is)
    (case l9 => k_is)
    (case c9 => k_is)
    (case k9 => k_is)
    (case a10 => k_is)
    (case l10 => k_is)
    (case c10 => k_is)
    (case k10 => k_is)
    (case a11 => k_is)
    (case l11 => k_is)
    (case c11 => k_is)
    (case k11 => k_is)
    (case a12 => k_is)
    (case l12 => k_is)
    (case c12 => k_is)
    (case k12 => k_is)
    (case a13 => k_is)
    (case l13 => k_is)
    (case c13 => k_is)
    (case k13 => k_is)
    (case a14 => k_is)
    (case l14 => k_is)
    (case c14 => k_is)
    (case k14 => k_is)
    (case a15 => k_is)
    (case l15 => k_is)
    (case c15 => k_is)
    (case k15 => k_is)
    (case a16 => k_is)
    (case i16 => k_is)
    (case l16 => k_is)
    (case c16 => k_is)
    (case k16 => k_is)
    (case a17 => k_is)
    (case i17 => k_is)
    (case l17 => k_is)
    (case c17 => k_is)
    (case k17 => k_is)
    (case a18 => k_is)
    (case i18 => k_is)
    (case l18 => k_is)
    (case c18 => k_is)
    (case k18 => k_is)
    (case a19 => k_is)
    (case i19 => k_is)
    (case l19 => k_is)
    (case c19 => k_is)
    (case k19 => k_is)
    (case a20 => k_is)
    (case l20 => k_is)
    (case c20 => k_is)
    (case k20 => k_is)
    (case a21 => k_is)
    (case l21 => k_is)
    (case c21 => k_is)
    (case k21 => k_is)
    (case a22 => k_is)
    (case l22 => k_is)
    (case c22 => k_is)
    (case k22 => k_is)
    (case a23 => k_is)
    (case l23 => k_is)
    (case c23 => k_is)
    (case k23 => k_is)
    (case a24 => k_is)
    (case l24 => k_is)
    (case c24 => k_is)
    (case k24 => k_is)
    (case a25 => k_is)
    (case i25 => k_is)
    (case l25 => k_is)
    (case c25 => k_is)
    (case k25 => k_is)
    (case a26 => k_is)
    (case g26 => k_is)
    (case t26 => k_is)
    (case r26 => k_is)
    (case l26 => k_is)
    (case c26 => k_is)
    (case k26 => k_is)
    (case a27 => k_is)
    (case g27 => k_is)
    (case t27 => k_is)
    (case r27 => k_is)
    (case l27 => k_is)
    (case c27 => k_is)
    (case k27 => k_is)
    (case a28 => k_is)
    (case i28 => k_is)
    (case l28 => k_is)
    (case c28 => k_is)
    (case k28 => k_is)
    (case a29 => k_is)
    (case i29 => k_is)
    (case l29 => k_is)
    (case c29 => k_is)
    (case k29 => k_is)
    (case a30 => k_is)
    (case i30 => k_is)
    (case y30 => k_is)
    (case l30 => k_is)
    (case c30 => k_is)
    (case k30 => k_is)
    (case a31 => k_is)
    (case l31 => k_is)
    (case c31 => k_is)
    (case k31 => k_is)
    (case a32 => k_is)
    (case l32 => k_is)
    (case c32 => k_is)
    (case k32 => k_is)
    (case a33 => k_is)
    (case l33 => k_is)
    (case c33 => k_is)
    (case k33 => k_is)
    (case a34 => k_is)
    (case l34 => k_is)
    (case c34 => k_is)
    (case k34 => k_is)
    (case a35 => k_is)
    (case l35 => k_is)
    (case c35 => k_is)
    (case k35 => k_is)
    (case a36 => k_is)
    (case l36 => k_is)
    (case c36 => k_is)
    (case k36 => k_is)
    (case a37 => k_is)
    (case l37 => k_is)
    (case c37 => k_is)
    (case k37 => k_is)
    (case a38 => k_is)
    (case l38 => k_is)
    (case c38 => k_is)
    (case k38 => k_is)
    (case a39 => k_is)
    (case l39 => k_is)
    (case c39 => k_is)
    (case k39 => k_is)
    (case a40 => k_is)
    (case l40 => k_is)
    (case c40 => k_is)
    (case k40 => k_is)
    (case a41 => k_is)
    (case l41 => k_is)
    (case c41 => k_is)
    (case k41 => k_is)
    (case a42 => k_is)
    (case l42 => k_is)
    (case c42 => k_is)
    (case k42 => k_is)
    (case a43 => k_is)
    (case l43 => k_is)
    (case c43 => k_is)
    (case k43 => k_is)
    (case a44 => k_is)
    (case l44 => k_is)
    (case c44 => k_is)
    (case k44 => k_is)
    (case a45 => k_is)
    (case l45 => k_is)
    (case c45 => k_is)
    (case k45 => k_is)
    (case a46 => k_is)
    (case l46 => k_is)
    (case c46 => k_is)
    (case k46 => k_is)
    (case a47 => k_is)
    (case l47 => k_is)
    (case c47 => k_is)
    (case k47 => k_is)
    (case a48 => k_is)
    (case l48 => k_is)
    (case c48 => k_is)
    (case k48 => k_is)
    (case a49 => k_is)
    (case l49 => k_is)
    (case c49 => k_is)
    (case k49 => k_is)
    (case z_abs => k_is)
    (case z_all => k_is)
    (case z_any => k_is)
    (case z_bool => k_is)
    (case z_enumerate => k_is)
    (case z_int => k_is)
    (case z_isinstance => k_is)
    (case z_len => k_is)
    (case z_list => k_is)
    (case z_range => k_is)
    (case z_tuple => k_is)
    (case z_zip => k_is)
    (case g_gcd => k_is)
    (case g_lcm => k_is)
    (case m_NOUGHT => k_is)
    (case q_NOUGHT => k_is)
