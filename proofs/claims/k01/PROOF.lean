import PyProof.Rows.All
import HandS.ForMost
import HandS.Wide
import HandS.WideBits
import HandS.Gcd
import HandS.Flow
import HandS.IsInst
import HandS.Style
import PySem.Challenge.RW_toldproducts_k01_numbers_sums_and_multip
set_option Elab.async false
set_option linter.all false
set_option maxRecDepth 100000
/-! DcA: the judgements. A def of the program is told by a plain function into W, a small monad of wishes; encodings tell how values stand in the heap. -/
namespace Dc
open PySem PySem.Spec L2

/-! ### data as a whole -/
inductive D where
  | non | bl (b : Bool) | int (i : Int) | str (s : Str) | lst (ds : List D) | tup (ds : List D)

/-! ### the monad of wishes: c counts draws -/
structure Ex where
  cls : Nat
  val : D
abbrev WB := Nat → Prop
def W (α : Type) : Type := (α → WB) → (Ex → WB) → WB
def ret {α : Type} (x : α) : W α := fun Φ _ c => Φ x c
def bnd {α β : Type} (m : W α) (k : α → W β) : W β := fun Φ Ψ c => m (fun x c' => k x Φ Ψ c') Ψ c
def stuck {α : Type} : W α := fun _ _ _ => False
def raise {α : Type} (e : Ex) : W α := fun _ Ψ c => Ψ e c
def grd {α : Type} (b : Bool) (m : W α) : W α := fun Φ Ψ c => b = true ∧ m Φ Ψ c
def ite {α : Type} (b : Bool) (m n : W α) : W α := fun Φ Ψ c => if b = true then m Φ Ψ c else n Φ Ψ c
theorem bnd_ret {α β : Type} (x : α) (k : α → W β) : bnd (ret x) k = k x := (rfl)
theorem bnd_assoc {α β γ : Type} (m : W α) (k : α → W β) (l : β → W γ) : bnd (bnd m k) l = bnd m (fun x => bnd (k x) l) := (rfl)
theorem bnd_ret_r {α : Type} (m : W α) : bnd m ret = m := (rfl)
theorem bnd_stuck {α β : Type} (k : α → W β) : bnd stuck k = stuck := (rfl)
theorem bnd_grd {α β : Type} (b : Bool) (m : W α) (k : α → W β) : bnd (grd b m) k = grd b (bnd m k) := (rfl)
theorem grd_true {α : Type} (m : W α) : grd true m = m := by
  funext Φ Ψ c
  simp [grd]
theorem ite_true {α : Type} (m n : W α) : ite true m n = m := (rfl)
theorem ite_false {α : Type} (m n : W α) : ite false m n = n := by
  funext Φ Ψ c
  simp [ite]
theorem bnd_ite {α β : Type} (b : Bool) (m n : W α) (k : α → W β) : bnd (ite b m n) k = ite b (bnd m k) (bnd n k) := by
  funext Φ Ψ c
  cases b <;> simp [ite, bnd]
def noX : Ex → WB := fun _ _ => False

/-! ### encodings -/
abbrev AS := Addr → Prop
def Mv (O O' : AS) (H H' : Hp) : Prop := ∀ a o, ¬ O a → H a = some o → H' a = some o ∧ ¬ O' a
theorem Mv.refl {O : AS} {H : Hp} : Mv O O H H := fun _ _ h e => ⟨e, h⟩
theorem Mv.same {O : AS} {H H' : Hp} (s : Same H H') : Mv O O H H' := fun a o h e => ⟨s a o e, h⟩
theorem Mv.less {O O' : AS} {H : Hp} (h : ∀ a, O' a → O a) : Mv O O' H H := fun a _ n e => ⟨e, fun z => n (h a z)⟩
theorem Mv.trans {O O1 O2 : AS} {H H1 H2 : Hp} (x : Mv O O1 H H1) (y : Mv O1 O2 H1 H2) : Mv O O2 H H2 := fun a o n e =>
  let ⟨e1, n1⟩ := x a o n e
  y a o n1 e1
structure En (K : PySem.W.Frag) (α : Type) where
  r : AS → Hp → V → α → Prop
  mono : ∀ {O O' : AS} {H H' : Hp} {v : V} {x : α}, Mv O O' H H' → r O H v x → r O' H' v x
inductive F2 {α β : Type} (R : α → β → Prop) : List α → List β → Prop where
  | nil : F2 R [] []
  | cons {a b l m} : R a b → F2 R l m → F2 R (a :: l) (b :: m)
section
variable {α β : Type} {R S : α → β → Prop} {l : List α} {m : List β}
theorem F2.imp (h : F2 R l m) (f : ∀ a b, R a b → S a b) : F2 S l m := by
  induction h with
  | nil => exact .nil
  | cons r _ ih => exact .cons (f _ _ r) ih
theorem F2.length (h : F2 R l m) : l.length = m.length := by
  induction h with
  | nil => rfl
  | cons _ _ ih => simp [ih]
theorem F2.get (h : F2 R l m) : ∀ {i : Nat} {b : β}, m[i]? = some b → ∃ a, l[i]? = some a ∧ R a b := by
  induction h with
  | nil => intro i b e; simp at e
  | cons r _ ih =>
    intro i b e
    cases i with
    | zero => simp at e; subst e; exact ⟨_, by simp, r⟩
    | succ i => simpa using ih (by simpa using e)
theorem F2.get' (h : F2 R l m) : ∀ {i : Nat} {a : α}, l[i]? = some a → ∃ b, m[i]? = some b ∧ R a b := by
  induction h with
  | nil => intro i b e; simp at e
  | cons r _ ih =>
    intro i b e
    cases i with
    | zero => simp at e; subst e; exact ⟨_, by simp, r⟩
    | succ i => simpa using ih (by simpa using e)
theorem F2.append {l2 : List α} {m2 : List β} (h : F2 R l m) (h2 : F2 R l2 m2) : F2 R (l ++ l2) (m ++ m2) := by
  induction h with
  | nil => exact h2
  | cons r _ ih => exact .cons r ih
theorem F2.set (h : F2 R l m) : ∀ (i : Nat) {a : α} {b : β}, R a b → F2 R (l.set i a) (m.set i b) := by
  induction h with
  | nil => intro i a b _; exact .nil
  | cons r t ih =>
    intro i a b q
    cases i with
    | zero => exact .cons q t
    | succ i => exact .cons r (ih i q)
theorem F2.drop (h : F2 R l m) : ∀ (i : Nat), F2 R (l.drop i) (m.drop i) := by
  induction h with
  | nil => intro i; simp; exact .nil
  | cons r t ih =>
    intro i
    cases i with
    | zero => exact .cons r t
    | succ i => simpa using ih i
theorem F2.take (h : F2 R l m) : ∀ (i : Nat), F2 R (l.take i) (m.take i) := by
  induction h with
  | nil => intro i; simp; exact .nil
  | cons r t ih =>
    intro i
    cases i with
    | zero => simp; exact .nil
    | succ i => simpa using F2.cons r (ih i)
theorem F2.rep {a : α} {b : β} (r : R a b) : ∀ n : Nat, F2 R (List.replicate n a) (List.replicate n b)
  | 0 => .nil
  | n + 1 => .cons r (F2.rep r n)
theorem F2.rev (h : F2 R l m) : F2 R l.reverse m.reverse := by
  induction h with
  | nil => exact .nil
  | cons r _ ih => simpa using ih.append (.cons r .nil)
theorem F2.dropLast (h : F2 R l m) : F2 R l.dropLast m.dropLast := by
  rw [List.dropLast_eq_take, List.dropLast_eq_take, h.length]
  exact h.take _
theorem F2.eraseIdx (h : F2 R l m) : ∀ (i : Nat), F2 R (l.eraseIdx i) (m.eraseIdx i) := by
  induction h with
  | nil => intro i; simp; exact .nil
  | cons r t ih =>
    intro i
    cases i with
    | zero => simpa using t
    | succ i => simpa using F2.cons r (ih i)
end
section
variable {K : PySem.W.Frag} {α β γ : Type}
def kTup (K : PySem.W.Frag) (a : Addr) (xs : List V) : Prop :=
  ∃ (o : Obj) (its : Array Value) (n : Nat), K.lookup a = some o ∧ o.cls = .type "tuple" ∧ o.data = .seq its n ∧ its.size ≤ sizeLine ∧ Vals xs its.toList
def TupAt (K : PySem.W.Frag) (O : AS) (H : Hp) (a : Addr) (xs : List V) : Prop := (¬ O a ∧ Rd H a (.tup xs)) ∨ kTup K a xs
def LstAt (O : AS) (H : Hp) (a : Addr) (xs : List V) : Prop := ¬ O a ∧ H a = some (.lst xs)
def kLst (K : PySem.W.Frag) (a : Addr) (xs : List V) : Prop :=
  ∃ (o : Obj) (its : Array Value) (n : Nat), K.lookup a = some o ∧ o.cls = .type "list" ∧ o.dict = none ∧ o.data = .seq its n ∧ its.size ≤ sizeLine ∧ Vals xs its.toList
def LstR (K : PySem.W.Frag) (O : AS) (H : Hp) (a : Addr) (xs : List V) : Prop := (¬ O a ∧ Rd H a (.lst xs)) ∨ kLst K a xs
theorem Rd.mv {O O' : AS} {H H' : Hp} {a : Addr} {u : HO} (m : Mv O O' H H') (n : ¬ O a) (h : Rd H a u) : Rd H' a u ∧ ¬ O' a := by
  rcases h with h | ⟨o, h⟩
  · exact ⟨.inl (m _ _ n h).1, (m _ _ n h).2⟩
  · exact ⟨.inr ⟨o, (m _ _ n h).1⟩, (m _ _ n h).2⟩
theorem TupAt.mv {O O' : AS} {H H' : Hp} {a : Addr} {xs : List V} (m : Mv O O' H H') (h : TupAt K O H a xs) : TupAt K O' H' a xs := by
  rcases h with ⟨n, h⟩ | h
  · exact .inl ⟨(Rd.mv m n h).2, (Rd.mv m n h).1⟩
  · exact .inr h
theorem LstAt.mv {O O' : AS} {H H' : Hp} {a : Addr} {xs : List V} (m : Mv O O' H H') (h : LstAt O H a xs) : LstAt O' H' a xs := ⟨(m _ _ h.1 h.2).2, (m _ _ h.1 h.2).1⟩
theorem LstR.mv {O O' : AS} {H H' : Hp} {a : Addr} {xs : List V} (m : Mv O O' H H') (h : LstR K O H a xs) : LstR K O' H' a xs := by
  rcases h with ⟨n, h⟩ | h
  · exact .inl ⟨(Rd.mv m n h).2, (Rd.mv m n h).1⟩
  · exact .inr h
theorem LstAt.r {O : AS} {H : Hp} {a : Addr} {xs : List V} (h : LstAt O H a xs) : LstR K O H a xs := .inl ⟨h.1, .inl h.2⟩
theorem LstR.sq {O : AS} {H : Hp} {a : Addr} {xs : List V} (h : LstR K O H a xs) : SqL K H a xs := by
  rcases h with ⟨_, h⟩ | h
  · exact .inl h
  · exact .inr h
theorem SqL.r {H : Hp} {a : Addr} {xs : List V} (h : SqL K H a xs) : LstR K (fun _ => False) H a xs := by
  rcases h with h | h
  · exact .inl ⟨fun z => z, h⟩
  · exact .inr h
theorem TupAt.sq {O : AS} {H : Hp} {a : Addr} {xs : List V} (h : TupAt K O H a xs) : SqT K H a xs := by
  rcases h with ⟨_, h⟩ | h
  · exact .inl h
  · exact .inr h
theorem LstAt.sq {O : AS} {H : Hp} {a : Addr} {xs : List V} (h : LstAt O H a xs) : SqL K H a xs := .inl (.inl h.2)
def eI : En K Int := ⟨fun _ _ v x => v = .int x, fun _ h => h⟩
def eB : En K Bool := ⟨fun _ _ v x => v = .bl x, fun _ h => h⟩
def eS : En K Str := ⟨fun _ _ v x => v = .str x, fun _ h => h⟩
def eU : En K Unit := ⟨fun _ _ v _ => v = .non, fun _ h => h⟩
/-- a list that nobody writes at -/
def eL (e : En K α) : En K (List α) := ⟨fun O H v xs => ∃ a vs, v = .ref a ∧ LstAt O H a vs ∧ F2 (e.r O H) vs xs, fun m ⟨a, vs, e1, h, f⟩ => ⟨a, vs, e1, h.mv m, f.imp fun _ _ => e.mono m⟩⟩
/-- a list that is read alone (the script) -/
def eR (e : En K α) : En K (List α) := ⟨fun O H v xs => ∃ a vs, v = .ref a ∧ LstR K O H a vs ∧ F2 (e.r O H) vs xs, fun m ⟨a, vs, e1, h, f⟩ => ⟨a, vs, e1, h.mv m, f.imp fun _ _ => e.mono m⟩⟩
theorem eL_R {e : En K α} {O : AS} {H : Hp} {v : V} {xs : List α} (h : (eL e).r O H v xs) : (eR e).r O H v xs := by
  obtain ⟨a, vs, e1, l, f⟩ := h
  exact ⟨a, vs, e1, l.r, f⟩
/-- a tuple of two, three -/
def eP (e : En K α) (f : En K β) : En K (α × β) :=
  ⟨fun O H v x => ∃ a u w, v = .ref a ∧ TupAt K O H a [u, w] ∧ e.r O H u x.1 ∧ f.r O H w x.2, fun m ⟨a, u, w, e1, h, p, q⟩ => ⟨a, u, w, e1, h.mv m, e.mono m p, f.mono m q⟩⟩
def eP3 (e : En K α) (f : En K β) (g : En K γ) : En K (α × β × γ) :=
  ⟨fun O H v x => ∃ a u w z, v = .ref a ∧ TupAt K O H a [u, w, z] ∧ e.r O H u x.1 ∧ f.r O H w x.2.1 ∧ g.r O H z x.2.2, fun m ⟨a, u, w, z, e1, h, p, q, s⟩ => ⟨a, u, w, z, e1, h.mv m, e.mono m p, f.mono m q, g.mono m s⟩⟩
/-- None, or a value that is not None -/
def eO (e : En K α) : En K (Option α) :=
  ⟨fun O H v x => match x with | none => v = .non | some y => e.r O H v y ∧ v ≠ .non, fun {O O' H H' v x} m h => by
    cases x with
    | none => exact h
    | some y => exact ⟨e.mono m h.1, h.2⟩⟩
/-- a number -/
abbrev eN : En K (Int × Int) := eP eI eI
end

mutual
def rD (K : PySem.W.Frag) (O : AS) (H : Hp) : V → D → Prop
  | v, .non => v = .non
  | v, .bl b => v = .bl b
  | v, .int i => v = .int i
  | v, .str s => v = .str s
  | v, .lst ds => ∃ a vs, v = .ref a ∧ LstAt O H a vs ∧ rDs K O H vs ds
  | v, .tup ds => ∃ a vs, v = .ref a ∧ TupAt K O H a vs ∧ rDs K O H vs ds
def rDs (K : PySem.W.Frag) (O : AS) (H : Hp) : List V → List D → Prop
  | vs, [] => vs = []
  | vs, d :: ds => ∃ v r, vs = v :: r ∧ rD K O H v d ∧ rDs K O H r ds
end
mutual
theorem rD.mono {K : PySem.W.Frag} {O O' : AS} {H H' : Hp} (m : Mv O O' H H') : ∀ {v : V} (d : D), rD K O H v d → rD K O' H' v d
  | _, .non, h => h
  | _, .bl _, h => h
  | _, .int _, h => h
  | _, .str _, h => h
  | _, .lst ds, h => by
    obtain ⟨a, vs, e, l, r⟩ := (by simpa only [rD] using h : ∃ a vs, _)
    simp only [rD]
    exact ⟨a, vs, e, l.mv m, rDs.mono m ds r⟩
  | _, .tup ds, h => by
    obtain ⟨a, vs, e, l, r⟩ := (by simpa only [rD] using h : ∃ a vs, _)
    simp only [rD]
    exact ⟨a, vs, e, l.mv m, rDs.mono m ds r⟩
theorem rDs.mono {K : PySem.W.Frag} {O O' : AS} {H H' : Hp} (m : Mv O O' H H') : ∀ {vs : List V} (ds : List D), rDs K O H vs ds → rDs K O' H' vs ds
  | _, [], h => h
  | _, d :: ds, h => by
    obtain ⟨v, r, e, p, q⟩ := (by simpa only [rDs] using h : ∃ v r, _)
    simp only [rDs]
    exact ⟨v, r, e, rD.mono m d p, rDs.mono m ds q⟩
end
def eD {K : PySem.W.Frag} : En K D := ⟨rD K, fun m h => rD.mono m _ h⟩

/-! ### owned things -/
structure On (K : PySem.W.Frag) (α : Type) where
  r : AS → Hp → Addr → α → Prop
  mono : ∀ {O O' : AS} {H H' : Hp} {a : Addr} {x : α}, Mv O O' H H' → H' a = H a → r O H a x → r O' H' a x
  dom : ∀ {O : AS} {H : Hp} {a : Addr} {x : α}, r O H a x → H a ≠ none
/-- a list of one's own -/
def oL {K : PySem.W.Frag} {α : Type} (e : En K α) : On K (List α) :=
  ⟨fun O H a xs => ∃ vs, H a = some (.lst vs) ∧ F2 (e.r O H) vs xs, fun m h ⟨vs, q, f⟩ => ⟨vs, h.trans q, f.imp fun _ _ => e.mono m⟩, fun ⟨vs, q, _⟩ z => by rw [q] at z; cases z⟩

/-! ### what a law's pool of draws is: two objects -/
structure PoolK where
  r : Hp → Addr → Addr → Nat → Prop
  keep : ∀ {H H' : Hp} {a b : Addr} {c : Nat}, H' a = H a → H' b = H b → r H a b c → r H' a b c
  dom : ∀ {H : Hp} {a b : Addr} {c : Nat}, r H a b c → H a ≠ none ∧ H b ≠ none
abbrev PP := Option (Addr × Addr)
def foot (pp : PP) (x : Addr) : Prop := match pp with | none => False | some (a, b) => x = a ∨ x = b
def PoolOk (PK : PoolK) (pp : PP) (H : Hp) (c : Nat) : Prop := match pp with | none => True | some (a, b) => PK.r H a b c

/-! ### the slots -/
inductive Sl (K : PySem.W.Frag) : Type 1 where
  | nil
  | sh {α : Type} (en : En K α) (x : α)
  | ow {α : Type} (a : Addr) (on : On K α) (x : α)
  | pl
section
variable {K : PySem.W.Frag}
def get : List (Sl K) → Nat → Sl K
  | [], _ => .nil
  | s :: _, 0 => s
  | _ :: r, n + 1 => get r n
def put : List (Sl K) → Nat → Sl K → List (Sl K)
  | [], _, _ => []
  | _ :: r, 0, e => e :: r
  | s :: r, n + 1, e => s :: put r n e
def own1 : Sl K → List Addr
  | .ow a _ _ => [a]
  | _ => []
def owns : List (Sl K) → List Addr
  | [] => []
  | s :: r => own1 s ++ owns r
def SlOk (A : AS) (pp : PP) (H : Hp) (σ : St) (i : Nat) : Sl K → Prop
  | .nil => True
  | .sh en x => ∃ v, σ[i]? = some (some v) ∧ en.r A H v x
  | .ow a on x => σ[i]? = some (some (.ref a)) ∧ on.r A H a x
  | .pl => ∃ a b, pp = some (a, b) ∧ σ[i]? = some (some (.ref a))
def Av (O : AS) (pp : PP) (ρ : List (Sl K)) : AS := fun a => O a ∨ foot pp a ∨ a ∈ owns ρ
structure Sat (PK : PoolK) (O : AS) (pp : PP) (ρ : List (Sl K)) (c : Nat) (σ : St) (H : Hp) : Prop where
  len : σ.length = ρ.length
  nd : (owns ρ).Nodup
  new : ∀ a ∈ owns ρ, ¬ O a ∧ ¬ foot pp a
  dom : ∀ a, O a → H a ≠ none
  pool : PoolOk PK pp H c
  slots : ∀ i, SlOk (Av O pp ρ) pp H σ i (get ρ i)
theorem get_put_self : ∀ {ρ : List (Sl K)} {i : Nat} {s : Sl K}, get (put ρ i s) i = s ∨ get (put ρ i s) i = .nil
  | [], i, s => .inr (by cases i <;> rfl)
  | _ :: r, 0, s => .inl rfl
  | _ :: r, i + 1, s => get_put_self (ρ := r)
theorem get_put_ne : ∀ {ρ : List (Sl K)} {i j : Nat} {s : Sl K}, j ≠ i → get (put ρ i s) j = get ρ j
  | [], i, j, s, h => rfl
  | x :: r, 0, 0, s, h => absurd rfl h
  | x :: r, 0, j + 1, s, h => rfl
  | x :: r, i + 1, 0, s, h => rfl
  | x :: r, i + 1, j + 1, s, h => get_put_ne (ρ := r) (fun e => h (by omega))
theorem mem_owns : ∀ {ρ : List (Sl K)} {a : Addr}, a ∈ owns ρ → ∃ i, ∃ (α : Type) (on : On K α) (x : α), get ρ i = .ow a on x
  | [], a, h => by cases h
  | s :: r, a, h => by
    rcases List.mem_append.mp h with h | h
    · cases s with
      | ow b on x =>
        have e : a = b := by simpa [own1] using h
        subst e
        exact ⟨0, _, on, x, rfl⟩
      | nil => cases h
      | sh _ _ => cases h
      | pl => cases h
    · obtain ⟨i, α, on, x, e⟩ := mem_owns h
      exact ⟨i + 1, α, on, x, e⟩
theorem owns_mem : ∀ {ρ : List (Sl K)} {i : Nat} {α : Type} {a : Addr} {on : On K α} {x : α}, get ρ i = .ow a on x → a ∈ owns ρ
  | [], i, α, a, on, x, h => by cases h
  | s :: r, 0, α, a, on, x, h => by
    have e : s = .ow a on x := h
    subst e
    exact List.mem_append.mpr (.inl (by simp [own1]))
  | s :: r, i + 1, α, a, on, x, h => List.mem_append.mpr (.inr (owns_mem (ρ := r) h))
/-- what is put is among what is owned then; all else was -/
theorem owns_put : ∀ {ρ : List (Sl K)} {i : Nat} {s : Sl K} {b : Addr}, b ∈ owns (put ρ i s) → b ∈ own1 s ∨ b ∈ owns ρ
  | [], i, s, b, h => .inr h
  | x :: r, 0, s, b, h => by
    rcases List.mem_append.mp h with h | h
    · exact .inl h
    · exact .inr (List.mem_append.mpr (.inr h))
  | x :: r, i + 1, s, b, h => by
    rcases List.mem_append.mp h with h | h
    · exact .inr (List.mem_append.mpr (.inl h))
    · rcases owns_put (ρ := r) h with h | h
      · exact .inl h
      · exact .inr (List.mem_append.mpr (.inr h))
theorem owns_put_nodup : ∀ {ρ : List (Sl K)} {i : Nat} {s : Sl K}, (owns ρ).Nodup → (own1 s).Nodup → (∀ b ∈ own1 s, b ∉ owns ρ) → (owns (put ρ i s)).Nodup
  | [], i, s, h, _, _ => h
  | x :: r, 0, s, h, h1, h2 => by
    have h : (own1 x ++ owns r).Nodup := h
    rw [List.nodup_append] at h
    show (own1 s ++ owns r).Nodup
    rw [List.nodup_append]
    refine ⟨h1, h.2.1, fun a ha b hb e => ?_⟩
    subst e
    exact h2 a ha (List.mem_append.mpr (.inr hb))
  | x :: r, i + 1, s, h, h1, h2 => by
    have h : (own1 x ++ owns r).Nodup := h
    rw [List.nodup_append] at h
    show (own1 x ++ owns (put r i s)).Nodup
    rw [List.nodup_append]
    refine ⟨h.1, owns_put_nodup h.2.1 h1 fun b hb hr => h2 b hb (List.mem_append.mpr (.inr hr)), fun a ha b hb e => ?_⟩
    subst e
    rcases owns_put hb with hb | hb
    · exact h2 a hb (List.mem_append.mpr (.inl ha))
    · exact h.2.2 a ha a hb rfl
theorem own1_nodup (s : Sl K) : (own1 s).Nodup := by
  cases s <;> simp [own1]
/-- an owned thing changed in place: nothing else is owned -/
theorem owns_same : ∀ {ρ : List (Sl K)} {i : Nat} {α β : Type} {a : Addr} {on : On K α} {x : α} {on' : On K β} {y : β}, get ρ i = .ow a on x → owns (put ρ i (.ow a on' y)) = owns ρ
  | [], i, α, β, a, on, x, on', y, h => by cases h
  | s :: r, 0, α, β, a, on, x, on', y, h => by
    have e : s = .ow a on x := h
    subst e
    rfl
  | s :: r, i + 1, α, β, a, on, x, on', y, h => by
    show own1 s ++ owns (put r i _) = own1 s ++ owns r
    rw [owns_same (ρ := r) h]
theorem owns_free : ∀ {ρ : List (Sl K)} {i : Nat} {s : Sl K}, own1 s = [] → own1 (get ρ i) = [] → owns (put ρ i s) = owns ρ
  | [], i, s, _, _ => rfl
  | x :: r, 0, s, h, h2 => by
    show own1 s ++ owns r = own1 x ++ owns r
    rw [h, show own1 x = [] from h2]
  | x :: r, i + 1, s, h, h2 => by
    show own1 x ++ owns (put r i s) = own1 x ++ owns r
    rw [owns_free (ρ := r) h h2]
/-- an address is owned at one slot alone -/
theorem owns_inj : ∀ {ρ : List (Sl K)} {i j : Nat} {α β : Type} {a : Addr} {on : On K α} {x : α} {on' : On K β} {y : β}, (owns ρ).Nodup → get ρ i = .ow a on x → get ρ j = .ow a on' y → i = j
  | [], i, j, α, β, a, on, x, on', y, _, h, _ => by cases h
  | s :: r, 0, 0, α, β, a, on, x, on', y, _, _, _ => rfl
  | s :: r, 0, j + 1, α, β, a, on, x, on', y, n, h, h' => by
    have n : (own1 s ++ owns r).Nodup := n
    rw [List.nodup_append] at n
    have e : s = .ow a on x := h
    exact absurd rfl (n.2.2 a (by rw [e]; simp [own1]) a (owns_mem (ρ := r) h'))
  | s :: r, i + 1, 0, α, β, a, on, x, on', y, n, h, h' => by
    have n : (own1 s ++ owns r).Nodup := n
    rw [List.nodup_append] at n
    have e : s = .ow a on' y := h'
    exact absurd rfl (n.2.2 a (by rw [e]; simp [own1]) a (owns_mem (ρ := r) h))
  | s :: r, i + 1, j + 1, α, β, a, on, x, on', y, n, h, h' => by
    have n : (own1 s ++ owns r).Nodup := n
    rw [List.nodup_append] at n
    rw [owns_inj (ρ := r) n.2.1 h h']
theorem get_len : ∀ {ρ : List (Sl K)} {i : Nat}, get ρ i ≠ .nil → i < ρ.length
  | [], i, h => absurd (by cases i <;> rfl) h
  | _ :: r, 0, h => by simp
  | _ :: r, i + 1, h => by
    have := get_len (ρ := r) (i := i) h
    simp; omega
end
end Dc
/-! DcB: readings from wishes; expressions. -/
namespace Dc
open PySem PySem.Spec L2
section
variable {K : PySem.W.Frag} {PK : PoolK} {pp : PP} {ρ : List (Sl K)} {O : AS} {c : Nat} {σ : St} {H H' : Hp} {α β γ : Type}
def Dom (A : AS) (H : Hp) : Prop := ∀ a, A a → H a ≠ none
def Chg (pp : PP) (H H' : Hp) : Prop := ∀ a o, H a = some o → ¬ foot pp a → H' a = some o
theorem Chg.of (s : Same H H') : Chg pp H H' := fun a o e _ => s a o e
theorem Chg.refl : Chg pp H H := fun _ _ e _ => e
theorem Chg.trans {H1 : Hp} (x : Chg pp H H1) (y : Chg pp H1 H') : Chg pp H H' := fun a o e n => y a o (x a o e n) n
theorem Chg.mv (x : Chg pp H H') : Mv (Av O pp ρ) (Av O pp ρ) H H' := fun a o n e => ⟨x a o e fun z => n (.inr (.inl z)), n⟩
theorem put_len : ∀ {ρ : List (Sl K)} {i : Nat} {s : Sl K}, (put ρ i s).length = ρ.length
  | [], _, _ => rfl
  | _ :: _, 0, _ => rfl
  | _ :: r, i + 1, s => by
    show (put r i s).length + 1 = r.length + 1
    rw [put_len]
theorem Sat.av (S : Sat PK O pp ρ c σ H) : Dom (Av O pp ρ) H := fun a h => by
  rcases h with h | h | h
  · exact S.dom a h
  · cases pp with
    | none => exact h.elim
    | some p =>
      obtain ⟨a1, b1⟩ := p
      have q : PK.r H a1 b1 c := S.pool
      rcases (show a = a1 ∨ a = b1 from h) with e | e
      · rw [e]; exact (PK.dom q).1
      · rw [e]; exact (PK.dom q).2
  · obtain ⟨i, α, on, x, e⟩ := mem_owns h
    have q := S.slots i
    rw [e] at q
    exact on.dom q.2
theorem same_at (s : Same H H') {a : Addr} (h : H a ≠ none) : H' a = H a := by
  cases e : H a with
  | none => exact absurd e h
  | some o => exact s a o e
theorem SlOk.mv {A A' : AS} {i : Nat} {s : Sl K} (m : Mv A A' H H') (h : SlOk A pp H σ i s) (ho : ∀ a ∈ own1 s, H' a = H a) : SlOk A' pp H' σ i s := by
  cases s with
  | nil => exact True.intro
  | sh en x =>
    obtain ⟨v, e, r⟩ := h
    exact ⟨v, e, en.mono m r⟩
  | ow a on x => exact ⟨h.1, on.mono m (ho a (by simp [own1])) h.2⟩
  | pl => exact h
theorem Sat.same (S : Sat PK O pp ρ c σ H) (s : Same H H') : Sat PK O pp ρ c σ H' := by
  refine ⟨S.len, S.nd, S.new, fun a h => ?_, ?_, fun i => ?_⟩
  · rw [same_at s (S.dom a h)]; exact S.dom a h
  · cases pp with
    | none => exact True.intro
    | some p =>
      obtain ⟨a, b⟩ := p
      have q : PK.r H a b c := S.pool
      exact PK.keep (same_at s (PK.dom q).1) (same_at s (PK.dom q).2) q
  · refine (S.slots i).mv (Mv.same s) fun a ha => ?_
    cases e : get ρ i with
    | ow b on x =>
      rw [e] at ha
      have ha : a = b := by simpa [own1] using ha
      subst ha
      have q := S.slots i
      rw [e] at q
      exact same_at s (on.dom q.2)
    | _ => rw [e] at ha; cases ha
/-- an expression's reading -/
def rdE (PK : PoolK) (pp : PP) (ρ : List (Sl K)) (w : W α) (en : En K α) : TE := fun σ H Q => ∃ O Φ c, Sat PK O pp ρ c σ H ∧ w Φ noX c ∧
  ∀ x v H' c', Φ x c' → Chg pp H H' → Sat PK O pp ρ c' σ H' → en.r (Av O pp ρ) H' v x → Q v H'
def rdT (PK : PoolK) (pp : PP) (ρ : List (Sl K)) (w : W Bool) : TT := fun σ H Q => ∃ O Φ c, Sat PK O pp ρ c σ H ∧ w Φ noX c ∧
  ∀ x H' c', Φ x c' → Chg pp H H' → Sat PK O pp ρ c' σ H' → Q x H'
/-- encodings of argument lists -/
structure EA (K : PySem.W.Frag) (α : Type) where
  r : PP → AS → Hp → List V → α → Prop
  ents : α → List (Sl K)
  mono : ∀ {pp : PP} {O O' : AS} {H H' : Hp} {v : List V} {x : α}, Mv O O' H H' → r pp O H v x → r pp O' H' v x
  len : Nat
  hlen : ∀ {pp : PP} {O : AS} {H : Hp} {v : List V} {x : α}, r pp O H v x → v.length = len
  elen : ∀ x, (ents x).length = len
  eown : ∀ x, owns (ents x) = []
  eok : ∀ {pp : PP} {O : AS} {H : Hp} {v : List V} {x : α} {tl : St} (i : Nat), r pp O H v x → SlOk O pp H (v.map some ++ tl) i (get (ents x) i)
theorem SlOk.sft {A : AS} {pp : PP} {H : Hp} {σ : St} {i : Nat} {y : Option V} {s : Sl K} (h : SlOk A pp H σ i s) : SlOk A pp H (y :: σ) (i + 1) s := by
  cases s <;> simpa [SlOk] using h
def aN : EA K Unit := ⟨fun _ _ _ vs _ => vs = [], fun _ => [], fun _ h => h, 0, fun h => by rw [h]; rfl, fun _ => rfl, fun _ => rfl, fun i _ => True.intro⟩
def aC (e : En K α) (a : EA K β) : EA K (α × β) := ⟨fun pp O H vs x => ∃ v r, vs = v :: r ∧ e.r O H v x.1 ∧ a.r pp O H r x.2, fun x => .sh e x.1 :: a.ents x.2, fun m ⟨v, r, e1, p, q⟩ => ⟨v, r, e1, e.mono m p, a.mono m q⟩, a.len + 1,
  fun ⟨v, r, e1, _, q⟩ => by rw [e1, List.length_cons, a.hlen q], fun x => by rw [List.length_cons, a.elen], fun x => a.eown x.2, fun i ⟨v, r, e1, p, q⟩ => by
    subst e1
    cases i with
    | zero => exact ⟨v, rfl, p⟩
    | succ i => exact (a.eok i q).sft⟩
/-- the pool, handed on -/
def aPl (a : EA K β) : EA K β := ⟨fun pp O H vs x => ∃ b d r, pp = some (b, d) ∧ vs = .ref b :: r ∧ a.r pp O H r x, fun x => .pl :: a.ents x, fun m ⟨b, d, r, e1, e2, q⟩ => ⟨b, d, r, e1, e2, a.mono m q⟩, a.len + 1,
  fun ⟨_, _, r, _, e1, q⟩ => by rw [e1, List.length_cons, a.hlen q], fun x => by rw [List.length_cons, a.elen], fun x => a.eown x, fun i ⟨b, d, r, e1, e2, q⟩ => by
    subst e2
    cases i with
    | zero => exact ⟨b, d, e1, rfl⟩
    | succ i => exact (a.eok i q).sft⟩
def rdA (PK : PoolK) (pp : PP) (ρ : List (Sl K)) (w : W α) (en : EA K α) : TA := fun σ H Q => ∃ O Φ c, Sat PK O pp ρ c σ H ∧ w Φ noX c ∧
  ∀ x v H' c', Φ x c' → Chg pp H H' → Sat PK O pp ρ c' σ H' → en.r pp (Av O pp ρ) H' v x → Q v H'
end
section
variable {X : Cx} {PK : PoolK} {pp : PP} {ρ : List (Sl X.K)} {α β γ δ : Type}
abbrev PX (X : Cx) (PK : PoolK) (pp : PP) (ρ : List (Sl X.K)) (e : Expr) (w : W α) (en : En X.K α) : Prop := PE X e (rdE PK pp ρ w en)
abbrev PTX (X : Cx) (PK : PoolK) (pp : PP) (ρ : List (Sl X.K)) (e : Expr) (w : W Bool) : Prop := PT X e (rdT PK pp ρ w)
abbrev PAX (X : Cx) (PK : PoolK) (pp : PP) (ρ : List (Sl X.K)) (es : List Expr) (w : W α) (en : EA X.K α) : Prop := PA X es (rdA PK pp ρ w en)
theorem _root_.L2.PE.weak {X : Cx} {e : Expr} {t t' : TE} (h : PE X e t) (f : ∀ σ H Q, t' σ H Q → t σ H Q) : PE X e t' := ⟨fun pins s σ H Q I q => h.run pins s σ H Q I (f σ H Q q)⟩
theorem _root_.L2.PT.weak {X : Cx} {e : Expr} {t t' : TT} (h : PT X e t) (f : ∀ σ H Q, t' σ H Q → t σ H Q) : PT X e t' := ⟨fun pins s σ H Q I q => h.run pins s σ H Q I (f σ H Q q)⟩
theorem _root_.L2.PA.weak {X : Cx} {e : List Expr} {t t' : TA} (h : PA X e t) (f : ∀ σ H Q, t' σ H Q → t σ H Q) : PA X e t' := ⟨fun pos pins s σ H Q I q => h.run pos pins s σ H Q I (f σ H Q q)⟩
variable {e a b : Expr} {pos : Pos}

/-! ### names, constants -/
theorem xv (i : Nat) {x : Str} {en : En X.K α} {y : α} (hg : get ρ i = .sh en y) (hN : X.N[i]? = some x := by rfl)
    (hv : Vis X.env.scope x := by first | exact Or.inl rfl | exact Or.inr (Or.inl rfl) | exact Or.inr (Or.inr rfl)) (hd : (x == ("__debug__" : Str)) = false := by decide) (hcd : (x == ("__classdict__" : Str)) = false := by decide) :
    PX X PK pp ρ (.Name x pos) (ret y) en := (pe_var hN hv hd hcd).weak fun σ H Q ⟨O, Φ, c, S, hw, k⟩ => by
  have q := S.slots i
  rw [hg] at q
  obtain ⟨v, e, r⟩ := q
  exact ⟨v, e, k y v H c hw .refl S r⟩
theorem xint {i : Int} {j} : PX X PK pp ρ (.Constant (.int i) j pos) (ret i) eI := pe_int.weak fun σ H Q ⟨O, Φ, c, S, hw, k⟩ => k i _ H c hw .refl S rfl
theorem xbl {i : Bool} {j} : PX X PK pp ρ (.Constant (.bool i) j pos) (ret i) eB := pe_bl.weak fun σ H Q ⟨O, Φ, c, S, hw, k⟩ => k i _ H c hw .refl S rfl
theorem xstr {i : Str} {j} : PX X PK pp ρ (.Constant (.str i) j pos) (ret i) eS := pe_str.weak fun σ H Q ⟨O, Φ, c, S, hw, k⟩ => k i _ H c hw .refl S rfl
theorem xnon {j} : PX X PK pp ρ (.Constant .none j pos) (ret ()) eU := pe_non.weak fun σ H Q ⟨O, Φ, c, S, hw, k⟩ => k () _ H c hw .refl S rfl
/-- a module's constant -/
theorem xglob {x : Str} {v : V} {u : Value} {en : En X.K α} {y : α} (hg : Gl X x) (hm : X.mg x = some u) (r : RelV v u) (he : ∀ O H, en.r O H v y) (hd : (x == ("__debug__" : Str)) = false := by decide) :
    PX X PK pp ρ (.Name x pos) (ret y) en := (pe_glob hg hm r hd).weak fun σ H Q ⟨O, Φ, c, S, hw, k⟩ => k y _ H c hw .refl S (he _ _)

/-! ### operators -/
/-- by values: pre, res -/
def OpW (X : Cx) (f : Value → Value → Sem Value) (e1 : En X.K α) (e2 : En X.K β) (e3 : En X.K γ) (pre : α → β → Bool) (res : α → β → γ) : Prop :=
  OpR X f fun x y H Q => ∃ A a b, Dom A H ∧ e1.r A H x a ∧ e2.r A H y b ∧ pre a b = true ∧ ∀ v H', Same H H' → e3.r A H' v (res a b) → Q v H'
/-- two expressions, one behind the other -/
theorem two {wa : W α} {wb : W β} {ea : En X.K α} {eb : En X.K β} {σ : St} {H : Hp} {Φ : γ → WB} {g : α → β → W γ} {O : AS} {c : Nat} {R : V → V → Hp → Prop} (S : Sat PK O pp ρ c σ H)
    (hw : bnd wa (fun x => bnd wb fun y => g x y) Φ noX c) (k : ∀ x y v u H' c', g x y Φ noX c' → Chg pp H H' → Sat PK O pp ρ c' σ H' → ea.r (Av O pp ρ) H' v x → eb.r (Av O pp ρ) H' u y → R v u H') :
    rdE PK pp ρ wa ea σ H fun v H1 => rdE PK pp ρ wb eb σ H1 fun u H2 => R v u H2 :=
  ⟨O, _, c, S, hw, fun x v H1 c1 p1 ch1 S1 r1 => ⟨O, _, c1, S1, p1, fun y u H2 c2 p2 ch2 S2 r2 => k x y v u H2 c2 p2 (ch1.trans ch2) S2 (ea.mono ch2.mv r1) r2⟩⟩
theorem xop {op : Operator} {wa : W α} {wb : W β} {e1 : En X.K α} {e2 : En X.K β} {e3 : En X.K γ} {pre : α → β → Bool} {res : α → β → γ} (ho : OpW X (binaryOp op) e1 e2 e3 pre res) (ha : PX X PK pp ρ a wa e1) (hb : PX X PK pp ρ b wb e2) :
    PX X PK pp ρ (.BinOp a op b pos) (bnd wa fun x => bnd wb fun y => grd (pre x y) (ret (res x y))) e3 := (pe_op ho ha hb).weak fun σ H Q ⟨O, Φ, c, S, hw, k⟩ =>
  two S hw fun x y v u H' c' p ch S' r1 r2 => ⟨_, x, y, S'.av, r1, r2, p.1, fun z H2 s r3 => k _ _ _ _ p.2 (ch.trans (.of s)) (S'.same s) r3⟩
theorem xop0 {op : Operator} {wa : W α} {wb : W β} {e1 : En X.K α} {e2 : En X.K β} {e3 : En X.K γ} {res : α → β → γ} (ho : OpW X (binaryOp op) e1 e2 e3 (fun _ _ => true) res) (ha : PX X PK pp ρ a wa e1) (hb : PX X PK pp ρ b wb e2) :
    PX X PK pp ρ (.BinOp a op b pos) (bnd wa fun x => bnd wb fun y => ret (res x y)) e3 := (pe_op ho ha hb).weak fun σ H Q ⟨O, Φ, c, S, hw, k⟩ =>
  two S hw fun x y v u H' c' p ch S' r1 r2 => ⟨_, x, y, S'.av, r1, r2, rfl, fun z H2 s r3 => k _ _ _ _ p (ch.trans (.of s)) (S'.same s) r3⟩
theorem xcmp {op : CmpOp} {wa : W α} {wb : W β} {e1 : En X.K α} {e2 : En X.K β} {e3 : En X.K γ} {res : α → β → γ} (ho : OpW X (compareOp op) e1 e2 e3 (fun _ _ => true) res) (ha : PX X PK pp ρ a wa e1) (hb : PX X PK pp ρ b wb e2) (hm : behindInMarks op b = false := by first | exact nomark _ | rfl) :
    PX X PK pp ρ (.Compare a [op] [b] pos) (bnd wa fun x => bnd wb fun y => ret (res x y)) e3 := (pe_cmpR ho ha hb hm).weak fun σ H Q ⟨O, Φ, c, S, hw, k⟩ =>
  two S hw fun x y v u H' c' p ch S' r1 r2 => ⟨_, x, y, S'.av, r1, r2, rfl, fun z H2 s r3 => k _ _ _ _ p (ch.trans (.of s)) (S'.same s) r3⟩
theorem tcmp {op : CmpOp} {wa : W α} {wb : W β} {e1 : En X.K α} {e2 : En X.K β} {res : α → β → Bool} (ho : OpW X (compareOp op) e1 e2 eB (fun _ _ => true) res) (ha : PX X PK pp ρ a wa e1) (hb : PX X PK pp ρ b wb e2) (hm : behindInMarks op b = false := by first | exact nomark _ | rfl) :
    PTX X PK pp ρ (.Compare a [op] [b] pos) (bnd wa fun x => bnd wb fun y => ret (res x y)) := (pt_cmpR ho ha hb hm).weak fun σ H Q ⟨O, Φ, c, S, hw, k⟩ =>
  two S hw fun x y v u H' c' p ch S' r1 r2 => ⟨_, x, y, S'.av, r1, r2, rfl, fun z H2 s r3 => ⟨_, r3, k _ _ _ p (ch.trans (.of s)) (S'.same s)⟩⟩
def UnW (X : Cx) (f : Value → Sem Value) (e1 : En X.K α) (e3 : En X.K γ) (res : α → γ) : Prop :=
  UnR X f fun x H Q => ∃ A a, Dom A H ∧ e1.r A H x a ∧ ∀ v H', Same H H' → e3.r A H' v (res a) → Q v H'
theorem xun {op : UnaryOp} {wa : W α} {e1 : En X.K α} {e3 : En X.K γ} {res : α → γ} (ho : UnW X (unaryOp op) e1 e3 res) (ha : PX X PK pp ρ a wa e1) :
    PX X PK pp ρ (.UnaryOp op a pos) (bnd wa fun x => ret (res x)) e3 := (pe_un ho ha).weak fun σ H Q ⟨O, Φ, c, S, hw, k⟩ =>
  ⟨O, _, c, S, hw, fun x v H' c' p ch S' r1 => ⟨_, x, S'.av, r1, fun z H2 s r3 => k _ _ _ _ p (ch.trans (.of s)) (S'.same s) r3⟩⟩

/-! the rules of ints -/
theorem opII {f : Value → Value → Sem Value} {g : Int → Int → Int} (h : OpR X f (rI0 fun i j => .int (g i j))) : OpW X f (eI : En X.K Int) eI eI (fun _ _ => true) g := by
  intro pins s σ H x y v u Q I rx ry ⟨A, i, j, _, r1, r2, _, k⟩
  exact h pins s σ H x y v u Q I rx ry ⟨i, j, r1, r2, k _ _ (.refl _) rfl⟩
theorem opIIc {f : Value → Value → Sem Value} {C : Int → Int → Prop} {g : Int → Int → Int} {pre : Int → Int → Bool} (h : OpR X f (rI C fun i j => .int (g i j))) (hp : ∀ i j, pre i j = true → C i j) : OpW X f (eI : En X.K Int) eI eI pre g := by
  intro pins s σ H x y v u Q I rx ry ⟨A, i, j, _, r1, r2, p, k⟩
  exact h pins s σ H x y v u Q I rx ry ⟨i, j, r1, r2, hp i j p, k _ _ (.refl _) rfl⟩
theorem opIB {f : Value → Value → Sem Value} {g : Int → Int → Bool} (h : OpR X f (rI0 fun i j => .bl (g i j))) : OpW X f (eI : En X.K Int) eI eB (fun _ _ => true) g := by
  intro pins s σ H x y v u Q I rx ry ⟨A, i, j, _, r1, r2, _, k⟩
  exact h pins s σ H x y v u Q I rx ry ⟨i, j, r1, r2, k _ _ (.refl _) rfl⟩
def mulOk (i j : Int) : Bool := decide (Builtin.Int.intBits i + Builtin.Int.intBits j ≤ 134217728)
def divOk (_ j : Int) : Bool := decide (0 < j) && decide (j.natAbs.log2 < 9000)
def ndivOk (_ j : Int) : Bool := decide (j < 0) && decide (j.natAbs.log2 < 9000)
def modOk (_ j : Int) : Bool := decide (0 < j)
def powOk (i j : Int) : Bool := decide (0 ≤ j) && decide ((Builtin.Int.intBits i : Int) * j ≤ 134217728)
theorem w_add : OpW X (binaryOp .Add) (eI : En X.K Int) eI eI (fun _ _ => true) (· + ·) := opII op_add
theorem w_sub : OpW X (binaryOp .Sub) (eI : En X.K Int) eI eI (fun _ _ => true) (· - ·) := opII op_sub
theorem w_mul : OpW X (binaryOp .Mult) (eI : En X.K Int) eI eI mulOk (· * ·) := opIIc op_mulX fun i j h => by
  have := of_decide_eq_true h
  show (Builtin.Int.intBits i : Int) + (Builtin.Int.intBits j : Int) ≤ 134217728
  omega
theorem w_mod : OpW X (binaryOp .Mod) (eI : En X.K Int) eI eI modOk (· % ·) := opIIc op_mod fun i j h => of_decide_eq_true h
theorem op_fdivA : OpR X (binaryOp .FloorDiv) (rI (fun _ j => j ≠ 0 ∧ j.natAbs.log2 < 9000) fun i j => .int (i.fdiv j)) := opI fun i j _ _ _ _ _ hc q =>
  PyProof.Rows.floordiv_int hc.1 q (.inl (PyProof.noPylong_of_log2 hc.2))
def fdivOk (_ j : Int) : Bool := decide (j ≠ 0) && decide (j.natAbs.log2 < 9000)
theorem w_fdiv : OpW X (binaryOp .FloorDiv) (eI : En X.K Int) eI eI fdivOk Int.fdiv := opIIc op_fdivA fun i j h => by
  simpa [fdivOk] using h
theorem op_powX : OpR X (binaryOp .Pow) (rI (fun i j => 0 ≤ j ∧ (Builtin.Int.intBits i : Int) * j ≤ 2 ^ 27) fun i j => .int (i ^ j.toNat)) := opI fun _ _ _ _ _ _ _ hc q => PyProof.Rows.pow_int hc.1 hc.2 q
theorem w_pow : OpW X (binaryOp .Pow) (eI : En X.K Int) eI eI powOk (fun i j => i ^ j.toNat) := opIIc op_powX fun i j h => by
  simp only [powOk, Bool.and_eq_true, decide_eq_true_eq] at h
  exact ⟨h.1, by have := h.2; omega⟩
theorem w_neg : UnW X (unaryOp .USub) (eI : En X.K Int) eI (fun i => -i) := by
  intro pins s σ H x v Q I rx ⟨A, i, _, r1, k⟩
  exact un_neg pins s σ H x v Q I rx ⟨i, r1, k _ _ (.refl _) rfl⟩
theorem w_lt : OpW X (compareOp .Lt) (eI : En X.K Int) eI eB (fun _ _ => true) (fun i j => decide (i < j)) := opIB op_lt
theorem w_le : OpW X (compareOp .LtE) (eI : En X.K Int) eI eB (fun _ _ => true) (fun i j => decide (i ≤ j)) := opIB op_le
theorem w_gt : OpW X (compareOp .Gt) (eI : En X.K Int) eI eB (fun _ _ => true) (fun i j => decide (j < i)) := opIB op_gt
theorem w_ge : OpW X (compareOp .GtE) (eI : En X.K Int) eI eB (fun _ _ => true) (fun i j => decide (j ≤ i)) := opIB op_ge
theorem w_eqI : OpW X (compareOp .Eq) (eI : En X.K Int) eI eB (fun _ _ => true) (fun i j => decide (i = j)) := by
  intro pins s σ H x y v u Q I rx ry ⟨A, i, j, _, r1, r2, _, k⟩
  cases r1; cases r2
  exact op_eq pins s σ H _ _ v u Q I rx ry ⟨rfl, k _ _ (.refl _) (congrArg V.bl (by simp))⟩
theorem w_neI : OpW X (compareOp .NotEq) (eI : En X.K Int) eI eB (fun _ _ => true) (fun i j => !decide (i = j)) := by
  intro pins s σ H x y v u Q I rx ry ⟨A, i, j, _, r1, r2, _, k⟩
  cases r1; cases r2
  exact op_ne pins s σ H _ _ v u Q I rx ry ⟨rfl, k _ _ (.refl _) (congrArg V.bl (by simp))⟩
theorem w_eqB : OpW X (compareOp .Eq) (eB : En X.K Bool) eB eB (fun _ _ => true) (fun i j => i == j) := by
  intro pins s σ H x y v u Q I rx ry ⟨A, i, j, _, r1, r2, _, k⟩
  cases r1; cases r2
  exact op_eq pins s σ H _ _ v u Q I rx ry ⟨rfl, k _ _ (.refl _) (congrArg V.bl dec_bl)⟩
theorem w_eqS : OpW X (compareOp .Eq) (eS : En X.K Str) eS eB (fun _ _ => true) (fun i j => decide (i = j)) := by
  intro pins s σ H x y v u Q I rx ry ⟨A, i, j, _, r1, r2, _, k⟩
  cases r1; cases r2
  exact op_eq pins s σ H _ _ v u Q I rx ry ⟨rfl, k _ _ (.refl _) (congrArg V.bl (by simp))⟩
theorem w_neS : OpW X (compareOp .NotEq) (eS : En X.K Str) eS eB (fun _ _ => true) (fun i j => !decide (i = j)) := by
  intro pins s σ H x y v u Q I rx ry ⟨A, i, j, _, r1, r2, _, k⟩
  cases r1; cases r2
  exact op_ne pins s σ H _ _ v u Q I rx ry ⟨rfl, k _ _ (.refl _) (congrArg V.bl (by simp))⟩

/-! ### tests and truth values -/
theorem tval {w : W Bool} (h : PX X PK pp ρ e w eB) (he : ∀ whole, isTrue e X.env whole = (do let v ← whole; standAt e.pos; holding [v] (truthy v)) := by intro _; rfl) : PTX X PK pp ρ e w :=
  (pt_val h he).weak fun σ H Q ⟨O, Φ, c, S, hw, k⟩ => ⟨O, Φ, c, S, hw, fun x v H' c' p ch S' r => ⟨x, r, k x H' c' p ch S'⟩⟩
theorem tnot {w : W Bool} (h : PTX X PK pp ρ e w) : PTX X PK pp ρ (.UnaryOp .Not e pos) (bnd w fun x => ret (!x)) :=
  (pt_not h).weak fun σ H Q ⟨O, Φ, c, S, hw, k⟩ => ⟨O, _, c, S, hw, fun x H' c' p ch S' => k _ H' c' p ch S'⟩
abbrev PWX (X : Cx) (PK : PoolK) (pp : PP) (ρ : List (Sl X.K)) (e : Expr) (w : W Bool) : Prop := PW X e (rdT PK pp ρ w)
theorem _root_.L2.PW.weak {X : Cx} {e : Expr} {t t' : TT} (h : PW X e t) (f : ∀ σ H Q, t' σ H Q → t σ H Q) : PW X e t' := ⟨fun wh pins s σ H Q I q => h.run wh pins s σ H Q I (f σ H Q q)⟩
theorem tw {w : W Bool} (h : PWX X PK pp ρ e w) : PTX X PK pp ρ e w := h.pt
theorem wand1 {w : W Bool} (h : PTX X PK pp ρ a w) : PWX X PK pp ρ (.BoolOp .And [a] pos) w := pw_and1 h
theorem wor1 {w : W Bool} (h : PTX X PK pp ρ a w) : PWX X PK pp ρ (.BoolOp .Or [a] pos) w := pw_or1 h
theorem wand {rest : List Expr} {w u : W Bool} (h : PTX X PK pp ρ a w) (h2 : PWX X PK pp ρ (.BoolOp .And (b :: rest) pos) u) : PWX X PK pp ρ (.BoolOp .And (a :: b :: rest) pos) (bnd w fun x => ite x u (ret false)) :=
  (pw_and h h2).weak fun σ H Q ⟨O, Φ, c, S, hw, k⟩ => ⟨O, _, c, S, hw, fun x H' c' p ch S' => by
    cases x with
    | true => exact ⟨O, Φ, c', S', p, fun y H2 c2 p2 ch2 S2 => k y H2 c2 p2 (ch.trans ch2) S2⟩
    | false => exact k false H' c' (by simpa [ite, ret] using p) ch S'⟩
theorem wor {rest : List Expr} {w u : W Bool} (h : PTX X PK pp ρ a w) (h2 : PWX X PK pp ρ (.BoolOp .Or (b :: rest) pos) u) : PWX X PK pp ρ (.BoolOp .Or (a :: b :: rest) pos) (bnd w fun x => ite x (ret true) u) :=
  (pw_or h h2).weak fun σ H Q ⟨O, Φ, c, S, hw, k⟩ => ⟨O, _, c, S, hw, fun x H' c' p ch S' => by
    cases x with
    | true => exact k true H' c' p ch S'
    | false => exact ⟨O, Φ, c', S', by simpa [ite] using p, fun y H2 c2 p2 ch2 S2 => k y H2 c2 p2 (ch.trans ch2) S2⟩⟩
/-- and, or, not as values: bools -/
theorem xone {op} {w : W α} {en : En X.K α} (h : PX X PK pp ρ a w en) : PX X PK pp ρ (.BoolOp op [a] pos) w en := pe_one h
theorem xand {rest : List Expr} {w u : W Bool} (h : PX X PK pp ρ a w eB) (h2 : PX X PK pp ρ (.BoolOp .And (b :: rest) pos) u eB) : PX X PK pp ρ (.BoolOp .And (a :: b :: rest) pos) (bnd w fun x => ite x u (ret false)) eB :=
  (pe_and h h2).weak fun σ H Q ⟨O, Φ, c, S, hw, k⟩ => ⟨O, _, c, S, hw, fun x v H' c' p ch S' r => by
    refine ⟨x, r, ?_⟩
    cases x with
    | true => exact ⟨O, Φ, c', S', p, fun y v H2 c2 p2 ch2 S2 => k y v H2 c2 p2 (ch.trans ch2) S2⟩
    | false => exact k false _ H' c' (by simpa [ite, ret] using p) ch S' rfl⟩
theorem xor {rest : List Expr} {w u : W Bool} (h : PX X PK pp ρ a w eB) (h2 : PX X PK pp ρ (.BoolOp .Or (b :: rest) pos) u eB) : PX X PK pp ρ (.BoolOp .Or (a :: b :: rest) pos) (bnd w fun x => ite x (ret true) u) eB :=
  (pe_or h h2).weak fun σ H Q ⟨O, Φ, c, S, hw, k⟩ => ⟨O, _, c, S, hw, fun x v H' c' p ch S' r => by
    refine ⟨x, r, ?_⟩
    cases x with
    | true => exact k true _ H' c' p ch S' rfl
    | false => exact ⟨O, Φ, c', S', by simpa [ite] using p, fun y v H2 c2 p2 ch2 S2 => k y v H2 c2 p2 (ch.trans ch2) S2⟩⟩
theorem xnot {w : W Bool} (h : PX X PK pp ρ a w eB) : PX X PK pp ρ (.UnaryOp .Not a pos) (bnd w fun x => ret (!x)) eB :=
  (pe_not h).weak fun σ H Q ⟨O, Φ, c, S, hw, k⟩ => ⟨O, _, c, S, hw, fun x v H' c' p ch S' r => ⟨x, r, k _ _ H' c' p ch S' rfl⟩⟩
theorem xif {c : Expr} {w : W Bool} {u v : W α} {en : En X.K α} (hc : PTX X PK pp ρ c w) (ha : PX X PK pp ρ a u en) (hb : PX X PK pp ρ b v en) : PX X PK pp ρ (.IfExp c a b pos) (bnd w fun x => ite x u v) en :=
  (pe_ifExp hc ha hb).weak fun σ H Q ⟨O, Φ, c, S, hw, k⟩ => ⟨O, _, c, S, hw, fun x H' c' p ch S' => by
    cases x with
    | true => exact ⟨O, Φ, c', S', p, fun y v H2 c2 p2 ch2 S2 => k y v H2 c2 p2 (ch.trans ch2) S2⟩
    | false => exact ⟨O, Φ, c', S', by simpa [ite] using p, fun y v H2 c2 p2 ch2 S2 => k y v H2 c2 p2 (ch.trans ch2) S2⟩⟩
/-- x is None, for a value that may be None -/
theorem xisN {j pos'} {w : W (Option α)} {en : En X.K α} (h : PX X PK pp ρ a w (eO en)) : PX X PK pp ρ (.Compare a [.Is] [.Constant .none j pos'] pos) (bnd w fun x => ret x.isNone) eB :=
  (pe_cmp (pc_isN h)).weak fun σ H Q ⟨O, Φ, c, S, hw, k⟩ => ⟨O, _, c, S, hw, fun x v H' c' p ch S' r => by
    cases x with
    | none =>
      have e : v = .non := r
      exact k _ _ H' c' p ch S' (by rw [e]; rfl)
    | some y => exact k _ _ H' c' p ch S' (by show V.bl _ = V.bl false; rw [decide_eq_false r.2])⟩

/-! ### lists, tuples -/
theorem axn : PAX X PK pp ρ [] (ret ()) aN := (pa_nil).weak fun σ H Q ⟨O, Φ, c, S, hw, k⟩ => k () [] H c hw .refl S rfl
theorem axc {es : List Expr} {w : W α} {u : W β} {en : En X.K α} {ea : EA X.K β} (h : PX X PK pp ρ e w en) (h2 : PAX X PK pp ρ es u ea) (hs : starEach (e :: es) X.env = (false, eval e X.env) :: starEach es X.env := by rfl) :
    PAX X PK pp ρ (e :: es) (bnd w fun x => bnd u fun y => ret (x, y)) (aC en ea) := (pa_cons h h2 hs).weak fun σ H Q ⟨O, Φ, c, S, hw, k⟩ =>
  ⟨O, _, c, S, hw, fun x v H1 c1 p1 ch1 S1 r1 => ⟨O, _, c1, S1, p1, fun y u H2 c2 p2 ch2 S2 r2 => k _ _ H2 c2 p2 (ch1.trans ch2) S2 ⟨v, u, rfl, en.mono ch2.mv r1, r2⟩⟩⟩
/-- the pool's name as the first argument -/
theorem axp (i : Nat) {x : Str} {es : List Expr} {u : W β} {ea : EA X.K β} (hg : get ρ i = .pl) (h2 : PAX X PK pp ρ es u ea) (hN : X.N[i]? = some x := by rfl)
    (hv : Vis X.env.scope x := by first | exact Or.inl rfl | exact Or.inr (Or.inl rfl) | exact Or.inr (Or.inr rfl)) (hs : starEach (.Name x pos :: es) X.env = (false, eval (.Name x pos) X.env) :: starEach es X.env := by rfl) (hd : (x == ("__debug__" : Str)) = false := by decide) (hcd : (x == ("__classdict__" : Str)) = false := by decide) :
    PAX X PK pp ρ (.Name x pos :: es) u (aPl ea) := (pa_cons (pe_var hN hv hd hcd) h2 hs).weak fun σ H Q ⟨O, Φ, c, S, hw, k⟩ => by
  have q := S.slots i
  rw [hg] at q
  obtain ⟨b, d, e, q⟩ := q
  exact ⟨_, q, O, Φ, c, S, hw, fun y u H2 c2 p2 ch2 S2 r2 => k _ _ H2 c2 p2 ch2 S2 ⟨b, d, u, e, rfl, r2⟩⟩
theorem own_nils {K : PySem.W.Frag} : ∀ n : Nat, owns (List.replicate n (Sl.nil : Sl K)) = []
  | 0 => rfl
  | n + 1 => own_nils n
theorem get_nils {K : PySem.W.Frag} : ∀ n i : Nat, get (List.replicate n (Sl.nil : Sl K)) i = .nil
  | 0, i => by cases i <;> rfl
  | n + 1, 0 => rfl
  | n + 1, i + 1 => get_nils n i
/-- items of one kind -/
def aL (en : En X.K α) : Nat → EA X.K (List α)
  | n => ⟨fun _ O H vs xs => F2 (en.r O H) vs xs ∧ vs.length = n, fun _ => List.replicate n .nil, fun m ⟨f, l⟩ => ⟨f.imp fun _ _ => en.mono m, l⟩, n, fun h => h.2, fun _ => by simp, fun _ => own_nils n, fun i _ => by rw [get_nils n i]; exact True.intro⟩
theorem aln {en : En X.K α} : PAX X PK pp ρ [] (ret []) (aL en 0) := (pa_nil).weak fun σ H Q ⟨O, Φ, c, S, hw, k⟩ => k _ [] H c hw .refl S ⟨.nil, rfl⟩
theorem alc {es : List Expr} {w : W α} {u : W (List α)} {en : En X.K α} {n : Nat} (h : PX X PK pp ρ e w en) (h2 : PAX X PK pp ρ es u (aL en n)) (hs : starEach (e :: es) X.env = (false, eval e X.env) :: starEach es X.env := by rfl) :
    PAX X PK pp ρ (e :: es) (bnd w fun x => bnd u fun y => ret (x :: y)) (aL en (n + 1)) := (pa_cons h h2 hs).weak fun σ H Q ⟨O, Φ, c, S, hw, k⟩ =>
  ⟨O, _, c, S, hw, fun x v H1 c1 p1 ch1 S1 r1 => ⟨O, _, c1, S1, p1, fun y u H2 c2 p2 ch2 S2 r2 => k _ _ H2 c2 p2 (ch1.trans ch2) S2 ⟨.cons (en.mono ch2.mv r1) r2.1, by rw [List.length_cons, r2.2]⟩⟩⟩
theorem same_new {H : Hp} {p : Addr} {o : HO} (h : H p = none) : Same H (upd H p o) := fun b x e => by
  rw [upd_ne (ne_of_none e h)]
  exact e
theorem new_at {A : AS} {H : Hp} {p : Addr} (d : Dom A H) (h : H p = none) : ¬ A p := fun z => d p z h
theorem xlst {es : List Expr} {w : W (List α)} {en : En X.K α} {n : Nat} (h : PAX X PK pp ρ es w (aL en n)) (hn : n ≤ 1000000 := by decide) : PX X PK pp ρ (.List es pos) w (eL en) := (pe_lst h).weak fun σ H Q ⟨O, Φ, c, S, hw, k⟩ =>
  ⟨O, _, c, S, hw, fun x vs H1 c1 p1 ch1 S1 r1 => ⟨by have := r1.2; rw [sizeLine_eq]; omega, fun p np => by
    have s := same_new (o := .lst vs) np
    exact k _ _ _ c1 p1 (ch1.trans (.of s)) (S1.same s) ⟨p, vs, rfl, ⟨new_at S1.av np, upd_same⟩, r1.1.imp fun _ _ => en.mono (Mv.same s)⟩⟩⟩
theorem xtup2 {es : List Expr} {w : W (α × β × Unit)} {e1 : En X.K α} {e2 : En X.K β} {x1} (h : PAX X PK pp ρ es w (aC e1 (aC e2 aN))) : PX X PK pp ρ (.Tuple es x1 pos) (bnd w fun x => ret (x.1, x.2.1)) (eP e1 e2) := (pe_tup h).weak fun σ H Q ⟨O, Φ, c, S, hw, k⟩ =>
  ⟨O, _, c, S, hw, fun x vs H1 c1 p1 ch1 S1 r1 => by
    obtain ⟨v, _, rfl, q1, u, _, rfl, q2, rfl⟩ := r1
    refine ⟨by show 2 ≤ sizeLine; decide, fun p np => ?_⟩
    have s := same_new (o := .tup [v, u]) np
    exact k _ _ _ c1 p1 (ch1.trans (.of s)) (S1.same s) ⟨p, v, u, rfl, .inl ⟨new_at S1.av np, .inl upd_same⟩, e1.mono (Mv.same s) q1, e2.mono (Mv.same s) q2⟩⟩

/-! ### subscripts -/
def IxW (X : Cx) (e1 : En X.K α) (e2 : En X.K β) (e3 : En X.K γ) (pre : α → β → Bool) (res : α → β → γ) : Prop :=
  IxR X fun x y H Q => ∃ A a b, Dom A H ∧ e1.r A H x a ∧ e2.r A H y b ∧ pre a b = true ∧ ∀ v, e3.r A H v (res a b) → Q v H
theorem xix {wa : W α} {wb : W β} {e1 : En X.K α} {e2 : En X.K β} {e3 : En X.K γ} {pre : α → β → Bool} {res : α → β → γ} (ho : IxW X e1 e2 e3 pre res) (ha : PX X PK pp ρ a wa e1) (hb : PX X PK pp ρ b wb e2) (hs : PlainIx b := by exact fun _ _ => rfl) :
    PX X PK pp ρ (.Subscript a b pos) (bnd wa fun x => bnd wb fun y => grd (pre x y) (ret (res x y))) e3 := (pe_ix ho ha hb hs).weak fun σ H Q ⟨O, Φ, c, S, hw, k⟩ =>
  two S hw fun x y v u H' c' p ch S' r1 r2 => ⟨_, x, y, S'.av, r1, r2, p.1, fun z r3 => k _ _ _ _ p.2 ch S' r3⟩
/-- a pair's places -/
theorem xfst {w : W (α × β)} {e1 : En X.K α} {e2 : En X.K β} {j p'} (h : PX X PK pp ρ a w (eP e1 e2)) : PX X PK pp ρ (.Subscript a (.Constant (.int 0) j p') pos) (bnd w fun x => ret x.1) e1 :=
  (pe_ix ix_tup h pe_int (fun _ _ => rfl)).weak fun σ H Q ⟨O, Φ, c, S, hw, k⟩ => ⟨O, _, c, S, hw, fun x v H' c' p ch S' r => by
    obtain ⟨a, u, w, rfl, t, q1, q2⟩ := r
    exact ⟨a, [u, w], 0, u, rfl, rfl, t.sq, rfl, k _ _ H' c' p ch S' q1⟩⟩
theorem xsnd {w : W (α × β)} {e1 : En X.K α} {e2 : En X.K β} {j p'} (h : PX X PK pp ρ a w (eP e1 e2)) : PX X PK pp ρ (.Subscript a (.Constant (.int 1) j p') pos) (bnd w fun x => ret x.2) e2 :=
  (pe_ix ix_tup h pe_int (fun _ _ => rfl)).weak fun σ H Q ⟨O, Φ, c, S, hw, k⟩ => ⟨O, _, c, S, hw, fun x v H' c' p ch S' r => by
    obtain ⟨a, u, w, rfl, t, q1, q2⟩ := r
    exact ⟨a, [u, w], 1, w, rfl, rfl, t.sq, rfl, k _ _ H' c' p ch S' q2⟩⟩
/-- a list at a place of any sign -/
def ixOk {α : Type} (xs : List α) (i : Int) : Bool := (ixN xs.length i).isSome
def ixAt {α : Type} [Inhabited α] (xs : List α) (i : Int) : α := xs.getD ((ixN xs.length i).getD 0) default
theorem ixN_lt {n : Nat} {i : Int} {j : Nat} (h : ixN n i = some j) : j < n := (ixN_seq h).2.1
theorem w_ixR [Inhabited α] {en : En X.K α} : IxW X (eR en) eI en ixOk ixAt := by
  intro va sl pins s σ H x y v u Q I rx ry ⟨A, xs, i, _, ⟨a, vs, e1, l, f⟩, r2, p, k⟩ hs
  obtain ⟨j, hj⟩ := Option.isSome_iff_exists.mp p
  have hlt := ixN_lt hj
  obtain ⟨v1, g, rv⟩ := f.get (List.getElem?_eq_getElem hlt)
  refine ix_list va sl pins s σ H x y v u Q I rx ry ⟨a, vs, i, v1, e1, r2, l.sq, ?_, k _ ?_⟩ hs
  · unfold atI
    rw [f.length, hj]
    exact g
  · unfold ixAt
    rw [hj, Option.getD_some, List.getD_eq_getElem?_getD, List.getElem?_eq_getElem hlt]
    exact rv
theorem w_ixL [Inhabited α] {en : En X.K α} : IxW X (eL en) eI en ixOk ixAt := by
  intro va sl pins s σ H x y v u Q I rx ry ⟨A, xs, i, d, r1, r2, p, k⟩ hs
  exact w_ixR va sl pins s σ H x y v u Q I rx ry ⟨A, xs, i, d, eL_R r1, r2, p, k⟩ hs
theorem xslice {w : W (List α)} {en : En X.K α} {lo hi : Option Expr} {wl wh : W (Option Int)} {p2} (h : PX X PK pp ρ a w (eL en))
    (hl : PO X lo (fun σ H Q => ∃ O Φ c, Sat PK O pp ρ c σ H ∧ wl Φ noX c ∧ ∀ x H' c', Φ x c' → Chg pp H H' → Sat PK O pp ρ c' σ H' → Q x H'))
    (hh : PO X hi (fun σ H Q => ∃ O Φ c, Sat PK O pp ρ c σ H ∧ wh Φ noX c ∧ ∀ x H' c', Φ x c' → Chg pp H H' → Sat PK O pp ρ c' σ H' → Q x H')) :
    PX X PK pp ρ (.Subscript a (.Slice lo hi none p2) pos) (bnd w fun x => bnd wl fun l => bnd wh fun u => ret ((x.drop (HT.sIx x.length 0 l)).take (HT.sIx x.length x.length u - HT.sIx x.length 0 l))) (eL en) :=
  (pe_slice sl_list h hl hh).weak fun σ H Q ⟨O, Φ, c, S, hw, k⟩ => ⟨O, _, c, S, hw, fun x v H1 c1 p1 ch1 S1 r1 => ⟨O, _, c1, S1, p1, fun l H2 c2 p2 ch2 S2 => ⟨O, _, c2, S2, p2, fun u H3 c3 p3 ch3 S3 => by
    obtain ⟨a, vs, rfl, l1, f⟩ := (eL en).mono (ch2.trans ch3).mv r1
    refine ⟨a, vs, rfl, l1.sq, fun p np => ?_⟩
    have s := same_new (o := .lst (cutV vs l u)) np
    refine k _ _ _ c3 p3 (((ch1.trans ch2).trans ch3).trans (.of s)) (S3.same s) ⟨p, _, rfl, ⟨new_at S3.av np, upd_same⟩, ?_⟩
    have e : cutV vs l u = (vs.drop (HT.sIx x.length 0 l)).take (HT.sIx x.length x.length u - HT.sIx x.length 0 l) := by
      unfold cutV
      rw [f.length]
    have g : F2 (en.r (Av O pp ρ) H3) (cutV vs l u) _ := e ▸ (f.drop (HT.sIx x.length 0 l)).take (HT.sIx x.length x.length u - HT.sIx x.length 0 l)
    exact g.imp fun _ _ => en.mono (Mv.same s)⟩⟩⟩
abbrev POX (X : Cx) (PK : PoolK) (pp : PP) (ρ : List (Sl X.K)) (e : Option Expr) (w : W (Option Int)) : Prop := PO X e (fun σ H Q => ∃ O Φ c, Sat PK O pp ρ c σ H ∧ w Φ noX c ∧ ∀ x H' c', Φ x c' → Chg pp H H' → Sat PK O pp ρ c' σ H' → Q x H')
theorem _root_.L2.PO.weak {X : Cx} {e : Option Expr} {t t' : TO} (h : PO X e t) (f : ∀ σ H Q, t' σ H Q → t σ H Q) : PO X e t' := ⟨fun pins s σ H Q I q => h.run pins s σ H Q I (f σ H Q q)⟩
theorem on_none : POX X PK pp ρ none (ret none) := (po_none).weak fun σ H Q ⟨O, Φ, c, S, hw, k⟩ => k _ H c hw .refl S
theorem on_some {w : W Int} (h : PX X PK pp ρ e w eI) : POX X PK pp ρ (some e) (bnd w fun i => ret (some i)) := (po_some h).weak fun σ H Q ⟨O, Φ, c, S, hw, k⟩ => ⟨O, _, c, S, hw, fun x v H' c' p ch S' r => ⟨x, r, k _ H' c' p ch S'⟩⟩
end
end Dc
/-! DcC: defs and their calls, statements, loops, comprehensions. -/
namespace Dc
open PySem PySem.Spec L2
section
variable {K : PySem.W.Frag} {PK : PoolK} {pp : PP} {ρ ρ1 ρ2 : List (Sl K)} {O : AS} {c c' : Nat} {σ : St} {H H' H1 H2 : Hp} {α β γ δ : Type}

/-! ### how a state moves -/
structure Stp (pp : PP) (ρ ρ1 : List (Sl K)) (H H1 : Hp) : Prop where
  keep : ∀ a o, H a = some o → ¬ foot pp a → a ∉ owns ρ → H1 a = some o
  new : ∀ a ∈ owns ρ1, a ∈ owns ρ ∨ (H a = none ∧ ¬ foot pp a)
theorem Stp.trans (x : Stp pp ρ ρ1 H H1) (y : Stp pp ρ1 ρ2 H1 H2) : Stp pp ρ ρ2 H H2 := by
  refine ⟨fun a o e n no => y.keep a o (x.keep a o e n no) n fun z => ?_, fun a z => ?_⟩
  · rcases x.new a z with q | q
    · exact no q
    · rw [e] at q; cases q.1
  · rcases y.new a z with q | q
    · exact x.new a q
    · by_cases h : a ∈ owns ρ
      · exact .inl h
      · refine .inr ⟨?_, q.2⟩
        cases e : H a with
        | none => rfl
        | some o =>
          have := x.keep a o e q.2 h
          rw [q.1] at this; cases this
theorem Stp.of_chg (x : Chg pp H H1) (h : ∀ a ∈ owns ρ1, a ∈ owns ρ) : Stp pp ρ ρ1 H H1 := ⟨fun a o e n _ => x a o e n, fun a z => .inl (h a z)⟩
theorem Stp.mv (x : Stp pp ρ ρ1 H H1) : Mv (Av O pp ρ) (Av O pp ρ1) H H1 := fun a o n e => by
  refine ⟨x.keep a o e (fun z => n (.inr (.inl z))) fun z => n (.inr (.inr z)), fun z => ?_⟩
  rcases z with z | z | z
  · exact n (.inl z)
  · exact n (.inr (.inl z))
  · rcases x.new a z with q | q
    · exact n (.inr (.inr q))
    · rw [e] at q; cases q.1
theorem Stp.refl : Stp pp ρ ρ H H := ⟨fun _ _ e _ _ => e, fun _ z => .inl z⟩
/-- behind a call: the pool has moved on -/
theorem Sat.chg (S : Sat PK O pp ρ c σ H) (ch : Chg pp H H') (p : PoolOk PK pp H' c') : Sat PK O pp ρ c' σ H' := by
  refine ⟨S.len, S.nd, S.new, fun a h => ?_, p, fun i => ?_⟩
  · by_cases hf : foot pp a
    · cases pp with
      | none => exact hf.elim
      | some q =>
        obtain ⟨a1, b1⟩ := q
        have q : PK.r H' a1 b1 c' := p
        rcases (show a = a1 ∨ a = b1 from hf) with e | e
        · rw [e]; exact (PK.dom q).1
        · rw [e]; exact (PK.dom q).2
    · cases e : H a with
      | none => exact absurd e (S.dom a h)
      | some o => rw [ch a o e hf]; simp
  · refine (S.slots i).mv ch.mv fun a ha => ?_
    cases e : get ρ i with
    | ow b on x =>
      rw [e] at ha
      have ha : a = b := by simpa [own1] using ha
      subst ha
      have q := S.slots i
      rw [e] at q
      have hn := (S.new a (owns_mem e)).2
      cases e2 : H a with
      | none => exact absurd e2 (on.dom q.2)
      | some o => exact ch a o e2 hn
    | _ => rw [e] at ha; cases ha
/-- a slot is given a value that nobody writes at -/
theorem Sat.put (S : Sat PK O pp ρ c σ H) {i : Nat} {v : V} {en : En K α} {x : α} (r : en.r (Av O pp ρ) H v x) : Sat PK O pp (put ρ i (.sh en x)) c (σ.set i (some v)) H := by
  have less : ∀ a, Av O pp (Dc.put ρ i (.sh en x)) a → Av O pp ρ a := fun a h => by
    rcases h with h | h | h
    · exact .inl h
    · exact .inr (.inl h)
    · rcases owns_put h with h | h
      · cases h
      · exact .inr (.inr h)
  refine ⟨by rw [List.length_set, put_len]; exact S.len, owns_put_nodup S.nd (own1_nodup _) (fun b hb => by cases hb), fun a ha => ?_, S.dom, S.pool, fun j => ?_⟩
  · rcases owns_put ha with h | h
    · cases h
    · exact S.new a h
  · by_cases hj : j = i
    · subst hj
      rcases get_put_self (ρ := ρ) (i := j) (s := Sl.sh en x) with e | e
      · rw [e]
        have hl := get_len (ρ := Dc.put ρ j (.sh en x)) (i := j) (by rw [e]; intro z; cases z)
        rw [put_len, ← S.len] at hl
        exact ⟨v, List.getElem?_set_self hl, en.mono (Mv.less less) r⟩
      · rw [e]; exact True.intro
    · rw [get_put_ne hj]
      have q := (S.slots j).mv (Mv.less less) (fun _ _ => rfl)
      cases e : get ρ j with
      | nil => exact True.intro
      | sh en2 y =>
        rw [e] at q
        obtain ⟨v2, e2, r2⟩ := q
        exact ⟨v2, by rw [List.getElem?_set_ne (Ne.symm hj)]; exact e2, r2⟩
      | ow a on y =>
        rw [e] at q
        exact ⟨by rw [List.getElem?_set_ne (Ne.symm hj)]; exact q.1, q.2⟩
      | pl =>
        rw [e] at q
        obtain ⟨a, b, e2, e3⟩ := q
        exact ⟨a, b, e2, by rw [List.getElem?_set_ne (Ne.symm hj)]; exact e3⟩
/-- a slot forgotten -/
theorem Sat.drop (S : Sat PK O pp ρ c σ H) {ρ' : List (Sl K)} (hl : ρ'.length = ρ.length) (hn : (owns ρ').Nodup) (ho : ∀ a ∈ owns ρ', a ∈ owns ρ) (hs : ∀ i, get ρ' i = .nil ∨ get ρ' i = get ρ i) : Sat PK O pp ρ' c σ H := by
  have less : ∀ a, Av O pp ρ' a → Av O pp ρ a := fun a h => by
    rcases h with h | h | h
    · exact .inl h
    · exact .inr (.inl h)
    · exact .inr (.inr (ho a h))
  refine ⟨S.len.trans hl.symm, hn, fun a h => S.new a (ho a h), S.dom, S.pool, fun i => ?_⟩
  rcases hs i with e | e
  · rw [e]; exact True.intro
  · rw [e]; exact (S.slots i).mv (Mv.less less) (fun _ _ => rfl)
inductive Fit : List (Sl K) → List (Sl K) → Prop where
  | nil : Fit [] []
  | eq {s r r'} : Fit r r' → Fit (s :: r) (s :: r')
  | dr {s r r'} : Fit r r' → Fit (s :: r) (.nil :: r')
theorem Fit.len {r r' : List (Sl K)} (f : Fit r r') : r'.length = r.length := by
  induction f with
  | nil => rfl
  | eq _ ih => simp [ih]
  | dr _ ih => simp [ih]
theorem Fit.owns {r r' : List (Sl K)} (f : Fit r r') : ∀ a ∈ owns r', a ∈ Dc.owns r := by
  induction f with
  | nil => intro a h; exact h
  | eq _ ih =>
    intro a h
    rcases List.mem_append.mp h with h | h
    · exact List.mem_append.mpr (.inl h)
    · exact List.mem_append.mpr (.inr (ih a h))
  | dr _ ih =>
    intro a h
    rcases List.mem_append.mp h with h | h
    · cases h
    · exact List.mem_append.mpr (.inr (ih a h))
theorem Fit.nd {r r' : List (Sl K)} (f : Fit r r') : (Dc.owns r).Nodup → (Dc.owns r').Nodup := by
  induction f with
  | nil => intro h; exact h
  | @eq s r r' f ih =>
    intro h
    have h : (own1 s ++ Dc.owns r).Nodup := h
    show (own1 s ++ Dc.owns r').Nodup
    rw [List.nodup_append] at h ⊢
    exact ⟨h.1, ih h.2.1, fun a ha b hb => h.2.2 a ha b (f.owns b hb)⟩
  | @dr s r r' f ih =>
    intro h
    have h : (own1 s ++ Dc.owns r).Nodup := h
    rw [List.nodup_append] at h
    exact ih h.2.1
theorem Fit.get {r r' : List (Sl K)} (f : Fit r r') : ∀ i, get r' i = .nil ∨ get r' i = Dc.get r i := by
  induction f with
  | nil => intro i; exact .inr rfl
  | eq _ ih =>
    intro i
    cases i with
    | zero => exact .inr rfl
    | succ i => exact ih i
  | dr _ ih =>
    intro i
    cases i with
    | zero => exact .inl rfl
    | succ i => exact ih i
theorem Sat.fit {r r' : List (Sl K)} (S : Sat PK O pp r c σ H) (f : Fit r r') : Sat PK O pp r' c σ H := S.drop f.len (f.nd S.nd) f.owns f.get
theorem Fit.refl : ∀ {r : List (Sl K)}, Fit r r
  | [] => .nil
  | _ :: _ => .eq Fit.refl
theorem Fit.stp {r r' : List (Sl K)} (f : Fit r r') : Stp pp r r' H H := ⟨fun _ _ e _ _ => e, fun a z => .inl (f.owns a z)⟩

/-! ### ends of blocks -/
inductive Fl (γ δ β : Type) where
  | nx (s : γ) | bk (s : δ) | ct (s : δ) | rt (r : β)
def sq {γ' : Type} (k : γ → W (Fl γ' δ β)) : Fl γ δ β → W (Fl γ' δ β)
  | .nx s => k s
  | .bk s => ret (.bk s)
  | .ct s => ret (.ct s)
  | .rt r => ret (.rt r)
def FlOk (PK : PoolK) (pp : PP) (O : AS) (ρ : List (Sl K)) (H : Hp) (ρ' : γ → List (Sl K)) (ρl : δ → List (Sl K)) (er : En K β) (D : Ends) (H' : Hp) (c' : Nat) : Fl γ δ β → Prop
  | .nx s => ∀ σ', Stp pp ρ (ρ' s) H H' → Sat PK O pp (ρ' s) c' σ' H' → D.nx σ' H'
  | .bk s => ∀ σ', Stp pp ρ (ρl s) H H' → Sat PK O pp (ρl s) c' σ' H' → D.bk σ' H'
  | .ct s => ∀ σ', Stp pp ρ (ρl s) H H' → Sat PK O pp (ρl s) c' σ' H' → D.ct σ' H'
  | .rt r => ∀ v, (∀ a o, H a = some o → ¬ foot pp a → a ∉ owns ρ → H' a = some o) → PoolOk PK pp H' c' → er.r (fun a => O a ∨ foot pp a) H' v r → D.rt v H'
def rdS (PK : PoolK) (pp : PP) (ρ : List (Sl K)) (w : W (Fl γ δ β)) (ρ' : γ → List (Sl K)) (ρl : δ → List (Sl K)) (er : En K β) : TS := fun D σ H => ∃ O Φ c, Sat PK O pp ρ c σ H ∧ w Φ noX c ∧
  ∀ fl H' c', Φ fl c' → FlOk PK pp O ρ H ρ' ρl er D H' c' fl
/-- a statement that only goes on; ι: new addresses -/
def rdN {ι : Type} (PK : PoolK) (pp : PP) (ρ : List (Sl K)) (w : W γ) (ρ1 : ι → γ → List (Sl K)) : TS := fun D σ H => ∃ O Φ c, Sat PK O pp ρ c σ H ∧ w Φ noX c ∧
  ∀ i s H' c', Φ s c' → ∀ σ', Stp pp ρ (ρ1 i s) H H' → Sat PK O pp (ρ1 i s) c' σ' H' → D.nx σ' H'
theorem FlOk.mono {ρ ρ1 : List (Sl K)} {H H1 : Hp} {ρ' : γ → List (Sl K)} {ρl : δ → List (Sl K)} {er : En K β} {D : Ends} {fl : Fl γ δ β} (st : Stp pp ρ ρ1 H H1) (h : FlOk PK pp O ρ H ρ' ρl er D H' c' fl) : FlOk PK pp O ρ1 H1 ρ' ρl er D H' c' fl := by
  cases fl with
  | nx s => exact fun σ' t S => h σ' (st.trans t) S
  | bk s => exact fun σ' t S => h σ' (st.trans t) S
  | ct s => exact fun σ' t S => h σ' (st.trans t) S
  | rt r => exact fun v t p q => h v (fun a o e n no => t a o (st.keep a o e n no) n fun z => by
      rcases st.new a z with y | y
      · exact no y
      · rw [e] at y; cases y.1) p q
end
section
variable {X : Cx} {PK : PoolK} {pp : PP} {ρ : List (Sl X.K)} {α β γ δ ι : Type}
abbrev PSX (X : Cx) (PK : PoolK) (pp : PP) (ρ : List (Sl X.K)) (ss : List Stmt) (w : W (Fl γ δ β)) (ρ' : γ → List (Sl X.K)) (ρl : δ → List (Sl X.K)) (er : En X.K β) : Prop := PSs X ss (rdS PK pp ρ w ρ' ρl er)
theorem _root_.L2.PS.weak {X : Cx} {e : Stmt} {t t' : TS} (h : PS X e t) (f : ∀ D σ H, t' D σ H → t D σ H) : PS X e t' := ⟨fun pins s σ H D I q => h.run pins s σ H D I (f D σ H q)⟩
theorem _root_.L2.PSs.weak {X : Cx} {e : List Stmt} {t t' : TS} (h : PSs X e t) (f : ∀ D σ H, t' D σ H → t D σ H) : PSs X e t' := ⟨fun pins s σ H D I q => h.run pins s σ H D I (f D σ H q)⟩
theorem _root_.L2.PSs.ex {X : Cx} {e : List Stmt} {ι : Type} {t : ι → TS} (h : ∀ i, PSs X e (t i)) : PSs X e (fun D σ H => ∃ i, t i D σ H) := ⟨fun pins s σ H D I ⟨i, q⟩ => (h i).run pins s σ H D I q⟩
variable {st : Stmt} {rest : List Stmt} {e : Expr} {pos : Pos} {ρ' : γ → List (Sl X.K)} {ρl : δ → List (Sl X.K)} {er : En X.K β}

theorem snil {s : γ} (f : Fit ρ (ρ' s)) : PSX X PK pp ρ [] (ret (.nx s)) ρ' ρl er := (pss_nil).weak fun D σ H ⟨O, Φ, c, S, hw, k⟩ => k _ H c hw σ f.stp (S.fit f)
/-- a statement, then the rest -/
theorem sx {γ1 : Type} {w : W γ1} {ρ1 : ι → γ1 → List (Sl X.K)} {kk : γ1 → W (Fl γ δ β)} (h : PS X st (rdN PK pp ρ w ρ1)) (h2 : ∀ i s, PSX X PK pp (ρ1 i s) rest (kk s) ρ' ρl er) : PSX X PK pp ρ (st :: rest) (bnd w kk) ρ' ρl er :=
  (pss_cons h (PSs.ex fun p : ι × γ1 => h2 p.1 p.2)).weak fun D σ H ⟨O, Φ, c, S, hw, k⟩ => ⟨O, _, c, S, hw, fun i s H' c' p σ' t S' => ⟨(i, s), O, Φ, c', S', p, fun fl H2 c2 q => (k fl H2 c2 q).mono t⟩⟩
theorem sq_ {γ1 : Type} {w : W (Fl γ1 δ β)} {ρ1 : γ1 → List (Sl X.K)} {kk : γ1 → W (Fl γ δ β)} (h : PS X st (rdS PK pp ρ w ρ1 ρl er)) (h2 : ∀ s, PSX X PK pp (ρ1 s) rest (kk s) ρ' ρl er) : PSX X PK pp ρ (st :: rest) (bnd w (sq kk)) ρ' ρl er :=
  (pss_cons h (PSs.ex fun s : γ1 => h2 s)).weak fun D σ H ⟨O, Φ, c, S, hw, k⟩ => ⟨O, _, c, S, hw, fun fl H' c' p => by
    cases fl with
    | nx s => exact fun σ' t S' => ⟨s, O, Φ, c', S', p, fun fl H2 c2 q => (k fl H2 c2 q).mono t⟩
    | bk s => exact k (.bk s) H' c' p
    | ct s => exact k (.ct s) H' c' p
    | rt r => exact k (.rt r) H' c' p⟩
theorem sret {w : W β} (h : PX X PK pp ρ e w er) : PSX X PK pp ρ (.Return (some e) pos :: rest) (bnd w fun x => ret (.rt x)) ρ' ρl er :=
  (pss_cons (ps_ret h) pss_never).weak fun D σ H ⟨O, Φ, c, S, hw, k⟩ => ⟨O, _, c, S, hw, fun x v H' c' p ch S' r => k _ H' c' p v (fun a o e n _ => ch a o e n) S'.pool (er.mono (Mv.less fun a h => by
    rcases h with h | h
    · exact .inl h
    · exact .inr (.inl h)) r)⟩
theorem sretN {er : En X.K Unit} (he : ∀ O H, er.r O H .non ()) : PSX X PK pp ρ (.Return none pos :: rest) (ret (.rt ())) ρ' ρl er :=
  (pss_cons ps_retN pss_never).weak fun D σ H ⟨O, Φ, c, S, hw, k⟩ => k _ H c hw _ (fun a o e n _ => e) S.pool (he _ _)
theorem sbrk {s : δ} (f : Fit ρ (ρl s)) : PSX X PK pp ρ (.Break pos :: rest) (ret (.bk s)) ρ' ρl er := (pss_cons ps_break pss_never).weak fun D σ H ⟨O, Φ, c, S, hw, k⟩ => k _ H c hw σ f.stp (S.fit f)
theorem scont {s : δ} (f : Fit ρ (ρl s)) : PSX X PK pp ρ (.Continue pos :: rest) (ret (.ct s)) ρ' ρl er := (pss_cons ps_continue pss_never).weak fun D σ H ⟨O, Φ, c, S, hw, k⟩ => k _ H c hw σ f.stp (S.fit f)
/-- a statement that is never reached -/
theorem snever : PSX X PK pp ρ rest stuck ρ' ρl er := (pss_never).weak fun D σ H ⟨O, Φ, c, S, hw, k⟩ => hw
/-- x = e -/
theorem nset_ {i : Nat} {w : W α} {en : En X.K α} (h : PS X st (tAsg (rdE PK pp ρ w en) (gName i))) : PS X st (rdN PK pp ρ w fun (_ : Unit) x => put ρ i (.sh en x)) :=
  h.weak fun D σ H ⟨O, Φ, c, S, hw, k⟩ => ⟨O, _, c, S, hw, fun x v H' c' p ch S' r => k () x H' c' p _ (.of_chg ch fun a z => by
    rcases owns_put z with z | z
    · cases z
    · exact z) (S'.put r)⟩
theorem nset (i : Nat) {x : Str} {pos' : Pos} {w : W α} {en : En X.K α} (hN : X.N.Nodup) (he : PX X PK pp ρ e w en) (hi : X.N[i]? = some x := by rfl) (hx : Loc X.env.scope x := by first | exact Or.inl rfl | exact Or.inr rfl) (hs : swapsWith e (some (.Name x pos')) pos.line X.env = pure false := by rfl)
    (hf : X.fn x = true ∨ X.env.scope.names.lookup x = some .local := by first | exact .inl rfl | exact .inr rfl) : PS X (.Assign [.Name x pos'] e pos) (rdN PK pp ρ w fun (_ : Unit) x => put ρ i (.sh en x)) := nset_ (ps_set hN hi hx he hs hf)
/-- x op= e -/
theorem naug (i : Nat) {x : Str} {pos' : Pos} {op : Operator} {w : W β} {e1 : En X.K α} {e2 : En X.K β} {e3 : En X.K ι} {pre : α → β → Bool} {res : α → β → ι} {y : α} (hN : X.N.Nodup) (hg : get ρ i = .sh e1 y) (he : PX X PK pp ρ e w e2) (ho : OpW X (inplaceOp op) e1 e2 e3 pre res) (hi : X.N[i]? = some x := by rfl)
    (hx : Loc X.env.scope x := by first | exact Or.inl rfl | exact Or.inr rfl) (hf : X.fn x = true ∨ X.env.scope.names.lookup x = some .local := by first | exact .inl rfl | exact .inr rfl) :
    PS X (.AugAssign (.Name x pos') op e pos) (rdN PK pp ρ (bnd w fun z => grd (pre y z) (ret (res y z))) fun (_ : Unit) x => put ρ i (.sh e3 x)) :=
  (ps_aug hN hi hx he ho hf).weak fun D σ H ⟨O, Φ, c, S, hw, k⟩ => by
    have q := S.slots i
    rw [hg] at q
    obtain ⟨v, e, r⟩ := q
    exact ⟨v, e, O, _, c, S, hw, fun z u H' c' p ch S' r2 => ⟨_, y, z, S'.av, e1.mono ch.mv r, r2, p.1, fun o H2 s r3 => k () _ H2 c' p.2 _ (.of_chg (ch.trans (.of s)) fun a z => by
      rcases owns_put z with z | z
      · cases z
      · exact z) ((S'.same s).put r3)⟩⟩
theorem wi_add : OpW X (inplaceOp .Add) (eI : En X.K Int) eI eI (fun _ _ => true) (· + ·) := opII iop_add
theorem wi_sub : OpW X (inplaceOp .Sub) (eI : En X.K Int) eI eI (fun _ _ => true) (· - ·) := opII iop_sub
/-- an expression whose value is dropped -/
theorem nexpr {w : W α} {en : En X.K α} (h : PX X PK pp ρ e w en) (hs : swapsWith e none pos.line X.env = pure false := by rfl) : PS X (.Expr e pos) (rdN PK pp ρ w fun (_ : Unit) _ => ρ) :=
  (ps_expr h hs).weak fun D σ H ⟨O, Φ, c, S, hw, k⟩ => ⟨O, _, c, S, hw, fun x v H' c' p ch S' r => k () x H' c' p σ (.of_chg ch fun _ z => z) S'⟩
theorem npass : PS X (.Pass pos) (rdN PK pp ρ (ret ()) fun (_ : Unit) _ => ρ) := (ps_pass).weak fun D σ H ⟨O, Φ, c, S, hw, k⟩ => k () () H c hw σ .refl S
/-- if -/
theorem nif {c : Expr} {a b : List Stmt} {w : W Bool} {u v : W (Fl γ δ β)} (hc : PTX X PK pp ρ c w) (ha : PSX X PK pp ρ a u ρ' ρl er) (hb : PSX X PK pp ρ b v ρ' ρl er) : PS X (.If c a b pos) (rdS PK pp ρ (bnd w fun x => ite x u v) ρ' ρl er) :=
  (ps_if hc ha hb).weak fun D σ H ⟨O, Φ, c, S, hw, k⟩ => ⟨O, _, c, S, hw, fun x H' c' p ch S' => by
    have st : Stp pp ρ ρ H H' := .of_chg ch fun _ z => z
    cases x with
    | true => exact ⟨O, Φ, c', S', p, fun fl H2 c2 q => (k fl H2 c2 q).mono st⟩
    | false => exact ⟨O, Φ, c', S', by simpa [ite] using p, fun fl H2 c2 q => (k fl H2 c2 q).mono st⟩⟩
end
end Dc
/-! DcD: defs and their calls, walks, loops, comprehensions. -/
namespace Dc
open PySem PySem.Spec L2
open PyProof.Rows (envOfC)

/-! ### defs -/
/-- what a def promises that is told by a function into W -/
def spW {K : PySem.W.Frag} {α β : Type} (PK : PoolK) (ea : EA K α) (f : α → W β) (er : En K β) : Sp := fun vs H Q _ => ∃ pp O x Φ c, Dom O H ∧ (∀ a, foot pp a → O a) ∧ PoolOk PK pp H c ∧ ea.r pp O H vs x ∧ f x Φ noX c ∧
  ∀ y v H' c', Φ y c' → Chg pp H H' → PoolOk PK pp H' c' → er.r O H' v y → Q v H'
def fnR {β : Type} (w : W (Fl Empty Empty β)) : W β := bnd w fun fl => match fl with | .rt r => ret r | .nx z => nomatch z | .bk z => nomatch z | .ct z => nomatch z
def fnU (w : W (Fl Unit Empty Unit)) : W Unit := bnd w fun fl => match fl with | .rt r => ret r | .nx _ => ret () | .bk z => nomatch z | .ct z => nomatch z
def nilsTo {K : PySem.W.Frag} (n : Nat) (l : List (Sl K)) : List (Sl K) := l ++ List.replicate (n - l.length) .nil
theorem get_app {K : PySem.W.Frag} {l : List (Sl K)} {n i : Nat} : get (l ++ List.replicate n .nil) i = get l i ∨ get (l ++ List.replicate n .nil) i = .nil := by
  induction l generalizing i with
  | nil => exact .inr (get_nils n i)
  | cons s r ih =>
    cases i with
    | zero => exact .inl rfl
    | succ i => exact ih
theorem owns_app {K : PySem.W.Frag} : ∀ {l : List (Sl K)} {n : Nat}, owns (l ++ List.replicate n .nil) = owns l
  | [], n => own_nils n
  | s :: r, n => by
    show own1 s ++ owns (r ++ _) = own1 s ++ owns r
    rw [owns_app]
section
variable {P : Program} {w : World} {K : PySem.W.Frag} {mg : Str → Option Value} {base : Heap} {PK : PoolK} {α β : Type}
theorem own0 {ea : EA K α} {x : α} {n : Nat} {a : Addr} : a ∉ owns (ea.ents x ++ List.replicate n (Sl.nil : Sl K)) := fun h => by
  rw [owns_app, ea.eown] at h
  cases h
theorem sat_start {pp : PP} {O : AS} {H : Hp} {vs : List V} {x : α} {ea : EA K α} {N : List Str} {c : Nat} (hd : Dom O H) (hf : ∀ a, foot pp a → O a) (hp : PoolOk PK pp H c) (hr : ea.r pp O H vs x) (hN : ea.len ≤ N.length) :
    Sat PK O pp (ea.ents x ++ List.replicate (N.length - ea.len) .nil) c (L2.start N vs) H := by
  have e0 : owns (ea.ents x ++ List.replicate (N.length - ea.len) (Sl.nil : Sl K)) = [] := owns_app.trans (ea.eown x)
  have av : ∀ a, Av O pp (ea.ents x ++ List.replicate (N.length - ea.len) (Sl.nil : Sl K)) a → O a := fun a h => by
    rcases h with h | h | h
    · exact h
    · exact hf a h
    · rw [e0] at h; cases h
  have hl := ea.hlen hr
  refine ⟨?_, (by rw [e0]; exact List.nodup_nil), (fun a h => absurd h own0), hd, hp, fun i => ?_⟩
  · unfold L2.start
    rw [List.length_append, List.length_append, List.length_map, List.length_replicate, List.length_replicate, ea.elen, hl]
  · rcases get_app (l := ea.ents x) (n := N.length - ea.len) (i := i) with e | e
    · rw [e]
      exact (ea.eok i hr).mv (Mv.less av) fun _ _ => rfl
    · rw [e]; exact True.intro
theorem fn_gen {x qual : Str} {st : Stmt} {f : Addr} {fd : FuncData} {N ps : List Str} {k : Nat} {γ : Type} {ea : EA K α} {er : En K β} {fw : α → W β} {wb : α → W (Fl γ Empty β)} {ρ' : γ → List (Sl K)} (F : Fun K x qual st f fd) (S : FnScope N ps (defScope st)) (hl : ea.len = ps.length) (hN : ea.len ≤ N.length)
    (hnx : ∀ (x : α) (Φ : β → WB) (c : Nat), fw x Φ noX c → ∃ Φ' : Fl γ Empty β → WB, wb x Φ' noX c ∧ ∀ fl c', Φ' fl c' → match fl with | .rt r => Φ r c' | .nx _ => ∃ r, Φ r c' ∧ ∀ O H, er.r O H .non r | _ => True)
    (hbody : ∀ (cdv : Value) (A : Around) (outer : List Env) (s : Shared) (H : Hp) (E : XK) (pp : PP) (x : α), Room k (A.deeper (envOfC qual (defScope st) s.heap.objs.size f cdv)) →
      PSX (cxOf CX0 P w K mg base N qual (defScope st) f cdv A outer s H E).nox PK pp (ea.ents x ++ List.replicate (N.length - ea.len) .nil) (defBody st) (wb x) ρ' (fun z : Empty => nomatch z) er) : FnOk P w K mg base CX0 (k + 1) f fd ps (spW PK ea fw er) := by
  refine F.ok S (fun vs H Q E h => ?_) (fun cdv A outer s H vs Q E hr h => ?_)
  · obtain ⟨pp, O, x, Φ, c, _, _, _, r, _⟩ := h
    rw [ea.hlen r, hl]
  · obtain ⟨pp, O, x, Φ, c, hd, hf, hp, r, hw, q⟩ := h
    obtain ⟨Φ', hw', hk⟩ := hnx x Φ c hw
    refine ⟨_, hbody cdv A outer s H E pp x hr, O, Φ', c, sat_start hd hf hp r hN, hw', fun fl H' c' p => ?_⟩
    have z := hk fl c' p
    cases fl with
    | rt r =>
      intro v ch pl rv
      refine q r v H' c' z (fun a o e n => ch a o e n (own0 (ea := ea))) pl (er.mono (Mv.less fun a h => .inl h) rv)
    | nx s0 =>
      intro σ' stp S'
      obtain ⟨r, z1, z2⟩ := z
      refine q r .non H' c' z1 (fun a o e n => stp.keep a o e n (own0 (ea := ea))) S'.pool (z2 _ _)
    | bk z => exact nomatch z
    | ct z => exact nomatch z
theorem fn_R {x qual : Str} {st : Stmt} {f : Addr} {fd : FuncData} {N ps : List Str} {k : Nat} {ea : EA K α} {er : En K β} {wb : α → W (Fl Empty Empty β)} {ρ' : Empty → List (Sl K)} (F : Fun K x qual st f fd) (S : FnScope N ps (defScope st)) (hl : ea.len = ps.length) (hN : ea.len ≤ N.length)
    (hbody : ∀ (cdv : Value) (A : Around) (outer : List Env) (s : Shared) (H : Hp) (E : XK) (pp : PP) (x : α), Room k (A.deeper (envOfC qual (defScope st) s.heap.objs.size f cdv)) →
      PSX (cxOf CX0 P w K mg base N qual (defScope st) f cdv A outer s H E).nox PK pp (ea.ents x ++ List.replicate (N.length - ea.len) .nil) (defBody st) (wb x) ρ' (fun z : Empty => nomatch z) er) : FnOk P w K mg base CX0 (k + 1) f fd ps (spW PK ea (fun x => fnR (wb x)) er) :=
  fn_gen F S hl hN (fun x Φ c h => ⟨_, h, fun fl c' p => by
    cases fl with
    | rt r => exact p
    | nx z => exact nomatch z
    | bk z => exact nomatch z
    | ct z => exact nomatch z⟩) hbody
theorem fn_U {x qual : Str} {st : Stmt} {f : Addr} {fd : FuncData} {N ps : List Str} {k : Nat} {ea : EA K α} {wb : α → W (Fl Unit Empty Unit)} {ρ' : Unit → List (Sl K)} (F : Fun K x qual st f fd) (S : FnScope N ps (defScope st)) (hl : ea.len = ps.length) (hN : ea.len ≤ N.length)
    (hbody : ∀ (cdv : Value) (A : Around) (outer : List Env) (s : Shared) (H : Hp) (E : XK) (pp : PP) (x : α), Room k (A.deeper (envOfC qual (defScope st) s.heap.objs.size f cdv)) →
      PSX (cxOf CX0 P w K mg base N qual (defScope st) f cdv A outer s H E).nox PK pp (ea.ents x ++ List.replicate (N.length - ea.len) .nil) (defBody st) (wb x) ρ' (fun z : Empty => nomatch z) eU) : FnOk P w K mg base CX0 (k + 1) f fd ps (spW PK ea (fun x => fnU (wb x)) eU) :=
  fn_gen F S hl hN (fun x Φ c h => ⟨_, h, fun fl c' p => by
    cases fl with
    | rt r => exact p
    | nx z => exact ⟨(), p, fun _ _ => rfl⟩
    | bk z => exact nomatch z
    | ct z => exact nomatch z⟩) hbody
end
section
variable {X : Cx} {PK : PoolK} {pp : PP} {ρ : List (Sl X.K)} {α β γ δ : Type}
variable {e a b : Expr} {es : List Expr} {pos : Pos}
theorem xcall {k : Nat} {f : Addr} {fd : FuncData} {ps : List Str} {x : Str} {p : Pos} {ea : EA X.K α} {er : En X.K β} {fw : α → W β} {wa : W α} (F : FnOk X.prog X.w X.K X.mg X.base CX0 k f fd ps (spW PK ea fw er)) (hr : Room k X.A) (hm : X.mg x = some (.ref f)) (hk : PySem.W.keepIn X.K (.ref f) = true)
    (hb : Binds X.K fd ps []) (ha : PAX X PK pp ρ (e :: es) wa ea) (hg : Gl X x := by rfl) (hdb : (x == ("__debug__" : Str)) = false := by decide) (he : starEach (e :: es) X.env = (false, eval e X.env) :: starEach es X.env := by rfl)
    (hpl : (backTo pos (starEach es X.env)).any (·.1) = false := by rfl) : PX X PK pp ρ (.Call (.Name x p) (e :: es) [] pos) (bnd wa fw) er :=
  (pe_call F hr hg hm hk hb .nil pass0 ha hdb he hpl).weak fun σ H Q ⟨O, Φ, c, S, hw, kk⟩ => ⟨O, _, c, S, hw, fun y vs H1 c1 p1 ch1 S1 r1 => by
    show spW PK ea fw er (vs ++ []) H1 Q E0
    rw [List.append_nil]
    exact ⟨pp, Av O pp ρ, y, Φ, c1, S1.av, fun a h => .inr (.inl h), S1.pool, r1, p1, fun z v H2 c2 p2 ch2 pl2 rz => kk z v H2 c2 p2 (ch1.trans ch2) (S1.chg ch2 pl2) rz⟩⟩

/-! ### builtins -/
def CallW (X : Cx) (f : Value) (ea : EA X.K α) (e3 : En X.K γ) (pre : α → Bool) (res : α → γ) : Prop :=
  CallR X f fun xs H Q => ∃ pp A a, Dom A H ∧ ea.r pp A H xs a ∧ pre a = true ∧ ∀ v H', Same H H' → e3.r A H' v (res a) → Q v H'
theorem xcallB {id : String} {x : Str} {p : Pos} {ea : EA X.K α} {e3 : En X.K γ} {pre : α → Bool} {res : α → γ} {wa : W α} (hc : CallW X (.builtin id) ea e3 pre res) (hm : X.mg x = none) (hv : bootBuiltins x = some (.builtin id)) (ha : PAX X PK pp ρ (e :: es) wa ea) (hg : Gl X x := by rfl)
    (hn : x ≠ "__name__" := by decide) (hdb : (x == ("__debug__" : Str)) = false := by decide) (he : starEach (e :: es) X.env = (false, eval e X.env) :: starEach es X.env := by rfl) (hpl : (backTo pos (starEach es X.env)).any (·.1) = false := by rfl) :
    PX X PK pp ρ (.Call (.Name x p) (e :: es) [] pos) (bnd wa fun x => grd (pre x) (ret (res x))) e3 :=
  (pe_callB hc hg hm hv ha hn hdb he hpl).weak fun σ H Q ⟨O, Φ, c, S, hw, kk⟩ => ⟨O, _, c, S, hw, fun y vs H1 c1 p1 ch1 S1 r1 => ⟨pp, _, y, S1.av, r1, p1.1, fun v H2 s r2 => kk _ v H2 c1 p1.2 (ch1.trans (.of s)) (S1.same s) r2⟩⟩
theorem xcallT {id : String} {x : Str} {p : Pos} {ea : EA X.K α} {e3 : En X.K γ} {pre : α → Bool} {res : α → γ} {wa : W α} (hc : CallW X (.type id) ea e3 pre res) (hm : X.mg x = none) (hv : bootBuiltins x = some (.type id)) (ha : PAX X PK pp ρ (e :: es) wa ea) (hg : Gl X x := by rfl)
    (hn : x ≠ "__name__" := by decide) (hdb : (x == ("__debug__" : Str)) = false := by decide) (he : starEach (e :: es) X.env = (false, eval e X.env) :: starEach es X.env := by rfl) (hpl : (backTo pos (starEach es X.env)).any (·.1) = false := by rfl) :
    PX X PK pp ρ (.Call (.Name x p) (e :: es) [] pos) (bnd wa fun x => grd (pre x) (ret (res x))) e3 :=
  (pe_callTy hc hg hm hv ha hn hdb he hpl).weak fun σ H Q ⟨O, Φ, c, S, hw, kk⟩ => ⟨O, _, c, S, hw, fun y vs H1 c1 p1 ch1 S1 r1 => ⟨pp, _, y, S1.av, r1, p1.1, fun v H2 s r2 => kk _ v H2 c1 p1.2 (ch1.trans (.of s)) (S1.same s) r2⟩⟩
/-- a name of the module for a builtin (math.gcd) -/
theorem xcallG {id : String} {x : Str} {p : Pos} {ea : EA X.K α} {e3 : En X.K γ} {pre : α → Bool} {res : α → γ} {wa : W α} (hc : CallW X (.builtin id) ea e3 pre res) (hm : X.mg x = some (.builtin id)) (ha : PAX X PK pp ρ (e :: es) wa ea) (hg : Gl X x := by rfl)
    (hdb : (x == ("__debug__" : Str)) = false := by decide) (he : starEach (e :: es) X.env = (false, eval e X.env) :: starEach es X.env := by rfl) (hpl : (backTo pos (starEach es X.env)).any (·.1) = false := by rfl) :
    PX X PK pp ρ (.Call (.Name x p) (e :: es) [] pos) (bnd wa fun x => grd (pre x) (ret (res x))) e3 :=
  (pe_callBfun hc hg hm ha hdb he hpl).weak fun σ H Q ⟨O, Φ, c, S, hw, kk⟩ => ⟨O, _, c, S, hw, fun y vs H1 c1 p1 ch1 S1 r1 => ⟨pp, _, y, S1.av, r1, p1.1, fun v H2 s r2 => kk _ v H2 c1 p1.2 (ch1.trans (.of s)) (S1.same s) r2⟩⟩
theorem F2.bls {K : PySem.W.Frag} {O : AS} {H : Hp} {vs : List V} {bs : List Bool} (f : F2 ((eB : En K Bool).r O H) vs bs) : vs = bs.map V.bl := by
  induction f with
  | nil => rfl
  | cons r _ ih => rw [show _ = V.bl _ from r, ih]; rfl
theorem F2.ints {K : PySem.W.Frag} {O : AS} {H : Hp} {vs : List V} {bs : List Int} (f : F2 ((eI : En K Int).r O H) vs bs) : vs = bs.map V.int := by
  induction f with
  | nil => rfl
  | cons r _ ih => rw [show _ = V.int _ from r, ih]; rfl
abbrev a1 (e1 : En X.K α) : EA X.K (α × Unit) := aC e1 aN
abbrev a2 (e1 : En X.K α) (e2 : En X.K β) : EA X.K (α × β × Unit) := aC e1 (aC e2 aN)
theorem c_lenR {en : En X.K α} : CallW X (.builtin "len") (a1 (eR en)) eI (fun _ => true) (fun x => (x.1.length : Int)) := by
  rintro pins s σ H xs us Q I r ⟨pp, A, x, _, ⟨v, _, rfl, ⟨a, vs, rfl, l, f⟩, rfl⟩, _, k⟩
  exact call_len_seq pins s σ H _ us Q I r ⟨a, vs, rfl, .inl l.sq, k _ _ (.refl _) (by rw [f.length]; rfl)⟩
theorem c_len {en : En X.K α} : CallW X (.builtin "len") (a1 (eL en)) eI (fun _ => true) (fun x => (x.1.length : Int)) := by
  rintro pins s σ H xs us Q I r ⟨pp, A, x, d, ⟨v, _, rfl, r1, rfl⟩, p, k⟩
  exact c_lenR (en := en) pins s σ H _ us Q I r ⟨pp, A, x, d, ⟨v, _, rfl, eL_R r1, rfl⟩, p, k⟩
theorem c_int : CallW X (.type "int") (a1 (eI : En X.K Int)) eI (fun _ => true) (fun x => x.1) := by
  rintro pins s σ H xs us Q I r ⟨pp, A, x, d, ⟨v, _, rfl, rfl, rfl⟩, p, k⟩
  exact call_int1 pins s σ H _ us Q I r (.inl ⟨_, rfl, k _ _ (.refl _) rfl⟩)
theorem c_intB : CallW X (.type "int") (a1 (eB : En X.K Bool)) eI (fun _ => true) (fun x => if x.1 then 1 else 0) := by
  rintro pins s σ H xs us Q I r ⟨pp, A, x, d, ⟨v, _, rfl, rfl, rfl⟩, p, k⟩
  exact call_int1 pins s σ H _ us Q I r (.inr ⟨_, rfl, k _ _ (.refl _) rfl⟩)
theorem c_abs : CallW X (.builtin "abs") (a1 (eI : En X.K Int)) eI (fun _ => true) (fun x => if x.1 < 0 then -x.1 else x.1) := by
  rintro pins s σ H xs us Q I r ⟨pp, A, x, d, ⟨v, _, rfl, rfl, rfl⟩, p, k⟩
  exact call_abs pins s σ H _ us Q I r ⟨_, rfl, k _ _ (.refl _) rfl⟩
theorem c_gcd : CallW X (.builtin "math.gcd") (a2 (eI : En X.K Int) eI) eI (fun _ => true) (fun x => ((Nat.gcd x.1.natAbs x.2.1.natAbs : Nat) : Int)) := by
  rintro pins s σ H xs us Q I r ⟨pp, A, x, d, ⟨v, _, rfl, rfl, u, _, rfl, rfl, rfl⟩, p, k⟩
  exact cr_gcd pins s σ H _ us Q I r ⟨_, _, rfl, k _ _ (.refl _) rfl⟩
theorem c_list {en : En X.K α} : CallW X (.type "list") (a1 (eR en)) (eL en) (fun _ => true) (fun x => x.1) := by
  rintro pins s σ H xs us Q I r ⟨pp, A, x, d, ⟨v, _, rfl, ⟨a, vs, rfl, l, f⟩, rfl⟩, _, k⟩
  refine call_list_of pins s σ H _ us Q I r ⟨a, vs, rfl, .inl l.sq, fun p np => ?_⟩
  have s := same_new (o := .lst vs) np
  exact k _ _ s ⟨p, vs, rfl, ⟨new_at d np, upd_same⟩, f.imp fun _ _ => en.mono (Mv.same s)⟩
theorem c_allB : ∀ (hc : X.calm = true), CallW X (.builtin "all") (a1 (eL (eB : En X.K Bool))) eB (fun _ => true) (fun x => x.1.all id) := by
  rintro hc pins s σ H xs us Q I r ⟨pp, A, x, d, ⟨v, _, rfl, ⟨a, vs, rfl, l, f⟩, rfl⟩, _, k⟩
  have e := F2.bls f
  exact cr_all hc pins s σ H _ us Q I r ⟨a, x.1, rfl, by rw [← e]; exact l.sq, k _ _ (.refl _) rfl⟩
theorem c_anyB : ∀ (hc : X.calm = true), CallW X (.builtin "any") (a1 (eL (eB : En X.K Bool))) eB (fun _ => true) (fun x => x.1.any id) := by
  rintro hc pins s σ H xs us Q I r ⟨pp, A, x, d, ⟨v, _, rfl, ⟨a, vs, rfl, l, f⟩, rfl⟩, _, k⟩
  have e := F2.bls f
  exact cr_any hc pins s σ H _ us Q I r ⟨a, x.1, rfl, by rw [← e]; exact l.sq, k _ _ (.refl _) rfl⟩
theorem xR {w : W (List α)} {en : En X.K α} (h : PX X PK pp ρ e w (eL en)) : PX X PK pp ρ e w (eR en) := h.weak fun σ H Q ⟨O, Φ, c, S, hw, k⟩ => ⟨O, Φ, c, S, hw, fun x v H' c' p ch S' r => k x v H' c' p ch S' (eL_R r)⟩
theorem w_cat {en : En X.K α} : OpW X (binaryOp .Add) (eL en) (eL en) (eL en) (fun x y => decide (x.length + y.length ≤ 16777216)) (fun x y => x ++ y) := by
  intro pins s σ H x y v u Q I rx ry ⟨A, xs, ys, d, ⟨a, vs, e1, l, f⟩, ⟨b, us, e2, l2, f2⟩, p, k⟩
  refine op_cat pins s σ H x y v u Q I rx ry ⟨a, b, vs, us, e1, e2, l.2, l2.2, ?_, fun p np => ?_⟩
  · rw [f.length, f2.length, sizeLine_eq]; exact of_decide_eq_true p
  · have s := same_new (o := .lst (vs ++ us)) np
    exact k _ _ s ⟨p, _, rfl, ⟨new_at d np, upd_same⟩, (f.append f2).imp fun _ _ => en.mono (Mv.same s)⟩
def repOk (n : Nat) (k : Int) : Bool := decide (-(2 ^ 63) ≤ k) && decide (k < 2 ^ 63) && decide (n * k.toNat ≤ 16777216)
theorem F2.flat {α β : Type} {R : α → β → Prop} {l : List α} {m : List β} (h : F2 R l m) : ∀ n : Nat, F2 R (List.replicate n l).flatten (List.replicate n m).flatten
  | 0 => .nil
  | n + 1 => by simpa [List.replicate_succ] using h.append (F2.flat h n)
theorem w_rep {en : En X.K α} : OpW X (binaryOp .Mult) (eL en) (eI : En X.K Int) (eL en) (fun x k => repOk x.length k) (fun x k => (List.replicate k.toNat x).flatten) := by
  intro pins s σ H x y v u Q I rx ry ⟨A, xs, i, d, ⟨a, vs, e1, l, f⟩, r2, p, k⟩
  simp only [repOk, Bool.and_eq_true, decide_eq_true_eq] at p
  refine op_rep pins s σ H x y v u Q I rx ry ⟨a, i, vs, e1, r2, l.2, p.1.1, p.1.2, by rw [f.length, sizeLine_eq]; exact p.2, fun p np => ?_⟩
  have s := same_new (o := .lst (List.replicate i.toNat vs).flatten) np
  exact k _ _ s ⟨p, _, rfl, ⟨new_at d np, upd_same⟩, (f.flat _).imp fun _ _ => en.mono (Mv.same s)⟩
end
end Dc
/-! DcE: walks, loops, comprehensions, lists of one's own. -/
namespace Dc
open PySem PySem.Spec L2
section
variable {K : PySem.W.Frag} {PK : PoolK} {pp : PP} {ρ ρ1 ρ2 : List (Sl K)} {O : AS} {c c' : Nat} {σ : St} {H H' H0 H1 H2 : Hp} {α β γ δ : Type} {p : Addr} {o : HO}

/-! ### a new thing, avoided -/
def Ox (O : AS) (p : Addr) : AS := fun a => O a ∨ a = p
theorem Mv.new (h : H p = none) : Mv O (Ox O p) H (upd H p o) := fun a u n e => by
  have ne := ne_of_none e h
  exact ⟨by rw [upd_ne ne]; exact e, fun z => z.elim n ne⟩
theorem av_ox : ∀ {a}, Av (Ox O p) pp ρ a → Ox (Av O pp ρ) p a := fun {a} h => by
  rcases h with (h | h) | h | h
  · exact .inl (.inl h)
  · exact .inr h
  · exact .inl (.inr (.inl h))
  · exact .inl (.inr (.inr h))
theorem Mv.newA (h : H p = none) : Mv (Av O pp ρ) (Av (Ox O p) pp ρ) H (upd H p o) := (Mv.new h).trans (Mv.less fun _ z => av_ox z)
theorem Sat.newO (S : Sat PK O pp ρ c σ H) (h : H p = none) : Sat PK (Ox O p) pp ρ c σ (upd H p o) := by
  have np : ∀ a, H a ≠ none → a ≠ p := fun a n z => n (by rw [z]; exact h)
  have s := same_new (o := o) h
  have S' := S.same s
  refine ⟨S.len, S.nd, fun a ha => ⟨fun z => ?_, (S.new a ha).2⟩, fun a z => ?_, S'.pool, fun i => ?_⟩
  · rcases z with z | z
    · exact (S.new a ha).1 z
    · exact np a (S.av a (.inr (.inr ha))) z
  · rcases z with z | z
    · exact S'.dom a z
    · rw [z, upd_same]; simp
  · refine (S.slots i).mv (Mv.newA h) fun a ha => same_at s ?_
    cases e : get ρ i with
    | ow b on x =>
      rw [e] at ha
      have ha : a = b := by simpa [own1] using ha
      subst ha
      have q := S.slots i
      rw [e] at q
      exact on.dom q.2
    | _ => rw [e] at ha; cases ha
theorem Sat.lessO (S : Sat PK (Ox O p) pp ρ c σ H) : Sat PK O pp ρ c σ H := by
  have less : ∀ a, Av O pp ρ a → Av (Ox O p) pp ρ a := fun a h => by
    rcases h with h | h | h
    · exact .inl (.inl h)
    · exact .inr (.inl h)
    · exact .inr (.inr h)
  exact ⟨S.len, S.nd, fun a ha => ⟨fun z => (S.new a ha).1 (.inl z), (S.new a ha).2⟩, fun a z => S.dom a (.inl z), S.pool, fun i => (S.slots i).mv (Mv.less less) fun _ _ => rfl⟩
/-- what is avoided may change -/
theorem Sat.updO (S : Sat PK O pp ρ c σ H) (hp : O p) (hf : ¬ foot pp p) : Sat PK O pp ρ c σ (upd H p o) := by
  have mv : Mv (Av O pp ρ) (Av O pp ρ) H (upd H p o) := fun a u n e => ⟨by rw [upd_ne (fun z => n (by rw [z]; exact .inl hp))]; exact e, n⟩
  refine ⟨S.len, S.nd, S.new, fun a z => ?_, ?_, fun i => (S.slots i).mv mv fun a ha => ?_⟩
  · by_cases e : a = p
    · rw [e, upd_same]; simp
    · rw [upd_ne e]; exact S.dom a z
  · cases pp with
    | none => exact True.intro
    | some q =>
      obtain ⟨a, b⟩ := q
      have q : PK.r H a b c := S.pool
      exact PK.keep (upd_ne (o := o) fun z => hf (.inl z.symm)) (upd_ne (o := o) fun z => hf (.inr z.symm)) q
  · cases e : get ρ i with
    | ow b on x =>
      rw [e] at ha
      have ha : a = b := by simpa [own1] using ha
      subst ha
      exact upd_ne fun z => (S.new a (owns_mem e)).1 (by rw [z]; exact hp)
    | _ => rw [e] at ha; cases ha
/-- a slot gets a thing of its own -/
theorem Sat.own (S : Sat PK (Ox O p) pp ρ c σ H) (hf : ¬ foot pp p) (ho : ¬ O p) {i : Nat} {on : On K α} {x : α} (r : on.r (Av (Ox O p) pp ρ) H p x) : Sat PK O pp (Dc.put ρ i (.ow p on x)) c (σ.set i (some (.ref p))) H := by
  have less : ∀ a, Av O pp (Dc.put ρ i (.ow p on x)) a → Av (Ox O p) pp ρ a := fun a h => by
    rcases h with h | h | h
    · exact .inl (.inl h)
    · exact .inr (.inl h)
    · rcases owns_put h with h | h
      · exact .inl (.inr (by simpa [own1] using h))
      · exact .inr (.inr h)
  refine ⟨by rw [List.length_set, put_len]; exact S.len, owns_put_nodup S.nd (own1_nodup _) (fun b hb z => ?_), fun a ha => ?_, fun a z => S.dom a (.inl z), S.pool, fun j => ?_⟩
  · have hb : b = p := by simpa [own1] using hb
    exact (S.new b z).1 (.inr hb)
  · rcases owns_put ha with h | h
    · have h : a = p := by simpa [own1] using h
      rw [h]; exact ⟨ho, hf⟩
    · exact ⟨fun z => (S.new a h).1 (.inl z), (S.new a h).2⟩
  · by_cases hj : j = i
    · subst hj
      rcases get_put_self (ρ := ρ) (i := j) (s := Sl.ow p on x) with e | e
      · rw [e]
        have hl := get_len (ρ := Dc.put ρ j (.ow p on x)) (i := j) (by rw [e]; intro z; cases z)
        rw [put_len, ← S.len] at hl
        exact ⟨List.getElem?_set_self hl, on.mono (Mv.less less) rfl r⟩
      · rw [e]; exact True.intro
    · rw [get_put_ne hj]
      have q := (S.slots j).mv (Mv.less less) (fun _ _ => rfl)
      cases e : get ρ j with
      | nil => exact True.intro
      | sh en2 y =>
        rw [e] at q
        obtain ⟨v2, e2, r2⟩ := q
        exact ⟨v2, by rw [List.getElem?_set_ne (Ne.symm hj)]; exact e2, r2⟩
      | ow a on y =>
        rw [e] at q
        exact ⟨by rw [List.getElem?_set_ne (Ne.symm hj)]; exact q.1, q.2⟩
      | pl =>
        rw [e] at q
        obtain ⟨a, b, e2, e3⟩ := q
        exact ⟨a, b, e2, by rw [List.getElem?_set_ne (Ne.symm hj)]; exact e3⟩
/-- an own list changed in place -/
theorem Sat.chgOwn (S : Sat PK O pp ρ c σ H) {i : Nat} {on : On K α} {x : α} {β : Type} {on' : On K β} {y : β} (hg : get ρ i = .ow p on x) (r : on'.r (Av O pp ρ) (upd H p o) p y) : Sat PK O pp (Dc.put ρ i (.ow p on' y)) c σ (upd H p o) ∧ Stp pp ρ (Dc.put ρ i (.ow p on' y)) H (upd H p o) := by
  have eo := owns_same (on' := on') (y := y) hg
  have hm := owns_mem hg
  have mv : Mv (Av O pp ρ) (Av O pp ρ) H (upd H p o) := fun a u n e => ⟨by rw [upd_ne (fun z => n (by rw [z]; exact .inr (.inr hm)))]; exact e, n⟩
  have av : Av O pp (Dc.put ρ i (.ow p on' y)) = Av O pp ρ := by unfold Av; rw [eo]
  have hs : σ[i]? = some (some (.ref p)) := by
    have q := S.slots i
    rw [hg] at q
    exact q.1
  refine ⟨⟨by rw [put_len]; exact S.len, by rw [eo]; exact S.nd, fun a ha => S.new a (by rw [← eo]; exact ha), fun a z => ?_, ?_, fun j => ?_⟩, fun a u e n no => ?_, fun a z => .inl (by rw [← eo]; exact z)⟩
  · by_cases e : a = p
    · rw [e, upd_same]; simp
    · rw [upd_ne e]; exact S.dom a z
  · cases pp with
    | none => exact True.intro
    | some q =>
      obtain ⟨a, b⟩ := q
      have q : PK.r H a b c := S.pool
      have hf := (S.new p hm).2
      exact PK.keep (upd_ne (o := o) fun z => hf (.inl z.symm)) (upd_ne (o := o) fun z => hf (.inr z.symm)) q
  · rw [av]
    by_cases hj : j = i
    · subst hj
      rcases get_put_self (ρ := ρ) (i := j) (s := Sl.ow p on' y) with e | e
      · rw [e]; exact ⟨hs, r⟩
      · rw [e]; exact True.intro
    · rw [get_put_ne hj]
      refine (S.slots j).mv mv fun a ha => upd_ne fun z => ?_
      subst z
      cases e : get ρ j with
      | ow b on2 x2 =>
        rw [e] at ha
        have ha : a = b := by simpa [own1] using ha
        subst ha
        exact hj (owns_inj S.nd e hg)
      | _ => rw [e] at ha; cases ha
  · rw [upd_ne (fun z => no (by rw [z]; exact hm))]; exact e
end
end Dc
/-! DcF: walks, loops, comprehensions. -/
namespace Dc
open PySem PySem.Spec L2
section
variable {K : PySem.W.Frag} {PK : PoolK} {pp : PP} {ρ ρ1 ρ2 : List (Sl K)} {O : AS} {c c' : Nat} {σ : St} {H H' H0 H1 H2 : Hp} {α β γ δ : Type} {p : Addr} {o : HO}
def setAll (σ : St) (us : List (Nat × V)) : St := us.foldl (fun σ u => σ.set u.1 (some u.2)) σ
/-- J walks over xs in every heap to which H0 has moved; an item goes to the slots js, as ext says -/
structure Src (PK : PoolK) (xs : List α) (ext : List (Sl K) → α → List (Sl K)) (js : List Nat) (g : TG) (J : It) (A : AS) (H0 : Hp) : Prop where
  go : ∀ i H A', i < xs.length → Mv A A' H0 H → J.go i H
  stop : ∀ H A', Mv A A' H0 H → J.stop xs.length H
  eown : ∀ (ρ : List (Sl K)) (x : α), ∀ a ∈ owns (ext ρ x), a ∈ owns ρ
  yld : ∀ i x H v H' pp ρ O c σ, xs[i]? = some x → Mv A (Av O pp ρ) H0 H → Sat PK O pp ρ c σ H → J.yld i H v H' → ∃ us H2, us.map (·.1) = js ∧ Same H H2 ∧ Sat PK O pp (ext ρ x) c (setAll σ us) H2 ∧ ∀ Q : St → Hp → Prop, Q (setAll σ us) H2 → g v σ H' Q
def rdI (PK : PoolK) (pp : PP) (ρ : List (Sl K)) (w : W (List α)) (ext : List (Sl K) → α → List (Sl K)) (js : List Nat) (g : TG) : TI := fun σ H R => ∃ O Φ c, Sat PK O pp ρ c σ H ∧ w Φ noX c ∧
  ∀ xs J H' c', Φ xs c' → Chg pp H H' → Sat PK O pp ρ c' σ H' → Src PK xs ext js g J (Av O pp ρ) H' → xs.length ≤ sizeLine → R J H'
/-- a loop's turns -/
def forW (f : γ → α → W (Fl γ γ β)) : γ → List α → W (Fl γ δ β)
  | s, [] => ret (.nx s)
  | s, x :: r => bnd (f s x) fun fl => match fl with
    | .nx s' => forW f s' r
    | .ct s' => forW f s' r
    | .bk s' => ret (.nx s')
    | .rt y => ret (.rt y)
def mapW (f : α → W β) : List α → W (List β)
  | [] => ret []
  | x :: r => bnd (f x) fun y => bnd (mapW f r) fun ys => ret (y :: ys)
def filW (t : α → W Bool) (f : α → W β) : List α → W (List β)
  | [] => ret []
  | x :: r => bnd (t x) fun b => ite b (bnd (f x) fun y => bnd (filW t f r) fun ys => ret (y :: ys)) (filW t f r)
/-- a new list -/
def rdF (PK : PoolK) (pp : PP) (ρ : List (Sl K)) (w : W (List α)) (en : En K α) : TE := fun σ H Q => ∃ O Φ c, Sat PK O pp ρ c σ H ∧ w Φ noX c ∧
  ∀ xs p vs H' c', Φ xs c' → H p = none → Chg pp H H' → Sat PK (Ox O p) pp ρ c' σ H' → H' p = some (.lst vs) → F2 (en.r (Av (Ox O p) pp ρ) H') vs xs → Q (.ref p) H'
theorem nfoot (S : Sat PK O pp ρ c σ H) (h : H p = none) : ¬ foot pp p := fun z => S.av p (.inr (.inl z)) h
theorem chg_none (S : Sat PK O pp ρ c' σ H1) (ch : Chg pp H H1) (h : H1 p = none) : H p = none := by
  cases e : H p with
  | none => rfl
  | some o =>
    by_cases hf : foot pp p
    · exact absurd hf (nfoot S h)
    · have := ch p o e hf
      rw [h] at this; cases this
theorem wipe_get {σ : St} : ∀ {vs : List Nat} {j : Nat}, (wipe σ vs)[j]? = if j ∈ vs then (σ[j]?.map fun _ => none) else σ[j]?
  | [], j => by simp [wipe]
  | v :: vs, j => by
    unfold wipe
    by_cases e : v = j
    · subst e
      by_cases hl : v < σ.length
      · rw [List.getElem?_set_self (by rw [wipe_length]; exact hl)]
        simp [List.getElem?_eq_getElem hl]
      · rw [List.getElem?_eq_none (by rw [List.length_set, wipe_length]; omega), List.getElem?_eq_none (by omega)]
        simp
    · rw [List.getElem?_set_ne e, wipe_get (vs := vs)]
      have : (j ∈ v :: vs) ↔ j ∈ vs := by simp [Ne.symm e]
      by_cases hj : j ∈ vs
      · rw [if_pos hj, if_pos (this.mpr hj)]
      · rw [if_neg hj, if_neg (fun z => hj (this.mp z))]
theorem setAll_get {vs : List Nat} : ∀ {us : List (Nat × V)} {σ : St}, (∀ u ∈ us, u.1 ∈ vs) → (setAll σ us).length = σ.length ∧ ∀ j, j ∉ vs → (setAll σ us)[j]? = σ[j]?
  | [], σ, _ => ⟨rfl, fun _ _ => rfl⟩
  | u :: us, σ, h => by
    obtain ⟨h1, h2⟩ := setAll_get (us := us) (σ := σ.set u.1 (some u.2)) fun x hx => h x (List.mem_cons_of_mem _ hx)
    refine ⟨h1.trans (by simp), fun j hj => (h2 j hj).trans ?_⟩
    rw [List.getElem?_set_ne (fun e => hj (by rw [← e]; exact h u List.mem_cons_self))]
theorem wipe_setAll {vs : List Nat} {us : List (Nat × V)} {σ : St} (h : ∀ u ∈ us, u.1 ∈ vs) : wipe (setAll (wipe σ vs) us) vs = wipe σ vs := by
  apply List.ext_getElem?
  intro j
  obtain ⟨h1, h2⟩ := setAll_get (σ := wipe σ vs) h
  rw [wipe_get, wipe_get]
  by_cases hj : j ∈ vs
  · rw [if_pos hj, if_pos hj]
    by_cases hl : j < σ.length
    · have l1 : j < (setAll (wipe σ vs) us).length := by rw [h1, wipe_length]; exact hl
      rw [List.getElem?_eq_getElem hl, List.getElem?_eq_getElem l1]
      rfl
    · rw [List.getElem?_eq_none (by rw [h1, wipe_length]; omega), List.getElem?_eq_none (by omega)]
  · rw [if_neg hj, if_neg hj, h2 j hj, wipe_get, if_neg hj]
/-- slots that hold nothing may be wiped -/
theorem Sat.wipe (S : Sat PK O pp ρ c σ H) {vs : List Nat} (h : ∀ i ∈ vs, get ρ i = .nil) : Sat PK O pp ρ c (L2.wipe σ vs) H := by
  refine ⟨by rw [wipe_length]; exact S.len, S.nd, S.new, S.dom, S.pool, fun i => ?_⟩
  by_cases hi : i ∈ vs
  · rw [h i hi]; exact True.intro
  · have q := S.slots i
    have e : (L2.wipe σ vs)[i]? = σ[i]? := by rw [wipe_get, if_neg hi]
    cases h2 : get ρ i with
    | nil => exact True.intro
    | sh en x => rw [h2] at q; obtain ⟨v, e1, r⟩ := q; exact ⟨v, e.trans e1, r⟩
    | ow a on x => rw [h2] at q; exact ⟨e.trans q.1, q.2⟩
    | pl => rw [h2] at q; obtain ⟨a, b, e1, e2⟩ := q; exact ⟨a, b, e1, e.trans e2⟩
end
section
variable {X : Cx} {PK : PoolK} {pp : PP} {ρ : List (Sl X.K)} {α β γ δ : Type}
theorem _root_.L2.PI.weak {X : Cx} {tg e : Expr} {t t' : TI} (h : PI X tg e t) (f : ∀ σ H Q, t' σ H Q → t σ H Q) : PI X tg e t' := ⟨fun pins s σ H R I q => h.run pins s σ H R I (f σ H R q)⟩
/-- for -/
theorem nfor {iter tg : Expr} {body : List Stmt} {pos : Pos} {wi : W (List α)} {ext : List (Sl X.K) → α → List (Sl X.K)} {js : List Nat} {g : TG} {f : γ → α → W (Fl γ γ β)} {ρL : γ → List (Sl X.K)} {ρl : δ → List (Sl X.K)} {er : En X.K β} {s0 : γ}
    (hp : PassesOwn (model X.prog X.w) X.A X.env X.xe) (hc : X.calm = true) (hi : PI X tg iter (rdI PK pp ρ wi ext js g)) (hg : PG X tg g) (hf : Fit ρ (ρL s0)) (hb : ∀ s x, PSX X PK pp (ext (ρL s) x) body (f s x) ρL ρL er)
    (hs : ∀ x, foldedSetIterable iter X.env x = pure x := by intro _; rfl) : PS X (.For tg iter body [] pos) (rdS PK pp ρ (bnd wi fun xs => forW f s0 xs) ρL ρl er) :=
  (ps_for hp hc hi hg (PSs.ex fun z : γ × α => hb z.1 z.2) hs).weak fun D σ H ⟨O, Φ, c, S, hw, k⟩ => ⟨O, _, c, S, hw, fun xs J H1 c1 p1 ch S1 src hz => by
    have st0 : Stp pp ρ (ρL s0) H H1 := (Stp.of_chg ch fun _ z => z).trans hf.stp
    refine ⟨fun i m σ' H' => m = xs.length - i ∧ i ≤ xs.length ∧ ∃ s c', Stp pp ρ (ρL s) H1 H' ∧ Sat PK O pp (ρL s) c' σ' H' ∧ forW f s (xs.drop i) Φ noX c', ⟨xs.length, by simp, Nat.zero_le _, s0, c1, hf.stp, S1.fit hf, p1⟩, ?_⟩
    rintro i m σ' H' ⟨rfl, hi, s, c', st, S', hw'⟩
    have ch1 : Stp pp ρ ρ H H1 := Stp.of_chg ch fun _ z => z
    by_cases hlt : i < xs.length
    · refine .inr ⟨src.go i H' _ hlt (st.mv (O := O)), fun σ3 H3 => ∃ s c', Stp pp ρ (ρL s) H1 H3 ∧ Sat PK O pp (ρL s) c' σ3 H3 ∧ forW f s (xs.drop (i + 1)) Φ noX c', fun σ3 H3 q => ⟨xs.length - (i + 1), by omega, rfl, hlt, q⟩, fun v H2 y => ?_⟩
      obtain ⟨us, H3, _, sm, S3, hQ⟩ := src.yld i xs[i] H' v H2 pp (ρL s) O c' σ' (List.getElem?_eq_getElem hlt) st.mv S' y
      refine hQ _ ?_
      rw [List.drop_eq_getElem_cons hlt] at hw'
      have st3 : Stp pp (ρL s) (ext (ρL s) xs[i]) H' H3 := .of_chg (.of sm) (src.eown _ _)
      refine ⟨(s, xs[i]), O, _, c', S3, hw', fun fl H4 c4 q => ?_⟩
      cases fl with
      | nx s' => exact fun σ4 t S4 => ⟨s', c4, (st.trans st3).trans t, S4, q⟩
      | ct s' => exact fun σ4 t S4 => ⟨s', c4, (st.trans st3).trans t, S4, q⟩
      | bk s' => exact fun σ4 t S4 => k (.nx s') H4 c4 q σ4 (((ch1.trans st).trans st3).trans t) S4
      | rt r => exact ((k (.rt r) H4 c4 q).mono ((ch1.trans st).trans st3))
    · have e : i = xs.length := by omega
      subst e
      rw [List.drop_length] at hw'
      exact .inl ⟨src.stop H' _ (st.mv (O := O)), k (.nx s) H' c' hw' σ' (ch1.trans st) S'⟩⟩
theorem xfr {w : W (List α)} {en : En X.K α} {e : Expr} (h : PE X e (rdF PK pp ρ w en)) : PX X PK pp ρ e w (eL en) := h.weak fun σ H Q ⟨O, Φ, c, S, hw, k⟩ => ⟨O, Φ, c, S, hw, fun xs p vs H' c' q hn ch S' e f => by
  have less : ∀ a, Av O pp ρ a → Av (Ox O p) pp ρ a := fun a h => by
    rcases h with h | h | h
    · exact .inl (.inl h)
    · exact .inr (.inl h)
    · exact .inr (.inr h)
  exact k xs _ H' c' q ch S'.lessO ⟨p, vs, rfl, ⟨fun z => S.av p z hn, e⟩, f.imp fun _ _ => en.mono (Mv.less less)⟩⟩
/-- [elt for tg in iter] -/
theorem lc_read {own : List (Str × Nat)} {wi : W (List α)} {ext : List (Sl X.K) → α → List (Sl X.K)} {js : List Nat} {g : TG} {f : α → W β} {en : En X.K β} (hj : ∀ j ∈ js, j ∈ own.map (·.2)) (hn : ∀ i ∈ own.map (·.2), get ρ i = .nil) (ho : ∀ x, owns (ext ρ x) = owns ρ) :
    ∀ σ H Q, rdF PK pp ρ (bnd wi fun xs => mapW f xs) en σ H Q → tLc (rdI PK pp ρ wi ext js g) g tYes (fun σ H Q => ∃ x, rdE PK pp (ext ρ x) (f x) en σ H Q) (own.map (·.2)) σ H Q := by
  intro σ H Q ⟨O, Φ, c, S, hw, k⟩
  refine ⟨O, _, c, S, hw, fun xs J H1 c1 p1 ch S1 src hz D hD => ?_⟩
  have nf := nfoot S1 hD
  have hDH := chg_none S1 ch hD
  have mv0 : Mv (Av O pp ρ) (Av (Ox O D) pp ρ) H1 (upd H1 D (.lst [])) := Mv.newA hD
  refine ⟨fun i m H' => m = xs.length - i ∧ i ≤ xs.length ∧ ∃ acc vs c', H' D = some (.lst vs) ∧ F2 (en.r (Av (Ox O D) pp ρ) H') vs acc ∧ vs.length ≤ i ∧ Chg pp (upd H1 D (.lst [])) (upd H' D (.lst [])) ∧ Sat PK (Ox O D) pp ρ c' σ H' ∧ mapW f (xs.drop i) (fun ys c => Φ (acc ++ ys) c) noX c',
    ⟨xs.length, by simp, Nat.zero_le _, [], [], c1, upd_same, .nil, Nat.zero_le _, by rw [upd_upd]; exact .refl, S1.newO hD, by simpa using p1⟩, ?_⟩
  rintro i m H' ⟨rfl, hi', acc, vs, c', eD, fD, lD, chD, S', hw'⟩
  have mv : Mv (Av O pp ρ) (Av (Ox O D) pp ρ) H1 H' := fun a o n e => by
    obtain ⟨e1, n1⟩ := mv0 a o n e
    have ne : a ≠ D := ne_of_none e hD
    have := chD a o e1 fun z => n (.inr (.inl z))
    rw [upd_ne ne] at this
    exact ⟨this, n1⟩
  by_cases hlt : i < xs.length
  · refine .inr ⟨src.go i H' _ hlt mv, fun H3 => ∃ acc vs c', H3 D = some (.lst vs) ∧ F2 (en.r (Av (Ox O D) pp ρ) H3) vs acc ∧ vs.length ≤ i + 1 ∧ Chg pp (upd H1 D (.lst [])) (upd H3 D (.lst [])) ∧ Sat PK (Ox O D) pp ρ c' σ H3 ∧ mapW f (xs.drop (i + 1)) (fun ys c => Φ (acc ++ ys) c) noX c', fun H3 q => ⟨xs.length - (i + 1), by omega, rfl, hlt, q⟩, fun v H2 y => ?_⟩
    obtain ⟨us, H3, eus, sm, S3, hQ⟩ := src.yld i xs[i] H' v H2 pp ρ (Ox O D) c' (wipe σ (own.map (·.2))) (List.getElem?_eq_getElem hlt) mv (S'.wipe hn) y
    refine hQ _ ⟨wipe_setAll fun u hu => hj _ (by rw [← eus]; exact List.mem_map.mpr ⟨u, hu, rfl⟩), ?_⟩
    unfold tYes
    simp only [if_true]
    rw [List.drop_eq_getElem_cons hlt] at hw'
    refine ⟨xs[i], Ox O D, _, c', S3, hw', fun y v4 H4 c4 q ch4 S4 r4 => ?_⟩
    have e4 : H4 D = some (.lst vs) := ch4 D _ (sm D _ eD) nf
    refine ⟨vs, e4, Nat.lt_of_le_of_lt lD (Nat.lt_of_lt_of_le hlt hz), acc ++ [y], vs ++ [v4], c4, upd_same, ?_, by rw [List.length_append]; exact Nat.succ_le_succ lD, ?_, ?_, ?_⟩
    · have mv4 : Mv (Av (Ox O D) pp ρ) (Av (Ox O D) pp ρ) H' (upd H4 D (.lst (vs ++ [v4]))) := fun a o n e => by
        have ne : a ≠ D := fun z => n (by rw [z]; exact .inl (.inr rfl))
        rw [upd_ne ne]
        exact ⟨ch4 a o (sm a o e) fun z => n (.inr (.inl z)), n⟩
      have mv5 : Mv (Av (Ox O D) pp (ext ρ xs[i])) (Av (Ox O D) pp ρ) H4 (upd H4 D (.lst (vs ++ [v4]))) := fun a o n e => by
        have ne : a ≠ D := fun z => n (by rw [z]; exact .inl (.inr rfl))
        rw [upd_ne ne]
        refine ⟨e, fun z => n ?_⟩
        rcases z with z | z | z
        · exact .inl z
        · exact .inr (.inl z)
        · exact .inr (.inr (by rw [ho]; exact z))
      exact (fD.imp fun _ _ => en.mono mv4).append (.cons (en.mono mv5 r4) .nil)
    · intro a o e hf
      have z := chD a o e hf
      rw [upd_upd]
      by_cases ne : a = D
      · subst ne; rw [upd_same] at z ⊢; exact z
      · rw [upd_ne ne] at z ⊢
        exact ch4 a o (sm a o z) hf
    · exact (S'.chg (fun a o e hf => ch4 a o (sm a o e) hf) S4.pool).updO (.inr rfl) nf
    · have q2 : mapW f (xs.drop (i + 1)) (fun ys c => Φ (acc ++ (y :: ys)) c) noX c4 := q
      simpa [List.append_assoc] using q2
  · have e : i = xs.length := by omega
    subst e
    rw [List.drop_length] at hw'
    have hw2 : Φ (acc ++ []) c' := hw'
    rw [List.append_nil] at hw2
    refine .inl ⟨src.stop H' _ mv, k acc D vs H' c' hw2 hDH (fun a o e hf => ?_) S' eD fD⟩
    have ne : a ≠ D := ne_of_none e hDH
    have z := chD a o (by rw [upd_ne ne]; exact ch a o e hf) hf
    rw [upd_ne ne] at z
    exact z
/-- [elt for tg in iter] -/
theorem xlc {elt tg iter : Expr} {scope : Scope} {own : List (Str × Nat)} {pos : Pos} {wi : W (List α)} {ext : List (Sl X.K) → α → List (Sl X.K)} {js : List Nat} {g : TG} {f : α → W β} {en : En X.K β} (hc : X.calm = true) (hN : X.N.Nodup) (hi : PI X tg iter (rdI PK pp ρ wi ext js g)) (ok : BlkOk X.N X.env.scope scope own)
    (hj : ∀ j ∈ js, j ∈ own.map (·.2)) (hn : ∀ i ∈ own.map (·.2), get ρ i = .nil) (ho : ∀ x, owns (ext ρ x) = owns ρ)
    (hg : ∀ (s : Shared) (H : Hp) (C : Addr) (cl : List (Str × Addr)) (fp : List Addr), PG (X.blk s H scope (compEnvC scope cl C X.env) fp) tg g)
    (he : ∀ (s : Shared) (H : Hp) (C : Addr) (cl : List (Str × Addr)) (fp : List Addr) (x : α), PX (X.blk s H scope (compEnvC scope cl C X.env) fp) PK pp (ext ρ x) elt (f x) en)
    (hs : ∀ x, foldedSetIterable iter X.env x = pure x := by intro _; rfl) :
    PE X (.ListComp elt [⟨tg, iter, [], 0⟩] scope pos) (rdF PK pp ρ (bnd wi fun xs => mapW f xs) en) :=
  (pe_lc hc hN hi ok hg (fun _ _ _ _ _ => pts_nil) (fun s H C cl fp => ⟨fun pins s' σ H Q I ⟨x, q⟩ => (he s _ C cl fp x).run pins s' σ H Q I q⟩) hs).weak (lc_read hj hn ho)
/-- y = [elt for tg in iter], on one line -/
theorem xlcS (i : Nat) {y : Str} {py spos : Pos} {elt tg iter : Expr} {scope : Scope} {own : List (Str × Nat)} {pos : Pos} {wi : W (List α)} {ext : List (Sl X.K) → α → List (Sl X.K)} {js : List Nat} {g : TG} {f : α → W β} {en : En X.K β} (hc : X.calm = true) (hN : X.N.Nodup) (hi : PI X tg iter (rdI PK pp ρ wi ext js g)) (ok : BlkOk X.N X.env.scope scope own)
    (hj : ∀ j ∈ js, j ∈ own.map (·.2)) (hn : ∀ i ∈ own.map (·.2), get ρ i = .nil) (ho : ∀ x, owns (ext ρ x) = owns ρ)
    (hg : ∀ (s : Shared) (H : Hp) (C : Addr) (cl : List (Str × Addr)) (fp : List Addr), PG (X.blk s H scope (compEnvC scope cl C X.env) fp) tg g)
    (he : ∀ (s : Shared) (H : Hp) (C : Addr) (cl : List (Str × Addr)) (fp : List Addr) (x : α), PX (X.blk s H scope (compEnvC scope cl C X.env) fp) PK pp (ext ρ x) elt (f x) en)
    (hsw : swapsWith (.ListComp elt [⟨tg, iter, [], 0⟩] scope pos) (some (.Name y py)) spos.line X.env = pure true) (hy : X.N[i]? = some y := by rfl) (hyl : X.env.scope.names.lookup y = some .local := by rfl)
    (hs : ∀ x, foldedSetIterable iter X.env x = pure x := by intro _; rfl) :
    PS X (.Assign [.Name y py] (.ListComp elt [⟨tg, iter, [], 0⟩] scope pos) spos) (tAsg (rdF PK pp ρ (bnd wi fun xs => mapW f xs) en) (gName i)) :=
  (ps_setLc hc hN hy hyl hsw hi ok hg (fun _ _ _ _ _ => pts_nil) (fun s H C cl fp => ⟨fun pins s' σ H Q I ⟨x, q⟩ => (he s _ C cl fp x).run pins s' σ H Q I q⟩) hs).weak fun D σ H q => lc_read hj hn ho σ H _ q
/-- x = e, e a new list that nobody writes at; or one's own -/
theorem nsetF {st : Stmt} {i : Nat} {w : W (List α)} {en : En X.K α} (h : PS X st (tAsg (rdF PK pp ρ w en) (gName i))) : PS X st (rdN PK pp ρ w fun (_ : Unit) x => put ρ i (.sh (eL en) x)) :=
  nset_ (h.weak fun D σ H ⟨O, Φ, c, S, hw, k⟩ => ⟨O, Φ, c, S, hw, fun xs p vs H' c' q hn ch S' e f => by
    have less : ∀ a, Av O pp ρ a → Av (Ox O p) pp ρ a := fun a h => by
      rcases h with h | h | h
      · exact .inl (.inl h)
      · exact .inr (.inl h)
      · exact .inr (.inr h)
    exact k xs _ H' c' q ch S'.lessO ⟨p, vs, rfl, ⟨fun z => S.av p z hn, e⟩, f.imp fun _ _ => en.mono (Mv.less less)⟩⟩)
theorem nown {st : Stmt} {i : Nat} {w : W (List α)} {en : En X.K α} (h : PS X st (tAsg (rdF PK pp ρ w en) (gName i))) : PS X st (rdN PK pp ρ w fun (p : Addr) x => put ρ i (.ow p (oL en) x)) :=
  h.weak fun D σ H ⟨O, Φ, c, S, hw, k⟩ => ⟨O, Φ, c, S, hw, fun xs p vs H' c' q hn ch S' e f => k p xs H' c' q _ ⟨fun a o e n _ => ch a o e n, fun a z => by
    rcases owns_put z with z | z
    · have z : a = p := by simpa [own1] using z
      rw [z]; exact .inr ⟨hn, nfoot S hn⟩
    · exact .inl z⟩ (S'.own (nfoot S hn) (fun z => S.av p (.inl z) hn) ⟨vs, e, f⟩)⟩
theorem nsetFe (i : Nat) {x : Str} {e : Expr} {pos pos' : Pos} {w : W (List α)} {en : En X.K α} (hN : X.N.Nodup) (he : PE X e (rdF PK pp ρ w en)) (hi : X.N[i]? = some x := by rfl) (hx : Loc X.env.scope x := by first | exact Or.inl rfl | exact Or.inr rfl) (hs : swapsWith e (some (.Name x pos')) pos.line X.env = pure false := by rfl)
    (hf : X.fn x = true ∨ X.env.scope.names.lookup x = some .local := by first | exact .inl rfl | exact .inr rfl) : PS X (.Assign [.Name x pos'] e pos) (tAsg (rdF PK pp ρ w en) (gName i)) := ps_set hN hi hx he hs hf
/-- [a, b, ..] new -/
theorem xlstF {es : List Expr} {pos : Pos} {w : W (List α)} {en : En X.K α} {n : Nat} (h : PAX X PK pp ρ es w (aL en n)) (hn : n ≤ 1000000 := by decide) : PE X (.List es pos) (rdF PK pp ρ w en) := (pe_lst h).weak fun σ H Q ⟨O, Φ, c, S, hw, k⟩ =>
  ⟨O, Φ, c, S, hw, fun x vs H1 c1 p1 ch1 S1 r1 => ⟨by have := r1.2; rw [sizeLine_eq]; omega, fun p np => k _ p vs _ c1 p1 (chg_none S1 ch1 np) (ch1.trans (.of (same_new np))) (S1.newO np) upd_same (r1.1.imp fun _ _ => en.mono (Mv.newA np))⟩⟩
/-- [e] * n new -/
theorem xrepF {a b : Expr} {pos : Pos} {wa : W (List α)} {wb : W Int} {en : En X.K α} (ha : PX X PK pp ρ a wa (eL en)) (hb : PX X PK pp ρ b wb eI) :
    PE X (.BinOp a .Mult b pos) (rdF PK pp ρ (bnd wa fun x => bnd wb fun y => grd (repOk x.length y) (ret (List.replicate y.toNat x).flatten)) en) := (pe_op op_rep ha hb).weak fun σ H Q ⟨O, Φ, c, S, hw, k⟩ =>
  two S hw fun x y v u H' c' q ch S' r1 r2 => by
    obtain ⟨a, vs, rfl, l, f⟩ := r1
    have p := q.1
    simp only [repOk, Bool.and_eq_true, decide_eq_true_eq] at p
    exact ⟨a, y, vs, rfl, r2, l.2, p.1.1, p.1.2, by rw [f.length, sizeLine_eq]; exact p.2, fun p np => k _ p _ _ c' q.2 (chg_none S' ch np) (ch.trans (.of (same_new np))) (S'.newO np) upd_same ((f.flat _).imp fun _ _ => en.mono (Mv.newA np))⟩
/-- xs.append(e), xs one's own -/
theorem nappend (i : Nat) {x : Str} {a : Expr} {pos p' apos cpos : Pos} {w : W α} {en : En X.K α} {p : Addr} {xs : List α} (hg : get ρ i = .ow p (oL en) xs) (h : PX X PK pp ρ a w en) (hN : X.N[i]? = some x := by rfl)
    (hv : Vis X.env.scope x := by first | exact Or.inl rfl | exact Or.inr (Or.inl rfl) | exact Or.inr (Or.inr rfl)) (hd : (x == ("__debug__" : Str)) = false := by decide) (hcd : (x == ("__classdict__" : Str)) = false := by decide)
    (hbase : attributeBase (.Name x p') "append" X.env (eval (.Name x p') X.env) = eval (.Name x p') X.env := by rfl)
    (hfew : ((backTo cpos (starEach [a] X.env)).all (fun x => !x.1) && (backToKw cpos (keywordEach [] X.env)).all (fun x => x.1.isSome) && decide ([a].length + ([] : List Keyword).length + (if ([] : List Keyword).isEmpty then 0 else 1) < 30)) = true := by rfl)
    (hline : (apos.endLine == cpos.line) = true := by rfl) (hs : starEach [a] X.env = (false, eval a X.env) :: starEach [] X.env := by rfl) (hplain : (backTo cpos (starEach [] X.env)).any (·.1) = false := by rfl)
    (hsw : swapsWith (.Call (.Attribute (.Name x p') "append" apos) [a] [] cpos) none pos.line X.env = pure false := by rfl) :
    PS X (.Expr (.Call (.Attribute (.Name x p') "append" apos) [a] [] cpos) pos) (rdN PK pp ρ (bnd w fun y => grd (decide (xs.length < 16777216)) (ret y)) fun (_ : Unit) y => put ρ i (.ow p (oL en) (xs ++ [y]))) :=
  (ps_expr (pe_bm PySem.F.plainAttrs_list PySem.F.slot_list_append PySem.F.type_list_append mt_append (pe_var hN hv hd hcd) (pa_cons h pa_nil hs) hbase hfew hline hs hplain) hsw).weak fun D σ H ⟨O, Φ, c, S, hw, k⟩ => by
    have q := S.slots i
    rw [hg] at q
    obtain ⟨e1, vs, e2, f2⟩ := q
    refine ⟨_, e1, .inl ⟨rfl, _, SqL.of e2⟩, O, _, c, S, hw, fun y v H1 c1 p1 ch S1 r => ?_⟩
    have q := S1.slots i
    rw [hg] at q
    obtain ⟨_, vs, e2, f2⟩ := q
    refine ⟨p, vs, v, rfl, rfl, e2, by rw [f2.length, sizeLine_eq]; exact of_decide_eq_true p1.1, ?_⟩
    have mv : Mv (Av O pp ρ) (Av O pp ρ) H1 (upd H1 p (.lst (vs ++ [v]))) := fun b o n e => ⟨by rw [upd_ne (fun z => n (by rw [z]; exact .inr (.inr (owns_mem hg))))]; exact e, n⟩
    obtain ⟨S2, st⟩ := S1.chgOwn (o := .lst (vs ++ [v])) (on' := oL en) (y := xs ++ [y]) hg ⟨_, upd_same, (f2.append (.cons r .nil)).imp fun _ _ => en.mono mv⟩
    exact k () y _ c1 p1.2 σ ((Stp.of_chg ch fun _ z => z).trans st) S2
/-- xs[i] = e, xs one's own -/
theorem nsetix (i : Nat) {x : Str} {e ix : Expr} {pos p' pos' : Pos} {w : W α} {wx : W Int} {en : En X.K α} {p : Addr} {xs : List α} (hg : get ρ i = .ow p (oL en) xs) (h : PX X PK pp ρ e w en) (hx : PX X PK pp ρ ix wx eI) (hN : X.N[i]? = some x := by rfl)
    (hv : Vis X.env.scope x := by first | exact Or.inl rfl | exact Or.inr (Or.inl rfl) | exact Or.inr (Or.inr rfl)) (hd : (x == ("__debug__" : Str)) = false := by decide) (hcd : (x == ("__classdict__" : Str)) = false := by decide)
    (ha : ∀ v, assign (.Subscript (.Name x p') ix pos') X.env v = (do
      let ov ← holding [v] (eval (.Name x p') X.env)
      let iv ← holding [v, ov] (eval ix X.env)
      standAt pos'
      holding [v, ov, iv] (setItem ov iv v)
      release [v, ov, iv] []) := by intro _; rfl) (hsw : swapsWithSole [.Subscript (.Name x p') ix pos'] e pos.line X.env = pure false := by rfl) (hww : swappedStores [.Subscript (.Name x p') ix pos'] e X.env = pure none := by rfl)
    (h1 : (assignEach [.Subscript (.Name x p') ix pos'] X.env).map (·.2) = [assign (.Subscript (.Name x p') ix pos') X.env] := by rfl) :
    PS X (.Assign [.Subscript (.Name x p') ix pos'] e pos) (rdN PK pp ρ (bnd w fun y => bnd wx fun j => grd (ixOk xs j) (ret (j, y))) fun (_ : Unit) z => put ρ i (.ow p (oL en) (xs.set ((ixN xs.length z.1).getD 0) z.2))) :=
  (ps_asg h (pg_sub (pe_var hN hv hd hcd) hx set_list ha) hsw hww h1).weak fun D σ H ⟨O, Φ, c, S, hw, k⟩ => ⟨O, _, c, S, hw, fun y v H1 c1 p1 ch1 S1 r1 => by
    have q := S1.slots i
    rw [hg] at q
    obtain ⟨e1, vs, e2, f2⟩ := q
    refine ⟨_, e1, O, _, c1, S1, p1, fun j u H2 c2 p2 ch2 S2 r2 => ?_⟩
    have q := S2.slots i
    rw [hg] at q
    obtain ⟨_, vs, e2, f2⟩ := q
    obtain ⟨m, hm⟩ := Option.isSome_iff_exists.mp p2.1
    refine ⟨p, vs, j, m, rfl, r2, e2, by rw [f2.length]; exact hm, ?_⟩
    have mv : Mv (Av O pp ρ) (Av O pp ρ) H2 (upd H2 p (.lst (vs.set m v))) := fun b o n e => ⟨by rw [upd_ne (fun z => n (by rw [z]; exact .inr (.inr (owns_mem hg))))]; exact e, n⟩
    obtain ⟨S3, st⟩ := S2.chgOwn (o := .lst (vs.set m v)) (on' := oL en) (y := xs.set ((ixN xs.length j).getD 0) y) hg ⟨_, upd_same, by
      rw [hm]
      exact (f2.set m (en.mono ch2.mv r1)).imp fun _ _ => en.mono mv⟩
    exact k () (j, y) _ c2 p2.2 σ ((Stp.of_chg (ch1.trans ch2) fun _ z => z).trans st) S3⟩
theorem get_list : PGet X (rIxL X.K) := by
  intro pins s σ H x y v u Q I rx ry h
  obtain ⟨p, xs, i, z, rfl, rfl, hq, he, q⟩ := h
  cases rx
  obtain ⟨t, rfl⟩ := ry
  obtain ⟨its, r, pl, hz⟩ := I.list hq
  obtain ⟨j, h1, h2, h3, h4, h5⟩ := atI_get he
  obtain ⟨w, ew, rw'⟩ := r.get h2
  have hl := r.length
  have hn := line63
  have fin : EP X pins σ Q w s := ⟨z, H, I, rw', q⟩
  by_cases h0 : 0 ≤ i
  · have hj : i.toNat = j := by
      rw [seqIndex_of h0 h5] at h1
      exact Option.some.inj h1
    exact wpAny_getItem_list pl.isList h0 (by omega) (by rw [hj]; simpa using ew) fin
  · have hj : (i + (its.toArray.size : Int)).toNat = j := by
      rw [seqIndex_neg (by omega) h4] at h1
      rw [List.size_toArray, ← hl]
      exact Option.some.inj h1
    exact wpAny_getItem_list_neg pl.isList (by omega) (by rw [List.size_toArray] <;> omega) (by omega) (by rw [hj]; simpa using ew) fin
/-- xs[i] op= e, xs one's own -/
theorem naugix [Inhabited α] (i : Nat) {x : Str} {op : Operator} {e ix : Expr} {pos p' pos' : Pos} {w : W β} {wx : W Int} {en : En X.K α} {e2 : En X.K β} {pre : α → β → Bool} {res : α → β → α} {p : Addr} {xs : List α} (hg : get ρ i = .ow p (oL en) xs) (h : PX X PK pp ρ e w e2) (hx : PX X PK pp ρ ix wx eI)
    (ho : OpW X (inplaceOp op) en e2 en pre res) (hN : X.N[i]? = some x := by rfl)
    (hv : Vis X.env.scope x := by first | exact Or.inl rfl | exact Or.inr (Or.inl rfl) | exact Or.inr (Or.inr rfl)) (hd : (x == ("__debug__" : Str)) = false := by decide) (hcd : (x == ("__classdict__" : Str)) = false := by decide)
    (ha : ∀ ov iv new, augStore ix ov iv new = (do holding [new, ov, iv] (setItem ov iv new); release [new, ov, iv] []; pure .next) := by intros; rfl) :
    PS X (.AugAssign (.Subscript (.Name x p') ix pos') op e pos) (rdN PK pp ρ (bnd wx fun j => grd (ixOk xs j) (bnd w fun y => grd (pre (ixAt xs j) y) (ret (j, res (ixAt xs j) y)))) fun (_ : Unit) z => put ρ i (.ow p (oL en) (xs.set ((ixN xs.length z.1).getD 0) z.2))) :=
  (ps_augS (pe_var hN hv hd hcd) hx get_list h ho set_list ha).weak fun D σ H ⟨O, Φ, c, S, hw, k⟩ => by
    have q := S.slots i
    rw [hg] at q
    obtain ⟨e1, _, _, _⟩ := q
    refine ⟨_, e1, O, _, c, S, hw, fun j u H2 c2 p2 ch2 S2 r2 => ?_⟩
    have q := S2.slots i
    rw [hg] at q
    obtain ⟨_, vs, e2, f2⟩ := q
    obtain ⟨m, hm⟩ := Option.isSome_iff_exists.mp p2.1
    have hlt := ixN_lt hm
    obtain ⟨v1, g1, rv⟩ := f2.get (List.getElem?_eq_getElem hlt)
    have hat : atI vs j = some v1 := by
      unfold atI
      rw [f2.length, hm]
      exact g1
    have exs : xs[m] = ixAt xs j := by
      unfold ixAt
      rw [hm, Option.getD_some, List.getD_eq_getElem?_getD, List.getElem?_eq_getElem hlt]
      rfl
    rw [exs] at rv
    refine ⟨p, vs, j, v1, rfl, r2, SqL.of e2, hat, O, _, c2, S2, p2.2, fun y v H3 c3 p3 ch3 S3 r3 => ⟨_, ixAt xs j, y, S3.av, en.mono ch3.mv rv, r3, p3.1, fun z H4 s4 r4 => ?_⟩⟩
    have S4 := S3.same s4
    have q := S4.slots i
    rw [hg] at q
    obtain ⟨_, vs, e2, f2⟩ := q
    refine ⟨p, vs, j, m, rfl, r2, e2, by rw [f2.length]; exact hm, ?_⟩
    have mv : Mv (Av O pp ρ) (Av O pp ρ) H4 (upd H4 p (.lst (vs.set m z))) := fun b o n e => ⟨by rw [upd_ne (fun z => n (by rw [z]; exact .inr (.inr (owns_mem hg))))]; exact e, n⟩
    obtain ⟨S5, st⟩ := S4.chgOwn (o := .lst (vs.set m z)) (on' := oL en) (y := xs.set ((ixN xs.length j).getD 0) (res (ixAt xs j) y)) hg ⟨_, upd_same, by
      rw [hm]
      exact (f2.set m r4).imp fun _ _ => en.mono mv⟩
    exact k () (j, _) _ c3 p3.2 σ ((Stp.of_chg ((ch2.trans ch3).trans (.of s4)) fun _ z => z).trans st) S5
/-- an own list read, or handed on: as a value it is read alone from then on -/
theorem nfreeze (i : Nat) {p : Addr} {en : En X.K α} {xs : List α} {rest : List Stmt} {w : W (Fl γ δ β)} {ρ' : γ → List (Sl X.K)} {ρl : δ → List (Sl X.K)} {er : En X.K β} (hg : get ρ i = .ow p (oL en) xs) (h : PSX X PK pp (put ρ i (.sh (eL en) xs)) rest w ρ' ρl er) : PSX X PK pp ρ rest w ρ' ρl er :=
  h.weak fun D σ H ⟨O, Φ, c, S, hw, k⟩ => by
    have q := S.slots i
    rw [hg] at q
    obtain ⟨e1, vs, e2, f2⟩ := q
    have hm := owns_mem hg
    have hne : ∀ a, a ∈ owns (put ρ i (.sh (eL en) xs)) → a ∈ owns ρ := fun a z => by
      rcases owns_put z with z | z
      · cases z
      · exact z
    have less : ∀ a, Av O pp (put ρ i (.sh (eL en) xs)) a → Av O pp ρ a := fun a z => by
      rcases z with z | z | z
      · exact .inl z
      · exact .inr (.inl z)
      · exact .inr (.inr (hne a z))
    have np : p ∉ owns (put ρ i (.sh (eL en) xs)) := fun z => by
      obtain ⟨j, α', on, y, e⟩ := mem_owns z
      by_cases hj : j = i
      · subst hj
        rcases get_put_self (ρ := ρ) (i := j) (s := Sl.sh (eL en) xs) with q | q <;> rw [q] at e <;> cases e
      · rw [get_put_ne hj] at e
        exact hj (owns_inj S.nd e hg)
    have S' : Sat PK O pp (put ρ i (.sh (eL en) xs)) c σ H := by
      refine ⟨by rw [put_len]; exact S.len, owns_put_nodup S.nd (own1_nodup _) (fun b hb => by cases hb), fun a ha => S.new a (hne a ha), S.dom, S.pool, fun j => ?_⟩
      by_cases hj : j = i
      · subst hj
        rcases get_put_self (ρ := ρ) (i := j) (s := Sl.sh (eL en) xs) with q | q
        · rw [q]
          refine ⟨_, e1, p, vs, rfl, ⟨fun z => ?_, e2⟩, f2.imp fun _ _ => en.mono (Mv.less less)⟩
          rcases z with z | z | z
          · exact (S.new p hm).1 z
          · exact (S.new p hm).2 z
          · exact np z
        · rw [q]; exact True.intro
      · rw [get_put_ne hj]
        exact (S.slots j).mv (Mv.less less) fun _ _ => rfl
    have st : Stp pp ρ (put ρ i (.sh (eL en) xs)) H H := ⟨fun a o e _ _ => e, fun a z => .inl (hne a z)⟩
    exact ⟨O, Φ, c, S', hw, fun fl H' c' q => by
      have z := k fl H' c' q
      cases fl with
      | nx s => exact fun σ' t S2 => z σ' (st.trans t) S2
      | bk s => exact fun σ' t S2 => z σ' (st.trans t) S2
      | ct s => exact fun σ' t S2 => z σ' (st.trans t) S2
      | rt r => exact fun v ch pl r => z v (fun a o e n no => ch a o e n fun y => no (hne a y)) pl r⟩
end
end Dc
/-! DcG: what is walked: lists, pairs of lists, places with items, ranges. -/
namespace Dc
open PySem PySem.Spec L2
section
variable {X : Cx} {PK : PoolK} {pp : PP} {ρ : List (Sl X.K)} {α β γ δ : Type}
/-- a list is never longer than the line -/
theorem pe_len {e : Expr} {t : TE} (h : PE X e t) : PE X e (fun σ H Q => t σ H fun v H' => (∀ a xs, v = .ref a → SqL X.K H' a xs → xs.length ≤ sizeLine) → Q v H') := ⟨fun pins s σ H Q I q =>
  thn (h.run pins s σ H _ I q) fun u s' ⟨v, H', I', r, q'⟩ => ⟨v, H', I', r, q' fun a xs _ hs => by
    obtain ⟨_, _, _, z⟩ := I'.list hs
    exact z⟩⟩
theorem pa_len {es : List Expr} {t : TA} (h : PA X es t) : PA X es (fun σ H Q => t σ H fun vs H' => (∀ a xs, .ref a ∈ vs → SqL X.K H' a xs → xs.length ≤ sizeLine) → Q vs H') := ⟨fun pos pins s σ H Q I q =>
  thn (h.run pos pins s σ H _ I q) fun us s' ⟨vs, H', I', r, q'⟩ => ⟨vs, H', I', r, q' fun a xs _ hs => by
    obtain ⟨_, _, _, z⟩ := I'.list hs
    exact z⟩⟩
theorem own_put_sh {K : PySem.W.Frag} {α : Type} {ρ : List (Sl K)} {i : Nat} {en : En K α} {x : α} {a : Addr} (h : a ∈ owns (put ρ i (.sh en x))) : a ∈ owns ρ := by
  rcases owns_put h with h | h
  · cases h
  · exact h
/-- for x in xs -/
theorem wlist (i : Nat) {e : Expr} {nm : Str} {p : Pos} {w : W (List α)} {en : En X.K α} (h : PX X PK pp ρ e w (eR en)) : PI X (.Name nm p) e (rdI PK pp ρ w (fun ρ x => put ρ i (.sh en x)) [i] (gName i)) :=
  (pi_list (pe_len h)).weak fun σ H R ⟨O, Φ, c, S, hw, k⟩ => ⟨O, _, c, S, hw, fun xs v H1 c1 p1 ch S1 r1 hz => by
    obtain ⟨a, vs, rfl, l, f⟩ := r1
    refine ⟨a, rfl, ⟨vs, l.sq⟩, k xs _ H1 c1 p1 ch S1 ⟨fun j H' A' hj m => ?_, fun H' A' m => ?_, fun _ _ _ z => own_put_sh z, fun j x H' v H'' pp' ρ' O' c' σ' hx m S' y => ?_⟩ ?_⟩
    · have hv : j < vs.length := by rw [f.length]; exact hj
      exact ⟨vs, vs[j], (l.mv m).sq, List.getElem?_eq_getElem hv⟩
    · exact ⟨vs, (l.mv m).sq, by rw [f.length]; exact Nat.le_refl _⟩
    · obtain ⟨rfl, hy⟩ := y
      obtain ⟨u, hu, ru⟩ := f.get hx
      have e := hy vs (l.mv m).sq
      rw [hu] at e
      cases e
      exact ⟨[(i, v)], H'', rfl, .refl _, S'.put (en.mono m ru), fun Q q => q⟩
    · rw [← f.length]; exact hz a vs rfl l.sq⟩
theorem wlistL (i : Nat) {e : Expr} {nm : Str} {p : Pos} {w : W (List α)} {en : En X.K α} (h : PX X PK pp ρ e w (eL en)) : PI X (.Name nm p) e (rdI PK pp ρ w (fun ρ x => put ρ i (.sh en x)) [i] (gName i)) := wlist i (xR h)
/-- the pair just made, taken apart -/
theorem gpair {K : PySem.W.Frag} {PK : PoolK} {pp : PP} {ρ : List (Sl K)} {O : AS} {c : Nat} {σ : St} {H : Hp} {T : Addr} {u v : V} {i j : Nat} {e1 : En K α} {e2 : En K β} {x : α} {y : β} (S : Sat PK O pp ρ c σ H) (hT : H T = none) (r1 : e1.r (Av O pp ρ) H u x) (r2 : e2.r (Av O pp ρ) H v y) :
    ∃ us H2, us.map (·.1) = [i, j] ∧ Same H H2 ∧ Sat PK O pp (put (put ρ i (.sh e1 x)) j (.sh e2 y)) c (setAll σ us) H2 ∧ ∀ Q : St → Hp → Prop, Q (setAll σ us) H2 → gTup K 2 (gCons (gName i) (gCons (gName j) gNil)) (.ref T) σ (upd H T (.tup [u, v])) Q := by
  have s := same_new (o := .tup [u, v]) hT
  have S1 := S.same s
  have less : ∀ a, Av O pp (put ρ i (.sh e1 x)) a → Av O pp ρ a := fun a z => by
    rcases z with z | z | z
    · exact .inl z
    · exact .inr (.inl z)
    · exact .inr (.inr (own_put_sh z))
  exact ⟨[(i, u), (j, v)], _, rfl, s, (S1.put (e1.mono (Mv.same s) r1)).put (e2.mono ((Mv.same s).trans (Mv.less less)) r2), fun Q q => ⟨T, [u, v], rfl, .inl (.inl upd_same), rfl, u, [v], rfl, v, [], rfl, rfl, q⟩⟩
/-- for a, b in zip(xs, ys) -/
theorem wzip (i j : Nat) {a b : Expr} {elts : List Expr} {kk : Nat} {p pos tpos : Pos} {wa : W (List α × List β × Unit)} {e1 : En X.K α} {e2 : En X.K β} (hm : X.mg "zip" = none) (h : PAX X PK pp ρ [a, b] wa (a2 (eL e1) (eL e2))) (hg : Gl X "zip" := by rfl)
    (hs : starEach [a, b] X.env = (false, eval a X.env) :: starEach [b] X.env := by rfl) (hpl : (backTo pos (starEach [b] X.env)).any (·.1) = false := by rfl) :
    PI X (.Tuple elts kk tpos) (.Call (.Name "zip" p) [a, b] [] pos) (rdI PK pp ρ (bnd wa fun x => ret (x.1.zip x.2.1)) (fun ρ x => put (put ρ i (.sh e1 x.1)) j (.sh e2 x.2)) [i, j] (gTup X.K 2 (gCons (gName i) (gCons (gName j) gNil)))) :=
  (pi_zip hg hm (pa_len h) hs hpl).weak fun σ H R ⟨O, Φ, c, S, hw, k⟩ => ⟨O, _, c, S, hw, fun x vs0 H1 c1 p1 ch S1 r1 hz => by
    obtain ⟨_, _, rfl, ⟨a, vs, rfl, l, f⟩, _, _, rfl, ⟨b, us, rfl, l2, f2⟩, rfl⟩ := r1
    have hl := f.length
    have hl2 := f2.length
    refine ⟨a, b, vs, us, rfl, l.sq, l2.sq, k _ _ H1 c1 p1 ch S1 ⟨fun j H' A' hj m => ?_, fun H' A' m => ?_, fun _ _ _ z => own_put_sh (own_put_sh z), fun j y H' v H'' pp' ρ' O' c' σ' hx m S' yy => ?_⟩ ?_⟩
    · rw [List.length_zip] at hj
      have h1 : j < vs.length := by omega
      have h2 : j < us.length := by omega
      exact ⟨vs, us, vs[j], us[j], (l.mv m).sq, (l2.mv m).sq, List.getElem?_eq_getElem h1, List.getElem?_eq_getElem h2⟩
    · refine ⟨vs, us, (l.mv m).sq, (l2.mv m).sq, ?_⟩
      rw [List.length_zip]
      omega
    · obtain ⟨T, u, w, rfl, nT, rfl, hu, hw'⟩ := yy
      rw [List.getElem?_zip_eq_some] at hx
      obtain ⟨u1, g1, q1⟩ := f.get hx.1
      obtain ⟨u2, g2, q2⟩ := f2.get hx.2
      have z1 := hu vs (l.mv m).sq
      have z2 := hw' us (l2.mv m).sq
      rw [g1] at z1
      rw [g2] at z2
      cases z1
      cases z2
      exact gpair S' nT (e1.mono m q1) (e2.mono m q2)
    · have := hz a vs (by simp) l.sq
      rw [List.length_zip]
      omega⟩
/-- places with items -/
def enumF {α : Type} : Int → List α → List (Int × α)
  | _, [] => []
  | n, x :: r => (n, x) :: enumF (n + 1) r
theorem enumF_len {α : Type} : ∀ (n : Int) (l : List α), (enumF n l).length = l.length
  | _, [] => rfl
  | n, x :: r => by simp [enumF, enumF_len (n + 1) r]
theorem enumF_get {α : Type} : ∀ (n : Int) (l : List α) (i : Nat) (y : Int × α), (enumF n l)[i]? = some y → y.1 = n + i ∧ l[i]? = some y.2
  | _, [], i, y, h => by simp [enumF] at h
  | n, x :: r, 0, y, h => by
    simp [enumF] at h
    subst h
    simp
  | n, x :: r, i + 1, y, h => by
    have h : (enumF (n + 1) r)[i]? = some y := by simpa [enumF] using h
    obtain ⟨h1, h2⟩ := enumF_get (n + 1) r i y h
    refine ⟨by rw [h1]; omega, by simpa using h2⟩
theorem wenumR (i j : Nat) {a : Expr} {elts : List Expr} {kk : Nat} {p pos tpos : Pos} {wa : W (List α × Unit)} {en : En X.K α} (hm : X.mg "enumerate" = none) (h : PAX X PK pp ρ [a] wa (a1 (eR en))) (hg : Gl X "enumerate" := by rfl) (hs : starEach [a] X.env = [(false, eval a X.env)] := by rfl) :
    PI X (.Tuple elts kk tpos) (.Call (.Name "enumerate" p) [a] [] pos) (rdI PK pp ρ (bnd wa fun x => ret (enumF 0 x.1)) (fun ρ x => put (put ρ i (.sh eI x.1)) j (.sh en x.2)) [i, j] (gTup X.K 2 (gCons (gName i) (gCons (gName j) gNil)))) :=
  (pi_enum hg hm (pa_len h) hs).weak fun σ H R ⟨O, Φ, c, S, hw, k⟩ => ⟨O, _, c, S, hw, fun x vs0 H1 c1 p1 ch S1 r1 hz => by
    obtain ⟨_, _, rfl, ⟨a, vs, rfl, l, f⟩, rfl⟩ := r1
    have hl := f.length
    refine ⟨a, vs, rfl, l.sq, k _ _ H1 c1 p1 ch S1 ⟨fun j H' A' hj m => ?_, fun H' A' m => ?_, fun _ _ _ z => own_put_sh (own_put_sh z), fun j y H' v H'' pp' ρ' O' c' σ' hx m S' yy => ?_⟩ ?_⟩
    · rw [enumF_len] at hj
      have h1 : j < vs.length := by omega
      exact ⟨vs, vs[j], (l.mv m).sq, List.getElem?_eq_getElem h1⟩
    · refine ⟨vs, (l.mv m).sq, ?_⟩
      rw [enumF_len]
      omega
    · obtain ⟨T, u, rfl, nT, rfl, hu⟩ := yy
      obtain ⟨h1, h2⟩ := enumF_get 0 _ _ _ hx
      obtain ⟨u1, g1, q1⟩ := f.get h2
      have z1 := hu vs (l.mv m).sq
      rw [g1] at z1
      cases z1
      refine gpair S' nT ?_ (en.mono m q1)
      rw [h1, Int.zero_add]
      rfl
    · have := hz a vs (by simp) l.sq
      rw [enumF_len]
      omega⟩
theorem wenum (i j : Nat) {a : Expr} {elts : List Expr} {kk : Nat} {p pos tpos : Pos} {wa : W (List α × Unit)} {en : En X.K α} (hm : X.mg "enumerate" = none) (h : PAX X PK pp ρ [a] wa (a1 (eL en))) (hg : Gl X "enumerate" := by rfl) (hs : starEach [a] X.env = [(false, eval a X.env)] := by rfl) :
    PI X (.Tuple elts kk tpos) (.Call (.Name "enumerate" p) [a] [] pos) (rdI PK pp ρ (bnd wa fun x => ret (enumF 0 x.1)) (fun ρ x => put (put ρ i (.sh eI x.1)) j (.sh en x.2)) [i, j] (gTup X.K 2 (gCons (gName i) (gCons (gName j) gNil)))) :=
  wenumR i j hm (h.weak fun σ H Q ⟨O, Φ, c, S, hw, k⟩ => ⟨O, Φ, c, S, hw, fun x v H' c' p ch S' r => k x v H' c' p ch S' (by
    obtain ⟨v1, r1, e1, q1, q2⟩ := r
    exact ⟨v1, r1, e1, eL_R q1, q2⟩)⟩) hg hs
/-- whole numbers from lo on -/
def rangeF : Int → Nat → List Int
  | _, 0 => []
  | lo, n + 1 => lo :: rangeF (lo + 1) n
theorem rangeF_len : ∀ (lo : Int) (n : Nat), (rangeF lo n).length = n
  | _, 0 => rfl
  | lo, n + 1 => by simp [rangeF, rangeF_len (lo + 1) n]
theorem rangeF_get : ∀ (lo : Int) (n i : Nat) (y : Int), (rangeF lo n)[i]? = some y → y = lo + i ∧ i < n
  | _, 0, i, y, h => by simp [rangeF] at h
  | lo, n + 1, 0, y, h => by
    simp [rangeF] at h
    subst h
    simp
  | lo, n + 1, i + 1, y, h => by
    have h : (rangeF (lo + 1) n)[i]? = some y := by simpa [rangeF] using h
    obtain ⟨h1, h2⟩ := rangeF_get (lo + 1) n i y h
    exact ⟨by rw [h1]; omega, by omega⟩
def rngOk (i j : Int) : Bool := decide (-(2 ^ 62) ≤ i) && decide (i < 2 ^ 62) && decide (-(2 ^ 62) ≤ j) && decide (j < 2 ^ 62) && decide (j - i ≤ 16777216)
theorem src_range {K : PySem.W.Frag} {PK : PoolK} (i : Nat) (lo : Int) (n : Nat) {A : AS} {H0 : Hp} : Src (K := K) PK (rangeF lo n) (fun ρ x => put ρ i (.sh eI x)) [i] (gName i) (Itr lo n) A H0 := by
  refine ⟨fun j H' A' hj m => ?_, fun H' A' m => ?_, fun _ _ _ z => own_put_sh z, fun j y H' v H'' pp' ρ' O' c' σ' hx m S' yy => ?_⟩
  · rw [rangeF_len] at hj; exact hj
  · rw [rangeF_len]; exact Nat.le_refl _
  · obtain ⟨rfl, rfl⟩ := yy
    obtain ⟨h1, _⟩ := rangeF_get _ _ _ _ hx
    exact ⟨[(i, .int (lo + j))], H'', rfl, .refl _, S'.put (by rw [h1]; rfl), fun Q q => q⟩
theorem wrange1 (i : Nat) {a : Expr} {nm : Str} {p pos tp : Pos} {wa : W (Int × Unit)} (hm : X.mg "range" = none) (h : PAX X PK pp ρ [a] wa (a1 eI)) (hg : Gl X "range" := by rfl) (hs : starEach [a] X.env = [(false, eval a X.env)] := by rfl) :
    PI X (.Name nm tp) (.Call (.Name "range" p) [a] [] pos) (rdI PK pp ρ (bnd wa fun x => grd (rngOk 0 x.1) (ret (rangeF 0 x.1.toNat))) (fun ρ x => put ρ i (.sh eI x)) [i] (gName i)) :=
  (pi_range1 hg hm h hs).weak fun σ H R ⟨O, Φ, c, S, hw, k⟩ => ⟨O, _, c, S, hw, fun x vs0 H1 c1 p1 ch S1 r1 => by
    obtain ⟨_, _, rfl, q, rfl⟩ := r1
    obtain ⟨q0, q2⟩ := p1
    simp only [rngOk, Bool.and_eq_true, decide_eq_true_eq] at q0
    exact ⟨x.1, by rw [show _ = V.int x.1 from q], q0.1.1.2, q0.1.2, k _ _ H1 c1 q2 ch S1 (src_range i 0 _) (by rw [rangeF_len, sizeLine_eq]; have := q0.2; omega)⟩⟩
theorem wrange2 (i : Nat) {a b : Expr} {nm : Str} {p pos tp : Pos} {wa : W (Int × Int × Unit)} (hm : X.mg "range" = none) (h : PAX X PK pp ρ [a, b] wa (a2 eI eI)) (hg : Gl X "range" := by rfl) (hs : starEach [a, b] X.env = [(false, eval a X.env), (false, eval b X.env)] := by rfl) (hs2 : starEach [b] X.env = [(false, eval b X.env)] := by rfl) :
    PI X (.Name nm tp) (.Call (.Name "range" p) [a, b] [] pos) (rdI PK pp ρ (bnd wa fun x => grd (rngOk x.1 x.2.1) (ret (rangeF x.1 (x.2.1 - x.1).toNat))) (fun ρ x => put ρ i (.sh eI x)) [i] (gName i)) :=
  (pi_range2 hg hm h hs hs2).weak fun σ H R ⟨O, Φ, c, S, hw, k⟩ => ⟨O, _, c, S, hw, fun x vs0 H1 c1 p1 ch S1 r1 => by
    obtain ⟨_, _, rfl, q, _, _, rfl, q', rfl⟩ := r1
    obtain ⟨q0, q2⟩ := p1
    simp only [rngOk, Bool.and_eq_true, decide_eq_true_eq] at q0
    exact ⟨x.1, x.2.1, by rw [show _ = V.int x.1 from q, show _ = V.int x.2.1 from q'], ⟨q0.1.1.1.1, q0.1.1.1.2, q0.1.1.2, q0.1.2⟩, k _ _ H1 c1 q2 ch S1 (src_range i _ _) (by rw [rangeF_len, sizeLine_eq]; have := q0.2; omega)⟩⟩
end
end Dc
/-! DcH: more statements and expressions. -/
namespace Dc
open PySem PySem.Spec L2
section
variable {X : Cx} {PK : PoolK} {pp : PP} {ρ : List (Sl X.K)} {α β γ δ : Type}

/-! ### own lists read -/
theorem xixO [Inhabited α] (i : Nat) {x : Str} {ix : Expr} {p' pos : Pos} {wx : W Int} {en : En X.K α} {p : Addr} {xs : List α} (hg : get ρ i = .ow p (oL en) xs) (hx : PX X PK pp ρ ix wx eI) (hN : X.N[i]? = some x := by rfl)
    (hv : Vis X.env.scope x := by first | exact Or.inl rfl | exact Or.inr (Or.inl rfl) | exact Or.inr (Or.inr rfl)) (hd : (x == ("__debug__" : Str)) = false := by decide) (hcd : (x == ("__classdict__" : Str)) = false := by decide) (hs : PlainIx ix := by exact fun _ _ => rfl) :
    PX X PK pp ρ (.Subscript (.Name x p') ix pos) (bnd wx fun j => grd (ixOk xs j) (ret (ixAt xs j))) en :=
  (pe_ix ix_list (pe_var hN hv hd hcd) hx hs).weak fun σ H Q ⟨O, Φ, c, S, hw, k⟩ => by
    have q := S.slots i
    rw [hg] at q
    obtain ⟨e1, _, _, _⟩ := q
    refine ⟨_, e1, O, _, c, S, hw, fun j u H2 c2 p2 ch2 S2 r2 => ?_⟩
    have q := S2.slots i
    rw [hg] at q
    obtain ⟨_, vs, e2, f2⟩ := q
    obtain ⟨m, hm⟩ := Option.isSome_iff_exists.mp p2.1
    have hlt := ixN_lt hm
    obtain ⟨v1, g1, rv⟩ := f2.get (List.getElem?_eq_getElem hlt)
    refine ⟨p, vs, j, v1, rfl, r2, SqL.of e2, ?_, k _ _ H2 c2 p2.2 ch2 S2 ?_⟩
    · unfold atI
      rw [f2.length, hm]
      exact g1
    · unfold ixAt
      rw [hm, Option.getD_some, List.getD_eq_getElem?_getD, List.getElem?_eq_getElem hlt]
      exact rv
theorem xlenO (i : Nat) {x : Str} {p p' pos : Pos} {en : En X.K α} {a : Addr} {xs : List α} (hg : get ρ i = .ow a (oL en) xs) (hm : X.mg "len" = none) (hgl : Gl X "len" := by rfl) (hN : X.N[i]? = some x := by rfl)
    (hv : Vis X.env.scope x := by first | exact Or.inl rfl | exact Or.inr (Or.inl rfl) | exact Or.inr (Or.inr rfl)) (hd : (x == ("__debug__" : Str)) = false := by decide) (hcd : (x == ("__classdict__" : Str)) = false := by decide)
    (he : starEach [Expr.Name x p'] X.env = (false, eval (.Name x p') X.env) :: starEach [] X.env := by rfl) (hpl : (backTo pos (starEach [] X.env)).any (·.1) = false := by rfl) :
    PX X PK pp ρ (.Call (.Name "len" p) [.Name x p'] [] pos) (ret (xs.length : Int)) eI :=
  (pe_callB call_len_seq hgl hm PySem.boot_len (pa_cons (pe_var hN hv hd hcd) pa_nil he) (by decide) (by decide) he hpl).weak fun σ H Q ⟨O, Φ, c, S, hw, k⟩ => by
    have q := S.slots i
    rw [hg] at q
    obtain ⟨e1, vs, e2, f2⟩ := q
    exact ⟨_, e1, a, vs, rfl, .inl (SqL.of e2), k _ _ H c hw .refl S (by rw [f2.length]; rfl)⟩

/-! ### a, b = e -/
theorem npair (i j : Nat) {x y : Str} {e : Expr} {px py pt pos : Pos} {kt} {w : W (α × β)} {e1 : En X.K α} {e2 : En X.K β} (hc : X.calm = true) (hN : X.N.Nodup) (h : PX X PK pp ρ e w (eP e1 e2)) (hi : X.N[i]? = some x := by rfl) (hj : X.N[j]? = some y := by rfl)
    (hx : Loc X.env.scope x := by first | exact Or.inl rfl | exact Or.inr rfl) (hy : Loc X.env.scope y := by first | exact Or.inl rfl | exact Or.inr rfl)
    (hf : X.fn x = true ∨ X.env.scope.names.lookup x = some .local := by first | exact .inl rfl | exact .inr rfl) (hf2 : X.fn y = true ∨ X.env.scope.names.lookup y = some .local := by first | exact .inl rfl | exact .inr rfl)
    (hs1 : (assignEach [Expr.Name x px, Expr.Name y py] X.env).map (·.2) = assign (.Name x px) X.env :: (assignEach [Expr.Name y py] X.env).map (·.2) := by rfl) (hs2 : (assignEach [Expr.Name y py] X.env).map (·.2) = assign (.Name y py) X.env :: (assignEach [] X.env).map (·.2) := by rfl)
    (hn : (assignEach [Expr.Name x px, Expr.Name y py] X.env).length = 2 := by rfl) (hst : (assignEach [Expr.Name x px, Expr.Name y py] X.env).findIdx? (·.1) = none := by rfl)
    (hsw : swapsWithSole [.Tuple [.Name x px, .Name y py] kt pt] e pos.line X.env = pure false := by rfl) (hww : swappedStores [.Tuple [.Name x px, .Name y py] kt pt] e X.env = pure none := by rfl) (h1 : (assignEach [.Tuple [.Name x px, .Name y py] kt pt] X.env).map (·.2) = [assign (.Tuple [.Name x px, .Name y py] kt pt) X.env] := by rfl) :
    PS X (.Assign [.Tuple [.Name x px, .Name y py] kt pt] e pos) (rdN PK pp ρ w fun (_ : Unit) z => put (put ρ i (.sh e1 z.1)) j (.sh e2 z.2)) :=
  (ps_asg h (pg_tup hc (pgs_cons (pg_name hN hi hx hf) (pgs_cons (pg_name hN hj hy hf2) pgs_nil hs2) hs1) hn hst) hsw hww h1).weak fun D σ H ⟨O, Φ, c, S, hw, k⟩ => ⟨O, _, c, S, hw, fun z v H1 c1 p1 ch S1 r => by
    obtain ⟨a, u, w, rfl, t, q1, q2⟩ := r
    refine ⟨a, [u, w], rfl, t.sq, rfl, u, [w], rfl, w, [], rfl, rfl, ?_⟩
    have less : ∀ a, Av O pp (put ρ i (.sh e1 z.1)) a → Av O pp ρ a := fun a z => by
      rcases z with z | z | z
      · exact .inl z
      · exact .inr (.inl z)
      · exact .inr (.inr (own_put_sh z))
    exact k () z H1 c1 p1 _ (.of_chg ch fun a z => own_put_sh (own_put_sh z)) ((S1.put q1).put (e2.mono (Mv.less less) q2))⟩
/-- a, b = e1, e2 -/
theorem npar (i j : Nat) {x y : Str} {a b : Expr} {px py pt pos : Pos} {kt k2 pt2} {w : W (α × β × Unit)} {e1 : En X.K α} {e2 : En X.K β} (hc : X.calm = true) (hN : X.N.Nodup) (h : PAX X PK pp ρ [a, b] w (a2 e1 e2)) (hij : i ≠ j := by decide) (hi : X.N[i]? = some x := by rfl) (hj : X.N[j]? = some y := by rfl)
    (hx : X.env.scope.names.lookup x = some .local := by rfl) (hy : X.env.scope.names.lookup y = some .local := by rfl) (hw : swappedStores [.Tuple [.Name x px, .Name y py] kt pt] (.Tuple [a, b] k2 pt2) X.env = pure (some [x, y]) := by rfl)
    (hs : swapsWithSole [.Tuple [.Name x px, .Name y py] kt pt] (.Tuple [a, b] k2 pt2) pos.line X.env = pure false := by rfl) :
    PS X (.Assign [.Tuple [.Name x px, .Name y py] kt pt] (.Tuple [a, b] k2 pt2) pos) (rdN PK pp ρ w fun (_ : Unit) z => put (put ρ i (.sh e1 z.1)) j (.sh e2 z.2.1)) :=
  (ps_par hc hN hi hj hij hx hy h hw hs).weak fun D σ H ⟨O, Φ, c, S, hw, k⟩ => ⟨O, _, c, S, hw, fun z v H1 c1 p1 ch S1 r => by
    obtain ⟨u, _, rfl, q1, w, _, rfl, q2, rfl⟩ := r
    have less : ∀ a, Av O pp (put ρ i (.sh e1 z.1)) a → Av O pp ρ a := fun a z => by
      rcases z with z | z | z
      · exact .inl z
      · exact .inr (.inl z)
      · exact .inr (.inr (own_put_sh z))
    exact ⟨u, w, rfl, k () z H1 c1 p1 _ (.of_chg ch fun a z => own_put_sh (own_put_sh z)) ((S1.put q1).put (e2.mono (Mv.less less) q2))⟩⟩
/-! ### while -/
def whW (t : γ → W Bool) (f : γ → W (Fl γ γ β)) : Nat → γ → W (Fl γ δ β)
  | 0, _ => stuck
  | n + 1, s => bnd (t s) fun b => ite b (bnd (f s) fun fl => match fl with
    | .nx s' => whW t f n s'
    | .ct s' => whW t f n s'
    | .bk s' => ret (.nx s')
    | .rt y => ret (.rt y)) (ret (.nx s))
theorem nwhile {c : Expr} {body : List Stmt} {pos : Pos} {t : γ → W Bool} {f : γ → W (Fl γ γ β)} {ρL : γ → List (Sl X.K)} {ρl : δ → List (Sl X.K)} {er : En X.K β} {s0 : γ} (fuel : Nat)
    (hp : PassesOwn (model X.prog X.w) X.A X.env X.xe) (hf : Fit ρ (ρL s0)) (ht : ∀ s, PTX X PK pp (ρL s) c (t s)) (hb : ∀ s, PSX X PK pp (ρL s) body (f s) ρL ρL er) :
    PS X (.While c body [] pos) (rdS PK pp ρ (whW t f fuel s0) ρL ρl er) :=
  (ps_while (tc := fun σ H Q => ∃ s, rdT PK pp (ρL s) (t s) σ H Q) hp ⟨fun pins s σ H Q I ⟨g, q⟩ => (ht g).run pins s σ H Q I q⟩ (PSs.ex hb)).weak fun D σ H ⟨O, Φ, c, S, hw, k⟩ => by
    refine ⟨fun m σ' H' => ∃ s c', Stp pp ρ (ρL s) H H' ∧ Sat PK O pp (ρL s) c' σ' H' ∧ whW t f m s Φ noX c', ⟨fuel, s0, c, hf.stp, S.fit hf, hw⟩, ?_⟩
    rintro m σ' H' ⟨s, c', st, S', hw'⟩
    cases m with
    | zero => exact hw'.elim
    | succ m =>
      refine ⟨s, O, _, c', S', hw', fun b H2 c2 q ch S2 => ?_⟩
      have st2 := st.trans (.of_chg ch fun _ z => z)
      cases b with
      | true =>
        simp only [if_true]
        refine ⟨fun σ3 H3 => ∃ s c', Stp pp ρ (ρL s) H H3 ∧ Sat PK O pp (ρL s) c' σ3 H3 ∧ whW t f m s Φ noX c', fun σ3 H3 z => ⟨m, Nat.lt_succ_self m, z⟩, s, O, _, c2, S2, q, fun fl H4 c4 q4 => ?_⟩
        cases fl with
        | nx s' => exact fun σ4 t S4 => ⟨s', c4, st2.trans t, S4, q4⟩
        | ct s' => exact fun σ4 t S4 => ⟨s', c4, st2.trans t, S4, q4⟩
        | bk s' => exact fun σ4 t S4 => k (.nx s') H4 c4 q4 σ4 (st2.trans t) S4
        | rt r => exact (k (.rt r) H4 c4 q4).mono st2
      | false =>
        simp only [Bool.false_eq_true, if_false]
        exact k (.nx s) H2 c2 (by simpa [ite, ret] using q) σ' st2 S2
/-! ### comparisons of data -/
structure Dat {K : PySem.W.Frag} {α : Type} (en : En K α) (to : α → PyData) : Prop where
  dp : ∀ {O : AS} {H : Hp} {v : V} {x : α}, en.r O H v x → Dp K H v (to x)
theorem dI {K : PySem.W.Frag} : Dat (eI : En K Int) .int := ⟨fun h => by rw [show _ = _ from h]; exact .int _⟩
theorem dB {K : PySem.W.Frag} : Dat (eB : En K Bool) .bool := ⟨fun h => by rw [show _ = _ from h]; exact .bl _⟩
theorem dS {K : PySem.W.Frag} : Dat (eS : En K Str) .str := ⟨fun h => by rw [show _ = _ from h]; exact .str _⟩
theorem dAll {K : PySem.W.Frag} {en : En K α} {to : α → PyData} (d : Dat en to) {O : AS} {H : Hp} {vs : List V} {xs : List α} (f : F2 (en.r O H) vs xs) : DpAll K H vs (xs.map to) := by
  induction f with
  | nil => exact .nil
  | cons r _ ih => exact .cons (d.dp r) ih
theorem dL {K : PySem.W.Frag} {en : En K α} {to : α → PyData} (d : Dat en to) : Dat (eL en) (fun xs => .list (xs.map to)) := ⟨fun ⟨a, vs, e, l, f⟩ => by rw [e]; exact .lst l.sq (dAll d f)⟩
theorem dP {K : PySem.W.Frag} {e1 : En K α} {e2 : En K β} {to : α → PyData} {to2 : β → PyData} (d : Dat e1 to) (d2 : Dat e2 to2) : Dat (eP e1 e2) (fun x => .tuple [to x.1, to2 x.2]) := ⟨fun ⟨a, u, w, e, t, q1, q2⟩ => by rw [e]; exact .tup t.sq (.cons (d.dp q1) (.cons (d2.dp q2) .nil))⟩
theorem w_eqD {en : En X.K α} {e2 : En X.K β} {to : α → PyData} {to2 : β → PyData} (d : Dat en to) (d2 : Dat e2 to2) (hs : ∀ x, SeqAt.shaped (to x) = true) (hs2 : ∀ x, SeqAt.shaped (to2 x) = true) (hu : X.A.units + 64 < cLine) : OpW X (compareOp .Eq) en e2 eB (fun _ _ => true) (fun x y => PyData.eqv (to x) (to2 y)) := by
  intro pins s σ H x y v u Q I rx ry ⟨A, a, b, _, r1, r2, _, k⟩
  exact op_eqD hu pins s σ H x y v u Q I rx ry ⟨_, _, d.dp r1, d2.dp r2, hs _, hs2 _, k _ _ (.refl _) rfl⟩
theorem w_neD {en : En X.K α} {e2 : En X.K β} {to : α → PyData} {to2 : β → PyData} (d : Dat en to) (d2 : Dat e2 to2) (hs : ∀ x, SeqAt.shaped (to x) = true) (hs2 : ∀ x, SeqAt.shaped (to2 x) = true) (hu : X.A.units + 64 < cLine) : OpW X (compareOp .NotEq) en e2 eB (fun _ _ => true) (fun x y => !PyData.eqv (to x) (to2 y)) := by
  intro pins s σ H x y v u Q I rx ry ⟨A, a, b, _, r1, r2, _, k⟩
  exact op_neD hu pins s σ H x y v u Q I rx ry ⟨_, _, d.dp r1, d2.dp r2, hs _, hs2 _, k _ _ (.refl _) rfl⟩

/-! ### [elt for a in xs if t], [elt for a in xs for b in a] -/
theorem lc_readF {own : List (Str × Nat)} {wi : W (List α)} {ext : List (Sl X.K) → α → List (Sl X.K)} {js : List Nat} {g : TG} {t : α → W Bool} {f : α → W β} {en : En X.K β} (hj : ∀ j ∈ js, j ∈ own.map (·.2)) (hn : ∀ i ∈ own.map (·.2), get ρ i = .nil) (ho : ∀ x, owns (ext ρ x) = owns ρ) :
    ∀ σ H Q, rdF PK pp ρ (bnd wi fun xs => filW t f xs) en σ H Q → tLc (rdI PK pp ρ wi ext js g) g (fun σ H Q => ∃ x, rdT PK pp (ext ρ x) (t x) σ H Q) (fun σ H Q => ∃ x, rdE PK pp (ext ρ x) (f x) en σ H Q) (own.map (·.2)) σ H Q := by
  intro σ H Q ⟨O, Φ, c, S, hw, k⟩
  refine ⟨O, _, c, S, hw, fun xs J H1 c1 p1 ch S1 src hz D hD => ?_⟩
  have nf := nfoot S1 hD
  have hDH := chg_none S1 ch hD
  have mv0 : Mv (Av O pp ρ) (Av (Ox O D) pp ρ) H1 (upd H1 D (.lst [])) := Mv.newA hD
  refine ⟨fun i m H' => m = xs.length - i ∧ i ≤ xs.length ∧ ∃ acc vs c', H' D = some (.lst vs) ∧ F2 (en.r (Av (Ox O D) pp ρ) H') vs acc ∧ vs.length ≤ i ∧ Chg pp (upd H1 D (.lst [])) (upd H' D (.lst [])) ∧ Sat PK (Ox O D) pp ρ c' σ H' ∧ filW t f (xs.drop i) (fun ys c => Φ (acc ++ ys) c) noX c',
    ⟨xs.length, by simp, Nat.zero_le _, [], [], c1, upd_same, .nil, Nat.zero_le _, by rw [upd_upd]; exact .refl, S1.newO hD, by simpa using p1⟩, ?_⟩
  rintro i m H' ⟨rfl, hi', acc, vs, c', eD, fD, lD, chD, S', hw'⟩
  have mv : Mv (Av O pp ρ) (Av (Ox O D) pp ρ) H1 H' := fun a o n e => by
    obtain ⟨e1, n1⟩ := mv0 a o n e
    have ne : a ≠ D := ne_of_none e hD
    have := chD a o e1 fun z => n (.inr (.inl z))
    rw [upd_ne ne] at this
    exact ⟨this, n1⟩
  by_cases hlt : i < xs.length
  · refine .inr ⟨src.go i H' _ hlt mv, fun H3 => ∃ acc vs c', H3 D = some (.lst vs) ∧ F2 (en.r (Av (Ox O D) pp ρ) H3) vs acc ∧ vs.length ≤ i + 1 ∧ Chg pp (upd H1 D (.lst [])) (upd H3 D (.lst [])) ∧ Sat PK (Ox O D) pp ρ c' σ H3 ∧ filW t f (xs.drop (i + 1)) (fun ys c => Φ (acc ++ ys) c) noX c', fun H3 q => ⟨xs.length - (i + 1), by omega, rfl, hlt, q⟩, fun v H2 y => ?_⟩
    obtain ⟨us, H3, eus, sm, S3, hQ⟩ := src.yld i xs[i] H' v H2 pp ρ (Ox O D) c' (wipe σ (own.map (·.2))) (List.getElem?_eq_getElem hlt) mv (S'.wipe hn) y
    refine hQ _ ⟨wipe_setAll fun u hu => hj _ (by rw [← eus]; exact List.mem_map.mpr ⟨u, hu, rfl⟩), ?_⟩
    rw [List.drop_eq_getElem_cons hlt] at hw'
    refine ⟨xs[i], Ox O D, _, c', S3, hw', fun b H3' c3 q3 ch3 S3' => ?_⟩
    have e3 : H3' D = some (.lst vs) := ch3 D _ (sm D _ eD) nf
    have mv3 : Mv (Av (Ox O D) pp ρ) (Av (Ox O D) pp ρ) H' H3' := fun a o n e => ⟨ch3 a o (sm a o e) fun z => n (.inr (.inl z)), n⟩
    have chg3 : Chg pp (upd H1 D (.lst [])) (upd H3' D (.lst [])) := fun a o e hf => by
      have z := chD a o e hf
      by_cases ne : a = D
      · subst ne; rw [upd_same] at z ⊢; exact z
      · rw [upd_ne ne] at z ⊢
        exact ch3 a o (sm a o z) hf
    cases b with
    | false =>
      simp only [Bool.false_eq_true, if_false]
      exact ⟨acc, vs, c3, e3, fD.imp fun _ _ => en.mono mv3, Nat.le_succ_of_le lD, chg3, S'.chg (fun a o e hf => ch3 a o (sm a o e) hf) S3'.pool, by simpa [ite] using q3⟩
    | true =>
      simp only [if_true]
      refine ⟨xs[i], Ox O D, _, c3, S3', q3, fun y v4 H4 c4 q ch4 S4 r4 => ?_⟩
      have e4 : H4 D = some (.lst vs) := ch4 D _ e3 nf
      refine ⟨vs, e4, Nat.lt_of_le_of_lt lD (Nat.lt_of_lt_of_le hlt hz), acc ++ [y], vs ++ [v4], c4, upd_same, ?_, by rw [List.length_append]; exact Nat.succ_le_succ lD, ?_, ?_, ?_⟩
      · have mv4 : Mv (Av (Ox O D) pp ρ) (Av (Ox O D) pp ρ) H' (upd H4 D (.lst (vs ++ [v4]))) := fun a o n e => by
          have ne : a ≠ D := fun z => n (by rw [z]; exact .inl (.inr rfl))
          rw [upd_ne ne]
          exact ⟨ch4 a o (mv3 a o n e).1 fun z => n (.inr (.inl z)), n⟩
        have mv5 : Mv (Av (Ox O D) pp (ext ρ xs[i])) (Av (Ox O D) pp ρ) H4 (upd H4 D (.lst (vs ++ [v4]))) := fun a o n e => by
          have ne : a ≠ D := fun z => n (by rw [z]; exact .inl (.inr rfl))
          rw [upd_ne ne]
          refine ⟨e, fun z => n ?_⟩
          rcases z with z | z | z
          · exact .inl z
          · exact .inr (.inl z)
          · exact .inr (.inr (by rw [ho]; exact z))
        exact (fD.imp fun _ _ => en.mono mv4).append (.cons (en.mono mv5 r4) .nil)
      · intro a o e hf
        have z := chg3 a o e hf
        rw [upd_upd]
        by_cases ne : a = D
        · subst ne; rw [upd_same] at z ⊢; exact z
        · rw [upd_ne ne] at z ⊢
          exact ch4 a o z hf
      · exact (S'.chg (fun a o e hf => ch4 a o (ch3 a o (sm a o e) hf) hf) S4.pool).updO (.inr rfl) nf
      · have q2 : filW t f (xs.drop (i + 1)) (fun ys c => Φ (acc ++ (y :: ys)) c) noX c4 := q
        simpa [List.append_assoc] using q2
  · have e : i = xs.length := by omega
    subst e
    rw [List.drop_length] at hw'
    have hw2 : Φ (acc ++ []) c' := hw'
    rw [List.append_nil] at hw2
    refine .inl ⟨src.stop H' _ mv, k acc D vs H' c' hw2 hDH (fun a o e hf => ?_) S' eD fD⟩
    have ne : a ≠ D := ne_of_none e hDH
    have z := chD a o (by rw [upd_ne ne]; exact ch a o e hf) hf
    rw [upd_ne ne] at z
    exact z
theorem xlcI {elt tg iter tst : Expr} {scope : Scope} {own : List (Str × Nat)} {pos : Pos} {wi : W (List α)} {ext : List (Sl X.K) → α → List (Sl X.K)} {js : List Nat} {g : TG} {t : α → W Bool} {f : α → W β} {en : En X.K β} (hc : X.calm = true) (hN : X.N.Nodup) (hi : PI X tg iter (rdI PK pp ρ wi ext js g)) (ok : BlkOk X.N X.env.scope scope own)
    (hj : ∀ j ∈ js, j ∈ own.map (·.2)) (hn : ∀ i ∈ own.map (·.2), get ρ i = .nil) (ho : ∀ x, owns (ext ρ x) = owns ρ)
    (hg : ∀ (s : Shared) (H : Hp) (C : Addr) (cl : List (Str × Addr)) (fp : List Addr), PG (X.blk s H scope (compEnvC scope cl C X.env) fp) tg g)
    (ht : ∀ (s : Shared) (H : Hp) (C : Addr) (cl : List (Str × Addr)) (fp : List Addr) (x : α), PTX (X.blk s H scope (compEnvC scope cl C X.env) fp) PK pp (ext ρ x) tst (t x))
    (he : ∀ (s : Shared) (H : Hp) (C : Addr) (cl : List (Str × Addr)) (fp : List Addr) (x : α), PX (X.blk s H scope (compEnvC scope cl C X.env) fp) PK pp (ext ρ x) elt (f x) en)
    (hs : ∀ x, foldedSetIterable iter X.env x = pure x := by intro _; rfl) :
    PE X (.ListComp elt [⟨tg, iter, [tst], 0⟩] scope pos) (rdF PK pp ρ (bnd wi fun xs => filW t f xs) en) :=
  (pe_lc hc hN hi ok hg (fun s H C cl fp => pts_one ⟨fun pins s' σ H Q I ⟨x, q⟩ => (ht s _ C cl fp x).run pins s' σ H Q I q⟩) (fun s H C cl fp => ⟨fun pins s' σ H Q I ⟨x, q⟩ => (he s _ C cl fp x).run pins s' σ H Q I q⟩) hs).weak (lc_readF hj hn ho)
theorem xlcIS (i : Nat) {y : Str} {py spos : Pos} {elt tg iter tst : Expr} {scope : Scope} {own : List (Str × Nat)} {pos : Pos} {wi : W (List α)} {ext : List (Sl X.K) → α → List (Sl X.K)} {js : List Nat} {g : TG} {t : α → W Bool} {f : α → W β} {en : En X.K β} (hc : X.calm = true) (hN : X.N.Nodup) (hi : PI X tg iter (rdI PK pp ρ wi ext js g)) (ok : BlkOk X.N X.env.scope scope own)
    (hj : ∀ j ∈ js, j ∈ own.map (·.2)) (hn : ∀ i ∈ own.map (·.2), get ρ i = .nil) (ho : ∀ x, owns (ext ρ x) = owns ρ)
    (hg : ∀ (s : Shared) (H : Hp) (C : Addr) (cl : List (Str × Addr)) (fp : List Addr), PG (X.blk s H scope (compEnvC scope cl C X.env) fp) tg g)
    (ht : ∀ (s : Shared) (H : Hp) (C : Addr) (cl : List (Str × Addr)) (fp : List Addr) (x : α), PTX (X.blk s H scope (compEnvC scope cl C X.env) fp) PK pp (ext ρ x) tst (t x))
    (he : ∀ (s : Shared) (H : Hp) (C : Addr) (cl : List (Str × Addr)) (fp : List Addr) (x : α), PX (X.blk s H scope (compEnvC scope cl C X.env) fp) PK pp (ext ρ x) elt (f x) en)
    (hsw : swapsWith (.ListComp elt [⟨tg, iter, [tst], 0⟩] scope pos) (some (.Name y py)) spos.line X.env = pure true) (hy : X.N[i]? = some y := by rfl) (hyl : X.env.scope.names.lookup y = some .local := by rfl)
    (hs : ∀ x, foldedSetIterable iter X.env x = pure x := by intro _; rfl) :
    PS X (.Assign [.Name y py] (.ListComp elt [⟨tg, iter, [tst], 0⟩] scope pos) spos) (tAsg (rdF PK pp ρ (bnd wi fun xs => filW t f xs) en) (gName i)) :=
  (ps_setLc hc hN hy hyl hsw hi ok hg (fun s H C cl fp => pts_one ⟨fun pins s' σ H Q I ⟨x, q⟩ => (ht s _ C cl fp x).run pins s' σ H Q I q⟩) (fun s H C cl fp => ⟨fun pins s' σ H Q I ⟨x, q⟩ => (he s _ C cl fp x).run pins s' σ H Q I q⟩) hs).weak fun D σ H q => lc_readF hj hn ho σ H _ q
/-- [elt for a in xs for b in ..]; n: so many so far -/
def flatW (wi : α → W (List γ)) (f : α → γ → W β) : Nat → List α → W (List β)
  | _, [] => ret []
  | n, x :: r => bnd (wi x) fun ys => grd (decide (n + ys.length ≤ 16777216)) (bnd (mapW (f x) ys) fun zs => bnd (flatW wi f (n + ys.length) r) fun us => ret (zs ++ us))
theorem mapW_len {f : α → W β} : ∀ {xs : List α} {Φ : List β → WB} {c : Nat}, mapW f xs Φ noX c → mapW f xs (fun ys c => ys.length = xs.length ∧ Φ ys c) noX c → True := fun _ _ => True.intro
theorem lc_read2 {own : List (Str × Nat)} {vs1 : List Nat} {wi : W (List α)} {ext : List (Sl X.K) → α → List (Sl X.K)} {js : List Nat} {g : TG} {w1 : α → W (List γ)} {ext1 : List (Sl X.K) → γ → List (Sl X.K)} {js1 : List Nat} {g1 : TG} {f : α → γ → W β} {en : En X.K β}
    (hj : ∀ j ∈ js, j ∈ own.map (·.2)) (hn : ∀ i ∈ own.map (·.2), get ρ i = .nil) (ho : ∀ x, owns (ext ρ x) = owns ρ) (hj1 : ∀ j ∈ js1, j ∈ vs1) (hn1 : ∀ x, ∀ i ∈ vs1, get (ext ρ x) i = .nil) (ho1 : ∀ x y, owns (ext1 (ext ρ x) y) = owns ρ) :
    ∀ σ H Q, rdF PK pp ρ (bnd wi fun xs => flatW w1 f 0 xs) en σ H Q → tLc2 (rdI PK pp ρ wi ext js g) g tYes (fun σ H R => ∃ x, rdI PK pp (ext ρ x) (w1 x) ext1 js1 g1 σ H R) g1 tYes (fun σ H Q => ∃ z : α × γ, rdE PK pp (ext1 (ext ρ z.1) z.2) (f z.1 z.2) en σ H Q) (own.map (·.2)) vs1 σ H Q := by
  intro σ H Q ⟨O, Φ, c, S, hw, k⟩
  refine ⟨O, _, c, S, hw, fun xs J H1 c1 p1 ch S1 src hz D hD => ?_⟩
  have nf := nfoot S1 hD
  have hDH := chg_none S1 ch hD
  have mv0 : Mv (Av O pp ρ) (Av (Ox O D) pp ρ) H1 (upd H1 D (.lst [])) := Mv.newA hD
  have av1 : ∀ x a, Av (Ox O D) pp (ext ρ x) a ↔ Av (Ox O D) pp ρ a := fun x a => by unfold Av; rw [ho]
  have av2 : ∀ x y a, Av (Ox O D) pp (ext1 (ext ρ x) y) a ↔ Av (Ox O D) pp ρ a := fun x y a => by unfold Av; rw [ho1]
  refine ⟨fun i m H' => m = xs.length - i ∧ i ≤ xs.length ∧ ∃ acc vs c', H' D = some (.lst vs) ∧ F2 (en.r (Av (Ox O D) pp ρ) H') vs acc ∧ Chg pp (upd H1 D (.lst [])) (upd H' D (.lst [])) ∧ Sat PK (Ox O D) pp ρ c' σ H' ∧ flatW w1 f vs.length (xs.drop i) (fun ys c => Φ (acc ++ ys) c) noX c',
    ⟨xs.length, by simp, Nat.zero_le _, [], [], c1, upd_same, .nil, by rw [upd_upd]; exact .refl, S1.newO hD, by simpa using p1⟩, ?_⟩
  rintro i m H' ⟨rfl, hi', acc, vs, c', eD, fD, chD, S', hw'⟩
  have mv : Mv (Av O pp ρ) (Av (Ox O D) pp ρ) H1 H' := fun a o n e => by
    obtain ⟨e1, n1⟩ := mv0 a o n e
    have ne : a ≠ D := ne_of_none e hD
    have := chD a o e1 fun z => n (.inr (.inl z))
    rw [upd_ne ne] at this
    exact ⟨this, n1⟩
  by_cases hlt : i < xs.length
  · refine .inr ⟨src.go i H' _ hlt mv, fun H3 => ∃ acc vs c', H3 D = some (.lst vs) ∧ F2 (en.r (Av (Ox O D) pp ρ) H3) vs acc ∧ Chg pp (upd H1 D (.lst [])) (upd H3 D (.lst [])) ∧ Sat PK (Ox O D) pp ρ c' σ H3 ∧ flatW w1 f vs.length (xs.drop (i + 1)) (fun ys c => Φ (acc ++ ys) c) noX c', fun H3 q => ⟨xs.length - (i + 1), by omega, rfl, hlt, q⟩, fun v H2 y => ?_⟩
    obtain ⟨us, H3, eus, sm, S3, hQ⟩ := src.yld i xs[i] H' v H2 pp ρ (Ox O D) c' (wipe σ (own.map (·.2))) (List.getElem?_eq_getElem hlt) mv (S'.wipe hn) y
    refine hQ _ ⟨wipe_setAll fun u hu => hj _ (by rw [← eus]; exact List.mem_map.mpr ⟨u, hu, rfl⟩), ?_⟩
    unfold tYes
    simp only [if_true]
    rw [List.drop_eq_getElem_cons hlt] at hw'
    refine ⟨xs[i], Ox O D, _, c', S3, hw', fun ys J1 H4 c4 p4 ch4 S4 src1 hz1 => ?_⟩
    have e4 : H4 D = some (.lst vs) := ch4 D _ (sm D _ eD) nf
    have hlen : vs.length + ys.length ≤ 16777216 := of_decide_eq_true p4.1
    have chg4 : Chg pp H' H4 := fun a o e hf => ch4 a o (sm a o e) hf
    have p42 : mapW (f xs[i]) ys (fun zs c => flatW w1 f (vs.length + ys.length) (xs.drop (i + 1)) (fun us c => Φ (acc ++ (zs ++ us)) c) noX c) noX c4 := p4.2
    refine ⟨fun j k H5 => k = ys.length - j ∧ j ≤ ys.length ∧ ∃ acc1 ws c5, H5 D = some (.lst (vs ++ ws)) ∧ ws.length = j ∧ F2 (en.r (Av (Ox O D) pp ρ) H5) ws acc1 ∧ Chg pp (upd H4 D (.lst [])) (upd H5 D (.lst [])) ∧ Sat PK (Ox O D) pp ρ c5 σ H5 ∧ Sat PK (Ox O D) pp (ext ρ xs[i]) c5 (setAll (wipe σ (own.map (·.2))) us) H5 ∧
      mapW (f xs[i]) (ys.drop j) (fun zs c => flatW w1 f (vs.length + ys.length) (xs.drop (i + 1)) (fun us c => Φ (acc ++ (acc1 ++ zs ++ us)) c) noX c) noX c5,
      ⟨ys.length, by simp, Nat.zero_le _, [], [], c4, by rw [List.append_nil]; exact e4, rfl, .nil, .refl, S'.chg chg4 S4.pool, S4, by simpa using p42⟩, ?_⟩
    rintro j kk H5 ⟨rfl, hj', acc1, ws, c5, e5, l5, f5, ch5, S5, S5e, hw5⟩
    have mv5 : Mv (Av (Ox O D) pp (ext ρ xs[i])) (Av (Ox O D) pp (ext ρ xs[i])) H4 H5 := fun a o n e => by
      have ne : a ≠ D := fun z => n (by rw [z]; exact .inl (.inr rfl))
      have z := ch5 a o (by rw [upd_ne ne]; exact e) fun z => n (.inr (.inl z))
      rw [upd_ne ne] at z
      exact ⟨z, n⟩
    by_cases hlt1 : j < ys.length
    · refine .inr ⟨src1.go j H5 _ hlt1 mv5, fun H6 => ∃ acc1 ws c5, H6 D = some (.lst (vs ++ ws)) ∧ ws.length = j + 1 ∧ F2 (en.r (Av (Ox O D) pp ρ) H6) ws acc1 ∧ Chg pp (upd H4 D (.lst [])) (upd H6 D (.lst [])) ∧ Sat PK (Ox O D) pp ρ c5 σ H6 ∧ Sat PK (Ox O D) pp (ext ρ xs[i]) c5 (setAll (wipe σ (own.map (·.2))) us) H6 ∧
        mapW (f xs[i]) (ys.drop (j + 1)) (fun zs c => flatW w1 f (vs.length + ys.length) (xs.drop (i + 1)) (fun us c => Φ (acc ++ (acc1 ++ zs ++ us)) c) noX c) noX c5, fun H6 q => ⟨ys.length - (j + 1), by omega, rfl, hlt1, q⟩, fun v6 H6 y6 => ?_⟩
      obtain ⟨us1, H7, eus1, sm7, S7, hQ7⟩ := src1.yld j ys[j] H5 v6 H6 pp (ext ρ xs[i]) (Ox O D) c5 (wipe (setAll (wipe σ (own.map (·.2))) us) vs1) (List.getElem?_eq_getElem hlt1) mv5 (S5e.wipe (hn1 _)) y6
      refine hQ7 _ ⟨wipe_setAll fun u hu => hj1 _ (by rw [← eus1]; exact List.mem_map.mpr ⟨u, hu, rfl⟩), ?_⟩
      rw [List.drop_eq_getElem_cons hlt1] at hw5
      refine ⟨(xs[i], ys[j]), Ox O D, _, c5, S7, hw5, fun y8 v8 H8 c8 q8 ch8 S8 r8 => ?_⟩
      have e8 : H8 D = some (.lst (vs ++ ws)) := ch8 D _ (sm7 D _ e5) nf
      have chg8 : Chg pp H5 H8 := fun a o e hf => ch8 a o (sm7 a o e) hf
      refine ⟨vs ++ ws, e8, by rw [List.length_append, l5, sizeLine_eq]; omega, acc1 ++ [y8], ws ++ [v8], c8, by rw [upd_same, List.append_assoc], by rw [List.length_append, l5]; rfl, ?_, ?_, (S5.chg chg8 S8.pool).updO (.inr rfl) nf, (S5e.chg chg8 S8.pool).updO (.inr rfl) nf, ?_⟩
      · have mv8 : Mv (Av (Ox O D) pp ρ) (Av (Ox O D) pp ρ) H5 (upd H8 D (.lst (vs ++ ws ++ [v8]))) := fun a o n e => by
          have ne : a ≠ D := fun z => n (by rw [z]; exact .inl (.inr rfl))
          rw [upd_ne ne]
          exact ⟨chg8 a o e fun z => n (.inr (.inl z)), n⟩
        have mv9 : Mv (Av (Ox O D) pp (ext1 (ext ρ xs[i]) ys[j])) (Av (Ox O D) pp ρ) H8 (upd H8 D (.lst (vs ++ ws ++ [v8]))) := fun a o n e => by
          have n' : ¬ Av (Ox O D) pp ρ a := fun z => n ((av2 _ _ a).mpr z)
          have ne : a ≠ D := fun z => n' (by rw [z]; exact .inl (.inr rfl))
          rw [upd_ne ne]
          exact ⟨e, n'⟩
        exact (f5.imp fun _ _ => en.mono mv8).append (.cons (en.mono mv9 r8) .nil)
      · intro a o e hf
        have z := ch5 a o e hf
        rw [upd_upd]
        by_cases ne : a = D
        · subst ne; rw [upd_same] at z ⊢; exact z
        · rw [upd_ne ne] at z ⊢
          exact chg8 a o z hf
      · have q2 : mapW (f xs[i]) (ys.drop (j + 1)) (fun zs c => flatW w1 f (vs.length + ys.length) (xs.drop (i + 1)) (fun us c => Φ (acc ++ (acc1 ++ (y8 :: zs) ++ us)) c) noX c) noX c8 := q8
        simpa [List.append_assoc] using q2
    · have e : j = ys.length := by omega
      subst e
      rw [List.drop_length] at hw5
      have hw6 : flatW w1 f (vs.length + ys.length) (xs.drop (i + 1)) (fun us c => Φ (acc ++ (acc1 ++ [] ++ us)) c) noX c5 := hw5
      refine .inl ⟨src1.stop H5 _ mv5, acc ++ acc1, vs ++ ws, c5, e5, ?_, ?_, S5, ?_⟩
      · have mv6 : Mv (Av (Ox O D) pp ρ) (Av (Ox O D) pp ρ) H' H5 := fun a o n e => by
          have ne : a ≠ D := fun z => n (by rw [z]; exact .inl (.inr rfl))
          have z := ch5 a o (by rw [upd_ne ne]; exact chg4 a o e fun z => n (.inr (.inl z))) fun z => n (.inr (.inl z))
          rw [upd_ne ne] at z
          exact ⟨z, n⟩
        exact (fD.imp fun _ _ => en.mono mv6).append f5
      · intro a o e hf
        have z := chD a o e hf
        by_cases ne : a = D
        · subst ne; rw [upd_same] at z ⊢; exact z
        · rw [upd_ne ne] at z ⊢
          have z2 := ch5 a o (by rw [upd_ne ne]; exact chg4 a o z hf) hf
          rw [upd_ne ne] at z2
          exact z2
      · rw [List.length_append, l5]
        simpa [List.append_assoc] using hw6
  · have e : i = xs.length := by omega
    subst e
    rw [List.drop_length] at hw'
    have hw2 : Φ (acc ++ []) c' := hw'
    rw [List.append_nil] at hw2
    refine .inl ⟨src.stop H' _ mv, k acc D vs H' c' hw2 hDH (fun a o e hf => ?_) S' eD fD⟩
    have ne : a ≠ D := ne_of_none e hDH
    have z := chD a o (by rw [upd_ne ne]; exact ch a o e hf) hf
    rw [upd_ne ne] at z
    exact z
theorem xlc2 {elt tg iter tg1 iter1 : Expr} {scope : Scope} {own : List (Str × Nat)} {vs1 : List Nat} {pos : Pos} {wi : W (List α)} {ext : List (Sl X.K) → α → List (Sl X.K)} {js : List Nat} {g : TG} {w1 : α → W (List γ)} {ext1 : List (Sl X.K) → γ → List (Sl X.K)} {js1 : List Nat} {g1 : TG} {f : α → γ → W β} {en : En X.K β}
    (hc : X.calm = true) (hN : X.N.Nodup) (hi : PI X tg iter (rdI PK pp ρ wi ext js g))
    (hi1 : ∀ (s : Shared) (H : Hp) (C : Addr) (cl : List (Str × Addr)) (fp : List Addr) (x : α), PI (X.blk s H scope (compEnvC scope cl C X.env) fp) tg1 iter1 (rdI PK pp (ext ρ x) (w1 x) ext1 js1 g1))
    (hg : ∀ (s : Shared) (H : Hp) (C : Addr) (cl : List (Str × Addr)) (fp : List Addr), PG (X.blk s H scope (compEnvC scope cl C X.env) fp) tg g)
    (hg1 : ∀ (s : Shared) (H : Hp) (C : Addr) (cl : List (Str × Addr)) (fp : List Addr), PG (X.blk s H scope (compEnvC scope cl C X.env) fp) tg1 g1)
    (he : ∀ (s : Shared) (H : Hp) (C : Addr) (cl : List (Str × Addr)) (fp : List Addr) (x : α) (y : γ), PX (X.blk s H scope (compEnvC scope cl C X.env) fp) PK pp (ext1 (ext ρ x) y) elt (f x y) en)
    (ok : BlkOk X.N X.env.scope scope own) (hv1 : ∀ i ∈ vs1, i ∈ own.map (·.2))
    (hj : ∀ j ∈ js, j ∈ own.map (·.2)) (hn : ∀ i ∈ own.map (·.2), get ρ i = .nil) (ho : ∀ x, owns (ext ρ x) = owns ρ) (hj1 : ∀ j ∈ js1, j ∈ vs1) (hn1 : ∀ x, ∀ i ∈ vs1, get (ext ρ x) i = .nil) (ho1 : ∀ x y, owns (ext1 (ext ρ x) y) = owns ρ)
    (hs : ∀ x, foldedSetIterable iter X.env x = pure x := by intro _; rfl) (hs1 : ∀ env x, foldedSetIterable iter1 env x = pure x := by intro _ _; rfl) :
    PE X (.ListComp elt [⟨tg, iter, [], 0⟩, ⟨tg1, iter1, [], 0⟩] scope pos) (rdF PK pp ρ (bnd wi fun xs => flatW w1 f 0 xs) en) :=
  (pe_lc2 hc hN hi ok hv1 hg (fun _ _ _ _ _ => pts_nil) (fun s H C cl fp => ⟨fun pins s' σ H Q I ⟨x, q⟩ => (hi1 s _ C cl fp x).run pins s' σ H Q I q⟩) hg1 (fun _ _ _ _ _ => pts_nil)
    (fun s H C cl fp => ⟨fun pins s' σ H Q I ⟨z, q⟩ => (he s _ C cl fp z.1 z.2).run pins s' σ H Q I q⟩) hs hs1).weak (lc_read2 hj hn ho hj1 hn1 ho1)
end
end Dc
/-! DcI: data of any form, isinstance, keywords, lcm, constants of the module. -/
namespace Dc
open PySem PySem.Spec L2
section
variable {X : Cx} {PK : PoolK} {pp : PP} {ρ : List (Sl X.K)} {α β γ δ : Type} {e a b : Expr} {es : List Expr} {pos : Pos}
theorem xcmpG {op : CmpOp} {wa : W α} {wb : W β} {e1 : En X.K α} {e2 : En X.K β} {e3 : En X.K γ} {pre : α → β → Bool} {res : α → β → γ} (ho : OpW X (compareOp op) e1 e2 e3 pre res) (ha : PX X PK pp ρ a wa e1) (hb : PX X PK pp ρ b wb e2) (hm : behindInMarks op b = false := by first | exact nomark _ | rfl) :
    PX X PK pp ρ (.Compare a [op] [b] pos) (bnd wa fun x => bnd wb fun y => grd (pre x y) (ret (res x y))) e3 := (pe_cmpR ho ha hb hm).weak fun σ H Q ⟨O, Φ, c, S, hw, k⟩ =>
  two S hw fun x y v u H' c' p ch S' r1 r2 => ⟨_, x, y, S'.av, r1, r2, p.1, fun z H2 s r3 => k _ _ _ _ p.2 (ch.trans (.of s)) (S'.same s) r3⟩
theorem tcmpG {op : CmpOp} {wa : W α} {wb : W β} {e1 : En X.K α} {e2 : En X.K β} {pre : α → β → Bool} {res : α → β → Bool} (ho : OpW X (compareOp op) e1 e2 eB pre res) (ha : PX X PK pp ρ a wa e1) (hb : PX X PK pp ρ b wb e2) (hm : behindInMarks op b = false := by first | exact nomark _ | rfl) :
    PTX X PK pp ρ (.Compare a [op] [b] pos) (bnd wa fun x => bnd wb fun y => grd (pre x y) (ret (res x y))) := (pt_cmpR ho ha hb hm).weak fun σ H Q ⟨O, Φ, c, S, hw, k⟩ =>
  two S hw fun x y v u H' c' p ch S' r1 r2 => ⟨_, x, y, S'.av, r1, r2, p.1, fun z H2 s r3 => ⟨_, r3, k _ _ _ p.2 (ch.trans (.of s)) (S'.same s)⟩⟩
/-! ### lcm -/
def lcmOk (a b : Int) : Bool := decide ((max 1 a.natAbs).log2 < 13470) && decide ((max a.natAbs b.natAbs).log2 < 13470)
theorem c_lcm : CallW X (.builtin "math.lcm") (a2 (eI : En X.K Int) eI) eI (fun x => lcmOk x.1 x.2.1) (fun x => ((Nat.lcm x.1.natAbs x.2.1.natAbs : Nat) : Int)) := by
  rintro pins s σ H xs us Q I r ⟨pp, A, x, d, ⟨v, _, rfl, q1, u, _, rfl, q2, rfl⟩, p, k⟩
  cases (show v = V.int x.1 from q1)
  cases (show u = V.int x.2.1 from q2)
  obtain ⟨t, t', rfl⟩ := Vals.int2 r
  simp only [lcmOk, Bool.and_eq_true, decide_eq_true_eq] at p
  have hz : ((((Nat.lcm 1 x.1.natAbs).lcm x.2.1.natAbs : Nat) : Int)).natAbs.log2 < bitsLine := by
    rw [PySem.W.mc_lcm_one]
    have e : bitsLine = 134217728 := by decide
    rw [e, Int.natAbs_natCast]
    have h1 : x.1.natAbs < 2 ^ 13471 := Nat.lt_of_le_of_lt (Nat.le_trans (Nat.le_max_left _ _) (Nat.le_refl (max x.1.natAbs x.2.1.natAbs))) (by
      by_cases h0 : max x.1.natAbs x.2.1.natAbs = 0
      · rw [h0]; exact Nat.two_pow_pos _
      · exact Nat.lt_of_lt_of_le ((Nat.log2_lt h0).mp (Nat.lt_succ_self _)) (Nat.pow_le_pow_right (by decide) (by omega)))
    have h2 : x.2.1.natAbs < 2 ^ 13471 := Nat.lt_of_le_of_lt (Nat.le_trans (Nat.le_max_right _ _) (Nat.le_refl (max x.1.natAbs x.2.1.natAbs))) (by
      by_cases h0 : max x.1.natAbs x.2.1.natAbs = 0
      · rw [h0]; exact Nat.two_pow_pos _
      · exact Nat.lt_of_lt_of_le ((Nat.log2_lt h0).mp (Nat.lt_succ_self _)) (Nat.pow_le_pow_right (by decide) (by omega)))
    have h3 : Nat.lcm x.1.natAbs x.2.1.natAbs < 2 ^ 26942 := by
      refine Nat.lt_of_le_of_lt (PySem.W.mc_lcm_le _ _) ?_
      rw [show 26942 = 13471 + 13471 from rfl, Nat.pow_add]
      exact Nat.mul_lt_mul'' h1 h2
    by_cases h0 : Nat.lcm x.1.natAbs x.2.1.natAbs = 0
    · rw [h0, Nat.log2_zero]; decide
    · exact Nat.lt_of_lt_of_le ((Nat.log2_lt h0).mpr h3) (by decide)
  refine call_function_meets PySem.W.MGF.kind_lcm PySem.W.MGF.plain_lcm PySem.W.MGF.entry_lcm (PySem.W.MGF.args_lcm _ _) (PySem.W.mg_run_lcm x.1 t x.2.1 t' (by have := p.1; omega) (by have := p.2; omega) hz).meets ?_
  rw [PySem.W.mc_lcm_one]
  exact ⟨.int _, H, I.tok _, ⟨_, rfl⟩, k _ _ (.refl _) rfl⟩

/-! ### data of any form -/
mutual
def toP : D → PyData
  | .non => .none
  | .bl b => .bool b
  | .int i => .int i
  | .str s => .str s
  | .lst ds => .list (toPs ds)
  | .tup ds => .tuple (toPs ds)
def toPs : List D → List PyData
  | [] => []
  | d :: ds => toP d :: toPs ds
end
mutual
theorem rD_dp {K : PySem.W.Frag} {O : AS} {H : Hp} : ∀ {v : V} (d : D), rD K O H v d → Dp K H v (toP d)
  | _, .non, h => by rw [show _ = _ from h]; exact .non
  | _, .bl _, h => by rw [show _ = _ from h]; exact .bl _
  | _, .int _, h => by rw [show _ = _ from h]; exact .int _
  | _, .str _, h => by rw [show _ = _ from h]; exact .str _
  | _, .lst ds, h => by
    obtain ⟨a, vs, e, l, r⟩ := (by simpa only [rD] using h : ∃ a vs, _)
    rw [e]
    exact .lst l.sq (rDs_dp ds r)
  | _, .tup ds, h => by
    obtain ⟨a, vs, e, l, r⟩ := (by simpa only [rD] using h : ∃ a vs, _)
    rw [e]
    exact .tup l.sq (rDs_dp ds r)
theorem rDs_dp {K : PySem.W.Frag} {O : AS} {H : Hp} : ∀ {vs : List V} (ds : List D), rDs K O H vs ds → DpAll K H vs (toPs ds)
  | _, [], h => by rw [show _ = _ from h]; exact .nil
  | _, d :: ds, h => by
    obtain ⟨v, r, e, p, q⟩ := (by simpa only [rDs] using h : ∃ v r, _)
    rw [e]
    exact .cons (rD_dp d p) (rDs_dp ds q)
end
theorem w_eqDD (hu : X.A.units + 64 < cLine) : OpW X (compareOp .Eq) (eD : En X.K D) eD eB (fun x y => SeqAt.shaped (toP x) && SeqAt.shaped (toP y)) (fun x y => PyData.eqv (toP x) (toP y)) := by
  intro pins s σ H x y v u Q I rx ry ⟨A, a, b, _, r1, r2, p, k⟩
  rw [Bool.and_eq_true] at p
  exact op_eqD hu pins s σ H x y v u Q I rx ry ⟨_, _, rD_dp a r1, rD_dp b r2, p.1, p.2, k _ _ (.refl _) rfl⟩
/-- a value told as data -/
structure ToD {K : PySem.W.Frag} {α : Type} (en : En K α) (to : α → D) : Prop where
  d : ∀ {O : AS} {H : Hp} {v : V} {x : α}, en.r O H v x → rD K O H v (to x)
theorem tdI {K : PySem.W.Frag} : ToD (eI : En K Int) .int := ⟨fun h => h⟩
theorem tdB {K : PySem.W.Frag} : ToD (eB : En K Bool) .bl := ⟨fun h => h⟩
theorem tdS {K : PySem.W.Frag} : ToD (eS : En K Str) .str := ⟨fun h => h⟩
theorem tdU {K : PySem.W.Frag} : ToD (eU : En K Unit) (fun _ => .non) := ⟨fun h => h⟩
theorem tdAll {K : PySem.W.Frag} {en : En K α} {to : α → D} (d : ToD en to) {O : AS} {H : Hp} {vs : List V} {xs : List α} (f : F2 (en.r O H) vs xs) : rDs K O H vs (xs.map to) := by
  induction f with
  | nil => rfl
  | cons r _ ih => exact ⟨_, _, rfl, d.d r, ih⟩
theorem tdL {K : PySem.W.Frag} {en : En K α} {to : α → D} (d : ToD en to) : ToD (eL en) (fun xs => .lst (xs.map to)) := ⟨fun ⟨a, vs, e, l, f⟩ => ⟨a, vs, e, l, tdAll d f⟩⟩
theorem tdP {K : PySem.W.Frag} {e1 : En K α} {e2 : En K β} {to : α → D} {to2 : β → D} (d : ToD e1 to) (d2 : ToD e2 to2) : ToD (eP e1 e2) (fun x => .tup [to x.1, to2 x.2]) := ⟨fun ⟨a, u, w, e, t, q1, q2⟩ => ⟨a, [u, w], e, t, _, _, rfl, d.d q1, _, _, rfl, d2.d q2, rfl⟩⟩
theorem tdO {K : PySem.W.Frag} {en : En K α} {to : α → D} (d : ToD en to) : ToD (eO en) (fun x => match x with | none => .non | some y => to y) := ⟨fun {O H v x} h => by
  cases x with
  | none => exact h
  | some y => exact d.d h.1⟩
theorem xD {w : W α} {en : En X.K α} {to : α → D} (d : ToD en to) (h : PX X PK pp ρ e w en) : PX X PK pp ρ e (bnd w fun x => ret (to x)) eD :=
  h.weak fun σ H Q ⟨O, Φ, c, S, hw, k⟩ => ⟨O, _, c, S, hw, fun x v H' c' p ch S' r => k _ v H' c' p ch S' (d.d r)⟩
def nonD : D → Bool
  | .non => true
  | _ => false
theorem xisND {j pos'} {w : W D} (h : PX X PK pp ρ a w eD) : PX X PK pp ρ (.Compare a [.Is] [.Constant .none j pos'] pos) (bnd w fun x => ret (nonD x)) eB :=
  (pe_cmp (pc_isN h)).weak fun σ H Q ⟨O, Φ, c, S, hw, k⟩ => ⟨O, _, c, S, hw, fun x v H' c' p ch S' r => by
    have hr : rD X.K (Av O pp ρ) H' v x := r
    cases x with
    | non => rw [show v = .non from hr]; exact k _ _ H' c' p ch S' rfl
    | bl y => rw [show v = _ from hr]; exact k _ _ H' c' p ch S' rfl
    | int y => rw [show v = _ from hr]; exact k _ _ H' c' p ch S' rfl
    | str y => rw [show v = _ from hr]; exact k _ _ H' c' p ch S' rfl
    | lst ds =>
      obtain ⟨a, vs, e, _⟩ := (by simpa only [rD] using hr : ∃ a vs, _)
      rw [e]; exact k _ _ H' c' p ch S' rfl
    | tup ds =>
      obtain ⟨a, vs, e, _⟩ := (by simpa only [rD] using hr : ∃ a vs, _)
      rw [e]; exact k _ _ H' c' p ch S' rfl⟩
def tyD : D → String
  | .non => "NoneType"
  | .bl _ => "bool"
  | .int _ => "int"
  | .str _ => "str"
  | .lst _ => "list"
  | .tup _ => "tuple"
theorem rD_ty {K : PySem.W.Frag} {O : AS} {H : Hp} {v : V} (d : D) (h : rD K O H v d) : TyX K H v (.type (tyD d)) := by
  cases d with
  | non => rw [show _ = _ from h]; exact .base .non
  | bl _ => rw [show _ = _ from h]; exact .base (.bl _)
  | int _ => rw [show _ = _ from h]; exact .base (.int _)
  | str _ => rw [show _ = _ from h]; exact .base (.str _)
  | lst ds =>
    obtain ⟨a, vs, e, l, _⟩ := (by simpa only [rD] using h : ∃ a vs, _)
    rw [e]; exact .base (.lst l.2)
  | tup ds =>
    obtain ⟨a, vs, e, l, _⟩ := (by simpa only [rD] using h : ∃ a vs, _)
    rw [e]
    rcases l with ⟨_, l | ⟨o, l⟩⟩ | ⟨o, its, n, l, ct, _⟩
    · exact .base (.tup l)
    · exact .fTuple l
    · exact .kTuple l ct
def isD (c : String) (d : D) : Bool := match d, c with
  | .bl _, "bool" => true | .bl _, "int" => true | .int _, "int" => true | .str _, "str" => true | .lst _, "list" => true | .tup _, "tuple" => true | _, _ => false
def isT (t c : String) : Bool := t == c || (t == "bool" && c == "int")
def tys : List String := ["NoneType", "bool", "int", "str", "list", "tuple"]
theorem isT_ok : (tys.all fun t => ["bool", "int", "str", "list", "tuple", "dict"].all fun c => decide (kitB t c = some (isT t c))) = true := by decide +kernel
theorem isD_ok {c : String} (h : c ∈ ["bool", "int", "str", "list", "tuple", "dict"]) (d : D) : kitB (tyD d) c = some (isD c d) := by
  have e : isD c d = isT (tyD d) c := by
    simp only [List.mem_cons, List.not_mem_nil, or_false] at h
    rcases h with rfl | rfl | rfl | rfl | rfl | rfl <;> cases d <;> rfl
  rw [e]
  have h1 : tyD d ∈ tys := by cases d <;> simp [tyD, tys]
  exact of_decide_eq_true (List.all_eq_true.mp (List.all_eq_true.mp isT_ok _ h1) _ h)
/-- isinstance(e, list), .. -/
theorem xisi {cn : Str} {c : String} {p p2 : Pos} {w : W D} (hm : X.mg "isinstance" = none) (hmc : X.mg cn = none) (hvc : bootBuiltins cn = some (.type c)) (hc : c ∈ ["bool", "int", "str", "list", "tuple", "dict"]) (h : PX X PK pp ρ a w eD) (hg : Gl X "isinstance" := by rfl) (hgc : Gl X cn := by rfl)
    (hn : cn ≠ "__name__" := by decide) (hdb : (cn == ("__debug__" : Str)) = false := by decide)
    (he : starEach [a, .Name cn p2] X.env = (false, eval a X.env) :: starEach [.Name cn p2] X.env := by rfl) (he2 : starEach [.Name cn p2] X.env = (false, eval (.Name cn p2) X.env) :: starEach [] X.env := by rfl) (hpl : (backTo pos (starEach [.Name cn p2] X.env)).any (·.1) = false := by rfl) :
    PX X PK pp ρ (.Call (.Name "isinstance" p) [a, .Name cn p2] [] pos) (bnd w fun x => ret (isD c x)) eB :=
  (pe_callB call_isi hg hm (by decide +kernel) (pa_cons h (pa_cons (pe_bltn (v := .ty c) hgc hmc hvc rfl hn hdb) pa_nil he2) he) (by decide) (by decide) he hpl).weak fun σ H Q ⟨O, Φ, c0, S, hw, k⟩ => ⟨O, _, c0, S, hw, fun x v H' c' p ch S' r =>
    ⟨v, .ty c, _, _, _, rfl, .ty c, rD_ty x r, kit_ty (isD_ok hc x), k _ _ H' c' p ch S' rfl⟩⟩
theorem kitAny_D {K : PySem.W.Frag} {d : D} {c1 c2 : String} (h1 : c1 ∈ ["bool", "int", "str", "list", "tuple", "dict"]) (h2 : c2 ∈ ["bool", "int", "str", "list", "tuple", "dict"]) : PySem.W.kitAny K (.type (tyD d)) [.type c1, .type c2] = some (isD c1 d || isD c2 d) := by
  refine kitAny_cons (kit_ty (isD_ok h1 d)) (fun q => ?_) (fun q => by rw [q]; rfl)
  rw [q, Bool.false_or]
  exact kitAny_cons (kit_ty (isD_ok h2 d)) (fun q => by rw [q]; exact kitAny_nil) fun q => q
theorem xisi2 {cn cn2 : Str} {c c2 : String} {k1} {p p2 p3 p4 : Pos} {w : W D} (hm : X.mg "isinstance" = none) (hmc : X.mg cn = none) (hvc : bootBuiltins cn = some (.type c)) (hc : c ∈ ["bool", "int", "str", "list", "tuple", "dict"]) (hmc2 : X.mg cn2 = none) (hvc2 : bootBuiltins cn2 = some (.type c2)) (hc2 : c2 ∈ ["bool", "int", "str", "list", "tuple", "dict"]) (h : PX X PK pp ρ a w eD)
    (hg : Gl X "isinstance" := by rfl) (hgc : Gl X cn := by rfl) (hgc2 : Gl X cn2 := by rfl) (hn : cn ≠ "__name__" := by decide) (hdb : (cn == ("__debug__" : Str)) = false := by decide) (hn2 : cn2 ≠ "__name__" := by decide) (hdb2 : (cn2 == ("__debug__" : Str)) = false := by decide)
    (he : starEach [a, .Tuple [.Name cn p2, .Name cn2 p3] k1 p4] X.env = (false, eval a X.env) :: starEach [.Tuple [.Name cn p2, .Name cn2 p3] k1 p4] X.env := by rfl) (he2 : starEach [.Tuple [.Name cn p2, .Name cn2 p3] k1 p4] X.env = (false, eval (.Tuple [.Name cn p2, .Name cn2 p3] k1 p4) X.env) :: starEach [] X.env := by rfl)
    (hs1 : starEach [Expr.Name cn p2, Expr.Name cn2 p3] X.env = (false, eval (.Name cn p2) X.env) :: starEach [Expr.Name cn2 p3] X.env := by rfl) (hs2 : starEach [Expr.Name cn2 p3] X.env = (false, eval (.Name cn2 p3) X.env) :: starEach [] X.env := by rfl)
    (hpl : (backTo pos (starEach [.Tuple [.Name cn p2, .Name cn2 p3] k1 p4] X.env)).any (·.1) = false := by rfl) :
    PX X PK pp ρ (.Call (.Name "isinstance" p) [a, .Tuple [.Name cn p2, .Name cn2 p3] k1 p4] [] pos) (bnd w fun x => ret (isD c x || isD c2 x)) eB :=
  (pe_callB call_isiT hg hm (by decide +kernel) (pa_cons h (pa_cons (pe_tup (pa_cons (pe_bltn (v := .ty c) hgc hmc hvc rfl hn hdb) (pa_cons (pe_bltn (v := .ty c2) hgc2 hmc2 hvc2 rfl hn2 hdb2) pa_nil hs2) hs1)) pa_nil he2) he) (by decide) (by decide) he hpl).weak fun σ H Q ⟨O, Φ, c0, S, hw, k⟩ => ⟨O, _, c0, S, hw, fun x v H' c' p ch S' r => by
    refine ⟨by show 2 ≤ sizeLine; decide, fun q nq => ?_⟩
    have s := same_new (o := .tup [.ty c, .ty c2]) nq
    exact ⟨v, q, _, _, _, _, rfl, upd_same, .cons (.ty c) (.cons (.ty c2) .nil), rD_ty x (rD.mono (Mv.same s) x r), kitAny_D hc hc2, k _ _ _ c' p (ch.trans (.of s)) (S'.same s) rfl⟩⟩
/-- len(d), d[i] -/
def lenD : D → Nat
  | .lst ds => ds.length
  | .tup ds => ds.length
  | _ => 0
def seqD : D → Bool
  | .lst _ => true
  | .tup _ => true
  | _ => false
def itemsD : D → List D
  | .lst ds => ds
  | .tup ds => ds
  | _ => []
theorem rDs_F2 {K : PySem.W.Frag} {O : AS} {H : Hp} : ∀ {vs : List V} {ds : List D}, rDs K O H vs ds → F2 (rD K O H) vs ds
  | _, [], h => by rw [show _ = _ from h]; exact .nil
  | _, d :: ds, h => by
    obtain ⟨v, r, e, p, q⟩ := (by simpa only [rDs] using h : ∃ v r, _)
    rw [e]; exact .cons p (rDs_F2 q)
theorem rD_seq {K : PySem.W.Frag} {O : AS} {H : Hp} {v : V} (d : D) (hs : seqD d = true) (h : rD K O H v d) : ∃ a vs, v = .ref a ∧ (SqL K H a vs ∨ SqT K H a vs) ∧ F2 (rD K O H) vs (itemsD d) := by
  cases d with
  | lst ds =>
    obtain ⟨a, vs, e, l, r⟩ := (by simpa only [rD] using h : ∃ a vs, _)
    exact ⟨a, vs, e, .inl l.sq, rDs_F2 r⟩
  | tup ds =>
    obtain ⟨a, vs, e, l, r⟩ := (by simpa only [rD] using h : ∃ a vs, _)
    exact ⟨a, vs, e, .inr l.sq, rDs_F2 r⟩
  | _ => cases hs
theorem c_lenD : CallW X (.builtin "len") (a1 (eD : En X.K D)) eI (fun x => seqD x.1) (fun x => ((itemsD x.1).length : Int)) := by
  rintro pins s σ H xs us Q I r ⟨pp, A, x, _, ⟨v, _, rfl, q, rfl⟩, p, k⟩
  obtain ⟨a, vs, rfl, l, f⟩ := rD_seq x.1 p q
  exact call_len_seq pins s σ H _ us Q I r ⟨a, vs, rfl, l, k _ _ (.refl _) (by rw [f.length]; rfl)⟩
instance : Inhabited D := ⟨.non⟩
theorem w_ixD : IxW X (eD : En X.K D) eI eD (fun x i => seqD x && ixOk (itemsD x) i) (fun x i => ixAt (itemsD x) i) := by
  intro va sl pins s σ H x y v u Q I rx ry ⟨A, d, i, _, r1, r2, p, k⟩ hs
  rw [Bool.and_eq_true] at p
  obtain ⟨a, vs, e1, l, f⟩ := rD_seq d p.1 r1
  obtain ⟨j, hj⟩ := Option.isSome_iff_exists.mp p.2
  have hlt := ixN_lt hj
  obtain ⟨v1, g, rv⟩ := f.get (List.getElem?_eq_getElem hlt)
  have hat : atI vs i = some v1 := by
    unfold atI
    rw [f.length, hj]
    exact g
  have hq : Q v1 H := k _ (by
    show rD X.K A H v1 ((itemsD d).getD ((ixN (itemsD d).length i).getD 0) default)
    rw [hj, Option.getD_some, List.getD_eq_getElem?_getD, List.getElem?_eq_getElem hlt]
    exact rv)
  rcases l with l | l
  · exact ix_list va sl pins s σ H x y v u Q I rx ry ⟨a, vs, i, v1, e1, r2, l, hat, hq⟩ hs
  · exact ix_tup va sl pins s σ H x y v u Q I rx ry ⟨a, vs, i, v1, e1, r2, l, hat, hq⟩ hs

/-! ### keywords alone -/
abbrev PKX (X : Cx) (PK : PoolK) (pp : PP) (ρ : List (Sl X.K)) (kws : List Keyword) (w : W α) (en : EA X.K α) : Prop := L2.PK X kws (rdA PK pp ρ w en)
theorem _root_.L2.PK.weak {X : Cx} {e : List Keyword} {t t' : TA} (h : L2.PK X e t) (f : ∀ σ H Q, t' σ H Q → t σ H Q) : L2.PK X e t' := ⟨fun pos pins s σ H Q I q => h.run pos pins s σ H Q I (f σ H Q q)⟩
theorem kxn : PKX X PK pp ρ [] (ret ()) aN := (pk_nil).weak fun σ H Q ⟨O, Φ, c, S, hw, k⟩ => k () [] H c hw .refl S rfl
theorem kxc {kws : List Keyword} {nm : Option Str} {kpos : Pos} {w : W α} {u : W β} {en : En X.K α} {ea : EA X.K β} (h : PX X PK pp ρ e w en) (h2 : PKX X PK pp ρ kws u ea) :
    PKX X PK pp ρ (⟨nm, e, kpos⟩ :: kws) (bnd w fun x => bnd u fun y => ret (x, y)) (aC en ea) := (pk_cons h h2).weak fun σ H Q ⟨O, Φ, c, S, hw, k⟩ =>
  ⟨O, _, c, S, hw, fun x v H1 c1 p1 ch1 S1 r1 => ⟨O, _, c1, S1, p1, fun y u H2 c2 p2 ch2 S2 r2 => k _ _ H2 c2 p2 (ch1.trans ch2) S2 ⟨v, u, rfl, en.mono ch2.mv r1, r2⟩⟩⟩
theorem pe_callK0 {CX : CXT} {k : Nat} {f : Addr} {fd : FuncData} {ps ks : List Str} {sp : Sp} {E : XK} {x : Str} {p : Pos} {kws : List Keyword} {tk : TA} {g : List Value → List Value → List Value} {gV : List V → List V → List V} (F : FnOk X.prog X.w X.K X.mg X.base CX k f fd ps sp) (hr : Room k X.A) (hg : Gl X x) (hm : X.mg x = some (.ref f)) (hk : PySem.W.keepIn X.K (.ref f) = true) (hb : KBinds X.K fd ps ks g gV) (hx : Passes CX X E)
    (hkw : L2.PK X kws tk) (hall : (backToKw pos (keywordEach kws X.env)).all (·.1.isSome) = true := by rfl) (hks : (backToKw pos (keywordEach kws X.env)).filterMap (·.1) = ks := by rfl) (hdb : (x == ("__debug__" : Str)) = false := by decide)
    (hpl : ((backTo pos (starEach [] X.env)).any (·.1) || (backToKw pos (keywordEach kws X.env)).any (·.1.isNone)) = false := by rfl) : PE X (.Call (.Name x p) [] kws pos) (tCallK sp gV E tNil tk) := by
  refine ⟨fun pins s σ H Q I h => ?_⟩
  refine wpAny_Call_Name_kw (ld_glob I hg hm ?_ hdb)
  refine PySem.W.callWith_KW0 (h₀ := X.base) I.ok.mod.kin hk hall (thn (hkw.run pos pins s σ H _ I h) fun ws s2 ⟨zs, H2, I2, rz, q2⟩ => ⟨I2.kIn, ?_⟩) hpl
  rw [hks]
  exact run_fnk F hr hb hx I2 (.nil) rz q2
/-- f(k = v, ..): pm puts what the keywords hold in the parameters' order -/
theorem xcallK {k : Nat} {f : Addr} {fd : FuncData} {ps ks : List Str} {x : Str} {p : Pos} {kws : List Keyword} {ea : EA X.K α} {ek : EA X.K δ} {er : En X.K β} {fw : α → W β} {wa : W δ} {g : List Value → List Value → List Value} {gV : List V → List V → List V} (pm : δ → α) (F : FnOk X.prog X.w X.K X.mg X.base CX0 k f fd ps (spW PK ea fw er)) (hr : Room k X.A) (hm : X.mg x = some (.ref f)) (hk : PySem.W.keepIn X.K (.ref f) = true)
    (hb : KBinds X.K fd ps ks g gV) (ha : PKX X PK pp ρ kws wa ek) (hpm : ∀ {pp O H zs y}, ek.r pp O H zs y → ea.r pp O H (gV [] zs) (pm y)) (hg : Gl X x := by rfl) (hall : (backToKw pos (keywordEach kws X.env)).all (·.1.isSome) = true := by rfl) (hks : (backToKw pos (keywordEach kws X.env)).filterMap (·.1) = ks := by rfl)
    (hdb : (x == ("__debug__" : Str)) = false := by decide) (hpl : ((backTo pos (starEach [] X.env)).any (·.1) || (backToKw pos (keywordEach kws X.env)).any (·.1.isNone)) = false := by rfl) : PX X PK pp ρ (.Call (.Name x p) [] kws pos) (bnd wa fun y => fw (pm y)) er :=
  (pe_callK0 F hr hg hm hk hb pass0 ha hall hks hdb hpl).weak fun σ H Q ⟨O, Φ, c, S, hw, kk⟩ => ⟨O, _, c, S, hw, fun y vs H1 c1 p1 ch1 S1 r1 =>
    ⟨pp, Av O pp ρ, pm y, Φ, c1, S1.av, fun a h => .inr (.inl h), S1.pool, hpm r1, p1, fun z v H2 c2 p2 ch2 pl2 rz => kk z v H2 c2 p2 (ch1.trans ch2) (S1.chg ch2 pl2) rz⟩⟩
/-! ### numbers of the module -/
theorem kTup_en {K : PySem.W.Frag} {a : Addr} {i j : Int} (h : kTup K a [.int i, .int j]) (O : AS) (H : Hp) : (eN : En K (Int × Int)).r O H (.ref a) (i, j) := ⟨a, _, _, rfl, .inr h, rfl, rfl⟩
end
end Dc
/-! DcP: the pool of draws of the first laws: [great cells, figures left, mark, draws so far]. -/
namespace Dc
open PySem PySem.Spec L2
/-- the pool's state: all that bounds ask -/
def poolA : PoolK where
  r H a b c := ∃ (gs : List Int) (f m d : Int), H a = some (.lst [.ref b, .int f, .int m, .int d]) ∧ H b = some (.lst (gs.map V.int)) ∧ a ≠ b ∧ (∀ g ∈ gs, 0 ≤ g) ∧ 0 ≤ f ∧ 0 ≤ m ∧ m ≤ 10 ^ 30 ∧ 0 ≤ d ∧ d ≤ c
  keep := fun {H H' a b c} ha hb ⟨gs, f, m, d, e1, e2, z⟩ => ⟨gs, f, m, d, ha.trans e1, hb.trans e2, z⟩
  dom := fun {H a b c} ⟨gs, f, m, d, e1, e2, z⟩ => ⟨by rw [e1]; simp, by rw [e2]; simp⟩
/-- a draw: any number below many -/
def pickW (many : Int) : W Int := fun Φ _ c => (0 < many ∧ many.natAbs.log2 < 9000 ∧ c < 2 ^ 1000) ∧ ∀ k, 0 ≤ k → k < many → Φ k (c + 1)
theorem bits_lt {i : Int} {n : Nat} (h : i.natAbs < 2 ^ n) : Builtin.Int.intBits i ≤ n := by
  unfold Builtin.Int.intBits
  split
  · exact Nat.zero_le _
  · have : i.natAbs.log2 < n := (Nat.log2_lt (by simp_all)).mpr h
    omega
section
variable {P : Program} {w : World} {K : PySem.W.Frag} {mg : Str → Option Value} {base : Heap}
theorem big_lt {x m d : Int} {c : Nat} (hc : c < 2 ^ 1000) (d0 : 0 ≤ d) (d1 : d ≤ (c : Int)) (m0 : 0 ≤ m) (m1 : m ≤ 10 ^ 40) {q : Int} (q0 : 0 ≤ q) (q1 : q ≤ 2 ^ 20) (e : x = m + q * (d + 1)) : x.natAbs < 2 ^ 1030 := by
  have h1 : (c : Int) < 2 ^ 1000 := by exact_mod_cast hc
  have e1 : (2 : Int) ^ 1030 = 2 ^ 1000 * 1073741824 := by decide +kernel
  have e2 : (10 : Int) ^ 40 ≤ 2 ^ 1000 := by decide +kernel
  have e3 : (2 : Int) ^ 20 = 1048576 := by decide
  have h3 : q * (d + 1) ≤ 1048576 * (d + 1) := Int.mul_le_mul_of_nonneg_right (by omega) (by omega)
  have h4 : 0 ≤ q * (d + 1) := Int.mul_nonneg q0 (by omega)
  have h5 : x < 2 ^ 1030 := by
    rw [e1]
    generalize (2 : Int) ^ 1000 = z at *
    generalize q * (d + 1) = y at *
    omega
  have h6 : 0 ≤ x := by omega
  have : ((x.natAbs : Nat) : Int) < ((2 ^ 1030 : Nat) : Int) := by
    rw [Int.natAbs_of_nonneg h6]
    exact_mod_cast h5
  exact_mod_cast this
end
section
variable {K : PySem.W.Frag}
theorem dpInts {H : Hp} : ∀ gs : List Int, DpAll K H (gs.map V.int) (gs.map PyData.int)
  | [] => .nil
  | g :: r => .cons (.int g) (dpInts r)
theorem layInts : ∀ gs : List Int, PyData.canLayAll0 (gs.map PyData.int) = true
  | [] => rfl
  | g :: r => by
    show (PyData.canLay0 (.int g) && PyData.canLayAll0 (r.map PyData.int)) = true
    rw [layInts r]
    rfl
theorem depInts : ∀ gs : List Int, PyData.depthAll (gs.map PyData.int) = 0
  | [] => rfl
  | g :: r => by
    show max (PyData.depth (.int g)) (PyData.depthAll (r.map PyData.int)) = 0
    rw [depInts r]
    rfl
theorem shInts (gs : List Int) : SeqAt.shaped (.list (gs.map PyData.int)) = true := by
  have h1 : PyData.canLay0 (.list (gs.map PyData.int)) = true := layInts gs
  have h2 : PyData.depth (.list (gs.map PyData.int)) = 1 := by
    show PyData.depthAll (gs.map PyData.int) + 1 = 1
    rw [depInts]
  unfold SeqAt.shaped
  rw [h1, h2]
  rfl
/-- the pool as it stands -/
def PoolSt (a b : Addr) (m d : Int) (gs : List Int) (f : Int) (H : Hp) : Prop := H a = some (.lst [.ref b, .int f, .int m, .int d]) ∧ H b = some (.lst (gs.map V.int)) ∧ a ≠ b ∧ (∀ g ∈ gs, 0 ≤ g) ∧ 0 ≤ f
theorem pool_while {X : Cx} {st : Stmt} {u : X.A.units + 64 < cLine} {tc : TT} {tb : TS} (h : PS X st (tWhile tc tb)) {a b : Addr} {m d : Int} {x : Int}
    (hstep : ∀ gs f H1, PoolSt a b m d gs f H1 → ∀ (R : Bool → Hp → Prop), (∀ H2, Same H1 H2 → R (decide (f = 0) && !gs.isEmpty) H2) → tc [some (.ref a), some (.int x), none, none] H1 R)
    (hbody : ∀ g gs f H1 (D : Ends), PoolSt a b m d (g :: gs) f H1 → (∀ H2, PoolSt a b m d gs g H2 → Chg (some (a, b)) H1 H2 → D.nx [some (.ref a), some (.int x), none, none] H2) → tb D [some (.ref a), some (.int x), none, none] H1) :
    PS X st (fun D σ H => σ = [some (.ref a), some (.int x), none, none] ∧ ∃ gs f, PoolSt a b m d gs f H ∧ ∀ gs f H2, PoolSt a b m d gs f H2 → Chg (some (a, b)) H H2 → D.nx σ H2) := h.weak fun D σ H ⟨hs, gs, f, hp, k⟩ => by
  subst hs
  refine ⟨fun n σ H1 => σ = [some (.ref a), some (.int x), none, none] ∧ ∃ gs f, n = gs.length ∧ PoolSt a b m d gs f H1 ∧ Chg (some (a, b)) H H1, ⟨_, rfl, gs, f, rfl, hp, .refl⟩, ?_⟩
  rintro n σ H1 ⟨rfl, gs, f, rfl, hp1, ch⟩
  refine hstep gs f H1 hp1 _ fun H2 s2 => ?_
  have hp2 : PoolSt a b m d gs f H2 := ⟨s2 _ _ hp1.1, s2 _ _ hp1.2.1, hp1.2.2⟩
  have ch2 : Chg (some (a, b)) H H2 := ch.trans (.of s2)
  cases gs with
  | nil =>
    rw [List.isEmpty_nil, Bool.not_true, Bool.and_false, if_neg Bool.false_ne_true]
    exact k [] f H2 hp2 ch2
  | cons g gs =>
    by_cases e : f = 0
    · rw [if_pos (by simp [e])]
      refine ⟨fun σ H3 => σ = [some (.ref a), some (.int x), none, none] ∧ PoolSt a b m d gs g H3 ∧ Chg (some (a, b)) H H3, fun σ H3 ⟨q1, q2, q3⟩ => ⟨gs.length, by simp, q1, gs, g, rfl, q2, q3⟩, ?_⟩
      exact hbody g gs f H2 _ hp2 fun H3 p3 c3 => ⟨rfl, p3, ch2.trans c3⟩
    · rw [if_neg (by simp [e])]
      exact k _ f H2 hp2 ch2
/-- the pool made of the script -/
def spPool (K : PySem.W.Frag) : Sp := fun vs H Q _ => ∃ (a : Addr) (ns : List Int), vs = [.ref a] ∧ SqL K H a (ns.map V.int) ∧ ns.length ≤ 63 ∧ ∀ H' p b, Same H H' → H p = none → H b = none → poolA.r H' p b 0 → Q (.ref p) H'
end
end Dc
/-! DcQ: the forms that dc.py writes. -/
namespace Dc
open PySem PySem.Spec L2
section
variable {X : Cx} {PK : PoolK} {pp : PP} {ρ : List (Sl X.K)} {α β γ δ : Type} {e a b : Expr} {pos : Pos}
theorem nil1 {i : Nat} (h : get ρ i = .nil) : ∀ k ∈ [i], get ρ k = .nil := fun k hk => by
  have e : k = i := by simpa using hk
  rw [e]; exact h
theorem nil2 {i j : Nat} (h : get ρ i = .nil) (h2 : get ρ j = .nil) : ∀ k ∈ [i, j], get ρ k = .nil := fun k hk => by
  rcases List.mem_cons.mp hk with e | hk
  · rw [e]; exact h
  · have e : k = j := by simpa using hk
    rw [e]; exact h2
theorem nil3 {i j l : Nat} (h : get ρ i = .nil) (h2 : get ρ j = .nil) (h3 : get ρ l = .nil) : ∀ k ∈ [i, j, l], get ρ k = .nil := fun k hk => by
  rcases List.mem_cons.mp hk with e | hk
  · rw [e]; exact h
  · exact nil2 h2 h3 k hk
/-- the slots, written out -/
theorem re {ss : List Stmt} {w : W (Fl γ δ β)} {ρ' : γ → List (Sl X.K)} {ρl : δ → List (Sl X.K)} {er : En X.K β} (ρ1 : List (Sl X.K)) (h : ρ = ρ1) (k : PSX X PK pp ρ1 ss w ρ' ρl er) : PSX X PK pp ρ ss w ρ' ρl er := by
  rw [h]; exact k
/-- if, the branch leaves -/
theorem nif0 {c : Expr} {a : List Stmt} {w : W Bool} {u : W (Fl Unit δ β)} {ρl : δ → List (Sl X.K)} {er : En X.K β} (hc : PTX X PK pp ρ c w) (ha : PSX X PK pp ρ a u (fun _ : Unit => ρ) ρl er) :
    PS X (.If c a [] pos) (rdS PK pp ρ (bnd w fun x => ite x u (ret (Fl.nx ()))) (fun _ : Unit => ρ) ρl er) := nif hc ha (snil Fit.refl)
theorem nifJ (F : List (Sl X.K) → γ → List (Sl X.K)) {c : Expr} {a b : List Stmt} {w : W Bool} {u v : W (Fl γ δ β)} {ρl : δ → List (Sl X.K)} {er : En X.K β} (hc : PTX X PK pp ρ c w) (ha : PSX X PK pp ρ a u (F ρ) ρl er) (hb : PSX X PK pp ρ b v (F ρ) ρl er) :
    PS X (.If c a b pos) (rdS PK pp ρ (bnd w fun x => ite x u v) (F ρ) ρl er) := nif hc ha hb
theorem nforJ (F : List (Sl X.K) → γ → List (Sl X.K)) {iter tg : Expr} {body : List Stmt} {wi : W (List α)} {ext : List (Sl X.K) → α → List (Sl X.K)} {js : List Nat} {g : TG} {f : γ → α → W (Fl γ γ β)} {ρl : δ → List (Sl X.K)} {er : En X.K β} {s0 : γ}
    (hp : PassesOwn (model X.prog X.w) X.A X.env X.xe) (hc : X.calm = true) (hi : PI X tg iter (rdI PK pp ρ wi ext js g)) (hg : PG X tg g) (hf : Fit ρ (F ρ s0)) (hb : ∀ s x, PSX X PK pp (ext (F ρ s) x) body (f s x) (F ρ) (F ρ) er)
    (hs : ∀ x, foldedSetIterable iter X.env x = pure x := by intro _; rfl) : PS X (.For tg iter body [] pos) (rdS PK pp ρ (bnd wi fun xs => forW f s0 xs) (F ρ) ρl er) := nfor hp hc hi hg hf hb hs
theorem nwhileJ (F : List (Sl X.K) → γ → List (Sl X.K)) {c : Expr} {body : List Stmt} {t : γ → W Bool} {f : γ → W (Fl γ γ β)} {ρl : δ → List (Sl X.K)} {er : En X.K β} {s0 : γ} (fuel : Nat)
    (hp : PassesOwn (model X.prog X.w) X.A X.env X.xe) (hf : Fit ρ (F ρ s0)) (ht : ∀ s, PTX X PK pp (F ρ s) c (t s)) (hb : ∀ s, PSX X PK pp (F ρ s) body (f s) (F ρ) (F ρ) er) :
    PS X (.While c body [] pos) (rdS PK pp ρ (whW t f fuel s0) (F ρ) ρl er) := nwhile fuel hp hf ht hb
/-- x is None, as a test -/
theorem tisND {j pos'} {w : W D} (h : PX X PK pp ρ a w eD) : PTX X PK pp ρ (.Compare a [.Is] [.Constant .none j pos'] pos) (bnd w fun x => ret (nonD x)) :=
  (pt_cmp (pc_isN h)).weak fun σ H Q ⟨O, Φ, c, S, hw, k⟩ => ⟨O, _, c, S, hw, fun x v H' c' p ch S' r => by
    have hr : rD X.K (Av O pp ρ) H' v x := r
    cases x with
    | non => rw [show v = .non from hr]; exact ⟨_, rfl, k _ _ c' p ch S'⟩
    | bl y => rw [show v = _ from hr]; exact ⟨_, rfl, k _ _ c' p ch S'⟩
    | int y => rw [show v = _ from hr]; exact ⟨_, rfl, k _ _ c' p ch S'⟩
    | str y => rw [show v = _ from hr]; exact ⟨_, rfl, k _ _ c' p ch S'⟩
    | lst ds =>
      obtain ⟨a, vs, e, _⟩ := (by simpa only [rD] using hr : ∃ a vs, _)
      rw [e]; exact ⟨_, rfl, k _ _ c' p ch S'⟩
    | tup ds =>
      obtain ⟨a, vs, e, _⟩ := (by simpa only [rD] using hr : ∃ a vs, _)
      rw [e]; exact ⟨_, rfl, k _ _ c' p ch S'⟩⟩
theorem tisN {j pos'} {w : W (Option α)} {en : En X.K α} (h : PX X PK pp ρ a w (eO en)) : PTX X PK pp ρ (.Compare a [.Is] [.Constant .none j pos'] pos) (bnd w fun x => ret x.isNone) :=
  (pt_cmp (pc_isN h)).weak fun σ H Q ⟨O, Φ, c, S, hw, k⟩ => ⟨O, _, c, S, hw, fun x v H' c' p ch S' r => by
    cases x with
    | none =>
      have e : v = .non := r
      exact ⟨_, by rw [e]; rfl, k _ _ c' p ch S'⟩
    | some y => exact ⟨_, (by show V.bl _ = V.bl false; rw [decide_eq_false r.2]), k _ _ c' p ch S'⟩⟩
/-- data not too deep -/
structure Shp {α : Type} (to : α → PyData) (n : Nat) : Prop where
  cl : ∀ x, (to x).canLay0 = true
  dp : ∀ x, (to x).depth ≤ n
theorem shx {α : Type} {to : α → PyData} {n : Nat} (h : Shp to n) (hn : n ≤ 64 := by decide) (x : α) : SeqAt.shaped (to x) = true := by
  unfold SeqAt.shaped; rw [h.cl x, Bool.true_and]; exact decide_eq_true (Nat.le_trans (h.dp x) hn)
theorem shI : Shp PyData.int 0 := ⟨fun _ => rfl, fun _ => Nat.le_refl _⟩
theorem shB : Shp PyData.bool 0 := ⟨fun _ => rfl, fun _ => Nat.le_refl _⟩
theorem shStr (h : ∀ x : Str, (PyData.str x).canLay0 = true) : Shp PyData.str 0 := ⟨h, fun _ => Nat.le_refl _⟩
theorem shP {α β : Type} {to : α → PyData} {to2 : β → PyData} {n m : Nat} (h : Shp to n) (h2 : Shp to2 m) : Shp (fun z : α × β => PyData.tuple [to z.1, to2 z.2]) (max n m + 1) := by
  refine ⟨fun z => ?_, fun z => ?_⟩
  · simp [PyData.canLay0, PyData.canLayAll0, h.cl, h2.cl]
  · have := h.dp z.1
    have := h2.dp z.2
    simp only [PyData.depth, PyData.depthAll]
    omega
theorem shL {α : Type} {to : α → PyData} {n : Nat} (h : Shp to n) : Shp (fun z : List α => PyData.list (z.map fun y => to y)) (n + 1) := by
  have h1 : ∀ l : List α, PyData.canLayAll0 (l.map fun y => to y) = true := fun l => by
    induction l with
    | nil => rfl
    | cons a r ih => simp [PyData.canLayAll0, h.cl, ih]
  have h2 : ∀ l : List α, PyData.depthAll (l.map fun y => to y) ≤ n := fun l => by
    induction l with
    | nil => exact Nat.zero_le _
    | cons a r ih =>
      have := h.dp a
      simp only [List.map_cons, PyData.depthAll]
      omega
  refine ⟨fun z => ?_, fun z => ?_⟩
  · simp only [PyData.canLay0]; exact h1 z
  · have := h2 z
    simp only [PyData.depth]
    omega
/-- a, b, c = e1, e2, e3 -/
abbrev a3 {K : PySem.W.Frag} (e1 : En K α) (e2 : En K β) (e3 : En K γ) : EA K (α × β × γ × Unit) := aC e1 (aC e2 (aC e3 aN))
theorem npar3 (i j l : Nat) {x y z : Str} {a b c : Expr} {px py pz pt : Pos} {kt k2 pt2} {w : W (α × β × γ × Unit)} {e1 : En X.K α} {e2 : En X.K β} {e3 : En X.K γ} (hc : X.calm = true) (hN : X.N.Nodup) (h : PAX X PK pp ρ [a, b, c] w (a3 e1 e2 e3)) (hij : i ≠ j := by decide) (hil : i ≠ l := by decide) (hjl : j ≠ l := by decide)
    (hi : X.N[i]? = some x := by rfl) (hj : X.N[j]? = some y := by rfl) (hl : X.N[l]? = some z := by rfl)
    (hx : X.env.scope.names.lookup x = some .local := by rfl) (hy : X.env.scope.names.lookup y = some .local := by rfl) (hz : X.env.scope.names.lookup z = some .local := by rfl) (hw : swappedStores [.Tuple [.Name x px, .Name y py, .Name z pz] kt pt] (.Tuple [a, b, c] k2 pt2) X.env = pure (some [x, y, z]) := by rfl)
    (hs : swapsWithSole [.Tuple [.Name x px, .Name y py, .Name z pz] kt pt] (.Tuple [a, b, c] k2 pt2) pos.line X.env = pure false := by rfl) :
    PS X (.Assign [.Tuple [.Name x px, .Name y py, .Name z pz] kt pt] (.Tuple [a, b, c] k2 pt2) pos) (rdN PK pp ρ w fun (_ : Unit) z => put (put (put ρ i (.sh e1 z.1)) j (.sh e2 z.2.1)) l (.sh e3 z.2.2.1)) :=
  (ps_par3 hc hN hi hj hl hij hil hjl hx hy hz h hw hs).weak fun D σ H ⟨O, Φ, c, S, hw, k⟩ => ⟨O, _, c, S, hw, fun z v H1 c1 p1 ch S1 r => by
    obtain ⟨u, _, rfl, q1, w, _, rfl, q2, y, _, rfl, q3, rfl⟩ := r
    have less : ∀ {ρ : List (Sl X.K)} {α : Type} {i : Nat} {e1 : En X.K α} {x : α} (a), Av O pp (put ρ i (.sh e1 x)) a → Av O pp ρ a := fun a z => by
      rcases z with z | z | z
      · exact .inl z
      · exact .inr (.inl z)
      · exact .inr (.inr (own_put_sh z))
    exact ⟨u, w, y, rfl, k () z H1 c1 p1 _ (.of_chg ch fun a z => own_put_sh (own_put_sh (own_put_sh z))) (((S1.put q1).put (e2.mono (Mv.less less) q2)).put (e3.mono ((Mv.less less).trans (Mv.less less)) q3))⟩⟩
end
/-! ### the law -/
def spLaw (K : PySem.W.Frag) : Sp := fun vs H Q _ => ∃ (a : Addr) (ns : List Int), vs = [.ref a] ∧ SqL K H a (ns.map V.int) ∧ ns.length ≤ 63 ∧ ∀ H', Q (.bl true) H'
theorem F2.of_ints {K : PySem.W.Frag} {O : AS} {H : Hp} : ∀ ns : List Int, F2 ((eI : En K Int).r O H) (ns.map V.int) ns
  | [] => .nil
  | _ :: r => .cons rfl (F2.of_ints r)
section
variable {P : Program} {w : World} {K : PySem.W.Frag} {mg : Str → Option Value} {base : Heap} {PK : PoolK}
theorem fn_law {x qual : Str} {st : Stmt} {f : Addr} {fd : FuncData} {N : List Str} {k : Nat} {wb : List Int × Unit → W (Fl Empty Empty Bool)} {ρ' : Empty → List (Sl K)} {sn : Str} (F : Fun K x qual st f fd) (S : FnScope N [sn] (defScope st)) (hN : 1 ≤ N.length)
    (hbody : ∀ (cdv : Value) (A : Around) (outer : List Env) (s : Shared) (H : Hp) (E : XK) (x : List Int × Unit), x.1.length ≤ 63 → Room k (A.deeper (PyProof.Rows.envOfC qual (defScope st) s.heap.objs.size f cdv)) →
      PSX (cxOf CX0 P w K mg base N qual (defScope st) f cdv A outer s H E).nox PK none ((aC (eR eI) aN : EA K _).ents x ++ List.replicate (N.length - 1) .nil) (defBody st) (wb x) ρ' (fun z : Empty => nomatch z) eB)
    (hm : ∀ ns : List Int, ns.length ≤ 63 → fnR (wb (ns, ())) (fun r _ => r = true) noX 0) : FnOk P w K mg base CX0 (k + 1) f fd [sn] (spLaw K) := by
  refine F.ok S (fun vs H Q E h => ?_) (fun cdv A outer s H vs Q E hr h => ?_)
  · obtain ⟨a, ns, rfl, _⟩ := h
    rfl
  · obtain ⟨a, ns, rfl, hS, hl, q⟩ := h
    have r : (aC (eR eI) aN : EA K (List Int × Unit)).r none (fun _ => False) H [.ref a] (ns, ()) := ⟨_, [], rfl, ⟨a, _, rfl, Dc.SqL.r hS, F2.of_ints ns⟩, rfl⟩
    refine ⟨_, hbody cdv A outer s H E (ns, ()) hl hr, fun _ => False, _, 0, sat_start (PK := PK) (pp := none) (fun _ z => z.elim) (fun _ z => z.elim) True.intro r hN, hm ns hl, fun fl H' c' p => ?_⟩
    cases fl with
    | rt y =>
      intro v _ _ rv
      have e : y = true := p
      have e2 : v = V.bl y := rv
      rw [e2, e]
      exact q H'
    | nx z => exact nomatch z
    | bk z => exact nomatch z
    | ct z => exact nomatch z
end
section
variable {X : Cx} {ρ : List (Sl X.K)} {α β γ δ : Type}
/-- pool = _law_pool(script), at the head of the law -/
theorem spool (i j : Nat) {k : Nat} {f : Addr} {fd : FuncData} {ps : List Str} {x fnm sn : Str} {p p2 p3 pos pos' : Pos} {rest : List Stmt} {ns : List Int} {w : W (Fl Empty Empty β)} {ρ' : Empty → List (Sl X.K)} {ρl : Empty → List (Sl X.K)} {er : En X.K β} (hl : ns.length ≤ 63) (hN : X.N.Nodup) (hgj : get ρ j = .sh (eR eI) ns) (hgi : get ρ i = .nil) (ho : owns ρ = [])
    (F : FnOk X.prog X.w X.K X.mg X.base CX0 k f fd ps (spPool X.K)) (hr : Room k X.A) (hm : X.mg fnm = some (.ref f)) (hk : PySem.W.keepIn X.K (.ref f) = true) (hb : Binds X.K fd ps [])
    (h : ∀ a b, PSX X poolA (some (a, b)) (put ρ i .pl) rest w ρ' ρl er) (hg : Gl X fnm := by rfl) (hi : X.N[i]? = some x := by rfl) (hj : X.N[j]? = some sn := by rfl) (hx : Loc X.env.scope x := by first | exact Or.inl rfl | exact Or.inr rfl)
    (hv : Vis X.env.scope sn := by first | exact Or.inl rfl | exact Or.inr (Or.inl rfl) | exact Or.inr (Or.inr rfl)) (hd : (sn == ("__debug__" : Str)) = false := by decide) (hcd : (sn == ("__classdict__" : Str)) = false := by decide) (hdb : (fnm == ("__debug__" : Str)) = false := by decide)
    (he : starEach [Expr.Name sn p2] X.env = (false, eval (.Name sn p2) X.env) :: starEach [] X.env := by rfl) (hpl : (backTo p3 (starEach [] X.env)).any (·.1) = false := by rfl)
    (hs : swapsWith (.Call (.Name fnm p) [.Name sn p2] [] p3) (some (.Name x pos')) pos.line X.env = pure false := by rfl) (hf : X.fn x = true ∨ X.env.scope.names.lookup x = some .local := by first | exact .inl rfl | exact .inr rfl) :
    PSX X poolA none ρ (.Assign [.Name x pos'] (.Call (.Name fnm p) [.Name sn p2] [] p3) pos :: rest) w ρ' ρl er :=
  (pss_cons (ps_set hN hi hx (pe_call F hr hg hm hk hb .nil pass0 (pa_cons (pe_var hj hv hd hcd) pa_nil he) hdb he hpl) hs hf) (PSs.ex fun z : Addr × Addr => h z.1 z.2)).weak fun D σ H ⟨O, Φ, c, S, hw, kk⟩ => by
    have q := S.slots j
    rw [hgj] at q
    obtain ⟨v, e1, a, vs, rfl, l, f2⟩ := q
    have ev := F2.ints f2
    refine ⟨_, e1, a, ns, rfl, by rw [← ev]; exact l.sq, hl, fun H' q b sm nq nb hp => ⟨(q, b), O, Φ, c, ?_, hw, fun fl H2 c2 z => ?_⟩⟩
    · have np : ∀ y o, H y = some o → y ≠ q ∧ y ≠ b := fun y o e => ⟨ne_of_none e nq, ne_of_none e nb⟩
      have hne : ∀ y, y ∉ owns (put ρ i (.pl : Sl X.K)) := fun y z => by
        rcases owns_put z with z | z
        · cases z
        · rw [ho] at z; cases z
      have mv : Mv (Av O none ρ) (Av O (some (q, b)) (put ρ i .pl)) H H' := fun y o n e => ⟨sm y o e, fun z => by
        rcases z with z | z | z
        · exact n (.inl z)
        · rcases (show y = q ∨ y = b from z) with z | z
          · exact (np y o e).1 z
          · exact (np y o e).2 z
        · exact hne y z⟩
      refine ⟨by rw [put_len, List.length_set]; exact S.len, owns_put_nodup S.nd (own1_nodup _) (fun b hb => by cases hb), fun y z => absurd z (hne y), fun y z => ?_, ?_, fun m => ?_⟩
      · rw [same_at sm (S.dom y z)]; exact S.dom y z
      · obtain ⟨gs, f0, m, d, r1, r2, r3, r4, r5, r6, r7, r8, r9⟩ := hp
        exact ⟨gs, f0, m, d, r1, r2, r3, r4, r5, r6, r7, r8, by omega⟩
      · by_cases hmi : m = i
        · subst hmi
          rcases get_put_self (ρ := ρ) (i := m) (s := (.pl : Sl X.K)) with e | e
          · rw [e]
            have hlen := get_len (ρ := put ρ m (.pl : Sl X.K)) (i := m) (by rw [e]; intro z; cases z)
            rw [put_len, ← S.len] at hlen
            exact ⟨q, b, rfl, List.getElem?_set_self hlen⟩
          · rw [e]; exact True.intro
        · rw [get_put_ne hmi]
          have qq := S.slots m
          cases e : get ρ m with
          | nil => exact True.intro
          | sh en y =>
            rw [e] at qq
            obtain ⟨u, e2, r⟩ := qq
            exact ⟨u, by rw [List.getElem?_set_ne (Ne.symm hmi)]; exact e2, en.mono mv r⟩
          | ow y on z =>
            have z1 := owns_mem e
            rw [ho] at z1
            cases z1
          | pl =>
            rw [e] at qq
            obtain ⟨_, _, e3, _⟩ := qq
            cases e3
    · have np : ∀ y o, H y = some o → y ≠ q ∧ y ≠ b := fun y o e => ⟨ne_of_none e nq, ne_of_none e nb⟩
      cases fl with
      | rt r =>
        intro v keep _ rv
        refine kk (.rt r) H2 c2 z v (fun y o e _ _ => keep y o (sm y o e) (fun z => ?_) fun z => ?_) True.intro (er.mono (Mv.less fun y z => ?_) rv)
        · rcases (show y = q ∨ y = b from z) with z | z
          · exact (np y o e).1 z
          · exact (np y o e).2 z
        · rcases owns_put z with z | z
          · cases z
          · rw [ho] at z; cases z
        · rcases z with z | z
          · exact .inl z
          · exact z.elim
      | nx z => exact nomatch z
      | bk z => exact nomatch z
      | ct z => exact nomatch z
end
end Dc
/-! DcT: what a W does, said in triples; n bounds the pool's draws. -/
namespace Dc
open PySem PySem.Spec L2
section
variable {α β γ δ ε : Type}
def Tr (n : Nat) (w : W α) (S : α → Prop) : Prop := ∀ Φ Ψ c, c + n ≤ 2 ^ 1000 → (∀ r c', c' ≤ c + n → S r → Φ r c') → w Φ Ψ c
theorem Tr.ret {n : Nat} {x : α} {S : α → Prop} (h : S x) : Tr n (Dc.ret x) S := fun Φ Ψ c _ k => k x c (Nat.le_add_right _ _) h
theorem Tr.retE {x : α} : Tr 0 (Dc.ret x) (fun r => r = x) := Tr.ret rfl
theorem Tr.bnd {a b : Nat} {m : W α} {k : α → W β} {S : α → Prop} {T : β → Prop} (h : Tr a m S) (h2 : ∀ x, S x → Tr b (k x) T) : Tr (a + b) (bnd m k) T := fun Φ Ψ c hc kk =>
  h _ Ψ c (by omega) fun r c' h' s => h2 r s Φ Ψ c' (by omega) fun r' c2 h3 t => kk r' c2 (by omega) t
theorem Tr.mono {a b : Nat} {m : W α} {S T : α → Prop} (h : Tr a m S) (hab : a ≤ b) (hs : ∀ x, S x → T x) : Tr b m T := fun Φ Ψ c hc k => h Φ Ψ c (by omega) fun r c' h' s => k r c' (by omega) (hs r s)
theorem Tr.up {a b : Nat} {m : W α} {S : α → Prop} (h : Tr a m S) (hab : a ≤ b) : Tr b m S := h.mono hab fun _ s => s
theorem Tr.cons {a : Nat} {m : W α} {S T : α → Prop} (h : Tr a m S) (hs : ∀ x, S x → T x) : Tr a m T := h.mono (Nat.le_refl _) hs
theorem Tr.grd {n : Nat} {b : Bool} {m : W α} {S : α → Prop} (hb : b = true) (h : Tr n m S) : Tr n (grd b m) S := fun Φ Ψ c hc k => ⟨hb, h Φ Ψ c hc k⟩
theorem Tr.ite {n : Nat} {b : Bool} {m m2 : W α} {S : α → Prop} (h : b = true → Tr n m S) (h2 : b = false → Tr n m2 S) : Tr n (ite b m m2) S := fun Φ Ψ c hc k => by
  cases b
  · exact (h2 rfl) Φ Ψ c hc k
  · exact (h rfl) Φ Ψ c hc k
theorem Tr.pick {many : Int} (h : 0 < many := by decide) (hl : many.natAbs.log2 < 9000 := by decide) : Tr 1 (pickW many) (fun k => 0 ≤ k ∧ k < many) := fun Φ Ψ c hc k =>
  ⟨⟨h, hl, by omega⟩, fun x h1 h2 => k x (c + 1) (Nat.le_refl _) ⟨h1, h2⟩⟩
theorem Tr.map {n : Nat} {f : α → W β} {S : α → β → Prop} : ∀ {xs : List α}, (∀ x ∈ xs, Tr n (f x) (S x)) → Tr (xs.length * n) (mapW f xs) (fun ys => F2 (fun y x => S x y) ys xs)
  | [], _ => Tr.ret .nil
  | x :: r, h => by
    have e : (x :: r).length * n = n + (r.length * n + 0) := by simp [Nat.add_mul]; omega
    rw [e]
    refine Tr.bnd (h x (List.mem_cons_self ..)) fun y hy => Tr.bnd (Tr.map fun z hz => h z (List.mem_cons_of_mem _ hz)) fun ys hys => Tr.ret (.cons hy hys)
theorem mapW_eq {f : α → W β} {g : α → β} : ∀ {xs : List α}, (∀ x ∈ xs, f x = Dc.ret (g x)) → mapW f xs = Dc.ret (xs.map g)
  | [], _ => rfl
  | x :: r, h => by
    show bnd (f x) _ = _
    rw [h x (List.mem_cons_self ..), bnd_ret, mapW_eq fun z hz => h z (List.mem_cons_of_mem _ hz)]
    rfl
theorem forW_eq {f : γ → α → W (Fl γ γ β)} {g : γ → α → γ} : ∀ {xs : List α} {s : γ}, (∀ x ∈ xs, ∀ s, f s x = Dc.ret (.nx (g s x))) → forW (δ := δ) f s xs = Dc.ret (.nx (xs.foldl g s))
  | [], _, _ => rfl
  | x :: r, s, h => by
    show bnd (f s x) _ = _
    rw [h x (List.mem_cons_self ..) s, bnd_ret]
    exact forW_eq fun z hz => h z (List.mem_cons_of_mem _ hz)
/-- with an invariant kept by each step -/
theorem forW_inv {f : γ → α → W (Fl γ γ β)} {g : γ → α → γ} (I : γ → Prop) : ∀ {xs : List α} {s : γ}, I s → (∀ x ∈ xs, ∀ s, I s → f s x = Dc.ret (.nx (g s x)) ∧ I (g s x)) → forW (δ := δ) f s xs = Dc.ret (.nx (xs.foldl g s)) ∧ I (xs.foldl g s)
  | [], _, i, _ => ⟨rfl, i⟩
  | x :: r, s, i, h => by
    obtain ⟨e, i'⟩ := h x (List.mem_cons_self ..) s i
    show bnd (f s x) _ = _ ∧ _
    rw [e, bnd_ret]
    exact forW_inv I i' fun z hz => h z (List.mem_cons_of_mem _ hz)
theorem Tr.for {n : Nat} {f : γ → α → W (Fl γ γ β)} {R : γ → Prop} : ∀ {xs : List α} {s : γ}, R s → (∀ x ∈ xs, ∀ s, R s → Tr n (f s x) (fun fl => ∃ s', fl = .nx s' ∧ R s')) → Tr (xs.length * n) (forW (δ := δ) f s xs) (fun fl => ∃ s', fl = .nx s' ∧ R s')
  | [], s, i, _ => Tr.ret ⟨s, rfl, i⟩
  | x :: r, s, i, h => by
    have e : (x :: r).length * n = n + (r.length * n) := by simp [Nat.add_mul]; omega
    rw [e]
    refine Tr.bnd (h x (List.mem_cons_self ..) s i) fun fl hf => ?_
    obtain ⟨s', rfl, i'⟩ := hf
    exact Tr.for i' fun z hz => h z (List.mem_cons_of_mem _ hz)
theorem bnd_ifr {γ' : Type} (b : Bool) (r : β) (s : γ) (k : γ → W (Fl γ' δ β)) : Dc.bnd (Dc.ite b (Dc.ret (.rt r)) (Dc.ret (.nx s))) (sq k) = Dc.ite b (Dc.ret (.rt r)) (k s) := bnd_ite ..
theorem bnd_ifs {γ' : Type} (b : Bool) (s : γ) (k : γ → W (Fl γ' δ β)) : Dc.bnd (Dc.ite b stuck (Dc.ret (.nx s))) (sq k) = Dc.ite b stuck (k s) := bnd_ite ..
theorem sq_nx {γ' : Type} (k : γ → W (Fl γ' δ β)) (s : γ) : sq k (.nx s) = k s := (rfl)
theorem sq_rt {γ' : Type} (k : γ → W (Fl γ' δ β)) (r : β) : sq k (.rt r) = Dc.ret (.rt r) := (rfl)
theorem fnR_bnd (m : W α) (k : α → W (Fl Empty Empty β)) : fnR (bnd m k) = bnd m (fun x => fnR (k x)) := (rfl)
theorem fnR_ret (r : β) : fnR (Dc.ret (.rt r)) = Dc.ret r := (rfl)
theorem fnR_grd (b : Bool) (m : W (Fl Empty Empty β)) : fnR (grd b m) = grd b (fnR m) := (rfl)
theorem fnR_stuck : fnR (stuck : W (Fl Empty Empty β)) = stuck := (rfl)
theorem fnR_ite (b : Bool) (m n : W (Fl Empty Empty β)) : fnR (ite b m n) = ite b (fnR m) (fnR n) := bnd_ite ..
theorem fnU_bnd (m : W α) (k : α → W (Fl Unit Empty Unit)) : fnU (bnd m k) = bnd m (fun x => fnU (k x)) := (rfl)
theorem fnU_nx (u : Unit) : fnU (Dc.ret (.nx u)) = Dc.ret () := (rfl)
theorem fnU_rt (u : Unit) : fnU (Dc.ret (.rt u)) = Dc.ret u := (rfl)
theorem fnU_ite (b : Bool) (m n : W (Fl Unit Empty Unit)) : fnU (ite b m n) = ite b (fnU m) (fnU n) := bnd_ite ..
theorem fnU_grd (b : Bool) (m : W (Fl Unit Empty Unit)) : fnU (grd b m) = grd b (fnU m) := (rfl)
theorem grd_ok {b : Bool} (h : b = true) (m : W α) : grd b m = m := by rw [h, grd_true]
theorem ite_ok {b : Bool} (h : b = true) (m n : W α) : Dc.ite b m n = m := by rw [h, ite_true]
theorem ite_no {b : Bool} (h : b = false) (m n : W α) : Dc.ite b m n = n := by rw [h, ite_false]
/-- lists of the same length -/
theorem F2.len {R : α → β → Prop} {ys : List α} {xs : List β} (h : F2 R ys xs) : ys.length = xs.length := h.length
theorem F2.all {R : α → β → Prop} {ys : List α} {xs : List β} (h : F2 R ys xs) : ∀ y ∈ ys, ∃ x ∈ xs, R y x := by
  induction h with
  | nil => intro y hy; cases hy
  | cons r _ ih =>
    intro y hy
    rcases List.mem_cons.mp hy with e | hy
    · rw [e]; exact ⟨_, List.mem_cons_self .., r⟩
    · obtain ⟨x, hx, q⟩ := ih y hy
      exact ⟨x, List.mem_cons_of_mem _ hx, q⟩
end
/-! ### the sizes that the operations allow -/
theorem bits_le {i : Int} {n : Nat} (h : i.natAbs < 2 ^ n) : Builtin.Int.intBits i ≤ n := bits_lt h
theorem mulOk_of {i j : Int} {n m : Nat} (hi : i.natAbs < 2 ^ n) (hj : j.natAbs < 2 ^ m) (h : n + m ≤ 134217728 := by decide) : mulOk i j = true := by
  have := bits_lt hi
  have := bits_lt hj
  exact decide_eq_true (by omega)
theorem log2_lt {x n : Nat} (h : x < 2 ^ n) (hn : 0 < n) : x.log2 < n := by
  by_cases h0 : x = 0
  · rw [h0]; simpa using hn
  · exact (Nat.log2_lt h0).mpr h
theorem fdivOk_of {i j : Int} (h0 : j ≠ 0) (h : j.natAbs < 2 ^ 9000) : fdivOk i j = true := by
  simp only [fdivOk, Bool.and_eq_true, decide_eq_true_eq]
  exact ⟨h0, log2_lt h (by decide)⟩
theorem lcmOk_of {i j : Int} (hi : i.natAbs < 2 ^ 13000) (hj : j.natAbs < 2 ^ 13000) : lcmOk i j = true := by
  simp only [lcmOk, Bool.and_eq_true, decide_eq_true_eq]
  have h1 : (1 : Nat) < 2 ^ 13000 := Nat.one_lt_two_pow (by decide)
  refine ⟨Nat.lt_trans (log2_lt (n := 13000) ?_ (by decide)) (by decide), Nat.lt_trans (log2_lt (n := 13000) ?_ (by decide)) (by decide)⟩
  · exact Nat.max_lt.mpr ⟨h1, hi⟩
  · exact Nat.max_lt.mpr ⟨hi, hj⟩
end Dc
/-! Dm: fractions as pairs, by the library's Rat (no program in sight). -/
namespace Dc
abbrev Fr := Int × Int
def toQ (x : Fr) : Rat := Rat.divInt x.1 x.2
def ofQ (q : Rat) : Fr := (q.num, (q.den : Int))
theorem toQ_ofQ (q : Rat) : toQ (ofQ q) = q := Rat.num_divInt_den q
theorem ofQ_inj {q r : Rat} (h : ofQ q = ofQ r) : q = r := by rw [← toQ_ofQ q, h, toQ_ofQ]
def Red (x : Fr) : Prop := 1 ≤ x.2 ∧ Nat.gcd x.1.natAbs x.2.natAbs = 1
theorem red_ofQ (q : Rat) : Red (ofQ q) := ⟨by have := q.den_pos; show (1 : Int) ≤ (q.den : Int); omega, by
  have := q.reduced
  show Nat.gcd q.num.natAbs ((q.den : Int)).natAbs = 1
  rw [Int.natAbs_natCast]; exact this⟩
theorem low_pos {a b : Int} (h : 0 < b) : (a / ((Nat.gcd a.natAbs b.natAbs : Nat) : Int), b / ((Nat.gcd a.natAbs b.natAbs : Nat) : Int)) = ofQ (Rat.divInt a b) := by
  have e1 := Rat.num_divInt a b
  have e2 := Rat.den_divInt a b
  have hb : b ≠ 0 := by omega
  have hg : b.gcd a = Nat.gcd a.natAbs b.natAbs := by rw [Int.gcd, Nat.gcd_comm]
  rw [hg, Int.sign_eq_one_of_pos h, Int.one_mul] at e1
  rw [hg, if_neg hb] at e2
  unfold ofQ
  rw [e1, e2, Int.natCast_ediv, Int.natAbs_of_nonneg (by omega)]
theorem low_neg {a b : Int} (h : b < 0) : (-a / ((Nat.gcd a.natAbs b.natAbs : Nat) : Int), -b / ((Nat.gcd a.natAbs b.natAbs : Nat) : Int)) = ofQ (Rat.divInt a b) := by
  have := low_pos (a := -a) (b := -b) (by omega)
  rw [Int.natAbs_neg, Int.natAbs_neg, Rat.neg_divInt_neg] at this
  exact this
theorem ofQ_toQ {x : Fr} (h : Red x) : ofQ (toQ x) = x := by
  have := low_pos (a := x.1) (b := x.2) (by have := h.1; omega)
  rw [h.2] at this
  rw [toQ, ← this]
  simp
theorem red_iff {x : Fr} : Red x ↔ ofQ (toQ x) = x := ⟨ofQ_toQ, fun h => h ▸ red_ofQ _⟩
/-- how great the parts are -/
theorem low_le {a b : Int} (h : b ≠ 0) : (ofQ (Rat.divInt a b)).1.natAbs ≤ a.natAbs ∧ (ofQ (Rat.divInt a b)).2.natAbs ≤ b.natAbs := by
  have hd : ∀ (m n : Int) (g : Nat), (m / (g : Int)).natAbs ≤ m.natAbs := fun m n g => Int.natAbs_ediv_le_natAbs _ _
  rcases Int.lt_or_gt_of_ne h with q | q
  · rw [← low_neg q]
    exact ⟨by simpa using hd (-a) 0 _, by simpa using hd (-b) 0 _⟩
  · rw [← low_pos q]
    exact ⟨hd a 0 _, hd b 0 _⟩
theorem toQ_add {x y : Fr} (hx : x.2 ≠ 0) (hy : y.2 ≠ 0) : Rat.divInt (x.1 * y.2 + y.1 * x.2) (x.2 * y.2) = toQ x + toQ y := (Rat.divInt_add_divInt _ _ hx hy).symm
theorem toQ_mul (x y : Fr) : Rat.divInt (x.1 * y.1) (x.2 * y.2) = toQ x * toQ y := (Rat.divInt_mul_divInt _ _).symm
theorem toQ_neg (x : Fr) : toQ (-x.1, x.2) = - toQ x := (Rat.neg_divInt _ _).symm
theorem ofQ_neg (q : Rat) : ofQ (-q) = (-(ofQ q).1, (ofQ q).2) := rfl
theorem red_ne {x : Fr} (h : Red x) : x.2 ≠ 0 := by have := h.1; omega
/-- scaling by a common denominator -/
theorem divInt_of_mul {a b m : Int} (hm : m ≠ 0) : Rat.divInt (a * m) (b * m) = Rat.divInt a b := Rat.divInt_mul_right hm
theorem red_neg {x : Fr} (h : Red x) : Red (-x.1, x.2) := ⟨h.1, by simpa using h.2⟩
theorem red_zero : Red (0, 1) := ⟨by decide, by decide⟩
theorem red_int (n : Int) : Red (n, 1) := ⟨by show (1 : Int) ≤ 1; omega, by simp⟩
theorem toQ_int (n : Int) : toQ (n, 1) = (n : Rat) := by
  have := Rat.num_divInt_den (n : Rat)
  show Rat.divInt n 1 = _
  simpa using this
end Dc
set_option maxHeartbeats 4000000
namespace Dc
open PySem PySem.Spec L2
def topS (i : Nat) : Stmt := PySem.Challenge.pw_toldproducts_k01_numbers_sums_and_multip.main.body.getD i (.Pass ⟨0, 0, 0, 0⟩)
abbrev s_lowest : Stmt := topS 10
abbrev N_lowest : List Str := [Str.ofString "above", Str.ofString "below", Str.ofString "common"]
abbrev P_lowest : List Str := [Str.ofString "above", Str.ofString "below"]
theorem sc_lowest : FnScope N_lowest P_lowest (defScope s_lowest) := ⟨rfl, rfl, rfl, by decide +kernel, rfl, by decide +kernel, by decide +kernel⟩
abbrev s_sum_two : Stmt := topS 11
abbrev N_sum_two : List Str := [Str.ofString "one", Str.ofString "other"]
abbrev P_sum_two : List Str := [Str.ofString "one", Str.ofString "other"]
theorem sc_sum_two : FnScope N_sum_two P_sum_two (defScope s_sum_two) := ⟨rfl, rfl, rfl, by decide +kernel, rfl, by decide +kernel, by decide +kernel⟩
abbrev s_product_two : Stmt := topS 12
abbrev N_product_two : List Str := [Str.ofString "one", Str.ofString "other"]
abbrev P_product_two : List Str := [Str.ofString "one", Str.ofString "other"]
theorem sc_product_two : FnScope N_product_two P_product_two (defScope s_product_two) := ⟨rfl, rfl, rfl, by decide +kernel, rfl, by decide +kernel, by decide +kernel⟩
abbrev s_is_number : Stmt := topS 13
abbrev N_is_number : List Str := [Str.ofString "value"]
abbrev P_is_number : List Str := [Str.ofString "value"]
theorem sc_is_number : FnScope N_is_number P_is_number (defScope s_is_number) := ⟨rfl, rfl, rfl, by decide +kernel, rfl, by decide +kernel, by decide +kernel⟩
abbrev s_checked : Stmt := topS 14
abbrev N_checked : List Str := [Str.ofString "value"]
abbrev P_checked : List Str := [Str.ofString "value"]
theorem sc_checked : FnScope N_checked P_checked (defScope s_checked) := ⟨rfl, rfl, rfl, by decide +kernel, rfl, by decide +kernel, by decide +kernel⟩
abbrev s_check_numbers : Stmt := topS 15
abbrev N_check_numbers : List Str := [Str.ofString "numbers", Str.ofString "number"]
abbrev P_check_numbers : List Str := [Str.ofString "numbers"]
theorem sc_check_numbers : FnScope N_check_numbers P_check_numbers (defScope s_check_numbers) := ⟨rfl, rfl, rfl, by decide +kernel, rfl, by decide +kernel, by decide +kernel⟩
abbrev s_integers_of : Stmt := topS 16
abbrev N_integers_of : List Str := [Str.ofString "row", Str.ofString "below", Str.ofString "number"]
abbrev P_integers_of : List Str := [Str.ofString "row"]
theorem sc_integers_of : FnScope N_integers_of P_integers_of (defScope s_integers_of) := ⟨rfl, rfl, rfl, by decide +kernel, rfl, by decide +kernel, by decide +kernel⟩
abbrev s_numbers_of : Stmt := topS 17
abbrev N_numbers_of : List Str := [Str.ofString "integers", Str.ofString "below", Str.ofString "integer"]
abbrev P_numbers_of : List Str := [Str.ofString "integers", Str.ofString "below"]
theorem sc_numbers_of : FnScope N_numbers_of P_numbers_of (defScope s_numbers_of) := ⟨rfl, rfl, rfl, by decide +kernel, rfl, by decide +kernel, by decide +kernel⟩
abbrev s_nought_row : Stmt := topS 20
abbrev N_nought_row : List Str := [Str.ofString "size"]
abbrev P_nought_row : List Str := [Str.ofString "size"]
theorem sc_nought_row : FnScope N_nought_row P_nought_row (defScope s_nought_row) := ⟨rfl, rfl, rfl, by decide +kernel, rfl, by decide +kernel, by decide +kernel⟩
abbrev s_unit_row : Stmt := topS 21
abbrev N_unit_row : List Str := [Str.ofString "size", Str.ofString "place", Str.ofString "spot"]
abbrev P_unit_row : List Str := [Str.ofString "size", Str.ofString "place"]
theorem sc_unit_row : FnScope N_unit_row P_unit_row (defScope s_unit_row) := ⟨rfl, rfl, rfl, by decide +kernel, rfl, by decide +kernel, by decide +kernel⟩
abbrev s_plus_row : Stmt := topS 22
abbrev N_plus_row : List Str := [Str.ofString "one", Str.ofString "other", Str.ofString "left", Str.ofString "right"]
abbrev P_plus_row : List Str := [Str.ofString "one", Str.ofString "other"]
theorem sc_plus_row : FnScope N_plus_row P_plus_row (defScope s_plus_row) := ⟨rfl, rfl, rfl, by decide +kernel, rfl, by decide +kernel, by decide +kernel⟩
abbrev s_scaled_row : Stmt := topS 23
abbrev N_scaled_row : List Str := [Str.ofString "factor", Str.ofString "row", Str.ofString "number"]
abbrev P_scaled_row : List Str := [Str.ofString "factor", Str.ofString "row"]
theorem sc_scaled_row : FnScope N_scaled_row P_scaled_row (defScope s_scaled_row) := ⟨rfl, rfl, rfl, by decide +kernel, rfl, by decide +kernel, by decide +kernel⟩
abbrev s_combination : Stmt := topS 24
abbrev N_combination : List Str := [Str.ofString "numbers", Str.ofString "rows", Str.ofString "size", Str.ofString "factors", Str.ofString "common", Str.ofString "found", Str.ofString "row", Str.ofString "number", Str.ofString "totals", Str.ofString "at", Str.ofString "factor", Str.ofString "place", Str.ofString "integer"]
abbrev P_combination : List Str := [Str.ofString "numbers", Str.ofString "rows", Str.ofString "size"]
theorem sc_combination : FnScope N_combination P_combination (defScope s_combination) := ⟨rfl, rfl, rfl, by decide +kernel, rfl, by decide +kernel, by decide +kernel⟩
abbrev s_check_rows : Stmt := topS 25
abbrev N_check_rows : List Str := [Str.ofString "rows", Str.ofString "size", Str.ofString "row"]
abbrev P_check_rows : List Str := [Str.ofString "rows", Str.ofString "size"]
theorem sc_check_rows : FnScope N_check_rows P_check_rows (defScope s_check_rows) := ⟨rfl, rfl, rfl, by decide +kernel, rfl, by decide +kernel, by decide +kernel⟩
abbrev s_number : Stmt := topS 26
abbrev N_number : List Str := [Str.ofString "above", Str.ofString "below"]
abbrev P_number : List Str := [Str.ofString "above", Str.ofString "below"]
theorem sc_number : FnScope N_number P_number (defScope s_number) := ⟨rfl, rfl, rfl, by decide +kernel, rfl, by decide +kernel, by decide +kernel⟩
abbrev s_unit : Stmt := topS 27
abbrev N_unit : List Str := [Str.ofString "size", Str.ofString "place"]
abbrev P_unit : List Str := [Str.ofString "size", Str.ofString "place"]
theorem sc_unit : FnScope N_unit P_unit (defScope s_unit) := ⟨rfl, rfl, rfl, by decide +kernel, rfl, by decide +kernel, by decide +kernel⟩
abbrev s_noughts : Stmt := topS 28
abbrev N_noughts : List Str := [Str.ofString "size"]
abbrev P_noughts : List Str := [Str.ofString "size"]
theorem sc_noughts : FnScope N_noughts P_noughts (defScope s_noughts) := ⟨rfl, rfl, rfl, by decide +kernel, rfl, by decide +kernel, by decide +kernel⟩
abbrev s_sum_of : Stmt := topS 29
abbrev N_sum_of : List Str := [Str.ofString "one", Str.ofString "other"]
abbrev P_sum_of : List Str := [Str.ofString "one", Str.ofString "other"]
theorem sc_sum_of : FnScope N_sum_of P_sum_of (defScope s_sum_of) := ⟨rfl, rfl, rfl, by decide +kernel, rfl, by decide +kernel, by decide +kernel⟩
abbrev s_times : Stmt := topS 30
abbrev N_times : List Str := [Str.ofString "number", Str.ofString "row"]
abbrev P_times : List Str := [Str.ofString "number", Str.ofString "row"]
theorem sc_times : FnScope N_times P_times (defScope s_times) := ⟨rfl, rfl, rfl, by decide +kernel, rfl, by decide +kernel, by decide +kernel⟩
abbrev s_combined : Stmt := topS 31
abbrev N_combined : List Str := [Str.ofString "numbers", Str.ofString "rows", Str.ofString "size"]
abbrev P_combined : List Str := [Str.ofString "numbers", Str.ofString "rows", Str.ofString "size"]
theorem sc_combined : FnScope N_combined P_combined (defScope s_combined) := ⟨rfl, rfl, rfl, by decide +kernel, rfl, by decide +kernel, by decide +kernel⟩
abbrev s_law_pool : Stmt := topS 33
abbrev N_law_pool : List Str := [Str.ofString "_law_script", Str.ofString "_law_mark", Str.ofString "_law_great", Str.ofString "_law_spot", Str.ofString "_law_cell"]
abbrev P_law_pool : List Str := [Str.ofString "_law_script"]
theorem sc_law_pool : FnScope N_law_pool P_law_pool (defScope s_law_pool) := ⟨rfl, rfl, rfl, by decide +kernel, rfl, by decide +kernel, by decide +kernel⟩
abbrev s_law_pick : Stmt := topS 34
abbrev N_law_pick : List Str := [Str.ofString "_law_pool_here", Str.ofString "_law_many", Str.ofString "_law_found", Str.ofString "_law_stir"]
abbrev P_law_pick : List Str := [Str.ofString "_law_pool_here", Str.ofString "_law_many"]
theorem sc_law_pick : FnScope N_law_pick P_law_pick (defScope s_law_pick) := ⟨rfl, rfl, rfl, by decide +kernel, rfl, by decide +kernel, by decide +kernel⟩
abbrev s_law_low : Stmt := topS 35
abbrev N_law_low : List Str := [Str.ofString "_law_above", Str.ofString "_law_below", Str.ofString "_law_one", Str.ofString "_law_two"]
abbrev P_law_low : List Str := [Str.ofString "_law_above", Str.ofString "_law_below"]
theorem sc_law_low : FnScope N_law_low P_law_low (defScope s_law_low) := ⟨rfl, rfl, rfl, by decide +kernel, rfl, by decide +kernel, by decide +kernel⟩
abbrev s_law_add : Stmt := topS 36
abbrev N_law_add : List Str := [Str.ofString "_law_one", Str.ofString "_law_two"]
abbrev P_law_add : List Str := [Str.ofString "_law_one", Str.ofString "_law_two"]
theorem sc_law_add : FnScope N_law_add P_law_add (defScope s_law_add) := ⟨rfl, rfl, rfl, by decide +kernel, rfl, by decide +kernel, by decide +kernel⟩
abbrev s_law_mul : Stmt := topS 37
abbrev N_law_mul : List Str := [Str.ofString "_law_one", Str.ofString "_law_two"]
abbrev P_law_mul : List Str := [Str.ofString "_law_one", Str.ofString "_law_two"]
theorem sc_law_mul : FnScope N_law_mul P_law_mul (defScope s_law_mul) := ⟨rfl, rfl, rfl, by decide +kernel, rfl, by decide +kernel, by decide +kernel⟩
abbrev s_law_number : Stmt := topS 38
abbrev N_law_number : List Str := [Str.ofString "_law_pool_here", Str.ofString "_law_great", Str.ofString "_law_kind", Str.ofString "_law_most", Str.ofString "_law_above", Str.ofString "_law_below"]
abbrev P_law_number : List Str := [Str.ofString "_law_pool_here", Str.ofString "_law_great"]
theorem sc_law_number : FnScope N_law_number P_law_number (defScope s_law_number) := ⟨rfl, rfl, rfl, by decide +kernel, rfl, by decide +kernel, by decide +kernel⟩
abbrev s_law_alike : Stmt := topS 39
abbrev N_law_alike : List Str := [Str.ofString "_law_told", Str.ofString "_law_due", Str.ofString "_law_kind", Str.ofString "_law_k"]
abbrev P_law_alike : List Str := [Str.ofString "_law_told", Str.ofString "_law_due"]
theorem sc_law_alike : FnScope N_law_alike P_law_alike (defScope s_law_alike) := ⟨rfl, rfl, rfl, by decide +kernel, rfl, by decide +kernel, by decide +kernel⟩
abbrev s_law_line : Stmt := topS 40
abbrev N_law_line : List Str := [Str.ofString "_law_pool_here", Str.ofString "_law_wide", Str.ofString "_law_great", Str.ofString "_law_k", Str.ofString "_law_line_here", Str.ofString "_law_turn"]
abbrev P_law_line : List Str := [Str.ofString "_law_pool_here", Str.ofString "_law_wide", Str.ofString "_law_great"]
theorem sc_law_line : FnScope N_law_line P_law_line (defScope s_law_line) := ⟨rfl, rfl, rfl, by decide +kernel, rfl, by decide +kernel, by decide +kernel⟩
abbrev s_law_numbers_right : Stmt := topS 41
abbrev N_law_numbers_right : List Str := [Str.ofString "_law_pool_here", Str.ofString "_law_common", Str.ofString "_law_above", Str.ofString "_law_below", Str.ofString "_law_due", Str.ofString "_law_wide", Str.ofString "_law_spot", Str.ofString "_law_k"]
abbrev P_law_numbers_right : List Str := [Str.ofString "_law_pool_here"]
theorem sc_law_numbers_right : FnScope N_law_numbers_right P_law_numbers_right (defScope s_law_numbers_right) := ⟨rfl, rfl, rfl, by decide +kernel, rfl, by decide +kernel, by decide +kernel⟩
abbrev s_law_two_right : Stmt := topS 42
abbrev N_law_two_right : List Str := [Str.ofString "_law_pool_here", Str.ofString "_law_wide", Str.ofString "_law_great", Str.ofString "_law_first", Str.ofString "_law_second", Str.ofString "_law_one", Str.ofString "_law_fee", Str.ofString "_law_handed", Str.ofString "_law_beside", Str.ofString "_law_due", Str.ofString "_law_a", Str.ofString "_law_b"]
abbrev P_law_two_right : List Str := [Str.ofString "_law_pool_here"]
theorem sc_law_two_right : FnScope N_law_two_right P_law_two_right (defScope s_law_two_right) := ⟨rfl, rfl, rfl, by decide +kernel, rfl, by decide +kernel, by decide +kernel⟩
abbrev s_law_shape : Stmt := topS 43
abbrev N_law_shape : List Str := [Str.ofString "_law_pool_here", Str.ofString "_law_kind"]
abbrev P_law_shape : List Str := [Str.ofString "_law_pool_here"]
theorem sc_law_shape : FnScope N_law_shape P_law_shape (defScope s_law_shape) := ⟨rfl, rfl, rfl, by decide +kernel, rfl, by decide +kernel, by decide +kernel⟩
abbrev s_law_many_right : Stmt := topS 44
abbrev N_law_many_right : List Str := [Str.ofString "_law_pool_here", Str.ofString "_law_many", Str.ofString "_law_wide", Str.ofString "_law_great", Str.ofString "_law_lines", Str.ofString "_law_k", Str.ofString "_law_fees", Str.ofString "_law_due", Str.ofString "_law_fee", Str.ofString "_law_line_here", Str.ofString "_law_a", Str.ofString "_law_b", Str.ofString "_law_handed", Str.ofString "_law_beside", Str.ofString "_law_kept"]
abbrev P_law_many_right : List Str := [Str.ofString "_law_pool_here"]
theorem sc_law_many_right : FnScope N_law_many_right P_law_many_right (defScope s_law_many_right) := ⟨rfl, rfl, rfl, by decide +kernel, rfl, by decide +kernel, by decide +kernel⟩
abbrev s_law : Stmt := topS 45
abbrev N_law : List Str := [Str.ofString "_law_script", Str.ofString "_law_pool_here", Str.ofString "_law_turn"]
abbrev P_law : List Str := [Str.ofString "_law_script"]
theorem sc_law : FnScope N_law P_law (defScope s_law) := ⟨rfl, rfl, rfl, by decide +kernel, rfl, by decide +kernel, by decide +kernel⟩
/-- where all stands -/
structure Txt (K : PySem.W.Frag) (mg : Str → Option Value) where
  a_lowest : Addr
  d_lowest : FuncData
  F_lowest : Fun K (Str.ofString "lowest") (Str.ofString "lowest") s_lowest a_lowest d_lowest
  m_lowest : mg (Str.ofString "lowest") = some (.ref a_lowest)
  a_sum_two : Addr
  d_sum_two : FuncData
  F_sum_two : Fun K (Str.ofString "sum_two") (Str.ofString "sum_two") s_sum_two a_sum_two d_sum_two
  m_sum_two : mg (Str.ofString "sum_two") = some (.ref a_sum_two)
  a_product_two : Addr
  d_product_two : FuncData
  F_product_two : Fun K (Str.ofString "product_two") (Str.ofString "product_two") s_product_two a_product_two d_product_two
  m_product_two : mg (Str.ofString "product_two") = some (.ref a_product_two)
  a_is_number : Addr
  d_is_number : FuncData
  F_is_number : Fun K (Str.ofString "is_number") (Str.ofString "is_number") s_is_number a_is_number d_is_number
  m_is_number : mg (Str.ofString "is_number") = some (.ref a_is_number)
  a_checked : Addr
  d_checked : FuncData
  F_checked : Fun K (Str.ofString "checked") (Str.ofString "checked") s_checked a_checked d_checked
  m_checked : mg (Str.ofString "checked") = some (.ref a_checked)
  a_check_numbers : Addr
  d_check_numbers : FuncData
  F_check_numbers : Fun K (Str.ofString "check_numbers") (Str.ofString "check_numbers") s_check_numbers a_check_numbers d_check_numbers
  m_check_numbers : mg (Str.ofString "check_numbers") = some (.ref a_check_numbers)
  a_integers_of : Addr
  d_integers_of : FuncData
  F_integers_of : Fun K (Str.ofString "integers_of") (Str.ofString "integers_of") s_integers_of a_integers_of d_integers_of
  m_integers_of : mg (Str.ofString "integers_of") = some (.ref a_integers_of)
  a_numbers_of : Addr
  d_numbers_of : FuncData
  F_numbers_of : Fun K (Str.ofString "numbers_of") (Str.ofString "numbers_of") s_numbers_of a_numbers_of d_numbers_of
  m_numbers_of : mg (Str.ofString "numbers_of") = some (.ref a_numbers_of)
  a_nought_row : Addr
  d_nought_row : FuncData
  F_nought_row : Fun K (Str.ofString "nought_row") (Str.ofString "nought_row") s_nought_row a_nought_row d_nought_row
  m_nought_row : mg (Str.ofString "nought_row") = some (.ref a_nought_row)
  a_unit_row : Addr
  d_unit_row : FuncData
  F_unit_row : Fun K (Str.ofString "unit_row") (Str.ofString "unit_row") s_unit_row a_unit_row d_unit_row
  m_unit_row : mg (Str.ofString "unit_row") = some (.ref a_unit_row)
  a_plus_row : Addr
  d_plus_row : FuncData
  F_plus_row : Fun K (Str.ofString "plus_row") (Str.ofString "plus_row") s_plus_row a_plus_row d_plus_row
  m_plus_row : mg (Str.ofString "plus_row") = some (.ref a_plus_row)
  a_scaled_row : Addr
  d_scaled_row : FuncData
  F_scaled_row : Fun K (Str.ofString "scaled_row") (Str.ofString "scaled_row") s_scaled_row a_scaled_row d_scaled_row
  m_scaled_row : mg (Str.ofString "scaled_row") = some (.ref a_scaled_row)
  a_combination : Addr
  d_combination : FuncData
  F_combination : Fun K (Str.ofString "combination") (Str.ofString "combination") s_combination a_combination d_combination
  m_combination : mg (Str.ofString "combination") = some (.ref a_combination)
  a_check_rows : Addr
  d_check_rows : FuncData
  F_check_rows : Fun K (Str.ofString "check_rows") (Str.ofString "check_rows") s_check_rows a_check_rows d_check_rows
  m_check_rows : mg (Str.ofString "check_rows") = some (.ref a_check_rows)
  a_number : Addr
  d_number : FuncData
  F_number : Fun K (Str.ofString "number") (Str.ofString "number") s_number a_number d_number
  m_number : mg (Str.ofString "number") = some (.ref a_number)
  a_unit : Addr
  d_unit : FuncData
  F_unit : Fun K (Str.ofString "unit") (Str.ofString "unit") s_unit a_unit d_unit
  m_unit : mg (Str.ofString "unit") = some (.ref a_unit)
  a_noughts : Addr
  d_noughts : FuncData
  F_noughts : Fun K (Str.ofString "noughts") (Str.ofString "noughts") s_noughts a_noughts d_noughts
  m_noughts : mg (Str.ofString "noughts") = some (.ref a_noughts)
  a_sum_of : Addr
  d_sum_of : FuncData
  F_sum_of : Fun K (Str.ofString "sum_of") (Str.ofString "sum_of") s_sum_of a_sum_of d_sum_of
  m_sum_of : mg (Str.ofString "sum_of") = some (.ref a_sum_of)
  a_times : Addr
  d_times : FuncData
  F_times : Fun K (Str.ofString "times") (Str.ofString "times") s_times a_times d_times
  m_times : mg (Str.ofString "times") = some (.ref a_times)
  a_combined : Addr
  d_combined : FuncData
  F_combined : Fun K (Str.ofString "combined") (Str.ofString "combined") s_combined a_combined d_combined
  m_combined : mg (Str.ofString "combined") = some (.ref a_combined)
  a_law_pool : Addr
  d_law_pool : FuncData
  F_law_pool : Fun K (Str.ofString "_law_pool") (Str.ofString "_law_pool") s_law_pool a_law_pool d_law_pool
  m_law_pool : mg (Str.ofString "_law_pool") = some (.ref a_law_pool)
  a_law_pick : Addr
  d_law_pick : FuncData
  F_law_pick : Fun K (Str.ofString "_law_pick") (Str.ofString "_law_pick") s_law_pick a_law_pick d_law_pick
  m_law_pick : mg (Str.ofString "_law_pick") = some (.ref a_law_pick)
  a_law_low : Addr
  d_law_low : FuncData
  F_law_low : Fun K (Str.ofString "_law_low") (Str.ofString "_law_low") s_law_low a_law_low d_law_low
  m_law_low : mg (Str.ofString "_law_low") = some (.ref a_law_low)
  a_law_add : Addr
  d_law_add : FuncData
  F_law_add : Fun K (Str.ofString "_law_add") (Str.ofString "_law_add") s_law_add a_law_add d_law_add
  m_law_add : mg (Str.ofString "_law_add") = some (.ref a_law_add)
  a_law_mul : Addr
  d_law_mul : FuncData
  F_law_mul : Fun K (Str.ofString "_law_mul") (Str.ofString "_law_mul") s_law_mul a_law_mul d_law_mul
  m_law_mul : mg (Str.ofString "_law_mul") = some (.ref a_law_mul)
  a_law_number : Addr
  d_law_number : FuncData
  F_law_number : Fun K (Str.ofString "_law_number") (Str.ofString "_law_number") s_law_number a_law_number d_law_number
  m_law_number : mg (Str.ofString "_law_number") = some (.ref a_law_number)
  a_law_alike : Addr
  d_law_alike : FuncData
  F_law_alike : Fun K (Str.ofString "_law_alike") (Str.ofString "_law_alike") s_law_alike a_law_alike d_law_alike
  m_law_alike : mg (Str.ofString "_law_alike") = some (.ref a_law_alike)
  a_law_line : Addr
  d_law_line : FuncData
  F_law_line : Fun K (Str.ofString "_law_line") (Str.ofString "_law_line") s_law_line a_law_line d_law_line
  m_law_line : mg (Str.ofString "_law_line") = some (.ref a_law_line)
  a_law_numbers_right : Addr
  d_law_numbers_right : FuncData
  F_law_numbers_right : Fun K (Str.ofString "_law_numbers_right") (Str.ofString "_law_numbers_right") s_law_numbers_right a_law_numbers_right d_law_numbers_right
  m_law_numbers_right : mg (Str.ofString "_law_numbers_right") = some (.ref a_law_numbers_right)
  a_law_two_right : Addr
  d_law_two_right : FuncData
  F_law_two_right : Fun K (Str.ofString "_law_two_right") (Str.ofString "_law_two_right") s_law_two_right a_law_two_right d_law_two_right
  m_law_two_right : mg (Str.ofString "_law_two_right") = some (.ref a_law_two_right)
  a_law_shape : Addr
  d_law_shape : FuncData
  F_law_shape : Fun K (Str.ofString "_law_shape") (Str.ofString "_law_shape") s_law_shape a_law_shape d_law_shape
  m_law_shape : mg (Str.ofString "_law_shape") = some (.ref a_law_shape)
  a_law_many_right : Addr
  d_law_many_right : FuncData
  F_law_many_right : Fun K (Str.ofString "_law_many_right") (Str.ofString "_law_many_right") s_law_many_right a_law_many_right d_law_many_right
  m_law_many_right : mg (Str.ofString "_law_many_right") = some (.ref a_law_many_right)
  a_law : Addr
  d_law : FuncData
  F_law : Fun K (Str.ofString "law") (Str.ofString "law") s_law a_law d_law
  m_law : mg (Str.ofString "law") = some (.ref a_law)
  z_abs : mg (Str.ofString "abs") = none
  z_bool : mg (Str.ofString "bool") = none
  z_enumerate : mg (Str.ofString "enumerate") = none
  z_int : mg (Str.ofString "int") = none
  z_isinstance : mg (Str.ofString "isinstance") = none
  z_len : mg (Str.ofString "len") = none
  z_list : mg (Str.ofString "list") = none
  z_range : mg (Str.ofString "range") = none
  z_tuple : mg (Str.ofString "tuple") = none
  z_zip : mg (Str.ofString "zip") = none
  m_gcd : mg (Str.ofString "gcd") = some (.builtin "math.gcd")
  m_lcm : mg (Str.ofString "lcm") = some (.builtin "math.lcm")
  c_NOUGHT : Addr
  m_NOUGHT : mg (Str.ofString "NOUGHT") = some (.ref c_NOUGHT)
  k_NOUGHT : kTup K c_NOUGHT [.int 0, .int 1]
  c_ONE : Addr
  m_ONE : mg (Str.ofString "ONE") = some (.ref c_ONE)
  k_ONE : kTup K c_ONE [.int 1, .int 1]
def wb_lowest (x : (Int × Int × Unit)) : W (Fl Empty Empty (Int × Int)) := (bnd (bnd (bnd (ret x.1) fun t4 => bnd (bnd (ret x.2.1) fun t2 => bnd (ret ()) fun t3 => ret (t2, t3)) fun t5 => ret (t4, t5)) fun t6 => grd true (ret ((Nat.gcd t6.1.natAbs t6.2.1.natAbs : Nat) : Int))) fun v1 => (bnd (bnd (bnd (ret x.2.1) fun t7 => bnd (ret (0 : Int)) fun t8 => ret (decide (t7 < t8))) fun b9 => ite b9 (bnd (bnd (ret v1) fun t11 => ret (-t11)) fun v10 => (ret (Fl.nx (v10)))) (ret (Fl.nx (v1)))) (sq fun (s12 : (Int)) => (bnd (bnd (bnd (bnd (ret x.1) fun t13 => bnd (ret s12) fun t14 => grd (fdivOk t13 t14) (ret (Int.fdiv t13 t14))) fun t19 => bnd (bnd (bnd (ret x.2.1) fun t15 => bnd (ret s12) fun t16 => grd (fdivOk t15 t16) (ret (Int.fdiv t15 t16))) fun t17 => bnd (ret ()) fun t18 => ret (t17, t18)) fun t20 => ret (t19, t20)) fun t21 => ret (t21.1, t21.2.1)) fun t22 => ret (Fl.rt t22)))))
def w_lowest (x : (Int × Int × Unit)) : W (Int × Int) := fnR (wb_lowest x)
def wb_sum_two (x : ((Int × Int) × (Int × Int) × Unit)) : W (Fl Empty Empty (Int × Int)) := (bnd (bnd (bnd (bnd (bnd (bnd (ret x.1) fun t29 => ret t29.1) fun t31 => bnd (bnd (ret x.2.1) fun t30 => ret t30.2) fun t32 => grd (mulOk t31 t32) (ret (t31 * t32))) fun t37 => bnd (bnd (bnd (ret x.2.1) fun t33 => ret t33.1) fun t35 => bnd (bnd (ret x.1) fun t34 => ret t34.2) fun t36 => grd (mulOk t35 t36) (ret (t35 * t36))) fun t38 => ret (t37 + t38)) fun t39 => bnd (bnd (bnd (bnd (ret x.1) fun t23 => ret t23.2) fun t25 => bnd (bnd (ret x.2.1) fun t24 => ret t24.2) fun t26 => grd (mulOk t25 t26) (ret (t25 * t26))) fun t27 => bnd (ret ()) fun t28 => ret (t27, t28)) fun t40 => ret (t39, t40)) w_lowest) fun t41 => ret (Fl.rt t41))
def w_sum_two (x : ((Int × Int) × (Int × Int) × Unit)) : W (Int × Int) := fnR (wb_sum_two x)
def wb_product_two (x : ((Int × Int) × (Int × Int) × Unit)) : W (Fl Empty Empty (Int × Int)) := (bnd (bnd (bnd (bnd (bnd (ret x.1) fun t48 => ret t48.1) fun t50 => bnd (bnd (ret x.2.1) fun t49 => ret t49.1) fun t51 => grd (mulOk t50 t51) (ret (t50 * t51))) fun t52 => bnd (bnd (bnd (bnd (ret x.1) fun t42 => ret t42.2) fun t44 => bnd (bnd (ret x.2.1) fun t43 => ret t43.2) fun t45 => grd (mulOk t44 t45) (ret (t44 * t45))) fun t46 => bnd (ret ()) fun t47 => ret (t46, t47)) fun t53 => ret (t52, t53)) w_lowest) fun t54 => ret (Fl.rt t54))
def w_product_two (x : ((Int × Int) × (Int × Int) × Unit)) : W (Int × Int) := fnR (wb_product_two x)
def wb_is_number (x : ((Int × Int) × Unit)) : W (Fl Empty Empty Bool) := (bnd (bnd (bnd (bnd (ret x.1) fun t55 => ret t55.2) fun t56 => bnd (ret (1 : Int)) fun t57 => ret (decide (t57 ≤ t56))) fun t67 => ite t67 (bnd (bnd (bnd (bnd (ret x.1) fun t58 => ret t58.1) fun t62 => bnd (bnd (bnd (ret x.1) fun t59 => ret t59.2) fun t60 => bnd (ret ()) fun t61 => ret (t60, t61)) fun t63 => ret (t62, t63)) fun t64 => grd true (ret ((Nat.gcd t64.1.natAbs t64.2.1.natAbs : Nat) : Int))) fun t65 => bnd (ret (1 : Int)) fun t66 => ret (decide (t65 = t66))) (ret false)) fun t68 => ret (Fl.rt t68))
def w_is_number (x : ((Int × Int) × Unit)) : W Bool := fnR (wb_is_number x)
def wb_checked (x : ((Int × Int) × Unit)) : W (Fl Empty Empty (Int × Int)) := (bnd (bnd (bnd (bnd (bnd (ret x.1) fun t69 => bnd (ret ()) fun t70 => ret (t69, t70)) w_is_number) fun t71 => ret (!t71)) fun b72 => ite b72 stuck (ret (Fl.nx ()))) (sq fun (_ : Unit) => (bnd (ret x.1) fun t73 => ret (Fl.rt t73))))
def w_checked (x : ((Int × Int) × Unit)) : W (Int × Int) := fnR (wb_checked x)
def wb_check_numbers (x : ((List (Int × Int)) × Unit)) : W (Fl Unit Empty Unit) := (bnd (bnd (ret x.1) fun xs => forW (fun (s74 : Unit) y75 => (bnd (bnd (bnd (bnd (bnd (ret y75) fun t76 => bnd (ret ()) fun t77 => ret (t76, t77)) w_is_number) fun t78 => ret (!t78)) fun b79 => ite b79 stuck (ret (Fl.nx ()))) (sq fun (_ : Unit) => (ret (Fl.nx ()))))) () xs) (sq fun (s80 : Unit) => (ret (Fl.nx ()))))
def w_check_numbers (x : ((List (Int × Int)) × Unit)) : W Unit := fnU (wb_check_numbers x)
def wb_integers_of (x : ((List (Int × Int)) × Unit)) : W (Fl Empty Empty ((List Int) × Int)) := (bnd (ret (1 : Int)) fun v81 => (bnd (bnd (ret x.1) fun xs => forW (fun (s82 : (Int)) y83 => (bnd (bnd (bnd (ret s82) fun t88 => bnd (bnd (bnd (ret y83) fun t85 => ret t85.2) fun t86 => bnd (ret ()) fun t87 => ret (t86, t87)) fun t89 => ret (t88, t89)) fun t90 => grd (lcmOk t90.1 t90.2.1) (ret ((Nat.lcm t90.1.natAbs t90.2.1.natAbs : Nat) : Int))) fun v84 => (ret (Fl.nx (v84))))) (v81) xs) (sq fun (s91 : (Int)) => (bnd (bnd (bnd (bnd (ret x.1) fun xs99 => mapW (fun y92 => (bnd (bnd (ret y92) fun t93 => ret t93.1) fun t97 => bnd (bnd (ret s91) fun t95 => bnd (bnd (ret y92) fun t94 => ret t94.2) fun t96 => grd (fdivOk t95 t96) (ret (Int.fdiv t95 t96))) fun t98 => grd (mulOk t97 t98) (ret (t97 * t98)))) xs99) fun t102 => bnd (bnd (ret s91) fun t100 => bnd (ret ()) fun t101 => ret (t100, t101)) fun t103 => ret (t102, t103)) fun t104 => ret (t104.1, t104.2.1)) fun t105 => ret (Fl.rt t105)))))
def w_integers_of (x : ((List (Int × Int)) × Unit)) : W ((List Int) × Int) := fnR (wb_integers_of x)
def wb_numbers_of (x : ((List Int) × Int × Unit)) : W (Fl Empty Empty (List (Int × Int))) := (bnd (bnd (ret x.1) fun xs111 => mapW (fun y106 => (bnd (bnd (ret y106) fun t109 => bnd (bnd (ret x.2.1) fun t107 => bnd (ret ()) fun t108 => ret (t107, t108)) fun t110 => ret (t109, t110)) w_lowest)) xs111) fun t112 => ret (Fl.rt t112))
def w_numbers_of (x : ((List Int) × Int × Unit)) : W (List (Int × Int)) := fnR (wb_numbers_of x)
def wb_nought_row (x : (Int × Unit)) : W (Fl Empty Empty (List (Int × Int))) := (bnd (bnd (bnd (ret ((0, 1) : Int × Int)) fun t115 => bnd (ret ([] : List (Int × Int))) fun t116 => ret (t115 :: t116)) fun t117 => bnd (ret x.1) fun t118 => grd (repOk t117.length t118) (ret (List.replicate t118.toNat t117).flatten)) fun t119 => ret (Fl.rt t119))
def w_nought_row (x : (Int × Unit)) : W (List (Int × Int)) := fnR (wb_nought_row x)
def wb_unit_row (x : (Int × Int × Unit)) : W (Fl Empty Empty (List (Int × Int))) := (bnd (bnd (bnd (bnd (ret x.1) fun t120 => bnd (ret ()) fun t121 => ret (t120, t121)) fun t122 => grd (rngOk 0 t122.1) (ret (rangeF 0 t122.1.toNat))) fun xs127 => mapW (fun y123 => (bnd (bnd (ret y123) fun t124 => bnd (ret x.2.1) fun t125 => ret (decide (t124 = t125))) fun t126 => ite t126 (ret ((1, 1) : Int × Int)) (ret ((0, 1) : Int × Int)))) xs127) fun t128 => ret (Fl.rt t128))
def w_unit_row (x : (Int × Int × Unit)) : W (List (Int × Int)) := fnR (wb_unit_row x)
def wb_plus_row (x : ((List (Int × Int)) × (List (Int × Int)) × Unit)) : W (Fl Empty Empty (List (Int × Int))) := (bnd (bnd (bnd (bnd (ret x.1) fun t131 => bnd (bnd (ret x.2.1) fun t129 => bnd (ret ()) fun t130 => ret (t129, t130)) fun t132 => ret (t131, t132)) fun t133 => ret (t133.1.zip t133.2.1)) fun xs139 => mapW (fun y134 => (bnd (bnd (ret y134.1) fun t137 => bnd (bnd (ret y134.2) fun t135 => bnd (ret ()) fun t136 => ret (t135, t136)) fun t138 => ret (t137, t138)) w_sum_two)) xs139) fun t140 => ret (Fl.rt t140))
def w_plus_row (x : ((List (Int × Int)) × (List (Int × Int)) × Unit)) : W (List (Int × Int)) := fnR (wb_plus_row x)
def wb_scaled_row (x : ((Int × Int) × (List (Int × Int)) × Unit)) : W (Fl Empty Empty (List (Int × Int))) := (bnd (bnd (ret x.2.1) fun xs146 => mapW (fun y141 => (bnd (bnd (ret x.1) fun t144 => bnd (bnd (ret y141) fun t142 => bnd (ret ()) fun t143 => ret (t142, t143)) fun t145 => ret (t144, t145)) w_product_two)) xs146) fun t147 => ret (Fl.rt t147))
def w_scaled_row (x : ((Int × Int) × (List (Int × Int)) × Unit)) : W (List (Int × Int)) := fnR (wb_scaled_row x)
def wb_combination (x : ((List (Int × Int)) × (List (List (Int × Int))) × Int × Unit)) : W (Fl Empty Empty (List (Int × Int))) := (bnd (bnd (bnd (ret x.1) fun t149 => bnd (ret ()) fun t150 => ret (t149, t150)) w_integers_of) fun v148 => (bnd (bnd (bnd (bnd (ret x.2.1) fun xs => flatW (fun y152 => (ret y152)) (fun y152 y153 => (ret y153)) 0 xs) fun t154 => bnd (ret ()) fun t155 => ret (t154, t155)) w_integers_of) fun v151 => (bnd (bnd (bnd (ret (0 : Int)) fun t157 => bnd (ret ([] : List Int)) fun t158 => ret (t157 :: t158)) fun t159 => bnd (ret x.2.2.1) fun t160 => grd (repOk t159.length t160) (ret (List.replicate t160.toNat t159).flatten)) fun v156 => (bnd (bnd (bnd (bnd (ret v148.1) fun t162 => bnd (ret ()) fun t163 => ret (t162, t163)) fun t164 => ret (enumF 0 t164.1)) fun xs => forW (fun (s165 : ((List Int))) y166 => (bnd (bnd (bnd (ret y166.2) fun t167 => bnd (ret (0 : Int)) fun t168 => ret (!decide (t167 = t168))) fun b169 => ite b169 (bnd (bnd (bnd (bnd (bnd (bnd (ret v151) fun t170 => ret t170.1) fun t179 => bnd (bnd (bnd (ret y166.1) fun t171 => bnd (ret x.2.2.1) fun t172 => grd (mulOk t171 t172) (ret (t171 * t172))) fun t173 => ret (some t173)) fun t180 => bnd (bnd (bnd (bnd (ret y166.1) fun t174 => bnd (ret x.2.2.1) fun t175 => grd (mulOk t174 t175) (ret (t174 * t175))) fun t176 => bnd (ret x.2.2.1) fun t177 => ret (t176 + t177)) fun t178 => ret (some t178)) fun t181 => ret ((t179.drop (HT.sIx t179.length 0 t180)).take (HT.sIx t179.length t179.length t181 - HT.sIx t179.length 0 t180))) fun t182 => bnd (ret ()) fun t183 => ret (t182, t183)) fun t184 => ret (enumF 0 t184.1)) fun xs => forW (fun (s185 : ((List Int))) y186 => (bnd (bnd (ret y186.1) fun t190 => grd (ixOk s185 t190) (bnd (bnd (ret y166.2) fun t187 => bnd (ret y186.2) fun t188 => grd (mulOk t187 t188) (ret (t187 * t188))) fun t191 => grd true (ret (t190, ixAt s185 t190 + t191)))) fun v189 => (ret (Fl.nx ((s185.set ((ixN s185.length v189.1).getD 0) v189.2)))))) (s165) xs) (sq fun (s192 : ((List Int))) => (ret (Fl.nx (s192))))) (ret (Fl.nx (s165)))) (sq fun (s193 : ((List Int))) => (ret (Fl.nx (s193)))))) (v156) xs) (sq fun (s194 : ((List Int))) => (bnd (bnd (bnd (ret s194) fun t200 => bnd (bnd (bnd (ret v148.2) fun t196 => bnd (bnd (ret v151) fun t195 => ret t195.2) fun t197 => grd (mulOk t196 t197) (ret (t196 * t197))) fun t198 => bnd (ret ()) fun t199 => ret (t198, t199)) fun t201 => ret (t200, t201)) w_numbers_of) fun t202 => ret (Fl.rt t202)))))))
def w_combination (x : ((List (Int × Int)) × (List (List (Int × Int))) × Int × Unit)) : W (List (Int × Int)) := fnR (wb_combination x)
def wb_check_rows (x : ((List (List (Int × Int))) × Int × Unit)) : W (Fl Unit Empty Unit) := (bnd (bnd (ret x.1) fun xs => forW (fun (s203 : Unit) y204 => (bnd (bnd (bnd (ret y204) fun t205 => bnd (ret ()) fun t206 => ret (t205, t206)) w_check_numbers) fun _ => (ret (Fl.nx ())))) () xs) (sq fun (s207 : Unit) => (bnd (bnd (ret x.1) fun xs => forW (fun (s208 : Unit) y209 => (bnd (bnd (bnd (bnd (bnd (ret y209) fun t210 => bnd (ret ()) fun t211 => ret (t210, t211)) fun t212 => grd true (ret (t212.1.length : Int))) fun t213 => bnd (ret x.2.1) fun t214 => ret (!decide (t213 = t214))) fun b215 => ite b215 stuck (ret (Fl.nx ()))) (sq fun (_ : Unit) => (ret (Fl.nx ()))))) () xs) (sq fun (s216 : Unit) => (ret (Fl.nx ()))))))
def w_check_rows (x : ((List (List (Int × Int))) × Int × Unit)) : W Unit := fnU (wb_check_rows x)
def wb_number (x : (Int × Int × Unit)) : W (Fl Empty Empty (Int × Int)) := (bnd (bnd (bnd (ret x.2.1) fun t217 => bnd (ret (0 : Int)) fun t218 => ret (decide (t217 = t218))) fun b219 => ite b219 stuck (ret (Fl.nx ()))) (sq fun (_ : Unit) => (bnd (bnd (bnd (ret x.1) fun t222 => bnd (bnd (ret x.2.1) fun t220 => bnd (ret ()) fun t221 => ret (t220, t221)) fun t223 => ret (t222, t223)) w_lowest) fun t224 => ret (Fl.rt t224))))
def w_number (x : (Int × Int × Unit)) : W (Int × Int) := fnR (wb_number x)
def wb_unit (x : (Int × Int × Unit)) : W (Fl Empty Empty (List (Int × Int))) := (bnd (bnd (bnd (bnd (ret x.2.1) fun t225 => bnd (ret (0 : Int)) fun t226 => ret (decide (t225 < t226))) fun t229 => ite t229 (ret true) (bnd (ret x.2.1) fun t227 => bnd (ret x.1) fun t228 => ret (decide (t228 ≤ t227)))) fun b230 => ite b230 stuck (ret (Fl.nx ()))) (sq fun (_ : Unit) => (bnd (bnd (bnd (ret x.1) fun t233 => bnd (bnd (ret x.2.1) fun t231 => bnd (ret ()) fun t232 => ret (t231, t232)) fun t234 => ret (t233, t234)) w_unit_row) fun t235 => ret (Fl.rt t235))))
def w_unit (x : (Int × Int × Unit)) : W (List (Int × Int)) := fnR (wb_unit x)
def wb_noughts (x : (Int × Unit)) : W (Fl Empty Empty (List (Int × Int))) := (bnd (bnd (bnd (ret x.1) fun t236 => bnd (ret ()) fun t237 => ret (t236, t237)) w_nought_row) fun t238 => ret (Fl.rt t238))
def w_noughts (x : (Int × Unit)) : W (List (Int × Int)) := fnR (wb_noughts x)
def wb_sum_of (x : ((List (Int × Int)) × (List (Int × Int)) × Unit)) : W (Fl Empty Empty (List (Int × Int))) := (bnd (bnd (bnd (bnd (ret x.1) fun t239 => bnd (ret x.2.1) fun t240 => grd (decide (t239.length + t240.length ≤ 16777216)) (ret (t239 ++ t240))) fun t241 => bnd (ret ()) fun t242 => ret (t241, t242)) w_check_numbers) fun _ => (bnd (bnd (bnd (bnd (bnd (ret x.1) fun t243 => bnd (ret ()) fun t244 => ret (t243, t244)) fun t245 => grd true (ret (t245.1.length : Int))) fun t249 => bnd (bnd (bnd (ret x.2.1) fun t246 => bnd (ret ()) fun t247 => ret (t246, t247)) fun t248 => grd true (ret (t248.1.length : Int))) fun t250 => ret (!decide (t249 = t250))) fun b251 => ite b251 stuck (ret (Fl.nx ()))) (sq fun (_ : Unit) => (bnd (bnd (bnd (ret x.1) fun t254 => bnd (bnd (ret x.2.1) fun t252 => bnd (ret ()) fun t253 => ret (t252, t253)) fun t255 => ret (t254, t255)) w_plus_row) fun t256 => ret (Fl.rt t256)))))
def w_sum_of (x : ((List (Int × Int)) × (List (Int × Int)) × Unit)) : W (List (Int × Int)) := fnR (wb_sum_of x)
def wb_times (x : ((Int × Int) × (List (Int × Int)) × Unit)) : W (Fl Empty Empty (List (Int × Int))) := (bnd (bnd (bnd (ret x.1) fun t257 => bnd (ret ()) fun t258 => ret (t257, t258)) w_checked) fun _ => (bnd (bnd (bnd (ret x.2.1) fun t259 => bnd (ret ()) fun t260 => ret (t259, t260)) w_check_numbers) fun _ => (bnd (bnd (bnd (ret x.1) fun t263 => bnd (bnd (ret x.2.1) fun t261 => bnd (ret ()) fun t262 => ret (t261, t262)) fun t264 => ret (t263, t264)) w_scaled_row) fun t265 => ret (Fl.rt t265))))
def w_times (x : ((Int × Int) × (List (Int × Int)) × Unit)) : W (List (Int × Int)) := fnR (wb_times x)
def wb_combined (x : ((List (Int × Int)) × (List (List (Int × Int))) × Int × Unit)) : W (Fl Empty Empty (List (Int × Int))) := (bnd (bnd (bnd (ret x.1) fun t266 => bnd (ret ()) fun t267 => ret (t266, t267)) w_check_numbers) fun _ => (bnd (bnd (bnd (ret x.2.1) fun t270 => bnd (bnd (ret x.2.2.1) fun t268 => bnd (ret ()) fun t269 => ret (t268, t269)) fun t271 => ret (t270, t271)) w_check_rows) fun _ => (bnd (bnd (bnd (bnd (bnd (ret x.1) fun t272 => bnd (ret ()) fun t273 => ret (t272, t273)) fun t274 => grd true (ret (t274.1.length : Int))) fun t278 => bnd (bnd (bnd (ret x.2.1) fun t275 => bnd (ret ()) fun t276 => ret (t275, t276)) fun t277 => grd true (ret (t277.1.length : Int))) fun t279 => ret (!decide (t278 = t279))) fun b280 => ite b280 stuck (ret (Fl.nx ()))) (sq fun (_ : Unit) => (bnd (bnd (bnd (ret x.1) fun t285 => bnd (bnd (ret x.2.1) fun t283 => bnd (bnd (ret x.2.2.1) fun t281 => bnd (ret ()) fun t282 => ret (t281, t282)) fun t284 => ret (t283, t284)) fun t286 => ret (t285, t286)) w_combination) fun t287 => ret (Fl.rt t287))))))
def w_combined (x : ((List (Int × Int)) × (List (List (Int × Int))) × Int × Unit)) : W (List (Int × Int)) := fnR (wb_combined x)
def wb_law_low (x : (Int × Int × Unit)) : W (Fl Empty Empty (Int × Int)) := (bnd (bnd (bnd (bnd (ret x.1) fun t289 => bnd (ret ()) fun t290 => ret (t289, t290)) fun t291 => grd true (ret (if t291.1 < 0 then -t291.1 else t291.1))) fun t297 => bnd (bnd (bnd (bnd (ret x.2.1) fun t292 => bnd (ret ()) fun t293 => ret (t292, t293)) fun t294 => grd true (ret (if t294.1 < 0 then -t294.1 else t294.1))) fun t295 => bnd (ret ()) fun t296 => ret (t295, t296)) fun t298 => ret (t297, t298)) fun v288 => (bnd (whW (fun (s299 : (Int × Int)) => (bnd (ret s299.2) fun t300 => bnd (ret (0 : Int)) fun t301 => ret (!decide (t300 = t301)))) (fun (s299 : (Int × Int)) => (bnd (bnd (ret s299.2) fun t310 => bnd (bnd (bnd (bnd (bnd (ret s299.1) fun t303 => bnd (ret ()) fun t304 => ret (t303, t304)) fun t305 => grd true (ret t305.1)) fun t306 => bnd (ret s299.2) fun t307 => grd (modOk t306 t307) (ret (t306 % t307))) fun t308 => bnd (ret ()) fun t309 => ret (t308, t309)) fun t311 => ret (t310, t311)) fun v302 => (ret (Fl.nx (v302.1, v302.2.1))))) (Int.toNat v288.2.1 + 1) (v288.1, v288.2.1)) (sq fun (s312 : (Int × Int)) => (bnd (bnd (bnd (ret x.2.1) fun t313 => bnd (ret (0 : Int)) fun t314 => ret (decide (t314 < t313))) fun t335 => ite t335 (bnd (bnd (bnd (ret x.1) fun t315 => bnd (ret s312.1) fun t316 => grd (fdivOk t315 t316) (ret (Int.fdiv t315 t316))) fun t321 => bnd (bnd (bnd (ret x.2.1) fun t317 => bnd (ret s312.1) fun t318 => grd (fdivOk t317 t318) (ret (Int.fdiv t317 t318))) fun t319 => bnd (ret ()) fun t320 => ret (t319, t320)) fun t322 => ret (t321, t322)) fun t323 => ret (t323.1, t323.2.1)) (bnd (bnd (bnd (bnd (ret x.1) fun t324 => ret (-t324)) fun t325 => bnd (ret s312.1) fun t326 => grd (fdivOk t325 t326) (ret (Int.fdiv t325 t326))) fun t332 => bnd (bnd (bnd (bnd (ret x.2.1) fun t327 => ret (-t327)) fun t328 => bnd (ret s312.1) fun t329 => grd (fdivOk t328 t329) (ret (Int.fdiv t328 t329))) fun t330 => bnd (ret ()) fun t331 => ret (t330, t331)) fun t333 => ret (t332, t333)) fun t334 => ret (t334.1, t334.2.1))) fun t336 => ret (Fl.rt t336)))))
def w_law_low (x : (Int × Int × Unit)) : W (Int × Int) := fnR (wb_law_low x)
def wb_law_add (x : ((Int × Int) × (Int × Int) × Unit)) : W (Fl Empty Empty (Int × Int)) := (bnd (bnd (bnd (bnd (bnd (bnd (ret x.1) fun t343 => ret t343.1) fun t345 => bnd (bnd (ret x.2.1) fun t344 => ret t344.2) fun t346 => grd (mulOk t345 t346) (ret (t345 * t346))) fun t351 => bnd (bnd (bnd (ret x.2.1) fun t347 => ret t347.1) fun t349 => bnd (bnd (ret x.1) fun t348 => ret t348.2) fun t350 => grd (mulOk t349 t350) (ret (t349 * t350))) fun t352 => ret (t351 + t352)) fun t353 => bnd (bnd (bnd (bnd (ret x.1) fun t337 => ret t337.2) fun t339 => bnd (bnd (ret x.2.1) fun t338 => ret t338.2) fun t340 => grd (mulOk t339 t340) (ret (t339 * t340))) fun t341 => bnd (ret ()) fun t342 => ret (t341, t342)) fun t354 => ret (t353, t354)) w_law_low) fun t355 => ret (Fl.rt t355))
def w_law_add (x : ((Int × Int) × (Int × Int) × Unit)) : W (Int × Int) := fnR (wb_law_add x)
def wb_law_mul (x : ((Int × Int) × (Int × Int) × Unit)) : W (Fl Empty Empty (Int × Int)) := (bnd (bnd (bnd (bnd (bnd (ret x.1) fun t362 => ret t362.1) fun t364 => bnd (bnd (ret x.2.1) fun t363 => ret t363.1) fun t365 => grd (mulOk t364 t365) (ret (t364 * t365))) fun t366 => bnd (bnd (bnd (bnd (ret x.1) fun t356 => ret t356.2) fun t358 => bnd (bnd (ret x.2.1) fun t357 => ret t357.2) fun t359 => grd (mulOk t358 t359) (ret (t358 * t359))) fun t360 => bnd (ret ()) fun t361 => ret (t360, t361)) fun t367 => ret (t366, t367)) w_law_low) fun t368 => ret (Fl.rt t368))
def w_law_mul (x : ((Int × Int) × (Int × Int) × Unit)) : W (Int × Int) := fnR (wb_law_mul x)
def wb_law_number (x : (Bool × Unit)) : W (Fl Empty Empty (Int × Int)) := (bnd (bnd (bnd (ret (7 : Int)) fun t370 => bnd (ret ()) fun t371 => ret (t370, t371)) (fun x => pickW x.1)) fun v369 => (bnd (bnd (bnd (ret v369) fun t372 => bnd (ret (2 : Int)) fun t373 => ret (decide (t372 < t373))) fun b374 => ite b374 (bnd (bnd (bnd (ret v369) fun t377 => bnd (bnd (ret (1 : Int)) fun t375 => bnd (ret ()) fun t376 => ret (t375, t376)) fun t378 => ret (t377, t378)) fun t379 => ret (t379.1, t379.2.1)) fun t380 => ret (Fl.rt t380)) (ret (Fl.nx ()))) (sq fun (_ : Unit) => (bnd (bnd (ret x.1) fun t396 => ite t396 (bnd (bnd (ret (9 : Int)) fun t390 => bnd (bnd (ret (9 : Int)) fun t388 => bnd (bnd (ret (9 : Int)) fun t386 => bnd (bnd (ret (99 : Int)) fun t384 => bnd (bnd (ret (9999 : Int)) fun t382 => bnd (ret ([] : List Int)) fun t383 => ret (t382 :: t383)) fun t385 => ret (t384 :: t385)) fun t387 => ret (t386 :: t387)) fun t389 => ret (t388 :: t389)) fun t391 => ret (t390 :: t391)) fun t394 => bnd (bnd (ret v369) fun t392 => bnd (ret (2 : Int)) fun t393 => ret (t392 - t393)) fun t395 => grd (ixOk t394 t395) (ret (ixAt t394 t395))) (ret (9 : Int))) fun v381 => (bnd (bnd (bnd (ret (1 : Int)) fun t400 => bnd (bnd (bnd (ret v381) fun t398 => bnd (ret ()) fun t399 => ret (t398, t399)) (fun x => pickW x.1)) fun t401 => ret (t400 + t401)) fun t416 => bnd (bnd (bnd (ret (1 : Int)) fun t412 => bnd (bnd (bnd (bnd (bnd (ret (1 : Int)) fun t404 => bnd (bnd (ret v381) fun t402 => bnd (ret ([] : List Int)) fun t403 => ret (t402 :: t403)) fun t405 => ret (t404 :: t405)) fun t408 => bnd (bnd (bnd (ret (2 : Int)) fun t406 => bnd (ret ()) fun t407 => ret (t406, t407)) (fun x => pickW x.1)) fun t409 => grd (ixOk t408 t409) (ret (ixAt t408 t409))) fun t410 => bnd (ret ()) fun t411 => ret (t410, t411)) (fun x => pickW x.1)) fun t413 => ret (t412 + t413)) fun t414 => bnd (ret ()) fun t415 => ret (t414, t415)) fun t417 => ret (t416, t417)) fun v397 => (bnd (bnd (bnd (bnd (bnd (ret v397.1) fun t423 => bnd (bnd (bnd (ret v397.1) fun t420 => ret (-t420)) fun t421 => bnd (ret ([] : List Int)) fun t422 => ret (t421 :: t422)) fun t424 => ret (t423 :: t424)) fun t427 => bnd (bnd (bnd (ret (2 : Int)) fun t425 => bnd (ret ()) fun t426 => ret (t425, t426)) (fun x => pickW x.1)) fun t428 => grd (ixOk t427 t428) (ret (ixAt t427 t428))) fun t429 => bnd (bnd (ret v397.2.1) fun t418 => bnd (ret ()) fun t419 => ret (t418, t419)) fun t430 => ret (t429, t430)) w_law_low) fun t431 => ret (Fl.rt t431)))))))
def w_law_number (x : (Bool × Unit)) : W (Int × Int) := fnR (wb_law_number x)
def w_law_alike : Nat → (D × D × Unit) → W Bool
  | 0, _ => stuck
  | n + 1, x => fnR ((bnd (bnd (bnd (ret x.2.1) fun t432 => ret (nonD t432)) fun b433 => ite b433 (bnd (bnd (ret x.1) fun t434 => ret (nonD t434)) fun t435 => ret (Fl.rt t435)) (ret (Fl.nx ()))) (sq fun (_ : Unit) => (bnd (bnd (bnd (ret x.2.1) fun t436 => ret (isD "list" t436 || isD "tuple" t436)) fun b437 => ite b437 (bnd (bnd (bnd (ret x.2.1) fun t439 => ret (isD "list" t439)) fun t442 => ite t442 (bnd (ret x.1) fun t440 => ret (isD "list" t440)) (bnd (ret x.1) fun t441 => ret (isD "tuple" t441))) fun v438 => (bnd (bnd (bnd (bnd (ret v438) fun t443 => ret (!t443)) fun t452 => ite t452 (ret true) (bnd (bnd (bnd (ret x.1) fun t444 => bnd (ret ()) fun t445 => ret (t444, t445)) fun t446 => grd (seqD t446.1) (ret ((itemsD t446.1).length : Int))) fun t450 => bnd (bnd (bnd (ret x.2.1) fun t447 => bnd (ret ()) fun t448 => ret (t447, t448)) fun t449 => grd (seqD t449.1) (ret ((itemsD t449.1).length : Int))) fun t451 => ret (!decide (t450 = t451)))) fun b453 => ite b453 (bnd (ret false) fun t454 => ret (Fl.rt t454)) (ret (Fl.nx ()))) (sq fun (_ : Unit) => (bnd (bnd (bnd (bnd (bnd (bnd (ret x.2.1) fun t455 => bnd (ret ()) fun t456 => ret (t455, t456)) fun t457 => grd (seqD t457.1) (ret ((itemsD t457.1).length : Int))) fun t458 => bnd (ret ()) fun t459 => ret (t458, t459)) fun t460 => grd (rngOk 0 t460.1) (ret (rangeF 0 t460.1.toNat))) fun xs => forW (fun (s461 : Unit) y462 => (bnd (bnd (bnd (bnd (bnd (bnd (ret x.1) fun t467 => bnd (ret y462) fun t468 => grd (seqD t467 && ixOk (itemsD t467) t468) (ret (ixAt (itemsD t467) t468))) fun t469 => bnd (bnd (bnd (ret x.2.1) fun t463 => bnd (ret y462) fun t464 => grd (seqD t463 && ixOk (itemsD t463) t464) (ret (ixAt (itemsD t463) t464))) fun t465 => bnd (ret ()) fun t466 => ret (t465, t466)) fun t470 => ret (t469, t470)) (w_law_alike n)) fun t471 => ret (!t471)) fun b472 => ite b472 (bnd (ret false) fun t473 => ret (Fl.rt t473)) (ret (Fl.nx ()))) (sq fun (_ : Unit) => (ret (Fl.nx ()))))) () xs) (sq fun (s474 : Unit) => (bnd (ret true) fun t475 => ret (Fl.rt t475))))))) (ret (Fl.nx ()))) (sq fun (_ : Unit) => (bnd (bnd (bnd (ret x.1) fun t476 => ret (isD "int" t476)) fun t484 => ite t484 (bnd (bnd (bnd (ret x.1) fun t477 => ret (isD "bool" t477)) fun t479 => bnd (bnd (ret x.2.1) fun t478 => ret (isD "bool" t478)) fun t480 => ret (t479 == t480)) fun t483 => ite t483 (bnd (ret x.1) fun t481 => bnd (ret x.2.1) fun t482 => grd (SeqAt.shaped (toP t481) && SeqAt.shaped (toP t482)) (ret (PyData.eqv (toP t481) (toP t482)))) (ret false)) (ret false)) fun t485 => ret (Fl.rt t485)))))))
def wb_law_line (x : (Int × Bool × Unit)) : W (Fl Empty Empty (List (Int × Int))) := (bnd (bnd (bnd (ret x.1) fun t486 => bnd (ret (8 : Int)) fun t487 => ret (decide (t486 ≤ t487))) fun b488 => ite b488 (bnd (bnd (bnd (bnd (ret x.1) fun t489 => bnd (ret ()) fun t490 => ret (t489, t490)) fun t491 => grd (rngOk 0 t491.1) (ret (rangeF 0 t491.1.toNat))) fun xs495 => mapW (fun y492 => (bnd (bnd (ret x.2.1) fun t493 => bnd (ret ()) fun t494 => ret (t493, t494)) w_law_number)) xs495) fun t496 => ret (Fl.rt t496)) (ret (Fl.nx ()))) (sq fun (_ : Unit) => (bnd (bnd (bnd (bnd (bnd (ret (3 : Int)) fun t497 => bnd (ret ()) fun t498 => ret (t497, t498)) (fun x => pickW x.1)) fun t499 => bnd (ret (0 : Int)) fun t500 => ret (decide (t499 = t500))) fun b501 => ite b501 (bnd (bnd (bnd (bnd (ret x.1) fun t502 => bnd (ret ()) fun t503 => ret (t502, t503)) fun t504 => grd (rngOk 0 t504.1) (ret (rangeF 0 t504.1.toNat))) fun xs515 => mapW (fun y505 => (bnd (bnd (bnd (bnd (bnd (ret (19 : Int)) fun t506 => bnd (ret ()) fun t507 => ret (t506, t507)) (fun x => pickW x.1)) fun t508 => bnd (ret (9 : Int)) fun t509 => ret (t508 - t509)) fun t512 => bnd (bnd (ret (1 : Int)) fun t510 => bnd (ret ()) fun t511 => ret (t510, t511)) fun t513 => ret (t512, t513)) fun t514 => ret (t514.1, t514.2.1))) xs515) fun t516 => ret (Fl.rt t516)) (ret (Fl.nx ()))) (sq fun (_ : Unit) => (bnd (bnd (bnd (bnd (bnd (ret (0 : Int)) fun t520 => bnd (bnd (ret (1 : Int)) fun t518 => bnd (ret ()) fun t519 => ret (t518, t519)) fun t521 => ret (t520, t521)) fun t522 => ret (t522.1, t522.2.1)) fun t523 => bnd (ret ([] : List (Int × Int))) fun t524 => ret (t523 :: t524)) fun t525 => bnd (ret x.1) fun t526 => grd (repOk t525.length t526) (ret (List.replicate t526.toNat t525).flatten)) fun v517 => (bnd (bnd (bnd (bnd (bnd (ret (1 : Int)) fun t530 => bnd (bnd (bnd (ret (4 : Int)) fun t528 => bnd (ret ()) fun t529 => ret (t528, t529)) (fun x => pickW x.1)) fun t531 => ret (t530 + t531)) fun t532 => bnd (ret ()) fun t533 => ret (t532, t533)) fun t534 => grd (rngOk 0 t534.1) (ret (rangeF 0 t534.1.toNat))) fun xs => forW (fun (s535 : ((List (Int × Int)))) y536 => (bnd (bnd (bnd (bnd (ret x.2.1) fun t537 => bnd (ret ()) fun t538 => ret (t537, t538)) w_law_number) fun t542 => bnd (bnd (bnd (ret x.1) fun t539 => bnd (ret ()) fun t540 => ret (t539, t540)) (fun x => pickW x.1)) fun t543 => grd (ixOk s535 t543) (ret (t543, t542))) fun v541 => (ret (Fl.nx ((s535.set ((ixN s535.length v541.1).getD 0) v541.2)))))) (v517) xs) (sq fun (s544 : ((List (Int × Int)))) => (bnd (ret s544) fun t545 => ret (Fl.rt t545)))))))))
def w_law_line (x : (Int × Bool × Unit)) : W (List (Int × Int)) := fnR (wb_law_line x)
def wb_law_numbers_right (x : (Unit)) : W (Fl Empty Empty Bool) := (bnd (bnd (bnd (ret (1 : Int)) fun t549 => bnd (bnd (bnd (ret (99 : Int)) fun t547 => bnd (ret ()) fun t548 => ret (t547, t548)) (fun x => pickW x.1)) fun t550 => ret (t549 + t550)) fun t557 => bnd (bnd (bnd (bnd (bnd (ret (199 : Int)) fun t551 => bnd (ret ()) fun t552 => ret (t551, t552)) (fun x => pickW x.1)) fun t553 => bnd (ret (99 : Int)) fun t554 => ret (t553 - t554)) fun t555 => bnd (ret ()) fun t556 => ret (t555, t556)) fun t558 => ret (t557, t558)) fun v546 => (bnd (bnd (bnd (ret (1 : Int)) fun t562 => bnd (bnd (bnd (ret (99 : Int)) fun t560 => bnd (ret ()) fun t561 => ret (t560, t561)) (fun x => pickW x.1)) fun t563 => ret (t562 + t563)) fun t573 => bnd (bnd (bnd (ret (1 : Int)) fun t567 => bnd (bnd (bnd (ret (1 : Int)) fun t564 => ret (-t564)) fun t565 => bnd (ret ([] : List Int)) fun t566 => ret (t565 :: t566)) fun t568 => ret (t567 :: t568)) fun t571 => bnd (bnd (bnd (ret (2 : Int)) fun t569 => bnd (ret ()) fun t570 => ret (t569, t570)) (fun x => pickW x.1)) fun t572 => grd (ixOk t571 t572) (ret (ixAt t571 t572))) fun t574 => grd (mulOk t573 t574) (ret (t573 * t574))) fun v559 => (bnd (bnd (bnd (bnd (bnd (ret (3 : Int)) fun t575 => bnd (ret ()) fun t576 => ret (t575, t576)) (fun x => pickW x.1)) fun t577 => bnd (ret (0 : Int)) fun t578 => ret (decide (t577 = t578))) fun b579 => ite b579 (bnd (bnd (ret (1 : Int)) fun t587 => bnd (bnd (bnd (bnd (bnd (ret (19999 : Int)) fun t581 => bnd (ret ()) fun t582 => ret (t581, t582)) (fun x => pickW x.1)) fun t583 => bnd (ret (9999 : Int)) fun t584 => ret (t583 - t584)) fun t585 => bnd (ret ()) fun t586 => ret (t585, t586)) fun t588 => ret (t587, t588)) fun v580 => (bnd (bnd (bnd (bnd (ret (1 : Int)) fun t593 => bnd (bnd (bnd (ret (1 : Int)) fun t590 => ret (-t590)) fun t591 => bnd (ret ([] : List Int)) fun t592 => ret (t591 :: t592)) fun t594 => ret (t593 :: t594)) fun t597 => bnd (bnd (bnd (ret (2 : Int)) fun t595 => bnd (ret ()) fun t596 => ret (t595, t596)) (fun x => pickW x.1)) fun t598 => grd (ixOk t597 t598) (ret (ixAt t597 t598))) fun t603 => bnd (bnd (ret (1 : Int)) fun t601 => bnd (bnd (bnd (ret (9999 : Int)) fun t599 => bnd (ret ()) fun t600 => ret (t599, t600)) (fun x => pickW x.1)) fun t602 => ret (t601 + t602)) fun t604 => grd (mulOk t603 t604) (ret (t603 * t604))) fun v589 => (ret (Fl.nx (v580.1, v580.2.1, v589))))) (ret (Fl.nx (v546.1, v546.2.1, v559)))) (sq fun (s605 : (Int × Int × Int)) => (bnd (bnd (bnd (bnd (ret s605.1) fun t611 => bnd (ret s605.2.1) fun t612 => grd (mulOk t611 t612) (ret (t611 * t612))) fun t613 => bnd (bnd (bnd (ret s605.1) fun t607 => bnd (ret s605.2.2) fun t608 => grd (mulOk t607 t608) (ret (t607 * t608))) fun t609 => bnd (ret ()) fun t610 => ret (t609, t610)) fun t614 => ret (t613, t614)) w_law_low) fun v606 => (bnd (bnd (bnd (bnd (bnd (bnd (bnd (bnd (bnd (ret s605.1) fun t622 => bnd (ret s605.2.1) fun t623 => grd (mulOk t622 t623) (ret (t622 * t623))) fun t624 => bnd (bnd (bnd (ret s605.1) fun t618 => bnd (ret s605.2.2) fun t619 => grd (mulOk t618 t619) (ret (t618 * t619))) fun t620 => bnd (ret ()) fun t621 => ret (t620, t621)) fun t625 => ret (t624, t625)) w_number) fun t626 => ret (D.tup [(D.int t626.1), (D.int t626.2)])) fun t627 => bnd (bnd (bnd (ret v606) fun t615 => ret (D.tup [(D.int t615.1), (D.int t615.2)])) fun t616 => bnd (ret ()) fun t617 => ret (t616, t617)) fun t628 => ret (t627, t628)) (w_law_alike 6)) fun t629 => ret (!t629)) fun b630 => ite b630 (bnd (ret false) fun t631 => ret (Fl.rt t631)) (ret (Fl.nx ()))) (sq fun (_ : Unit) => (bnd (bnd (bnd (bnd (bnd (bnd (bnd (bnd (bnd (bnd (ret s605.1) fun t643 => ret (-t643)) fun t644 => bnd (ret s605.2.2) fun t645 => grd (mulOk t644 t645) (ret (t644 * t645))) fun t650 => bnd (bnd (bnd (ret s605.1) fun t646 => bnd (ret s605.2.1) fun t647 => grd (mulOk t646 t647) (ret (t646 * t647))) fun t648 => bnd (ret ()) fun t649 => ret (t648, t649)) fun t651 => ret (t650, t651)) fun t652 => w_number (t652.2.1, t652.1, ())) fun t653 => ret (D.tup [(D.int t653.1), (D.int t653.2)])) fun t654 => bnd (bnd (bnd (bnd (bnd (bnd (bnd (ret v606) fun t632 => ret t632.1) fun t633 => ret (-t633)) fun t637 => bnd (bnd (bnd (ret v606) fun t634 => ret t634.2) fun t635 => bnd (ret ()) fun t636 => ret (t635, t636)) fun t638 => ret (t637, t638)) fun t639 => ret (t639.1, t639.2.1)) fun t640 => ret (D.tup [(D.int t640.1), (D.int t640.2)])) fun t641 => bnd (ret ()) fun t642 => ret (t641, t642)) fun t655 => ret (t654, t655)) (w_law_alike 6)) fun t656 => ret (!t656)) fun b657 => ite b657 (bnd (ret false) fun t658 => ret (Fl.rt t658)) (ret (Fl.nx ()))) (sq fun (_ : Unit) => (bnd (bnd (ret (1 : Int)) fun t670 => bnd (bnd (bnd (bnd (bnd (ret (6 : Int)) fun t662 => bnd (bnd (ret (40 : Int)) fun t660 => bnd (ret ([] : List Int)) fun t661 => ret (t660 :: t661)) fun t663 => ret (t662 :: t663)) fun t666 => bnd (bnd (bnd (ret (2 : Int)) fun t664 => bnd (ret ()) fun t665 => ret (t664, t665)) (fun x => pickW x.1)) fun t667 => grd (ixOk t666 t667) (ret (ixAt t666 t667))) fun t668 => bnd (ret ()) fun t669 => ret (t668, t669)) (fun x => pickW x.1)) fun t671 => ret (t670 + t671)) fun v659 => (bnd (bnd (bnd (ret v659) fun t673 => bnd (ret ()) fun t674 => ret (t673, t674)) (fun x => pickW x.1)) fun v672 => (bnd (bnd (bnd (bnd (ret v659) fun t676 => bnd (ret ()) fun t677 => ret (t676, t677)) fun t678 => grd (rngOk 0 t678.1) (ret (rangeF 0 t678.1.toNat))) fun xs690 => mapW (fun y679 => (bnd (bnd (bnd (bnd (bnd (ret y679) fun t680 => bnd (ret v672) fun t681 => ret (decide (t680 = t681))) fun t682 => bnd (ret ()) fun t683 => ret (t682, t683)) fun t684 => grd true (ret (if t684.1 then 1 else 0))) fun t687 => bnd (bnd (ret (1 : Int)) fun t685 => bnd (ret ()) fun t686 => ret (t685, t686)) fun t688 => ret (t687, t688)) fun t689 => ret (t689.1, t689.2.1))) xs690) fun v675 => (bnd (bnd (bnd (bnd (bnd (bnd (bnd (bnd (bnd (ret v659) fun t696 => bnd (bnd (ret v672) fun t694 => bnd (ret ()) fun t695 => ret (t694, t695)) fun t697 => ret (t696, t697)) w_unit) fun t698 => ret (D.lst (List.map (fun z => (D.tup [(D.int z.1), (D.int z.2)])) t698))) fun t699 => bnd (bnd (bnd (ret v675) fun t691 => ret (D.lst (List.map (fun z => (D.tup [(D.int z.1), (D.int z.2)])) t691))) fun t692 => bnd (ret ()) fun t693 => ret (t692, t693)) fun t700 => ret (t699, t700)) (w_law_alike 6)) fun t701 => ret (!t701)) fun t714 => ite t714 (ret true) (bnd (bnd (bnd (bnd (bnd (bnd (ret v672) fun t707 => bnd (bnd (ret v659) fun t705 => bnd (ret ()) fun t706 => ret (t705, t706)) fun t708 => ret (t707, t708)) fun t709 => w_unit (t709.2.1, t709.1, ())) fun t710 => ret (D.lst (List.map (fun z => (D.tup [(D.int z.1), (D.int z.2)])) t710))) fun t711 => bnd (bnd (bnd (ret v675) fun t702 => ret (D.lst (List.map (fun z => (D.tup [(D.int z.1), (D.int z.2)])) t702))) fun t703 => bnd (ret ()) fun t704 => ret (t703, t704)) fun t712 => ret (t711, t712)) (w_law_alike 6)) fun t713 => ret (!t713))) fun b715 => ite b715 (bnd (ret false) fun t716 => ret (Fl.rt t716)) (ret (Fl.nx ()))) (sq fun (_ : Unit) => (bnd (bnd (bnd (bnd (bnd (bnd (bnd (ret v659) fun t736 => bnd (ret ()) fun t737 => ret (t736, t737)) w_noughts) fun t738 => ret (D.lst (List.map (fun z => (D.tup [(D.int z.1), (D.int z.2)])) t738))) fun t739 => bnd (bnd (bnd (bnd (bnd (bnd (bnd (ret (0 : Int)) fun t726 => bnd (bnd (ret (1 : Int)) fun t724 => bnd (ret ()) fun t725 => ret (t724, t725)) fun t727 => ret (t726, t727)) fun t728 => ret (t728.1, t728.2.1)) fun t729 => bnd (ret ([] : List (Int × Int))) fun t730 => ret (t729 :: t730)) fun t731 => bnd (ret v659) fun t732 => grd (repOk t731.length t732) (ret (List.replicate t732.toNat t731).flatten)) fun t733 => ret (D.lst (List.map (fun z => (D.tup [(D.int z.1), (D.int z.2)])) t733))) fun t734 => bnd (ret ()) fun t735 => ret (t734, t735)) fun t740 => ret (t739, t740)) (w_law_alike 6)) fun t757 => ite t757 (bnd (bnd (bnd (bnd (bnd (ret (1 : Int)) fun t751 => bnd (ret ()) fun t752 => ret (t751, t752)) fun t753 => w_noughts (t753.1, ())) fun t754 => ret (D.lst (List.map (fun z => (D.tup [(D.int z.1), (D.int z.2)])) t754))) fun t755 => bnd (bnd (bnd (bnd (bnd (bnd (ret (0 : Int)) fun t743 => bnd (bnd (ret (1 : Int)) fun t741 => bnd (ret ()) fun t742 => ret (t741, t742)) fun t744 => ret (t743, t744)) fun t745 => ret (t745.1, t745.2.1)) fun t746 => bnd (ret ([] : List (Int × Int))) fun t747 => ret (t746 :: t747)) fun t748 => ret (D.lst (List.map (fun z => (D.tup [(D.int z.1), (D.int z.2)])) t748))) fun t749 => bnd (ret ()) fun t750 => ret (t749, t750)) fun t756 => ret (t755, t756)) (w_law_alike 6)) (ret false)) fun t758 => ret (Fl.rt t758))))))))))))))))
def w_law_numbers_right (x : (Unit)) : W Bool := fnR (wb_law_numbers_right x)
def wb_law_two_right (x : (Unit)) : W (Fl Empty Empty Bool) := (bnd (bnd (ret (1 : Int)) fun t772 => bnd (bnd (bnd (bnd (bnd (ret (4 : Int)) fun t764 => bnd (bnd (ret (12 : Int)) fun t762 => bnd (bnd (ret (40 : Int)) fun t760 => bnd (ret ([] : List Int)) fun t761 => ret (t760 :: t761)) fun t763 => ret (t762 :: t763)) fun t765 => ret (t764 :: t765)) fun t768 => bnd (bnd (bnd (ret (3 : Int)) fun t766 => bnd (ret ()) fun t767 => ret (t766, t767)) (fun x => pickW x.1)) fun t769 => grd (ixOk t768 t769) (ret (ixAt t768 t769))) fun t770 => bnd (ret ()) fun t771 => ret (t770, t771)) (fun x => pickW x.1)) fun t773 => ret (t772 + t773)) fun v759 => (bnd (bnd (bnd (bnd (ret (2 : Int)) fun t775 => bnd (ret ()) fun t776 => ret (t775, t776)) (fun x => pickW x.1)) fun t777 => bnd (ret (1 : Int)) fun t778 => ret (decide (t777 = t778))) fun v774 => (bnd (bnd (bnd (bnd (ret v759) fun t782 => bnd (bnd (ret v774) fun t780 => bnd (ret ()) fun t781 => ret (t780, t781)) fun t783 => ret (t782, t783)) w_law_line) fun t790 => bnd (bnd (bnd (bnd (ret v759) fun t786 => bnd (bnd (ret v774) fun t784 => bnd (ret ()) fun t785 => ret (t784, t785)) fun t787 => ret (t786, t787)) w_law_line) fun t788 => bnd (ret ()) fun t789 => ret (t788, t789)) fun t791 => ret (t790, t791)) fun v779 => (bnd (bnd (bnd (bnd (bnd (ret (3 : Int)) fun t792 => bnd (ret ()) fun t793 => ret (t792, t793)) (fun x => pickW x.1)) fun t794 => bnd (ret (0 : Int)) fun t795 => ret (decide (t794 = t795))) fun b796 => ite b796 (bnd (bnd (ret v779.1) fun xs812 => mapW (fun y798 => (bnd (bnd (bnd (bnd (ret (2 : Int)) fun t799 => bnd (ret ()) fun t800 => ret (t799, t800)) (fun x => pickW x.1)) fun t801 => bnd (ret (1 : Int)) fun t802 => ret (decide (t801 = t802))) fun t811 => ite t811 (bnd (bnd (bnd (bnd (ret y798) fun t803 => ret t803.1) fun t804 => ret (-t804)) fun t808 => bnd (bnd (bnd (ret y798) fun t805 => ret t805.2) fun t806 => bnd (ret ()) fun t807 => ret (t806, t807)) fun t809 => ret (t808, t809)) fun t810 => ret (t810.1, t810.2.1)) (ret y798))) xs812) fun v797 => (ret (Fl.nx (v797)))) (ret (Fl.nx (v779.2.1)))) (sq fun (s813 : ((List (Int × Int)))) => (bnd (bnd (bnd (ret v774) fun t815 => bnd (ret ()) fun t816 => ret (t815, t816)) w_law_number) fun v814 => (bnd (bnd (bnd (bnd (ret v779.1) fun t818 => bnd (ret ()) fun t819 => ret (t818, t819)) fun t820 => grd true (ret t820.1)) fun t826 => bnd (bnd (bnd (bnd (ret s813) fun t821 => bnd (ret ()) fun t822 => ret (t821, t822)) fun t823 => grd true (ret t823.1)) fun t824 => bnd (ret ()) fun t825 => ret (t824, t825)) fun t827 => ret (t826, t827)) fun v817 => (bnd (bnd (bnd (bnd (ret v779.1) fun t831 => bnd (bnd (ret s813) fun t829 => bnd (ret ()) fun t830 => ret (t829, t830)) fun t832 => ret (t831, t832)) fun t833 => ret (t833.1.zip t833.2.1)) fun xs839 => mapW (fun y834 => (bnd (bnd (ret y834.1) fun t837 => bnd (bnd (ret y834.2) fun t835 => bnd (ret ()) fun t836 => ret (t835, t836)) fun t838 => ret (t837, t838)) w_law_add)) xs839) fun v828 => (bnd (bnd (bnd (bnd (bnd (bnd (bnd (bnd (bnd (ret v817.1) fun t845 => bnd (bnd (ret v817.2.1) fun t843 => bnd (ret ()) fun t844 => ret (t843, t844)) fun t846 => ret (t845, t846)) w_sum_of) fun t847 => ret (D.lst (List.map (fun z => (D.tup [(D.int z.1), (D.int z.2)])) t847))) fun t848 => bnd (bnd (bnd (ret v828) fun t840 => ret (D.lst (List.map (fun z => (D.tup [(D.int z.1), (D.int z.2)])) t840))) fun t841 => bnd (ret ()) fun t842 => ret (t841, t842)) fun t849 => ret (t848, t849)) (w_law_alike 6)) fun t850 => ret (!t850)) fun t863 => ite t863 (ret true) (bnd (bnd (bnd (bnd (bnd (bnd (ret v817.1) fun t856 => bnd (bnd (ret v817.2.1) fun t854 => bnd (ret ()) fun t855 => ret (t854, t855)) fun t857 => ret (t856, t857)) fun t858 => w_sum_of (t858.2.1, t858.1, ())) fun t859 => ret (D.lst (List.map (fun z => (D.tup [(D.int z.1), (D.int z.2)])) t859))) fun t860 => bnd (bnd (bnd (ret v828) fun t851 => ret (D.lst (List.map (fun z => (D.tup [(D.int z.1), (D.int z.2)])) t851))) fun t852 => bnd (ret ()) fun t853 => ret (t852, t853)) fun t861 => ret (t860, t861)) (w_law_alike 6)) fun t862 => ret (!t862))) fun b864 => ite b864 (bnd (ret false) fun t865 => ret (Fl.rt t865)) (ret (Fl.nx ()))) (sq fun (_ : Unit) => (bnd (bnd (ret v779.1) fun xs872 => mapW (fun y867 => (bnd (bnd (ret v814) fun t870 => bnd (bnd (ret y867) fun t868 => bnd (ret ()) fun t869 => ret (t868, t869)) fun t871 => ret (t870, t871)) w_law_mul)) xs872) fun v866 => (bnd (bnd (bnd (bnd (bnd (bnd (bnd (bnd (bnd (ret v814) fun t878 => bnd (bnd (ret v817.1) fun t876 => bnd (ret ()) fun t877 => ret (t876, t877)) fun t879 => ret (t878, t879)) w_times) fun t880 => ret (D.lst (List.map (fun z => (D.tup [(D.int z.1), (D.int z.2)])) t880))) fun t881 => bnd (bnd (bnd (ret v866) fun t873 => ret (D.lst (List.map (fun z => (D.tup [(D.int z.1), (D.int z.2)])) t873))) fun t874 => bnd (ret ()) fun t875 => ret (t874, t875)) fun t882 => ret (t881, t882)) (w_law_alike 6)) fun t883 => ret (!t883)) fun t896 => ite t896 (ret true) (bnd (bnd (bnd (bnd (bnd (bnd (ret v817.1) fun t889 => bnd (bnd (ret v814) fun t887 => bnd (ret ()) fun t888 => ret (t887, t888)) fun t890 => ret (t889, t890)) fun t891 => w_times (t891.2.1, t891.1, ())) fun t892 => ret (D.lst (List.map (fun z => (D.tup [(D.int z.1), (D.int z.2)])) t892))) fun t893 => bnd (bnd (bnd (ret v866) fun t884 => ret (D.lst (List.map (fun z => (D.tup [(D.int z.1), (D.int z.2)])) t884))) fun t885 => bnd (ret ()) fun t886 => ret (t885, t886)) fun t894 => ret (t893, t894)) (w_law_alike 6)) fun t895 => ret (!t895))) fun b897 => ite b897 (bnd (ret false) fun t898 => ret (Fl.rt t898)) (ret (Fl.nx ()))) (sq fun (_ : Unit) => (bnd (bnd (bnd (bnd (bnd (bnd (bnd (bnd (ret v817.1) fun t915 => bnd (bnd (ret v817.1) fun t913 => bnd (ret ()) fun t914 => ret (t913, t914)) fun t916 => ret (t915, t916)) w_sum_of) fun t917 => ret (D.lst (List.map (fun z => (D.tup [(D.int z.1), (D.int z.2)])) t917))) fun t918 => bnd (bnd (bnd (bnd (ret v779.1) fun xs909 => mapW (fun y899 => (bnd (bnd (bnd (bnd (ret (2 : Int)) fun t904 => bnd (bnd (ret (1 : Int)) fun t902 => bnd (ret ()) fun t903 => ret (t902, t903)) fun t905 => ret (t904, t905)) fun t906 => ret (t906.1, t906.2.1)) fun t907 => bnd (bnd (ret y899) fun t900 => bnd (ret ()) fun t901 => ret (t900, t901)) fun t908 => ret (t907, t908)) w_law_mul)) xs909) fun t910 => ret (D.lst (List.map (fun z => (D.tup [(D.int z.1), (D.int z.2)])) t910))) fun t911 => bnd (ret ()) fun t912 => ret (t911, t912)) fun t919 => ret (t918, t919)) (w_law_alike 6)) fun t920 => ret (!t920)) fun b921 => ite b921 (bnd (ret false) fun t922 => ret (Fl.rt t922)) (ret (Fl.nx ()))) (sq fun (_ : Unit) => (bnd (bnd (bnd (ret v817.1) fun t923 => bnd (ret v779.1) fun t924 => ret (PyData.eqv (PyData.list (List.map (fun z => (PyData.tuple [(PyData.int z.1), (PyData.int z.2)])) t923)) (PyData.list (List.map (fun z => (PyData.tuple [(PyData.int z.1), (PyData.int z.2)])) t924)))) fun t927 => ite t927 (bnd (ret v817.2.1) fun t925 => bnd (ret s813) fun t926 => ret (PyData.eqv (PyData.list (List.map (fun z => (PyData.tuple [(PyData.int z.1), (PyData.int z.2)])) t925)) (PyData.list (List.map (fun z => (PyData.tuple [(PyData.int z.1), (PyData.int z.2)])) t926)))) (ret false)) fun t928 => ret (Fl.rt t928)))))))))))))))))
def w_law_two_right (x : (Unit)) : W Bool := fnR (wb_law_two_right x)
def wb_law_shape (x : (Unit)) : W (Fl Empty Empty (Int × Int)) := (bnd (bnd (bnd (bnd (bnd (ret (12 : Int)) fun t929 => bnd (ret ()) fun t930 => ret (t929, t930)) (fun x => pickW x.1)) fun t931 => bnd (ret (0 : Int)) fun t932 => ret (decide (t931 = t932))) fun b933 => ite b933 (bnd (bnd (bnd (bnd (ret (40 : Int)) fun t936 => bnd (bnd (bnd (ret (3 : Int)) fun t934 => bnd (ret ()) fun t935 => ret (t934, t935)) (fun x => pickW x.1)) fun t937 => ret (t936 - t937)) fun t944 => bnd (bnd (bnd (ret (40 : Int)) fun t940 => bnd (bnd (bnd (ret (3 : Int)) fun t938 => bnd (ret ()) fun t939 => ret (t938, t939)) (fun x => pickW x.1)) fun t941 => ret (t940 - t941)) fun t942 => bnd (ret ()) fun t943 => ret (t942, t943)) fun t945 => ret (t944, t945)) fun t946 => ret (t946.1, t946.2.1)) fun t947 => ret (Fl.rt t947)) (ret (Fl.nx ()))) (sq fun (_ : Unit) => (bnd (bnd (bnd (ret (3 : Int)) fun t949 => bnd (ret ()) fun t950 => ret (t949, t950)) (fun x => pickW x.1)) fun v948 => (bnd (bnd (bnd (ret v948) fun t951 => bnd (ret (0 : Int)) fun t952 => ret (decide (t951 = t952))) fun b953 => ite b953 (bnd (bnd (bnd (bnd (bnd (ret (41 : Int)) fun t954 => bnd (ret ()) fun t955 => ret (t954, t955)) (fun x => pickW x.1)) fun t962 => bnd (bnd (bnd (ret (1 : Int)) fun t958 => bnd (bnd (bnd (ret (3 : Int)) fun t956 => bnd (ret ()) fun t957 => ret (t956, t957)) (fun x => pickW x.1)) fun t959 => ret (t958 + t959)) fun t960 => bnd (ret ()) fun t961 => ret (t960, t961)) fun t963 => ret (t962, t963)) fun t964 => ret (t964.1, t964.2.1)) fun t965 => ret (Fl.rt t965)) (ret (Fl.nx ()))) (sq fun (_ : Unit) => (bnd (bnd (bnd (ret v948) fun t966 => bnd (ret (1 : Int)) fun t967 => ret (decide (t966 = t967))) fun b968 => ite b968 (bnd (bnd (bnd (bnd (bnd (ret (4 : Int)) fun t969 => bnd (ret ()) fun t970 => ret (t969, t970)) (fun x => pickW x.1)) fun t977 => bnd (bnd (bnd (ret (1 : Int)) fun t973 => bnd (bnd (bnd (ret (40 : Int)) fun t971 => bnd (ret ()) fun t972 => ret (t971, t972)) (fun x => pickW x.1)) fun t974 => ret (t973 + t974)) fun t975 => bnd (ret ()) fun t976 => ret (t975, t976)) fun t978 => ret (t977, t978)) fun t979 => ret (t979.1, t979.2.1)) fun t980 => ret (Fl.rt t980)) (ret (Fl.nx ()))) (sq fun (_ : Unit) => (bnd (bnd (bnd (bnd (bnd (ret (7 : Int)) fun t981 => bnd (ret ()) fun t982 => ret (t981, t982)) (fun x => pickW x.1)) fun t989 => bnd (bnd (bnd (ret (1 : Int)) fun t985 => bnd (bnd (bnd (ret (6 : Int)) fun t983 => bnd (ret ()) fun t984 => ret (t983, t984)) (fun x => pickW x.1)) fun t986 => ret (t985 + t986)) fun t987 => bnd (ret ()) fun t988 => ret (t987, t988)) fun t990 => ret (t989, t990)) fun t991 => ret (t991.1, t991.2.1)) fun t992 => ret (Fl.rt t992)))))))))
def w_law_shape (x : (Unit)) : W (Int × Int) := fnR (wb_law_shape x)
def wb_law_many_right (x : (Unit)) : W (Fl Empty Empty Bool) := (bnd (bnd (ret ()) w_law_shape) fun v993 => (bnd (bnd (bnd (bnd (ret v993.1) fun t995 => bnd (ret v993.2) fun t996 => grd (mulOk t995 t996) (ret (t995 * t996))) fun t997 => bnd (ret (50 : Int)) fun t998 => ret (decide (t997 < t998))) fun t1003 => ite t1003 (bnd (bnd (bnd (ret (2 : Int)) fun t999 => bnd (ret ()) fun t1000 => ret (t999, t1000)) (fun x => pickW x.1)) fun t1001 => bnd (ret (1 : Int)) fun t1002 => ret (decide (t1001 = t1002))) (ret false)) fun v994 => (bnd (bnd (bnd (bnd (ret v993.1) fun t1005 => bnd (ret ()) fun t1006 => ret (t1005, t1006)) fun t1007 => grd (rngOk 0 t1007.1) (ret (rangeF 0 t1007.1.toNat))) fun xs1013 => mapW (fun y1008 => (bnd (bnd (ret v993.2) fun t1011 => bnd (bnd (ret v994) fun t1009 => bnd (ret ()) fun t1010 => ret (t1009, t1010)) fun t1012 => ret (t1011, t1012)) w_law_line)) xs1013) fun v1004 => (bnd (bnd (bnd (bnd (ret v993.1) fun t1016 => bnd (ret ()) fun t1017 => ret (t1016, t1017)) fun t1018 => grd (rngOk 0 t1018.1) (ret (rangeF 0 t1018.1.toNat))) fun xs1022 => mapW (fun y1019 => (bnd (bnd (ret v994) fun t1020 => bnd (ret ()) fun t1021 => ret (t1020, t1021)) w_law_number)) xs1022) fun v1015 => (bnd (bnd (bnd (bnd (ret v993.1) fun t1023 => bnd (ret (1 : Int)) fun t1024 => ret (decide (t1024 < t1023))) fun t1029 => ite t1029 (bnd (bnd (bnd (ret (2 : Int)) fun t1025 => bnd (ret ()) fun t1026 => ret (t1025, t1026)) (fun x => pickW x.1)) fun t1027 => bnd (ret (1 : Int)) fun t1028 => ret (decide (t1027 = t1028))) (ret false)) fun b1030 => ite b1030 (bnd (bnd (bnd (bnd (bnd (ret v993.1) fun t1031 => bnd (ret ()) fun t1032 => ret (t1031, t1032)) (fun x => pickW x.1)) fun t1033 => grd (ixOk v1004 t1033) (ret (ixAt v1004 t1033))) fun t1037 => bnd (bnd (bnd (ret v993.1) fun t1034 => bnd (ret ()) fun t1035 => ret (t1034, t1035)) (fun x => pickW x.1)) fun t1038 => grd (ixOk v1004 t1038) (ret (t1038, t1037))) fun v1036 => (ret (Fl.nx ((v1004.set ((ixN v1004.length v1036.1).getD 0) v1036.2))))) (ret (Fl.nx (v1004)))) (sq fun (s1039 : ((List (List (Int × Int))))) => (bnd (bnd (bnd (bnd (bnd (ret (0 : Int)) fun t1043 => bnd (bnd (ret (1 : Int)) fun t1041 => bnd (ret ()) fun t1042 => ret (t1041, t1042)) fun t1044 => ret (t1043, t1044)) fun t1045 => ret (t1045.1, t1045.2.1)) fun t1046 => bnd (ret ([] : List (Int × Int))) fun t1047 => ret (t1046 :: t1047)) fun t1048 => bnd (ret v993.2) fun t1049 => grd (repOk t1048.length t1049) (ret (List.replicate t1049.toNat t1048).flatten)) fun v1040 => (bnd (bnd (bnd (bnd (ret v1015) fun t1052 => bnd (bnd (ret s1039) fun t1050 => bnd (ret ()) fun t1051 => ret (t1050, t1051)) fun t1053 => ret (t1052, t1053)) fun t1054 => ret (t1054.1.zip t1054.2.1)) fun xs => forW (fun (s1055 : ((List (Int × Int)))) y1056 => (bnd (bnd (bnd (bnd (ret y1056.1) fun t1057 => ret t1057.1) fun t1058 => bnd (ret (0 : Int)) fun t1059 => ret (!decide (t1058 = t1059))) fun b1060 => ite b1060 (bnd (bnd (bnd (bnd (ret s1055) fun t1064 => bnd (bnd (ret y1056.2) fun t1062 => bnd (ret ()) fun t1063 => ret (t1062, t1063)) fun t1065 => ret (t1064, t1065)) fun t1066 => ret (t1066.1.zip t1066.2.1)) fun xs1080 => mapW (fun y1067 => (bnd (bnd (bnd (ret y1067.2) fun t1068 => ret t1068.1) fun t1069 => bnd (ret (0 : Int)) fun t1070 => ret (decide (t1069 = t1070))) fun t1079 => ite t1079 (ret y1067.1) (bnd (bnd (ret y1067.1) fun t1077 => bnd (bnd (bnd (bnd (ret y1056.1) fun t1073 => bnd (bnd (ret y1067.2) fun t1071 => bnd (ret ()) fun t1072 => ret (t1071, t1072)) fun t1074 => ret (t1073, t1074)) w_law_mul) fun t1075 => bnd (ret ()) fun t1076 => ret (t1075, t1076)) fun t1078 => ret (t1077, t1078)) w_law_add))) xs1080) fun v1061 => (ret (Fl.nx (v1061)))) (ret (Fl.nx (s1055)))) (sq fun (s1081 : ((List (Int × Int)))) => (ret (Fl.nx (s1081)))))) (v1040) xs) (sq fun (s1082 : ((List (Int × Int)))) => (bnd (bnd (bnd (bnd (ret v1015) fun t1083 => bnd (ret ()) fun t1084 => ret (t1083, t1084)) fun t1085 => grd true (ret t1085.1)) fun t1098 => bnd (bnd (bnd (bnd (ret s1039) fun t1086 => bnd (ret ()) fun t1087 => ret (t1086, t1087)) fun t1088 => grd true (ret t1088.1)) fun t1096 => bnd (bnd (bnd (ret s1039) fun xs1093 => mapW (fun y1089 => (bnd (bnd (ret y1089) fun t1090 => bnd (ret ()) fun t1091 => ret (t1090, t1091)) fun t1092 => grd true (ret t1092.1))) xs1093) fun t1094 => bnd (ret ()) fun t1095 => ret (t1094, t1095)) fun t1097 => ret (t1096, t1097)) fun t1099 => ret (t1098, t1099)) fun v1100 => (bnd (bnd (bnd (bnd (bnd (bnd (bnd (bnd (ret v1100.1) fun t1108 => bnd (bnd (ret v1100.2.1) fun t1106 => bnd (bnd (ret v993.2) fun t1104 => bnd (ret ()) fun t1105 => ret (t1104, t1105)) fun t1107 => ret (t1106, t1107)) fun t1109 => ret (t1108, t1109)) w_combined) fun t1110 => ret (D.lst (List.map (fun z => (D.tup [(D.int z.1), (D.int z.2)])) t1110))) fun t1111 => bnd (bnd (bnd (ret s1082) fun t1101 => ret (D.lst (List.map (fun z => (D.tup [(D.int z.1), (D.int z.2)])) t1101))) fun t1102 => bnd (ret ()) fun t1103 => ret (t1102, t1103)) fun t1112 => ret (t1111, t1112)) (w_law_alike 6)) fun t1113 => ret (!t1113)) fun b1114 => ite b1114 (bnd (ret false) fun t1115 => ret (Fl.rt t1115)) (ret (Fl.nx ()))) (sq fun (_ : Unit) => (bnd (bnd (bnd (bnd (bnd (bnd (bnd (bnd (ret v993.2) fun t1123 => bnd (bnd (ret v1100.2.1) fun t1121 => bnd (bnd (ret v1100.1) fun t1119 => bnd (ret ()) fun t1120 => ret (t1119, t1120)) fun t1122 => ret (t1121, t1122)) fun t1124 => ret (t1123, t1124)) fun t1125 => w_combined (t1125.2.2.1, t1125.2.1, t1125.1, ())) fun t1126 => ret (D.lst (List.map (fun z => (D.tup [(D.int z.1), (D.int z.2)])) t1126))) fun t1127 => bnd (bnd (bnd (ret s1082) fun t1116 => ret (D.lst (List.map (fun z => (D.tup [(D.int z.1), (D.int z.2)])) t1116))) fun t1117 => bnd (ret ()) fun t1118 => ret (t1117, t1118)) fun t1128 => ret (t1127, t1128)) (w_law_alike 6)) fun t1129 => ret (!t1129)) fun b1130 => ite b1130 (bnd (ret false) fun t1131 => ret (Fl.rt t1131)) (ret (Fl.nx ()))) (sq fun (_ : Unit) => (bnd (bnd (bnd (ret v1100.1) fun t1132 => bnd (ret v1015) fun t1133 => ret (PyData.eqv (PyData.list (List.map (fun z => (PyData.tuple [(PyData.int z.1), (PyData.int z.2)])) t1132)) (PyData.list (List.map (fun z => (PyData.tuple [(PyData.int z.1), (PyData.int z.2)])) t1133)))) fun t1136 => ite t1136 (bnd (ret v1100.2.1) fun t1134 => bnd (ret v1100.2.2.1) fun t1135 => ret (PyData.eqv (PyData.list (List.map (fun z => (PyData.list (List.map (fun z => (PyData.tuple [(PyData.int z.1), (PyData.int z.2)])) z))) t1134)) (PyData.list (List.map (fun z => (PyData.list (List.map (fun z => (PyData.tuple [(PyData.int z.1), (PyData.int z.2)])) z))) t1135)))) (ret false)) fun t1137 => ret (Fl.rt t1137))))))))))))))))
def w_law_many_right (x : (Unit)) : W Bool := fnR (wb_law_many_right x)
def wb_law (x : ((List Int) × Unit)) : W (Fl Empty Empty Bool) := (bnd (bnd (bnd (bnd (ret (3 : Int)) fun t1138 => bnd (ret ()) fun t1139 => ret (t1138, t1139)) fun t1140 => grd (rngOk 0 t1140.1) (ret (rangeF 0 t1140.1.toNat))) fun xs => forW (fun (s1141 : Unit) y1142 => (bnd (bnd (bnd (bnd (bnd (ret ()) w_law_numbers_right) fun t1143 => ret (!t1143)) fun t1147 => ite t1147 (ret true) (bnd (bnd (bnd (ret ()) w_law_two_right) fun t1144 => ret (!t1144)) fun t1146 => ite t1146 (ret true) (bnd (bnd (ret ()) w_law_many_right) fun t1145 => ret (!t1145)))) fun b1148 => ite b1148 (bnd (ret false) fun t1149 => ret (Fl.rt t1149)) (ret (Fl.nx ()))) (sq fun (_ : Unit) => (ret (Fl.nx ()))))) () xs) (sq fun (s1150 : Unit) => (bnd (ret true) fun t1151 => ret (Fl.rt t1151))))
def w_law (x : ((List Int) × Unit)) : W Bool := fnR (wb_law x)
section
variable {P : Program} {w : World} {K : PySem.W.Frag} {mg : Str → Option Value} {base : Heap}
theorem b_lowest (T : Txt K mg) : Binds K T.d_lowest P_lowest [] := T.F_lowest.binds fun _ _ _ _ _ _ us hl => match us, hl with | [_, _], _ => rfl
theorem b_sum_two (T : Txt K mg) : Binds K T.d_sum_two P_sum_two [] := T.F_sum_two.binds fun _ _ _ _ _ _ us hl => match us, hl with | [_, _], _ => rfl
theorem b_product_two (T : Txt K mg) : Binds K T.d_product_two P_product_two [] := T.F_product_two.binds fun _ _ _ _ _ _ us hl => match us, hl with | [_, _], _ => rfl
theorem b_is_number (T : Txt K mg) : Binds K T.d_is_number P_is_number [] := T.F_is_number.binds fun _ _ _ _ _ _ us hl => match us, hl with | [_], _ => rfl
theorem b_checked (T : Txt K mg) : Binds K T.d_checked P_checked [] := T.F_checked.binds fun _ _ _ _ _ _ us hl => match us, hl with | [_], _ => rfl
theorem b_check_numbers (T : Txt K mg) : Binds K T.d_check_numbers P_check_numbers [] := T.F_check_numbers.binds fun _ _ _ _ _ _ us hl => match us, hl with | [_], _ => rfl
theorem b_integers_of (T : Txt K mg) : Binds K T.d_integers_of P_integers_of [] := T.F_integers_of.binds fun _ _ _ _ _ _ us hl => match us, hl with | [_], _ => rfl
theorem b_numbers_of (T : Txt K mg) : Binds K T.d_numbers_of P_numbers_of [] := T.F_numbers_of.binds fun _ _ _ _ _ _ us hl => match us, hl with | [_, _], _ => rfl
theorem b_nought_row (T : Txt K mg) : Binds K T.d_nought_row P_nought_row [] := T.F_nought_row.binds fun _ _ _ _ _ _ us hl => match us, hl with | [_], _ => rfl
theorem b_unit_row (T : Txt K mg) : Binds K T.d_unit_row P_unit_row [] := T.F_unit_row.binds fun _ _ _ _ _ _ us hl => match us, hl with | [_, _], _ => rfl
theorem b_plus_row (T : Txt K mg) : Binds K T.d_plus_row P_plus_row [] := T.F_plus_row.binds fun _ _ _ _ _ _ us hl => match us, hl with | [_, _], _ => rfl
theorem b_scaled_row (T : Txt K mg) : Binds K T.d_scaled_row P_scaled_row [] := T.F_scaled_row.binds fun _ _ _ _ _ _ us hl => match us, hl with | [_, _], _ => rfl
theorem b_combination (T : Txt K mg) : Binds K T.d_combination P_combination [] := T.F_combination.binds fun _ _ _ _ _ _ us hl => match us, hl with | [_, _, _], _ => rfl
theorem b_check_rows (T : Txt K mg) : Binds K T.d_check_rows P_check_rows [] := T.F_check_rows.binds fun _ _ _ _ _ _ us hl => match us, hl with | [_, _], _ => rfl
theorem b_number (T : Txt K mg) : Binds K T.d_number P_number [] := T.F_number.binds fun _ _ _ _ _ _ us hl => match us, hl with | [_, _], _ => rfl
theorem b_unit (T : Txt K mg) : Binds K T.d_unit P_unit [] := T.F_unit.binds fun _ _ _ _ _ _ us hl => match us, hl with | [_, _], _ => rfl
theorem b_noughts (T : Txt K mg) : Binds K T.d_noughts P_noughts [] := T.F_noughts.binds fun _ _ _ _ _ _ us hl => match us, hl with | [_], _ => rfl
theorem b_sum_of (T : Txt K mg) : Binds K T.d_sum_of P_sum_of [] := T.F_sum_of.binds fun _ _ _ _ _ _ us hl => match us, hl with | [_, _], _ => rfl
theorem b_times (T : Txt K mg) : Binds K T.d_times P_times [] := T.F_times.binds fun _ _ _ _ _ _ us hl => match us, hl with | [_, _], _ => rfl
theorem b_combined (T : Txt K mg) : Binds K T.d_combined P_combined [] := T.F_combined.binds fun _ _ _ _ _ _ us hl => match us, hl with | [_, _, _], _ => rfl
theorem b_law_pool (T : Txt K mg) : Binds K T.d_law_pool P_law_pool [] := T.F_law_pool.binds fun _ _ _ _ _ _ us hl => match us, hl with | [_], _ => rfl
theorem b_law_pick (T : Txt K mg) : Binds K T.d_law_pick P_law_pick [] := T.F_law_pick.binds fun _ _ _ _ _ _ us hl => match us, hl with | [_, _], _ => rfl
theorem b_law_low (T : Txt K mg) : Binds K T.d_law_low P_law_low [] := T.F_law_low.binds fun _ _ _ _ _ _ us hl => match us, hl with | [_, _], _ => rfl
theorem b_law_add (T : Txt K mg) : Binds K T.d_law_add P_law_add [] := T.F_law_add.binds fun _ _ _ _ _ _ us hl => match us, hl with | [_, _], _ => rfl
theorem b_law_mul (T : Txt K mg) : Binds K T.d_law_mul P_law_mul [] := T.F_law_mul.binds fun _ _ _ _ _ _ us hl => match us, hl with | [_, _], _ => rfl
theorem b_law_number (T : Txt K mg) : Binds K T.d_law_number P_law_number [] := T.F_law_number.binds fun _ _ _ _ _ _ us hl => match us, hl with | [_, _], _ => rfl
theorem b_law_alike (T : Txt K mg) : Binds K T.d_law_alike P_law_alike [] := T.F_law_alike.binds fun _ _ _ _ _ _ us hl => match us, hl with | [_, _], _ => rfl
theorem b_law_line (T : Txt K mg) : Binds K T.d_law_line P_law_line [] := T.F_law_line.binds fun _ _ _ _ _ _ us hl => match us, hl with | [_, _, _], _ => rfl
theorem b_law_numbers_right (T : Txt K mg) : Binds K T.d_law_numbers_right P_law_numbers_right [] := T.F_law_numbers_right.binds fun _ _ _ _ _ _ us hl => match us, hl with | [_], _ => rfl
theorem b_law_two_right (T : Txt K mg) : Binds K T.d_law_two_right P_law_two_right [] := T.F_law_two_right.binds fun _ _ _ _ _ _ us hl => match us, hl with | [_], _ => rfl
theorem b_law_shape (T : Txt K mg) : Binds K T.d_law_shape P_law_shape [] := T.F_law_shape.binds fun _ _ _ _ _ _ us hl => match us, hl with | [_], _ => rfl
theorem b_law_many_right (T : Txt K mg) : Binds K T.d_law_many_right P_law_many_right [] := T.F_law_many_right.binds fun _ _ _ _ _ _ us hl => match us, hl with | [_], _ => rfl
theorem b_law (T : Txt K mg) : Binds K T.d_law P_law [] := T.F_law.binds fun _ _ _ _ _ _ us hl => match us, hl with | [_], _ => rfl
def g_kb_number_1_0 {α : Type} : List α → List α → List α
  | [], [u0, u1] => [u1, u0]
  | _, _ => []
theorem kb_number_1_0_bad {α : Type} {us ws : List α} (h : ¬ (us = [] ∧ ws.length = 2)) : g_kb_number_1_0 us ws = [] := by
  unfold g_kb_number_1_0
  split
  · exact absurd ⟨rfl, rfl⟩ h
  · rfl
theorem kb_number_1_0 (T : Txt K mg) : KBinds K T.d_number P_number [Str.ofString "below", Str.ofString "above"] g_kb_number_1_0 g_kb_number_1_0 where
  to := fun s us ws _ hl => by
    by_cases h : us = [] ∧ ws.length = 2
    · obtain ⟨rfl, hw⟩ := h
      obtain ⟨oc, od, kV, doc, pm, an, cdv, ct, osl, e, _, _⟩ := T.F_number.ex
      rw [e]
      match ws, hw with
      | [_, _], _ => exact BindsTo.of_eq rfl
    · rw [kb_number_1_0_bad h] at hl
      exact absurd hl (by decide)
  rel := fun {vs us zs ws} r1 r2 => by
    by_cases h : vs = [] ∧ zs.length = 2
    · obtain ⟨rfl, hz⟩ := h
      cases r1
      match zs, ws, r2, hz with
      | [_, _], _, Paired.cons r0 (Paired.cons r1 (Paired.nil)), _ => exact Paired.cons r1 (Paired.cons r0 (Paired.nil))
    · have h2 : ¬ (us = [] ∧ ws.length = 2) := fun ⟨e, l⟩ => by
        subst e
        cases r1
        exact h ⟨rfl, r2.length.trans l⟩
      rw [kb_number_1_0_bad h, kb_number_1_0_bad h2]
      exact .nil
theorem kb_number_1_0_pm {pp : PP} {O : AS} {H : Hp} {zs : List V} {y : (Int × Int × Unit)} (h : ((aC eI (aC eI aN)) : EA K _).r pp O H zs y) : ((aC eI (aC eI aN)) : EA K _).r pp O H (g_kb_number_1_0 [] zs) ((y.2.1, y.1, ())) := by
  obtain ⟨_, _, rfl, q0, _, _, rfl, q1, rfl⟩ := h
  exact ⟨_, _, rfl, q1, _, _, rfl, q0, rfl⟩
def g_kb_unit_1_0 {α : Type} : List α → List α → List α
  | [], [u0, u1] => [u1, u0]
  | _, _ => []
theorem kb_unit_1_0_bad {α : Type} {us ws : List α} (h : ¬ (us = [] ∧ ws.length = 2)) : g_kb_unit_1_0 us ws = [] := by
  unfold g_kb_unit_1_0
  split
  · exact absurd ⟨rfl, rfl⟩ h
  · rfl
theorem kb_unit_1_0 (T : Txt K mg) : KBinds K T.d_unit P_unit [Str.ofString "place", Str.ofString "size"] g_kb_unit_1_0 g_kb_unit_1_0 where
  to := fun s us ws _ hl => by
    by_cases h : us = [] ∧ ws.length = 2
    · obtain ⟨rfl, hw⟩ := h
      obtain ⟨oc, od, kV, doc, pm, an, cdv, ct, osl, e, _, _⟩ := T.F_unit.ex
      rw [e]
      match ws, hw with
      | [_, _], _ => exact BindsTo.of_eq rfl
    · rw [kb_unit_1_0_bad h] at hl
      exact absurd hl (by decide)
  rel := fun {vs us zs ws} r1 r2 => by
    by_cases h : vs = [] ∧ zs.length = 2
    · obtain ⟨rfl, hz⟩ := h
      cases r1
      match zs, ws, r2, hz with
      | [_, _], _, Paired.cons r0 (Paired.cons r1 (Paired.nil)), _ => exact Paired.cons r1 (Paired.cons r0 (Paired.nil))
    · have h2 : ¬ (us = [] ∧ ws.length = 2) := fun ⟨e, l⟩ => by
        subst e
        cases r1
        exact h ⟨rfl, r2.length.trans l⟩
      rw [kb_unit_1_0_bad h, kb_unit_1_0_bad h2]
      exact .nil
theorem kb_unit_1_0_pm {pp : PP} {O : AS} {H : Hp} {zs : List V} {y : (Int × Int × Unit)} (h : ((aC eI (aC eI aN)) : EA K _).r pp O H zs y) : ((aC eI (aC eI aN)) : EA K _).r pp O H (g_kb_unit_1_0 [] zs) ((y.2.1, y.1, ())) := by
  obtain ⟨_, _, rfl, q0, _, _, rfl, q1, rfl⟩ := h
  exact ⟨_, _, rfl, q1, _, _, rfl, q0, rfl⟩
def g_kb_noughts_0 {α : Type} : List α → List α → List α
  | [], [u0] => [u0]
  | _, _ => []
theorem kb_noughts_0_bad {α : Type} {us ws : List α} (h : ¬ (us = [] ∧ ws.length = 1)) : g_kb_noughts_0 us ws = [] := by
  unfold g_kb_noughts_0
  split
  · exact absurd ⟨rfl, rfl⟩ h
  · rfl
theorem kb_noughts_0 (T : Txt K mg) : KBinds K T.d_noughts P_noughts [Str.ofString "size"] g_kb_noughts_0 g_kb_noughts_0 where
  to := fun s us ws _ hl => by
    by_cases h : us = [] ∧ ws.length = 1
    · obtain ⟨rfl, hw⟩ := h
      obtain ⟨oc, od, kV, doc, pm, an, cdv, ct, osl, e, _, _⟩ := T.F_noughts.ex
      rw [e]
      match ws, hw with
      | [_], _ => exact BindsTo.of_eq rfl
    · rw [kb_noughts_0_bad h] at hl
      exact absurd hl (by decide)
  rel := fun {vs us zs ws} r1 r2 => by
    by_cases h : vs = [] ∧ zs.length = 1
    · obtain ⟨rfl, hz⟩ := h
      cases r1
      match zs, ws, r2, hz with
      | [_], _, Paired.cons r0 (Paired.nil), _ => exact Paired.cons r0 (Paired.nil)
    · have h2 : ¬ (us = [] ∧ ws.length = 1) := fun ⟨e, l⟩ => by
        subst e
        cases r1
        exact h ⟨rfl, r2.length.trans l⟩
      rw [kb_noughts_0_bad h, kb_noughts_0_bad h2]
      exact .nil
theorem kb_noughts_0_pm {pp : PP} {O : AS} {H : Hp} {zs : List V} {y : (Int × Unit)} (h : ((aC eI aN) : EA K _).r pp O H zs y) : ((aC eI aN) : EA K _).r pp O H (g_kb_noughts_0 [] zs) ((y.1, ())) := by
  obtain ⟨_, _, rfl, q0, rfl⟩ := h
  exact ⟨_, _, rfl, q0, rfl⟩
def g_kb_sum_of_1_0 {α : Type} : List α → List α → List α
  | [], [u0, u1] => [u1, u0]
  | _, _ => []
theorem kb_sum_of_1_0_bad {α : Type} {us ws : List α} (h : ¬ (us = [] ∧ ws.length = 2)) : g_kb_sum_of_1_0 us ws = [] := by
  unfold g_kb_sum_of_1_0
  split
  · exact absurd ⟨rfl, rfl⟩ h
  · rfl
theorem kb_sum_of_1_0 (T : Txt K mg) : KBinds K T.d_sum_of P_sum_of [Str.ofString "other", Str.ofString "one"] g_kb_sum_of_1_0 g_kb_sum_of_1_0 where
  to := fun s us ws _ hl => by
    by_cases h : us = [] ∧ ws.length = 2
    · obtain ⟨rfl, hw⟩ := h
      obtain ⟨oc, od, kV, doc, pm, an, cdv, ct, osl, e, _, _⟩ := T.F_sum_of.ex
      rw [e]
      match ws, hw with
      | [_, _], _ => exact BindsTo.of_eq rfl
    · rw [kb_sum_of_1_0_bad h] at hl
      exact absurd hl (by decide)
  rel := fun {vs us zs ws} r1 r2 => by
    by_cases h : vs = [] ∧ zs.length = 2
    · obtain ⟨rfl, hz⟩ := h
      cases r1
      match zs, ws, r2, hz with
      | [_, _], _, Paired.cons r0 (Paired.cons r1 (Paired.nil)), _ => exact Paired.cons r1 (Paired.cons r0 (Paired.nil))
    · have h2 : ¬ (us = [] ∧ ws.length = 2) := fun ⟨e, l⟩ => by
        subst e
        cases r1
        exact h ⟨rfl, r2.length.trans l⟩
      rw [kb_sum_of_1_0_bad h, kb_sum_of_1_0_bad h2]
      exact .nil
theorem kb_sum_of_1_0_pm {pp : PP} {O : AS} {H : Hp} {zs : List V} {y : ((List (Int × Int)) × (List (Int × Int)) × Unit)} (h : ((aC (eL eN) (aC (eL eN) aN)) : EA K _).r pp O H zs y) : ((aC (eL eN) (aC (eL eN) aN)) : EA K _).r pp O H (g_kb_sum_of_1_0 [] zs) ((y.2.1, y.1, ())) := by
  obtain ⟨_, _, rfl, q0, _, _, rfl, q1, rfl⟩ := h
  exact ⟨_, _, rfl, q1, _, _, rfl, q0, rfl⟩
def g_kb_times_1_0 {α : Type} : List α → List α → List α
  | [], [u0, u1] => [u1, u0]
  | _, _ => []
theorem kb_times_1_0_bad {α : Type} {us ws : List α} (h : ¬ (us = [] ∧ ws.length = 2)) : g_kb_times_1_0 us ws = [] := by
  unfold g_kb_times_1_0
  split
  · exact absurd ⟨rfl, rfl⟩ h
  · rfl
theorem kb_times_1_0 (T : Txt K mg) : KBinds K T.d_times P_times [Str.ofString "row", Str.ofString "number"] g_kb_times_1_0 g_kb_times_1_0 where
  to := fun s us ws _ hl => by
    by_cases h : us = [] ∧ ws.length = 2
    · obtain ⟨rfl, hw⟩ := h
      obtain ⟨oc, od, kV, doc, pm, an, cdv, ct, osl, e, _, _⟩ := T.F_times.ex
      rw [e]
      match ws, hw with
      | [_, _], _ => exact BindsTo.of_eq rfl
    · rw [kb_times_1_0_bad h] at hl
      exact absurd hl (by decide)
  rel := fun {vs us zs ws} r1 r2 => by
    by_cases h : vs = [] ∧ zs.length = 2
    · obtain ⟨rfl, hz⟩ := h
      cases r1
      match zs, ws, r2, hz with
      | [_, _], _, Paired.cons r0 (Paired.cons r1 (Paired.nil)), _ => exact Paired.cons r1 (Paired.cons r0 (Paired.nil))
    · have h2 : ¬ (us = [] ∧ ws.length = 2) := fun ⟨e, l⟩ => by
        subst e
        cases r1
        exact h ⟨rfl, r2.length.trans l⟩
      rw [kb_times_1_0_bad h, kb_times_1_0_bad h2]
      exact .nil
theorem kb_times_1_0_pm {pp : PP} {O : AS} {H : Hp} {zs : List V} {y : ((List (Int × Int)) × (Int × Int) × Unit)} (h : ((aC (eL eN) (aC eN aN)) : EA K _).r pp O H zs y) : ((aC eN (aC (eL eN) aN)) : EA K _).r pp O H (g_kb_times_1_0 [] zs) ((y.2.1, y.1, ())) := by
  obtain ⟨_, _, rfl, q0, _, _, rfl, q1, rfl⟩ := h
  exact ⟨_, _, rfl, q1, _, _, rfl, q0, rfl⟩
def g_kb_combined_2_1_0 {α : Type} : List α → List α → List α
  | [], [u0, u1, u2] => [u2, u1, u0]
  | _, _ => []
theorem kb_combined_2_1_0_bad {α : Type} {us ws : List α} (h : ¬ (us = [] ∧ ws.length = 3)) : g_kb_combined_2_1_0 us ws = [] := by
  unfold g_kb_combined_2_1_0
  split
  · exact absurd ⟨rfl, rfl⟩ h
  · rfl
theorem kb_combined_2_1_0 (T : Txt K mg) : KBinds K T.d_combined P_combined [Str.ofString "size", Str.ofString "rows", Str.ofString "numbers"] g_kb_combined_2_1_0 g_kb_combined_2_1_0 where
  to := fun s us ws _ hl => by
    by_cases h : us = [] ∧ ws.length = 3
    · obtain ⟨rfl, hw⟩ := h
      obtain ⟨oc, od, kV, doc, pm, an, cdv, ct, osl, e, _, _⟩ := T.F_combined.ex
      rw [e]
      match ws, hw with
      | [_, _, _], _ => exact BindsTo.of_eq rfl
    · rw [kb_combined_2_1_0_bad h] at hl
      exact absurd hl (by decide)
  rel := fun {vs us zs ws} r1 r2 => by
    by_cases h : vs = [] ∧ zs.length = 3
    · obtain ⟨rfl, hz⟩ := h
      cases r1
      match zs, ws, r2, hz with
      | [_, _, _], _, Paired.cons r0 (Paired.cons r1 (Paired.cons r2 (Paired.nil))), _ => exact Paired.cons r2 (Paired.cons r1 (Paired.cons r0 (Paired.nil)))
    · have h2 : ¬ (us = [] ∧ ws.length = 3) := fun ⟨e, l⟩ => by
        subst e
        cases r1
        exact h ⟨rfl, r2.length.trans l⟩
      rw [kb_combined_2_1_0_bad h, kb_combined_2_1_0_bad h2]
      exact .nil
theorem kb_combined_2_1_0_pm {pp : PP} {O : AS} {H : Hp} {zs : List V} {y : (Int × (List (List (Int × Int))) × (List (Int × Int)) × Unit)} (h : ((aC eI (aC (eL (eL eN)) (aC (eL eN) aN))) : EA K _).r pp O H zs y) : ((aC (eL eN) (aC (eL (eL eN)) (aC eI aN))) : EA K _).r pp O H (g_kb_combined_2_1_0 [] zs) ((y.2.2.1, y.2.1, y.1, ())) := by
  obtain ⟨_, _, rfl, q0, _, _, rfl, q1, _, _, rfl, q2, rfl⟩ := h
  exact ⟨_, _, rfl, q2, _, _, rfl, q1, _, _, rfl, q0, rfl⟩
theorem ok_law_pick {f : Addr} {fd : FuncData} (F : Fun K "_law_pick" "_law_pick" s_law_pick f fd) (mi : mg "int" = none) : FnOk P w K mg base CX0 1 f fd ["_law_pool_here", "_law_many"] (spW (K := K) poolA (aPl (aC eI aN)) (fun x => pickW x.1) eI) := by
  refine F.ok sc_law_pick (fun vs H Q E h => ?_) (fun cdv A outer s H vs Q E hr h => ?_)
  · obtain ⟨pp, O, x, Φ, c, _, _, _, r, _⟩ := h
    exact (aPl (aC eI aN)).hlen r
  · obtain ⟨pp, O, x, Φ, c, hd, hf, hp, ⟨a, b, _, rfl, rfl, v, _, rfl, rv, rfl⟩, ⟨⟨hm0, hm1, hc⟩, hw⟩, q⟩ := h
    cases (show v = V.int x.1 from rv)
    obtain ⟨gs, f0, m, d, ha, hb, hab, hgs, hf0, m0, m1, d0, d1⟩ := hp
    refine ⟨_, pss_cons (pool_while (a := a) (b := b) (m := m) (d := d) (x := x.1) (u := hr.units) (ps_while PassesOwn.never (PW.pt (pw_and (pt_cmpR op_eq (pe_ix ix_list (pv 0) pe_int (fun _ _ => rfl)) pe_int (nomark _)) (pw_and1 (pt_cmpR (op_neD hr.units) (pe_ix ix_list (pv 0) pe_int (fun _ _ => rfl)) (pe_lst pa_nil) (nomark _)))))
        (pss_one (ps_asg (pe_bm PySem.F.plainAttrs_list PySem.F.slot_list_pop PySem.F.type_list_pop mt_popAt (pe_ix ix_list (pv 0) pe_int (fun _ _ => rfl)) (pa_cons pe_int pa_nil)) (pg_sub (pv 0) pe_int set_list)))) ?hs ?hb)
      (pss_cons (ps_if (pt_cmpR op_gt (pe_ix ix_list (pv 0) pe_int (fun _ _ => rfl)) pe_int (nomark _))
          (pss_cons (ps_set (i := 2) sc_law_pick.nd rfl (.inl rfl) (pe_op op_mod (pe_callTy call_int1 (by rfl) mi (by decide +kernel) (pa_cons (pe_ix ix_list (pv 0) pe_int (fun _ _ => rfl)) pa_nil)) (pv 1)))
          (pss_cons (ps_asg (pe_op op_fdivA (pe_ix ix_list (pv 0) pe_int (fun _ _ => rfl)) (pv 1)) (pg_sub (pv 0) pe_int set_list))
          (pss_one (ps_ret (pv 2))))) pss_nil)
      (pss_cons (ps_asg (pe_op op_add (pe_ix ix_list (pv 0) pe_int (fun _ _ => rfl)) pe_int) (pg_sub (pv 0) pe_int set_list))
      (pss_cons (ps_set (i := 3) sc_law_pick.nd rfl (.inl rfl) (pe_op op_mod (pe_callTy call_int1 (by rfl) mi (by decide +kernel) (pa_cons (pe_op op_powX (pe_op op_add (pe_ix ix_list (pv 0) pe_int (fun _ _ => rfl)) (pe_op op_mul pe_int (pe_ix ix_list (pv 0) pe_int (fun _ _ => rfl)))) pe_int) pa_nil)) (pe_op op_add (pe_op op_powX pe_int pe_int) pe_int)))
      (pss_cons (ps_set (i := 3) sc_law_pick.nd rfl (.inl rfl) (pe_op op_mod (pe_callTy call_int1 (by rfl) mi (by decide +kernel) (pa_cons (pe_op op_powX (pe_op op_add (pv 3) (pe_op op_mul pe_int (pe_ix ix_list (pv 0) pe_int (fun _ _ => rfl)))) pe_int) pa_nil)) (pe_op op_add (pe_op op_powX pe_int pe_int) pe_int)))
      (pss_one (ps_ret (pe_op op_mod (pe_callTy call_int1 (by rfl) mi (by decide +kernel) (pa_cons (pe_op op_fdivA (pv 3) (pe_op op_powX pe_int pe_int)) pa_nil)) (pv 1)))))))), ?_⟩
    case hs =>
      intro gs f H1 ⟨ea, eb, ne, hg, hf⟩ R hR
      refine ⟨.ref a, rfl, a, [.ref b, .int f, .int m, .int d], 1, .int f, rfl, rfl, SqL.of ea, rfl, rfl, _, rfl, ?_⟩
      refine ite2 (fun e => ?_) (fun e => ?_)
      · have e0 : f = 0 := V.int.inj (of_decide_eq_true e)
        subst e0
        refine ⟨.ref a, rfl, a, _, 0, .ref b, rfl, rfl, SqL.of ea, rfl, Nat.zero_le _, fun p np => ?_⟩
        have s1 := same_new (o := .lst []) np
        refine ⟨.list (gs.map .int), .list [], .lst (SqL.of (s1 _ _ eb)) (dpInts gs), .lst (SqL.of upd_same) .nil, shInts gs, rfl, _, rfl, ?_⟩
        have z := hR _ s1
        cases gs with
        | nil => simpa [PyData.eqv, PyData.eqvAll] using z
        | cons g gs => simpa [PyData.eqv, PyData.eqvAll] using z
      · have e0 : f ≠ 0 := fun z => e (by rw [z]; rfl)
        have z := hR _ (.refl _)
        simpa [e0] using z
    case hb =>
      intro g gs f H1 D ⟨ea, eb, ne, hg, hf⟩ k
      have e1 : seqIndex? 0 (List.map V.int (g :: gs)).length = some 0 := by simp [seqIndex?]
      refine ⟨.ref a, rfl, a, [.ref b, .int f, .int m, .int d], 0, .ref b, rfl, rfl, SqL.of ea, rfl, .inl ⟨rfl, _, SqL.of eb⟩, b, _, 0, 0, .int g, rfl, rfl, eb, by decide, by decide, e1, rfl, ?_⟩
      refine ⟨.ref a, rfl, a, [.ref b, .int f, .int m, .int d], 1, 1, rfl, rfl, by rw [upd_ne ne]; exact ea, rfl, k _ ⟨upd_same, by rw [upd_ne ne.symm, upd_same]; rfl, ne, fun y hy => hg y (List.mem_cons_of_mem _ hy), hg g List.mem_cons_self⟩ fun y o ey hn => ?_⟩
      rw [upd_ne (fun z => hn (.inl z)), upd_ne (fun z => hn (.inr z))]
      exact ey
    refine ⟨rfl, gs, f0, ⟨ha, hb, hab, hgs, hf0⟩, fun gs f H1 ⟨ea, eb, _, hg, hf⟩ ch1 => ?_⟩
    -- if pool[1] > 0
    refine ⟨.ref a, rfl, a, [.ref b, .int f, .int m, .int d], 1, .int f, rfl, rfl, SqL.of ea, rfl, _, _, rfl, rfl, _, rfl, ite2 (fun e => ?_) (fun e => ?_)⟩
    · refine ⟨.ref a, rfl, a, [.ref b, .int f, .int m, .int d], 1, .int f, rfl, rfl, SqL.of ea, rfl, .inl ⟨f, rfl, .int x.1, rfl, _, _, rfl, rfl, hm0, ?_⟩⟩
      refine ⟨.ref a, rfl, a, [.ref b, .int f, .int m, .int d], 1, .int f, rfl, rfl, SqL.of ea, rfl, .int x.1, rfl, _, _, rfl, rfl, ⟨by omega, hm1⟩, ?_⟩
      refine ⟨.ref a, rfl, a, [.ref b, .int f, .int m, .int d], 1, 1, rfl, rfl, ea, rfl, _, rfl, ?_⟩
      refine q _ _ _ _ (hw (f % x.1) (Int.emod_nonneg _ (by omega)) (Int.emod_lt_of_pos _ hm0)) (fun y o ey hn => ?_) ⟨gs, f.fdiv x.1, m, d, upd_same, by rw [upd_ne hab.symm]; exact eb, hab, hg, ?_, m0, m1, d0, by omega⟩ rfl
      · rw [upd_ne (fun z => hn (.inl z))]
        exact ch1 y o ey hn
      · rw [Int.fdiv_eq_ediv_of_nonneg _ (by omega)]
        exact Int.ediv_nonneg hf (by omega)
    · -- pool[3] = pool[3] + 1
      refine ⟨.ref a, rfl, a, [.ref b, .int f, .int m, .int d], 3, .int d, rfl, rfl, SqL.of ea, rfl, _, _, rfl, rfl, ?_⟩
      refine ⟨.ref a, rfl, a, [.ref b, .int f, .int m, .int d], 3, 3, rfl, rfl, ea, rfl, ?_⟩
      have e1 : upd H1 a (.lst ([.ref b, .int f, .int m, .int d].set 3 (.int (d + 1)))) a = some (.lst [.ref b, .int f, .int m, .int (d + 1)]) := upd_same
      have eb1 : upd H1 a (.lst ([.ref b, .int f, .int m, .int d].set 3 (.int (d + 1)))) b = some (.lst (gs.map V.int)) := by rw [upd_ne hab.symm]; exact eb
      have ch2 : Chg (some (a, b)) H (upd H1 a (.lst ([.ref b, .int f, .int m, .int d].set 3 (.int (d + 1))))) := fun y o ey hn => by
        rw [upd_ne (fun z => hn (.inl z))]
        exact ch1 y o ey hn
      generalize upd H1 a (.lst ([.ref b, .int f, .int m, .int d].set 3 (.int (d + 1)))) = H2 at e1 eb1 ch2 ⊢
      have p1 : (m + 900001 * (d + 1)).natAbs < 2 ^ 1030 := big_lt hc d0 d1 m0 (Int.le_trans m1 (by decide)) (q := 900001) (by decide) (by decide) rfl
      have v1 := bits_lt p1
      refine ⟨.ref a, rfl, a, [.ref b, .int f, .int m, .int (d + 1)], 2, .int m, rfl, rfl, SqL.of e1, rfl, .ref a, rfl, a, [.ref b, .int f, .int m, .int (d + 1)], 3, .int (d + 1), rfl, rfl, SqL.of e1, rfl, _, _, rfl, rfl, .inl ⟨by decide, by decide⟩, _, _, rfl, rfl, _, _, rfl, rfl, ⟨by decide, by omega⟩, .inl ⟨_, rfl, _, _, rfl, rfl, ⟨by decide, by decide⟩, _, _, rfl, rfl, _, _, rfl, rfl, (by show (0 : Int) < 10 ^ 33 + 87; decide +kernel), ?_⟩⟩
      generalize (m + 900001 * (d + 1)) ^ Int.toNat 3 = y0
      have y1 : 0 ≤ y0 % (10 ^ Int.toNat 33 + 87) := Int.emod_nonneg _ (by decide +kernel)
      have y2 : y0 % (10 ^ Int.toNat 33 + 87) < 10 ^ Int.toNat 33 + 87 := Int.emod_lt_of_pos _ (by decide +kernel)
      have ey : y0 % (10 ^ Int.toNat 33 + 87) = y0 % (10 ^ Int.toNat 33 + 87) := rfl
      generalize hy : y0 % (10 ^ Int.toNat 33 + 87) = y at y1 y2
      have y3 : y ≤ 10 ^ 40 := Int.le_trans (Int.le_of_lt y2) (by decide +kernel)
      have v2 := bits_lt (big_lt hc d0 d1 y1 y3 (q := 7919) (by decide) (by decide) rfl)
      rw [← hy] at v2
      refine ⟨_, rfl, .ref a, rfl, a, [.ref b, .int f, .int m, .int (d + 1)], 3, .int (d + 1), rfl, rfl, SqL.of e1, rfl, _, _, rfl, rfl, .inl ⟨by decide, by decide⟩, _, _, rfl, rfl, _, _, rfl, rfl, ⟨by decide, by omega⟩, .inl ⟨_, rfl, _, _, rfl, rfl, ⟨by decide, by decide⟩, _, _, rfl, rfl, _, _, rfl, rfl, (by show (0 : Int) < 10 ^ 31 + 99; decide +kernel), ?_⟩⟩
      refine ⟨_, rfl, _, _, rfl, rfl, ⟨by decide, by decide⟩, _, _, rfl, rfl, ⟨by decide +kernel, by decide +kernel⟩, .inl ⟨_, rfl, .int x.1, rfl, _, _, rfl, rfl, hm0, ?_⟩⟩
      exact q _ _ _ _ (hw _ (Int.emod_nonneg _ (by omega)) (Int.emod_lt_of_pos _ hm0)) ch2 ⟨gs, f, m, d + 1, e1, eb1, hab, hg, hf, m0, m1, by omega, by omega⟩ rfl

theorem ok_law_pool {f : Addr} {fd : FuncData} (F : Fun K "_law_pool" "_law_pool" s_law_pool f fd) (mi : mg "int" = none) (me : mg "enumerate" = none) : FnOk P w K mg base CX0 1 f fd ["_law_script"] (spPool K) := by
  refine F.ok sc_law_pool (fun vs H Q E h => ?_) (fun cdv A outer s H vs Q E hr h => ?_)
  · obtain ⟨a, ns, rfl, _⟩ := h
    rfl
  · obtain ⟨a, ns, rfl, hS, hl, q⟩ := h
    refine ⟨_, pss_cons (ps_par (i := 1) (j := 2) rfl sc_law_pool.nd rfl rfl (by decide) rfl rfl (pa_cons pe_int (pa_cons (pe_lst pa_nil) pa_nil)) (by rfl))
      (pss_cons (ps_for PassesOwn.never rfl (pi_enum (by rfl) me (pa_cons (pv 0) pa_nil)) (pg_tup rfl (pgs_cons (pg_name (i := 3) sc_law_pool.nd rfl (.inl rfl)) (pgs_cons (pg_name (i := 4) sc_law_pool.nd rfl (.inl rfl)) pgs_nil)))
        (pss_one (ps_if (pt_cmpR op_ge (pv 4) (pe_op op_powX pe_int pe_int) (nomark _))
          (pss_one (ps_expr (pe_bm PySem.F.plainAttrs_list PySem.F.slot_list_append PySem.F.type_list_append mt_append (pv 2) (pa_cons (pe_op op_sub (pv 4) (pe_op op_powX pe_int pe_int)) pa_nil))))
          (pss_one (ps_set (i := 1) sc_law_pool.nd rfl (.inl rfl) (pe_op op_add (pe_op op_mod (pe_callTy call_int1 (by rfl) mi (by decide +kernel) (pa_cons (pe_op op_powX (pe_op op_add (pe_op op_add (pv 1) (pe_op op_mul pe_int (pv 3)))
            (pe_op op_mod (pe_callTy call_int1 (by rfl) mi (by decide +kernel) (pa_cons (pv 4) pa_nil)) (pe_op op_add (pe_op op_powX pe_int pe_int) pe_int))) pe_int) pa_nil)) (pe_op op_add (pe_op op_powX pe_int pe_int) pe_int)) pe_int))))))
      (pss_one (ps_ret (pe_lst (pa_cons (pv 2) (pa_cons pe_int (pa_cons (pv 1) (pa_cons pe_int pa_nil)))))))), ?_⟩
    refine ⟨Nat.zero_le _, fun b nb => ?_⟩
    have s0 := same_new (o := .lst []) nb
    refine ⟨_, _, rfl, ?_⟩
    refine ⟨.ref a, rfl, a, _, rfl, s0.seq hS, ?_⟩
    refine ⟨fun i n σ H1 => ∃ m gs y3 y4, σ = [some (.ref a), some (.int m), some (.ref b), y3, y4] ∧ i + n = ns.length ∧ Same H H1 ∧ H1 b = some (.lst (gs.map V.int)) ∧ gs.length ≤ i ∧ (∀ g ∈ gs, 0 ≤ g) ∧ 0 ≤ m ∧ m ≤ 10 ^ 29,
      ⟨ns.length, 60013, [], none, none, rfl, by omega, s0, upd_same, Nat.le_refl _, (fun g hg => absurd hg List.not_mem_nil), by decide, by decide⟩, fun i n σ H1 hW => ?_⟩
    obtain ⟨m, gs, y3, y4, rfl, en, sm, eb, gl, hg, m0, m1⟩ := hW
    have hA : SqL K H1 a (ns.map V.int) := sm.seq hS
    by_cases hi : i < ns.length
    · have g1 : (ns.map V.int)[i]? = some (.int ns[i]) := by rw [List.getElem?_map, List.getElem?_eq_getElem hi]; rfl
      refine .inr ⟨⟨_, _, hA, g1⟩, fun σ H2 => ∃ m gs y3 y4, σ = [some (.ref a), some (.int m), some (.ref b), y3, y4] ∧ Same H H2 ∧ H2 b = some (.lst (gs.map V.int)) ∧ gs.length ≤ i + 1 ∧ (∀ g ∈ gs, 0 ≤ g) ∧ 0 ≤ m ∧ m ≤ 10 ^ 29, fun σ H2 ⟨m, gs, y3, y4, e1, e2, e3, e4, e5, e6⟩ => ⟨n - 1, by omega, m, gs, y3, y4, e1, by omega, e2, e3, e4, e5, e6⟩, fun v H2 y => ?_⟩
      obtain ⟨T, z, rfl, nT, rfl, hz⟩ := y
      have ez := hz _ hA
      rw [g1] at ez
      cases ez
      have sT := same_new (o := .tup [.int (i : Nat), .int ns[i]]) nT
      refine ⟨T, _, rfl, .inl (.inl upd_same), rfl, _, _, rfl, _, _, rfl, rfl, ?_⟩
      have eb2 := sT _ _ eb
      have sm2 := sm.trans sT
      generalize upd H1 T (.tup [.int (i : Nat), .int ns[i]]) = H2 at eb2 sm2 ⊢
      refine ⟨_, rfl, _, _, rfl, rfl, ⟨by decide, by decide⟩, _, _, rfl, rfl, _, rfl, ite2 (fun e => ?_) (fun e => ?_)⟩
      · refine ⟨_, rfl, .inl ⟨rfl, _, SqL.of eb2⟩, _, rfl, _, _, rfl, rfl, ⟨by decide, by decide⟩, _, _, rfl, rfl, b, _, _, rfl, rfl, eb2, ?_, ?_⟩
        · rw [List.length_map]
          exact small1000 (by omega)
        · refine ⟨m, gs ++ [ns[i] - 10 ^ Int.toNat 18], _, _, rfl, fun y o ey => ?_, ?_, by rw [List.length_append]; exact Nat.succ_le_succ gl, fun g hg' => ?_, m0, m1⟩
          · rw [upd_ne (ne_of_none ey nb)]
            exact sm2 _ _ ey
          · rw [upd_same, List.map_append]; rfl
          · rcases List.mem_append.mp hg' with h | h
            · exact hg g h
            · have h : g = ns[i] - 10 ^ Int.toNat 18 := by simpa using h
              have e2 : (10 : Int) ^ Int.toNat 18 ≤ ns[i] := of_decide_eq_true e
              omega
      · have c1 : 0 ≤ ns[i] % (10 ^ Int.toNat 21 + 117) := Int.emod_nonneg _ (by decide +kernel)
        have c2 : ns[i] % (10 ^ Int.toNat 21 + 117) < 10 ^ Int.toNat 21 + 117 := Int.emod_lt_of_pos _ (by decide +kernel)
        have hb : (m + 31 * ((i : Nat) : Int) + ns[i] % (10 ^ Int.toNat 21 + 117)).natAbs < 2 ^ 120 := by
          have k1 : (10 : Int) ^ Int.toNat 21 + 117 ≤ 2 ^ 100 := by decide +kernel
          have k2 : (10 : Int) ^ 29 ≤ 2 ^ 100 := by decide +kernel
          have k3 : (2 : Int) ^ 120 = 2 ^ 100 * 1048576 := by decide +kernel
          have k4 : (1000000 : Int) ≤ 2 ^ 100 := by decide +kernel
          have k5 : m + 31 * ((i : Nat) : Int) + ns[i] % (10 ^ Int.toNat 21 + 117) < 2 ^ 120 := by
            rw [k3]
            generalize ns[i] % (10 ^ Int.toNat 21 + 117) = y at c1 c2 ⊢
            generalize (2 : Int) ^ 100 = z at *
            omega
          have k6 : 0 ≤ m + 31 * ((i : Nat) : Int) + ns[i] % (10 ^ Int.toNat 21 + 117) := by omega
          have : (((m + 31 * ((i : Nat) : Int) + ns[i] % (10 ^ Int.toNat 21 + 117)).natAbs : Nat) : Int) < ((2 ^ 120 : Nat) : Int) := by
            rw [Int.natAbs_of_nonneg k6]
            exact_mod_cast k5
          exact_mod_cast this
        have v1 := bits_lt hb
        refine ⟨_, rfl, _, rfl, _, _, rfl, rfl, .inl ⟨by decide, by decide⟩, _, _, rfl, rfl, _, rfl, .inl ⟨_, rfl, _, _, rfl, rfl, ⟨by decide, by decide⟩, _, _, rfl, rfl, _, _, rfl, rfl, (by show (0 : Int) < 10 ^ 21 + 117; decide +kernel), _, _, rfl, rfl, _, _, rfl, rfl, ⟨by decide, by omega⟩,
          .inl ⟨_, rfl, _, _, rfl, rfl, ⟨by decide, by decide⟩, _, _, rfl, rfl, _, _, rfl, rfl, (by show (0 : Int) < 10 ^ 28 + 331; decide +kernel), _, _, rfl, rfl, _, gs, _, _, rfl, sm2, eb2, Nat.le_succ_of_le gl, hg, ?_, ?_⟩⟩⟩
        · exact Int.add_nonneg (Int.emod_nonneg _ (by decide +kernel)) (by decide)
        · have z := Int.emod_lt_of_pos ((m + 31 * ((i : Nat) : Int) + ns[i] % (10 ^ Int.toNat 21 + 117)) ^ Int.toNat 3) (show (0 : Int) < 10 ^ Int.toNat 28 + 331 by decide +kernel)
          have k1 : (10 : Int) ^ Int.toNat 28 + 331 + 1 ≤ 10 ^ 29 := by decide +kernel
          omega
    · have ei : i = ns.length := by omega
      subst ei
      refine .inl ⟨⟨_, hA, by rw [List.length_map]; exact Nat.le_refl _⟩, ?_⟩
      refine ⟨_, rfl, _, rfl, by show 4 ≤ sizeLine; decide, fun p np => ?_⟩
      have npb : p ≠ b := fun z => by rw [z, eb] at np; cases np
      refine q _ p b (sm.trans (same_new np)) ?_ nb ⟨gs, 0, m, 0, upd_same, by rw [upd_ne npb.symm]; exact eb, npb, hg, by decide, m0, Int.le_trans m1 (by decide), by decide, by decide⟩
      cases e : H p with
      | none => rfl
      | some o => rw [sm p o e] at np; cases np

theorem ok_lowest (T : Txt K mg) : FnOk P w K mg base CX0 1 T.a_lowest T.d_lowest P_lowest (spW (K := K) poolA (aC eI (aC eI aN)) w_lowest eN) :=
  fn_R (k := 0) (wb := wb_lowest) (ρ' := fun z : Empty => nomatch z) T.F_lowest sc_lowest rfl (show 2 ≤ 3 by decide) fun cdv A outer s H E pp x hr => (re [Sl.sh eI x.1, Sl.sh eI x.2.1, Sl.nil] rfl (sx (nset 2 sc_lowest.nd (xcallG c_gcd T.m_gcd (axc (xv 0 rfl) (axc (xv 1 rfl) axn)))) fun _ v1 => (re [Sl.sh eI x.1, Sl.sh eI x.2.1, Sl.sh eI v1] rfl (sq_ (nifJ (fun r (s : Int) => (put r 2 (Sl.sh eI s))) (tcmp w_lt (xv 1 rfl) xint) (re [Sl.sh eI x.1, Sl.sh eI x.2.1, Sl.sh eI v1] rfl (sx (nset 2 sc_lowest.nd (xun w_neg (xv 2 rfl))) fun _ v10 => (re [Sl.sh eI x.1, Sl.sh eI x.2.1, Sl.sh eI v10] rfl (snil (s := (v10)) (Fit.eq (Fit.eq (Fit.eq Fit.nil))))))) (re [Sl.sh eI x.1, Sl.sh eI x.2.1, Sl.sh eI v1] rfl (snil (s := (v1)) (Fit.eq (Fit.eq (Fit.eq Fit.nil)))))) fun s12 => (re [Sl.sh eI x.1, Sl.sh eI x.2.1, Sl.sh eI s12] rfl (sret (xtup2 (axc (xop w_fdiv (xv 0 rfl) (xv 2 rfl)) (axc (xop w_fdiv (xv 1 rfl) (xv 2 rfl)) axn)))))))))
theorem ok_sum_two (T : Txt K mg) : FnOk P w K mg base CX0 2 T.a_sum_two T.d_sum_two P_sum_two (spW (K := K) poolA (aC eN (aC eN aN)) w_sum_two eN) :=
  fn_R (k := 1) (wb := wb_sum_two) (ρ' := fun z : Empty => nomatch z) T.F_sum_two sc_sum_two rfl (show 2 ≤ 2 by decide) fun cdv A outer s H E pp x hr => (re [Sl.sh eN x.1, Sl.sh eN x.2.1] rfl (sret (xcall (ok_lowest T) (hr.mono (by decide)) T.m_lowest T.F_lowest.kp (b_lowest T) (axc (xop0 w_add (xop w_mul (xfst (xv 0 rfl)) (xsnd (xv 1 rfl))) (xop w_mul (xfst (xv 1 rfl)) (xsnd (xv 0 rfl)))) (axc (xop w_mul (xsnd (xv 0 rfl)) (xsnd (xv 1 rfl))) axn)))))
theorem ok_product_two (T : Txt K mg) : FnOk P w K mg base CX0 2 T.a_product_two T.d_product_two P_product_two (spW (K := K) poolA (aC eN (aC eN aN)) w_product_two eN) :=
  fn_R (k := 1) (wb := wb_product_two) (ρ' := fun z : Empty => nomatch z) T.F_product_two sc_product_two rfl (show 2 ≤ 2 by decide) fun cdv A outer s H E pp x hr => (re [Sl.sh eN x.1, Sl.sh eN x.2.1] rfl (sret (xcall (ok_lowest T) (hr.mono (by decide)) T.m_lowest T.F_lowest.kp (b_lowest T) (axc (xop w_mul (xfst (xv 0 rfl)) (xfst (xv 1 rfl))) (axc (xop w_mul (xsnd (xv 0 rfl)) (xsnd (xv 1 rfl))) axn)))))
theorem ok_is_number (T : Txt K mg) : FnOk P w K mg base CX0 1 T.a_is_number T.d_is_number P_is_number (spW (K := K) poolA (aC eN aN) w_is_number eB) :=
  fn_R (k := 0) (wb := wb_is_number) (ρ' := fun z : Empty => nomatch z) T.F_is_number sc_is_number rfl (show 1 ≤ 1 by decide) fun cdv A outer s H E pp x hr => (re [Sl.sh eN x.1] rfl (sret (xand (xcmp w_ge (xsnd (xv 0 rfl)) xint) (xone (xcmp w_eqI (xcallG c_gcd T.m_gcd (axc (xfst (xv 0 rfl)) (axc (xsnd (xv 0 rfl)) axn))) xint)))))
theorem ok_checked (T : Txt K mg) : FnOk P w K mg base CX0 2 T.a_checked T.d_checked P_checked (spW (K := K) poolA (aC eN aN) w_checked eN) :=
  fn_R (k := 1) (wb := wb_checked) (ρ' := fun z : Empty => nomatch z) T.F_checked sc_checked rfl (show 1 ≤ 1 by decide) fun cdv A outer s H E pp x hr => (re [Sl.sh eN x.1] rfl (sq_ (nif0 (tnot (tval (xcall (ok_is_number T) (hr.mono (by decide)) T.m_is_number T.F_is_number.kp (b_is_number T) (axc (xv 0 rfl) axn)))) snever) fun _ => (re [Sl.sh eN x.1] rfl (sret (xv 0 rfl)))))
theorem ok_check_numbers (T : Txt K mg) : FnOk P w K mg base CX0 2 T.a_check_numbers T.d_check_numbers P_check_numbers (spW (K := K) poolA (aC (eL eN) aN) w_check_numbers eU) :=
  fn_U (k := 1) (wb := wb_check_numbers) (ρ' := fun _ : Unit => List.replicate 2 .nil) T.F_check_numbers sc_check_numbers rfl (show 1 ≤ 2 by decide) fun cdv A outer s H E pp x hr => (re [Sl.sh (eL eN) x.1, Sl.nil] rfl (sq_ (nforJ (fun r (_ : Unit) => r) (s0 := ()) PassesOwn.never rfl (wlistL 1 (xv 0 rfl)) (pg_name (i := 1) sc_check_numbers.nd rfl (by first | exact Or.inl rfl | exact Or.inr rfl)) (Fit.eq (Fit.eq Fit.nil)) (fun s74 y75 => (re [Sl.sh (eL eN) x.1, Sl.sh eN y75] rfl (sq_ (nif0 (tnot (tval (xcall (ok_is_number T) (hr.mono (by decide)) T.m_is_number T.F_is_number.kp (b_is_number T) (axc (xv 1 rfl) axn)))) snever) fun _ => (re [Sl.sh (eL eN) x.1, Sl.sh eN y75] rfl (snil (s := ()) (Fit.eq (Fit.dr Fit.nil)))))))) fun s80 => (re [Sl.sh (eL eN) x.1, Sl.nil] rfl (snil (s := ()) (Fit.dr (Fit.eq Fit.nil))))))
theorem ok_integers_of (T : Txt K mg) : FnOk P w K mg base CX0 1 T.a_integers_of T.d_integers_of P_integers_of (spW (K := K) poolA (aC (eL eN) aN) w_integers_of (eP (eL eI) eI)) :=
  fn_R (k := 0) (wb := wb_integers_of) (ρ' := fun z : Empty => nomatch z) T.F_integers_of sc_integers_of rfl (show 1 ≤ 3 by decide) fun cdv A outer s H E pp x hr => (re [Sl.sh (eL eN) x.1, Sl.nil, Sl.nil] rfl (sx (nset 1 sc_integers_of.nd xint) fun _ v81 => (re [Sl.sh (eL eN) x.1, Sl.sh eI v81, Sl.nil] rfl (sq_ (nforJ (fun r (s : Int) => (put r 1 (Sl.sh eI s))) (s0 := (v81)) PassesOwn.never rfl (wlistL 2 (xv 0 rfl)) (pg_name (i := 2) sc_integers_of.nd rfl (by first | exact Or.inl rfl | exact Or.inr rfl)) (Fit.eq (Fit.eq (Fit.eq Fit.nil))) (fun s82 y83 => (re [Sl.sh (eL eN) x.1, Sl.sh eI s82, Sl.sh eN y83] rfl (sx (nset 1 sc_integers_of.nd (xcallG c_lcm T.m_lcm (axc (xv 1 rfl) (axc (xsnd (xv 2 rfl)) axn)))) fun _ v84 => (re [Sl.sh (eL eN) x.1, Sl.sh eI v84, Sl.sh eN y83] rfl (snil (s := (v84)) (Fit.eq (Fit.eq (Fit.dr Fit.nil))))))))) fun s91 => (re [Sl.sh (eL eN) x.1, Sl.sh eI s91, Sl.nil] rfl (sret (xtup2 (axc (xfr (xlc (own := [(Str.ofString "number", 2)]) rfl sc_integers_of.nd (wlistL 2 (xv 0 rfl)) (blkOk_by (N := N_integers_of) (sc := defScope s_integers_of) (by decide +kernel)) (by decide) (nil1 rfl) (fun _ => rfl) (fun _ _ _ _ _ => (pg_name (i := 2) sc_integers_of.nd rfl (by first | exact Or.inl rfl | exact Or.inr rfl))) (fun _ _ _ _ _ y92 => (xop w_mul (xfst (xv 2 rfl)) (xop w_fdiv (xv 1 rfl) (xsnd (xv 2 rfl))))))) (axc (xv 1 rfl) axn)))))))))
theorem ok_numbers_of (T : Txt K mg) : FnOk P w K mg base CX0 2 T.a_numbers_of T.d_numbers_of P_numbers_of (spW (K := K) poolA (aC (eL eI) (aC eI aN)) w_numbers_of (eL eN)) :=
  fn_R (k := 1) (wb := wb_numbers_of) (ρ' := fun z : Empty => nomatch z) T.F_numbers_of sc_numbers_of rfl (show 2 ≤ 3 by decide) fun cdv A outer s H E pp x hr => (re [Sl.sh (eL eI) x.1, Sl.sh eI x.2.1, Sl.nil] rfl (sret (xfr (xlc (own := [(Str.ofString "integer", 2)]) rfl sc_numbers_of.nd (wlistL 2 (xv 0 rfl)) (blkOk_by (N := N_numbers_of) (sc := defScope s_numbers_of) (by decide +kernel)) (by decide) (nil1 rfl) (fun _ => rfl) (fun _ _ _ _ _ => (pg_name (i := 2) sc_numbers_of.nd rfl (by first | exact Or.inl rfl | exact Or.inr rfl))) (fun _ _ _ _ _ y106 => (xcall (ok_lowest T) (hr.mono (by decide)) T.m_lowest T.F_lowest.kp (b_lowest T) (axc (xv 2 rfl) (axc (xv 1 rfl) axn))))))))
theorem ok_nought_row (T : Txt K mg) : FnOk P w K mg base CX0 1 T.a_nought_row T.d_nought_row P_nought_row (spW (K := K) poolA (aC eI aN) w_nought_row (eL eN)) :=
  fn_R (k := 0) (wb := wb_nought_row) (ρ' := fun z : Empty => nomatch z) T.F_nought_row sc_nought_row rfl (show 1 ≤ 1 by decide) fun cdv A outer s H E pp x hr => (re [Sl.sh eI x.1] rfl (sret (xfr (xrepF (xlst (alc (xglob (v := .ref T.c_NOUGHT) rfl T.m_NOUGHT rfl (kTup_en T.k_NOUGHT)) (aln (en := eN)))) (xv 0 rfl)))))
theorem ok_unit_row (T : Txt K mg) : FnOk P w K mg base CX0 1 T.a_unit_row T.d_unit_row P_unit_row (spW (K := K) poolA (aC eI (aC eI aN)) w_unit_row (eL eN)) :=
  fn_R (k := 0) (wb := wb_unit_row) (ρ' := fun z : Empty => nomatch z) T.F_unit_row sc_unit_row rfl (show 2 ≤ 3 by decide) fun cdv A outer s H E pp x hr => (re [Sl.sh eI x.1, Sl.sh eI x.2.1, Sl.nil] rfl (sret (xfr (xlc (own := [(Str.ofString "spot", 2)]) rfl sc_unit_row.nd (wrange1 2 T.z_range (axc (xv 0 rfl) axn)) (blkOk_by (N := N_unit_row) (sc := defScope s_unit_row) (by decide +kernel)) (by decide) (nil1 rfl) (fun _ => rfl) (fun _ _ _ _ _ => (pg_name (i := 2) sc_unit_row.nd rfl (by first | exact Or.inl rfl | exact Or.inr rfl))) (fun _ _ _ _ _ y123 => (xif (tcmp w_eqI (xv 2 rfl) (xv 1 rfl)) (xglob (v := .ref T.c_ONE) rfl T.m_ONE rfl (kTup_en T.k_ONE)) (xglob (v := .ref T.c_NOUGHT) rfl T.m_NOUGHT rfl (kTup_en T.k_NOUGHT))))))))
theorem ok_plus_row (T : Txt K mg) : FnOk P w K mg base CX0 3 T.a_plus_row T.d_plus_row P_plus_row (spW (K := K) poolA (aC (eL eN) (aC (eL eN) aN)) w_plus_row (eL eN)) :=
  fn_R (k := 2) (wb := wb_plus_row) (ρ' := fun z : Empty => nomatch z) T.F_plus_row sc_plus_row rfl (show 2 ≤ 4 by decide) fun cdv A outer s H E pp x hr => (re [Sl.sh (eL eN) x.1, Sl.sh (eL eN) x.2.1, Sl.nil, Sl.nil] rfl (sret (xfr (xlc (own := [(Str.ofString "left", 2), (Str.ofString "right", 3)]) rfl sc_plus_row.nd (wzip 2 3 T.z_zip (axc (xv 0 rfl) (axc (xv 1 rfl) axn))) (blkOk_by (N := N_plus_row) (sc := defScope s_plus_row) (by decide +kernel)) (by decide) (nil2 rfl rfl) (fun _ => rfl) (fun _ _ _ _ _ => (pg_tup rfl (pgs_cons (pg_name (i := 2) sc_plus_row.nd rfl (by first | exact Or.inl rfl | exact Or.inr rfl)) (pgs_cons (pg_name (i := 3) sc_plus_row.nd rfl (by first | exact Or.inl rfl | exact Or.inr rfl)) pgs_nil)))) (fun _ _ _ _ _ y134 => (xcall (ok_sum_two T) (hr.mono (by decide)) T.m_sum_two T.F_sum_two.kp (b_sum_two T) (axc (xv 2 rfl) (axc (xv 3 rfl) axn))))))))
theorem ok_scaled_row (T : Txt K mg) : FnOk P w K mg base CX0 3 T.a_scaled_row T.d_scaled_row P_scaled_row (spW (K := K) poolA (aC eN (aC (eL eN) aN)) w_scaled_row (eL eN)) :=
  fn_R (k := 2) (wb := wb_scaled_row) (ρ' := fun z : Empty => nomatch z) T.F_scaled_row sc_scaled_row rfl (show 2 ≤ 3 by decide) fun cdv A outer s H E pp x hr => (re [Sl.sh eN x.1, Sl.sh (eL eN) x.2.1, Sl.nil] rfl (sret (xfr (xlc (own := [(Str.ofString "number", 2)]) rfl sc_scaled_row.nd (wlistL 2 (xv 1 rfl)) (blkOk_by (N := N_scaled_row) (sc := defScope s_scaled_row) (by decide +kernel)) (by decide) (nil1 rfl) (fun _ => rfl) (fun _ _ _ _ _ => (pg_name (i := 2) sc_scaled_row.nd rfl (by first | exact Or.inl rfl | exact Or.inr rfl))) (fun _ _ _ _ _ y141 => (xcall (ok_product_two T) (hr.mono (by decide)) T.m_product_two T.F_product_two.kp (b_product_two T) (axc (xv 0 rfl) (axc (xv 2 rfl) axn))))))))
theorem ok_combination (T : Txt K mg) : FnOk P w K mg base CX0 3 T.a_combination T.d_combination P_combination (spW (K := K) poolA (aC (eL eN) (aC (eL (eL eN)) (aC eI aN))) w_combination (eL eN)) :=
  fn_R (k := 2) (wb := wb_combination) (ρ' := fun z : Empty => nomatch z) T.F_combination sc_combination rfl (show 3 ≤ 13 by decide) fun cdv A outer s H E pp x hr => (re [Sl.sh (eL eN) x.1, Sl.sh (eL (eL eN)) x.2.1, Sl.sh eI x.2.2.1, Sl.nil, Sl.nil, Sl.nil, Sl.nil, Sl.nil, Sl.nil, Sl.nil, Sl.nil, Sl.nil, Sl.nil] rfl (sx (npair 3 4 rfl sc_combination.nd (xcall (ok_integers_of T) (hr.mono (by decide)) T.m_integers_of T.F_integers_of.kp (b_integers_of T) (axc (xv 0 rfl) axn))) fun _ v148 => (re [Sl.sh (eL eN) x.1, Sl.sh (eL (eL eN)) x.2.1, Sl.sh eI x.2.2.1, Sl.sh (eL eI) v148.1, Sl.sh eI v148.2, Sl.nil, Sl.nil, Sl.nil, Sl.nil, Sl.nil, Sl.nil, Sl.nil, Sl.nil] rfl (sx (nset 5 sc_combination.nd (xcall (ok_integers_of T) (hr.mono (by decide)) T.m_integers_of T.F_integers_of.kp (b_integers_of T) (axc (xfr (by apply xlc2 (own := [(Str.ofString "row", 6), (Str.ofString "number", 7)]) (vs1 := [7]) (ext1 := fun r z => (put r 7 (Sl.sh eN z))) (js1 := [7]) (g1 := gName 7) rfl sc_combination.nd (wlistL 6 (xv 1 rfl)); (case ok => exact blkOk_by (N := N_combination) (sc := defScope s_combination) (by decide +kernel)); (case hi1 => exact fun _ _ _ _ _ y152 => (wlistL 7 (xv 6 rfl))); (case hg => exact fun _ _ _ _ _ => (pg_name (i := 6) sc_combination.nd rfl (by first | exact Or.inl rfl | exact Or.inr rfl))); (case hg1 => exact fun _ _ _ _ _ => (pg_name (i := 7) sc_combination.nd rfl (by first | exact Or.inl rfl | exact Or.inr rfl))); (case he => exact fun _ _ _ _ _ y152 y153 => (xv 7 rfl)); (case hv1 => exact (by decide)); (case hj => exact (by decide)); (case hn => exact (nil2 rfl rfl)); (case ho => exact fun _ => rfl); (case hj1 => exact (by decide)); (case hn1 => exact fun _ => (nil1 rfl)); (case ho1 => exact fun _ _ => rfl))) axn))) fun _ v151 => (re [Sl.sh (eL eN) x.1, Sl.sh (eL (eL eN)) x.2.1, Sl.sh eI x.2.2.1, Sl.sh (eL eI) v148.1, Sl.sh eI v148.2, Sl.sh (eP (eL eI) eI) v151, Sl.nil, Sl.nil, Sl.nil, Sl.nil, Sl.nil, Sl.nil, Sl.nil] rfl (sx (nown (nsetFe 8 sc_combination.nd (xrepF (xlst (alc xint (aln (en := eI)))) (xv 2 rfl)))) fun p161 v156 => (re [Sl.sh (eL eN) x.1, Sl.sh (eL (eL eN)) x.2.1, Sl.sh eI x.2.2.1, Sl.sh (eL eI) v148.1, Sl.sh eI v148.2, Sl.sh (eP (eL eI) eI) v151, Sl.nil, Sl.nil, Sl.ow p161 (oL eI) v156, Sl.nil, Sl.nil, Sl.nil, Sl.nil] rfl (sq_ (nforJ (fun r (s : (List Int)) => (put r 8 (Sl.ow p161 (oL eI) s))) (s0 := (v156)) PassesOwn.never rfl (wenum 9 10 T.z_enumerate (axc (xv 3 rfl) axn)) (pg_tup rfl (pgs_cons (pg_name (i := 9) sc_combination.nd rfl (by first | exact Or.inl rfl | exact Or.inr rfl)) (pgs_cons (pg_name (i := 10) sc_combination.nd rfl (by first | exact Or.inl rfl | exact Or.inr rfl)) pgs_nil))) (Fit.eq (Fit.eq (Fit.eq (Fit.eq (Fit.eq (Fit.eq (Fit.eq (Fit.eq (Fit.eq (Fit.eq (Fit.eq (Fit.eq (Fit.eq Fit.nil))))))))))))) (fun s165 y166 => (re [Sl.sh (eL eN) x.1, Sl.sh (eL (eL eN)) x.2.1, Sl.sh eI x.2.2.1, Sl.sh (eL eI) v148.1, Sl.sh eI v148.2, Sl.sh (eP (eL eI) eI) v151, Sl.nil, Sl.nil, Sl.ow p161 (oL eI) s165, Sl.sh eI y166.1, Sl.sh eI y166.2, Sl.nil, Sl.nil] rfl (sq_ (nifJ (fun r (s : (List Int)) => (put r 8 (Sl.ow p161 (oL eI) s))) (tcmp w_neI (xv 10 rfl) xint) (re [Sl.sh (eL eN) x.1, Sl.sh (eL (eL eN)) x.2.1, Sl.sh eI x.2.2.1, Sl.sh (eL eI) v148.1, Sl.sh eI v148.2, Sl.sh (eP (eL eI) eI) v151, Sl.nil, Sl.nil, Sl.ow p161 (oL eI) s165, Sl.sh eI y166.1, Sl.sh eI y166.2, Sl.nil, Sl.nil] rfl (sq_ (nforJ (fun r (s : (List Int)) => (put r 8 (Sl.ow p161 (oL eI) s))) (s0 := (s165)) PassesOwn.never rfl (wenum 11 12 T.z_enumerate (axc (xslice (xfst (xv 5 rfl)) (on_some (xop w_mul (xv 9 rfl) (xv 2 rfl))) (on_some (xop0 w_add (xop w_mul (xv 9 rfl) (xv 2 rfl)) (xv 2 rfl)))) axn)) (pg_tup rfl (pgs_cons (pg_name (i := 11) sc_combination.nd rfl (by first | exact Or.inl rfl | exact Or.inr rfl)) (pgs_cons (pg_name (i := 12) sc_combination.nd rfl (by first | exact Or.inl rfl | exact Or.inr rfl)) pgs_nil))) (Fit.eq (Fit.eq (Fit.eq (Fit.eq (Fit.eq (Fit.eq (Fit.eq (Fit.eq (Fit.eq (Fit.eq (Fit.eq (Fit.eq (Fit.eq Fit.nil))))))))))))) (fun s185 y186 => (re [Sl.sh (eL eN) x.1, Sl.sh (eL (eL eN)) x.2.1, Sl.sh eI x.2.2.1, Sl.sh (eL eI) v148.1, Sl.sh eI v148.2, Sl.sh (eP (eL eI) eI) v151, Sl.nil, Sl.nil, Sl.ow p161 (oL eI) s185, Sl.sh eI y166.1, Sl.sh eI y166.2, Sl.sh eI y186.1, Sl.sh eI y186.2] rfl (sx (naugix 8 rfl (xop w_mul (xv 10 rfl) (xv 12 rfl)) (xv 11 rfl) wi_add) fun _ v189 => (re [Sl.sh (eL eN) x.1, Sl.sh (eL (eL eN)) x.2.1, Sl.sh eI x.2.2.1, Sl.sh (eL eI) v148.1, Sl.sh eI v148.2, Sl.sh (eP (eL eI) eI) v151, Sl.nil, Sl.nil, Sl.ow p161 (oL eI) (s185.set ((ixN s185.length v189.1).getD 0) v189.2), Sl.sh eI y166.1, Sl.sh eI y166.2, Sl.sh eI y186.1, Sl.sh eI y186.2] rfl (snil (s := ((s185.set ((ixN s185.length v189.1).getD 0) v189.2))) (Fit.eq (Fit.eq (Fit.eq (Fit.eq (Fit.eq (Fit.eq (Fit.eq (Fit.eq (Fit.eq (Fit.eq (Fit.eq (Fit.dr (Fit.dr Fit.nil))))))))))))))))))) fun s192 => (re [Sl.sh (eL eN) x.1, Sl.sh (eL (eL eN)) x.2.1, Sl.sh eI x.2.2.1, Sl.sh (eL eI) v148.1, Sl.sh eI v148.2, Sl.sh (eP (eL eI) eI) v151, Sl.nil, Sl.nil, Sl.ow p161 (oL eI) s192, Sl.sh eI y166.1, Sl.sh eI y166.2, Sl.nil, Sl.nil] rfl (snil (s := (s192)) (Fit.eq (Fit.eq (Fit.eq (Fit.eq (Fit.eq (Fit.eq (Fit.eq (Fit.eq (Fit.eq (Fit.eq (Fit.eq (Fit.eq (Fit.eq Fit.nil))))))))))))))))) (re [Sl.sh (eL eN) x.1, Sl.sh (eL (eL eN)) x.2.1, Sl.sh eI x.2.2.1, Sl.sh (eL eI) v148.1, Sl.sh eI v148.2, Sl.sh (eP (eL eI) eI) v151, Sl.nil, Sl.nil, Sl.ow p161 (oL eI) s165, Sl.sh eI y166.1, Sl.sh eI y166.2, Sl.nil, Sl.nil] rfl (snil (s := (s165)) (Fit.eq (Fit.eq (Fit.eq (Fit.eq (Fit.eq (Fit.eq (Fit.eq (Fit.eq (Fit.eq (Fit.eq (Fit.eq (Fit.eq (Fit.eq Fit.nil)))))))))))))))) fun s193 => (re [Sl.sh (eL eN) x.1, Sl.sh (eL (eL eN)) x.2.1, Sl.sh eI x.2.2.1, Sl.sh (eL eI) v148.1, Sl.sh eI v148.2, Sl.sh (eP (eL eI) eI) v151, Sl.nil, Sl.nil, Sl.ow p161 (oL eI) s193, Sl.sh eI y166.1, Sl.sh eI y166.2, Sl.nil, Sl.nil] rfl (snil (s := (s193)) (Fit.eq (Fit.eq (Fit.eq (Fit.eq (Fit.eq (Fit.eq (Fit.eq (Fit.eq (Fit.eq (Fit.dr (Fit.dr (Fit.eq (Fit.eq Fit.nil))))))))))))))))))) fun s194 => (re [Sl.sh (eL eN) x.1, Sl.sh (eL (eL eN)) x.2.1, Sl.sh eI x.2.2.1, Sl.sh (eL eI) v148.1, Sl.sh eI v148.2, Sl.sh (eP (eL eI) eI) v151, Sl.nil, Sl.nil, Sl.ow p161 (oL eI) s194, Sl.nil, Sl.nil, Sl.nil, Sl.nil] rfl (nfreeze 8 rfl (re [Sl.sh (eL eN) x.1, Sl.sh (eL (eL eN)) x.2.1, Sl.sh eI x.2.2.1, Sl.sh (eL eI) v148.1, Sl.sh eI v148.2, Sl.sh (eP (eL eI) eI) v151, Sl.nil, Sl.nil, Sl.sh (eL eI) s194, Sl.nil, Sl.nil, Sl.nil, Sl.nil] rfl (sret (xcall (ok_numbers_of T) (hr.mono (by decide)) T.m_numbers_of T.F_numbers_of.kp (b_numbers_of T) (axc (xv 8 rfl) (axc (xop w_mul (xv 4 rfl) (xsnd (xv 5 rfl))) axn)))))))))))))))
theorem ok_check_rows (T : Txt K mg) : FnOk P w K mg base CX0 3 T.a_check_rows T.d_check_rows P_check_rows (spW (K := K) poolA (aC (eL (eL eN)) (aC eI aN)) w_check_rows eU) :=
  fn_U (k := 2) (wb := wb_check_rows) (ρ' := fun _ : Unit => List.replicate 3 .nil) T.F_check_rows sc_check_rows rfl (show 2 ≤ 3 by decide) fun cdv A outer s H E pp x hr => (re [Sl.sh (eL (eL eN)) x.1, Sl.sh eI x.2.1, Sl.nil] rfl (sq_ (nforJ (fun r (_ : Unit) => r) (s0 := ()) PassesOwn.never rfl (wlistL 2 (xv 0 rfl)) (pg_name (i := 2) sc_check_rows.nd rfl (by first | exact Or.inl rfl | exact Or.inr rfl)) (Fit.eq (Fit.eq (Fit.eq Fit.nil))) (fun s203 y204 => (re [Sl.sh (eL (eL eN)) x.1, Sl.sh eI x.2.1, Sl.sh (eL eN) y204] rfl (sx (nexpr (xcall (ok_check_numbers T) (hr.mono (by decide)) T.m_check_numbers T.F_check_numbers.kp (b_check_numbers T) (axc (xv 2 rfl) axn))) fun _ _ => (re [Sl.sh (eL (eL eN)) x.1, Sl.sh eI x.2.1, Sl.sh (eL eN) y204] rfl (snil (s := ()) (Fit.eq (Fit.eq (Fit.dr Fit.nil))))))))) fun s207 => (re [Sl.sh (eL (eL eN)) x.1, Sl.sh eI x.2.1, Sl.nil] rfl (sq_ (nforJ (fun r (_ : Unit) => r) (s0 := ()) PassesOwn.never rfl (wlistL 2 (xv 0 rfl)) (pg_name (i := 2) sc_check_rows.nd rfl (by first | exact Or.inl rfl | exact Or.inr rfl)) (Fit.eq (Fit.eq (Fit.eq Fit.nil))) (fun s208 y209 => (re [Sl.sh (eL (eL eN)) x.1, Sl.sh eI x.2.1, Sl.sh (eL eN) y209] rfl (sq_ (nif0 (tcmp w_neI (xcallB c_len T.z_len (by decide +kernel) (axc (xv 2 rfl) axn)) (xv 1 rfl)) snever) fun _ => (re [Sl.sh (eL (eL eN)) x.1, Sl.sh eI x.2.1, Sl.sh (eL eN) y209] rfl (snil (s := ()) (Fit.eq (Fit.eq (Fit.dr Fit.nil))))))))) fun s216 => (re [Sl.sh (eL (eL eN)) x.1, Sl.sh eI x.2.1, Sl.nil] rfl (snil (s := ()) (Fit.dr (Fit.dr (Fit.eq Fit.nil)))))))))
theorem ok_number (T : Txt K mg) : FnOk P w K mg base CX0 2 T.a_number T.d_number P_number (spW (K := K) poolA (aC eI (aC eI aN)) w_number eN) :=
  fn_R (k := 1) (wb := wb_number) (ρ' := fun z : Empty => nomatch z) T.F_number sc_number rfl (show 2 ≤ 2 by decide) fun cdv A outer s H E pp x hr => (re [Sl.sh eI x.1, Sl.sh eI x.2.1] rfl (sq_ (nif0 (tcmp w_eqI (xv 1 rfl) xint) snever) fun _ => (re [Sl.sh eI x.1, Sl.sh eI x.2.1] rfl (sret (xcall (ok_lowest T) (hr.mono (by decide)) T.m_lowest T.F_lowest.kp (b_lowest T) (axc (xv 0 rfl) (axc (xv 1 rfl) axn)))))))
theorem ok_unit (T : Txt K mg) : FnOk P w K mg base CX0 2 T.a_unit T.d_unit P_unit (spW (K := K) poolA (aC eI (aC eI aN)) w_unit (eL eN)) :=
  fn_R (k := 1) (wb := wb_unit) (ρ' := fun z : Empty => nomatch z) T.F_unit sc_unit rfl (show 2 ≤ 2 by decide) fun cdv A outer s H E pp x hr => (re [Sl.sh eI x.1, Sl.sh eI x.2.1] rfl (sq_ (nif0 (tw (wor (tcmp w_lt (xv 1 rfl) xint) (wor1 (tcmp w_ge (xv 1 rfl) (xv 0 rfl))))) snever) fun _ => (re [Sl.sh eI x.1, Sl.sh eI x.2.1] rfl (sret (xcall (ok_unit_row T) (hr.mono (by decide)) T.m_unit_row T.F_unit_row.kp (b_unit_row T) (axc (xv 0 rfl) (axc (xv 1 rfl) axn)))))))
theorem ok_noughts (T : Txt K mg) : FnOk P w K mg base CX0 2 T.a_noughts T.d_noughts P_noughts (spW (K := K) poolA (aC eI aN) w_noughts (eL eN)) :=
  fn_R (k := 1) (wb := wb_noughts) (ρ' := fun z : Empty => nomatch z) T.F_noughts sc_noughts rfl (show 1 ≤ 1 by decide) fun cdv A outer s H E pp x hr => (re [Sl.sh eI x.1] rfl (sret (xcall (ok_nought_row T) (hr.mono (by decide)) T.m_nought_row T.F_nought_row.kp (b_nought_row T) (axc (xv 0 rfl) axn))))
theorem ok_sum_of (T : Txt K mg) : FnOk P w K mg base CX0 4 T.a_sum_of T.d_sum_of P_sum_of (spW (K := K) poolA (aC (eL eN) (aC (eL eN) aN)) w_sum_of (eL eN)) :=
  fn_R (k := 3) (wb := wb_sum_of) (ρ' := fun z : Empty => nomatch z) T.F_sum_of sc_sum_of rfl (show 2 ≤ 2 by decide) fun cdv A outer s H E pp x hr => (re [Sl.sh (eL eN) x.1, Sl.sh (eL eN) x.2.1] rfl (sx (nexpr (xcall (ok_check_numbers T) (hr.mono (by decide)) T.m_check_numbers T.F_check_numbers.kp (b_check_numbers T) (axc (xop w_cat (xv 0 rfl) (xv 1 rfl)) axn))) fun _ _ => (re [Sl.sh (eL eN) x.1, Sl.sh (eL eN) x.2.1] rfl (sq_ (nif0 (tcmp w_neI (xcallB c_len T.z_len (by decide +kernel) (axc (xv 0 rfl) axn)) (xcallB c_len T.z_len (by decide +kernel) (axc (xv 1 rfl) axn))) snever) fun _ => (re [Sl.sh (eL eN) x.1, Sl.sh (eL eN) x.2.1] rfl (sret (xcall (ok_plus_row T) (hr.mono (by decide)) T.m_plus_row T.F_plus_row.kp (b_plus_row T) (axc (xv 0 rfl) (axc (xv 1 rfl) axn)))))))))
theorem ok_times (T : Txt K mg) : FnOk P w K mg base CX0 4 T.a_times T.d_times P_times (spW (K := K) poolA (aC eN (aC (eL eN) aN)) w_times (eL eN)) :=
  fn_R (k := 3) (wb := wb_times) (ρ' := fun z : Empty => nomatch z) T.F_times sc_times rfl (show 2 ≤ 2 by decide) fun cdv A outer s H E pp x hr => (re [Sl.sh eN x.1, Sl.sh (eL eN) x.2.1] rfl (sx (nexpr (xcall (ok_checked T) (hr.mono (by decide)) T.m_checked T.F_checked.kp (b_checked T) (axc (xv 0 rfl) axn))) fun _ _ => (re [Sl.sh eN x.1, Sl.sh (eL eN) x.2.1] rfl (sx (nexpr (xcall (ok_check_numbers T) (hr.mono (by decide)) T.m_check_numbers T.F_check_numbers.kp (b_check_numbers T) (axc (xv 1 rfl) axn))) fun _ _ => (re [Sl.sh eN x.1, Sl.sh (eL eN) x.2.1] rfl (sret (xcall (ok_scaled_row T) (hr.mono (by decide)) T.m_scaled_row T.F_scaled_row.kp (b_scaled_row T) (axc (xv 0 rfl) (axc (xv 1 rfl) axn)))))))))
theorem ok_combined (T : Txt K mg) : FnOk P w K mg base CX0 4 T.a_combined T.d_combined P_combined (spW (K := K) poolA (aC (eL eN) (aC (eL (eL eN)) (aC eI aN))) w_combined (eL eN)) :=
  fn_R (k := 3) (wb := wb_combined) (ρ' := fun z : Empty => nomatch z) T.F_combined sc_combined rfl (show 3 ≤ 3 by decide) fun cdv A outer s H E pp x hr => (re [Sl.sh (eL eN) x.1, Sl.sh (eL (eL eN)) x.2.1, Sl.sh eI x.2.2.1] rfl (sx (nexpr (xcall (ok_check_numbers T) (hr.mono (by decide)) T.m_check_numbers T.F_check_numbers.kp (b_check_numbers T) (axc (xv 0 rfl) axn))) fun _ _ => (re [Sl.sh (eL eN) x.1, Sl.sh (eL (eL eN)) x.2.1, Sl.sh eI x.2.2.1] rfl (sx (nexpr (xcall (ok_check_rows T) (hr.mono (by decide)) T.m_check_rows T.F_check_rows.kp (b_check_rows T) (axc (xv 1 rfl) (axc (xv 2 rfl) axn)))) fun _ _ => (re [Sl.sh (eL eN) x.1, Sl.sh (eL (eL eN)) x.2.1, Sl.sh eI x.2.2.1] rfl (sq_ (nif0 (tcmp w_neI (xcallB c_len T.z_len (by decide +kernel) (axc (xv 0 rfl) axn)) (xcallB c_len T.z_len (by decide +kernel) (axc (xv 1 rfl) axn))) snever) fun _ => (re [Sl.sh (eL eN) x.1, Sl.sh (eL (eL eN)) x.2.1, Sl.sh eI x.2.2.1] rfl (sret (xcall (ok_combination T) (hr.mono (by decide)) T.m_combination T.F_combination.kp (b_combination T) (axc (xv 0 rfl) (axc (xv 1 rfl) (axc (xv 2 rfl) axn))))))))))))
theorem ok_law_low (T : Txt K mg) : FnOk P w K mg base CX0 1 T.a_law_low T.d_law_low P_law_low (spW (K := K) poolA (aC eI (aC eI aN)) w_law_low eN) :=
  fn_R (k := 0) (wb := wb_law_low) (ρ' := fun z : Empty => nomatch z) T.F_law_low sc_law_low rfl (show 2 ≤ 4 by decide) fun cdv A outer s H E pp x hr => (re [Sl.sh eI x.1, Sl.sh eI x.2.1, Sl.nil, Sl.nil] rfl (sx (npar 2 3 rfl sc_law_low.nd (axc (xcallB c_abs T.z_abs (by decide +kernel) (axc (xv 0 rfl) axn)) (axc (xcallB c_abs T.z_abs (by decide +kernel) (axc (xv 1 rfl) axn)) axn))) fun _ v288 => (re [Sl.sh eI x.1, Sl.sh eI x.2.1, Sl.sh eI v288.1, Sl.sh eI v288.2.1] rfl (sq_ (nwhileJ (fun r (s : Int × Int) => (put (put r 2 (Sl.sh eI s.1)) 3 (Sl.sh eI s.2))) (s0 := (v288.1, v288.2.1)) (Int.toNat v288.2.1 + 1) PassesOwn.never (Fit.eq (Fit.eq (Fit.eq (Fit.eq Fit.nil)))) (fun s299 => (tcmp w_neI (xv 3 rfl) xint)) (fun s299 => (re [Sl.sh eI x.1, Sl.sh eI x.2.1, Sl.sh eI s299.1, Sl.sh eI s299.2] rfl (sx (npar 2 3 rfl sc_law_low.nd (axc (xv 3 rfl) (axc (xop w_mod (xcallT c_int T.z_int (by decide +kernel) (axc (xv 2 rfl) axn)) (xv 3 rfl)) axn))) fun _ v302 => (re [Sl.sh eI x.1, Sl.sh eI x.2.1, Sl.sh eI v302.1, Sl.sh eI v302.2.1] rfl (snil (s := (v302.1, v302.2.1)) (Fit.eq (Fit.eq (Fit.eq (Fit.eq Fit.nil)))))))))) fun s312 => (re [Sl.sh eI x.1, Sl.sh eI x.2.1, Sl.sh eI s312.1, Sl.sh eI s312.2] rfl (sret (xif (tcmp w_gt (xv 1 rfl) xint) (xtup2 (axc (xop w_fdiv (xv 0 rfl) (xv 2 rfl)) (axc (xop w_fdiv (xv 1 rfl) (xv 2 rfl)) axn))) (xtup2 (axc (xop w_fdiv (xun w_neg (xv 0 rfl)) (xv 2 rfl)) (axc (xop w_fdiv (xun w_neg (xv 1 rfl)) (xv 2 rfl)) axn))))))))))
theorem ok_law_add (T : Txt K mg) : FnOk P w K mg base CX0 2 T.a_law_add T.d_law_add P_law_add (spW (K := K) poolA (aC eN (aC eN aN)) w_law_add eN) :=
  fn_R (k := 1) (wb := wb_law_add) (ρ' := fun z : Empty => nomatch z) T.F_law_add sc_law_add rfl (show 2 ≤ 2 by decide) fun cdv A outer s H E pp x hr => (re [Sl.sh eN x.1, Sl.sh eN x.2.1] rfl (sret (xcall (ok_law_low T) (hr.mono (by decide)) T.m_law_low T.F_law_low.kp (b_law_low T) (axc (xop0 w_add (xop w_mul (xfst (xv 0 rfl)) (xsnd (xv 1 rfl))) (xop w_mul (xfst (xv 1 rfl)) (xsnd (xv 0 rfl)))) (axc (xop w_mul (xsnd (xv 0 rfl)) (xsnd (xv 1 rfl))) axn)))))
theorem ok_law_mul (T : Txt K mg) : FnOk P w K mg base CX0 2 T.a_law_mul T.d_law_mul P_law_mul (spW (K := K) poolA (aC eN (aC eN aN)) w_law_mul eN) :=
  fn_R (k := 1) (wb := wb_law_mul) (ρ' := fun z : Empty => nomatch z) T.F_law_mul sc_law_mul rfl (show 2 ≤ 2 by decide) fun cdv A outer s H E pp x hr => (re [Sl.sh eN x.1, Sl.sh eN x.2.1] rfl (sret (xcall (ok_law_low T) (hr.mono (by decide)) T.m_law_low T.F_law_low.kp (b_law_low T) (axc (xop w_mul (xfst (xv 0 rfl)) (xfst (xv 1 rfl))) (axc (xop w_mul (xsnd (xv 0 rfl)) (xsnd (xv 1 rfl))) axn)))))
theorem ok_law_number (T : Txt K mg) : FnOk P w K mg base CX0 2 T.a_law_number T.d_law_number P_law_number (spW (K := K) poolA (aPl (aC eB aN)) w_law_number eN) :=
  fn_R (k := 1) (wb := wb_law_number) (ρ' := fun z : Empty => nomatch z) T.F_law_number sc_law_number rfl (show 2 ≤ 6 by decide) fun cdv A outer s H E pp x hr => (re [Sl.pl, Sl.sh eB x.1, Sl.nil, Sl.nil, Sl.nil, Sl.nil] rfl (sx (nset 2 sc_law_number.nd (xcall (ok_law_pick T.F_law_pick T.z_int) (hr.mono (by decide)) T.m_law_pick T.F_law_pick.kp (b_law_pick T) (axp 0 rfl (axc xint axn)))) fun _ v369 => (re [Sl.pl, Sl.sh eB x.1, Sl.sh eI v369, Sl.nil, Sl.nil, Sl.nil] rfl (sq_ (nif0 (tcmp w_lt (xv 2 rfl) xint) (re [Sl.pl, Sl.sh eB x.1, Sl.sh eI v369, Sl.nil, Sl.nil, Sl.nil] rfl (sret (xtup2 (axc (xv 2 rfl) (axc xint axn)))))) fun _ => (re [Sl.pl, Sl.sh eB x.1, Sl.sh eI v369, Sl.nil, Sl.nil, Sl.nil] rfl (sx (nset 3 sc_law_number.nd (xif (tval (xv 1 rfl)) (xix w_ixL (xlst (alc xint (alc xint (alc xint (alc xint (alc xint (aln (en := eI)))))))) (xop0 w_sub (xv 2 rfl) xint)) xint)) fun _ v381 => (re [Sl.pl, Sl.sh eB x.1, Sl.sh eI v369, Sl.sh eI v381, Sl.nil, Sl.nil] rfl (sx (npar 4 5 rfl sc_law_number.nd (axc (xop0 w_add xint (xcall (ok_law_pick T.F_law_pick T.z_int) (hr.mono (by decide)) T.m_law_pick T.F_law_pick.kp (b_law_pick T) (axp 0 rfl (axc (xv 3 rfl) axn)))) (axc (xop0 w_add xint (xcall (ok_law_pick T.F_law_pick T.z_int) (hr.mono (by decide)) T.m_law_pick T.F_law_pick.kp (b_law_pick T) (axp 0 rfl (axc (xix w_ixL (xlst (alc xint (alc (xv 3 rfl) (aln (en := eI))))) (xcall (ok_law_pick T.F_law_pick T.z_int) (hr.mono (by decide)) T.m_law_pick T.F_law_pick.kp (b_law_pick T) (axp 0 rfl (axc xint axn)))) axn)))) axn))) fun _ v397 => (re [Sl.pl, Sl.sh eB x.1, Sl.sh eI v369, Sl.sh eI v381, Sl.sh eI v397.1, Sl.sh eI v397.2.1] rfl (sret (xcall (ok_law_low T) (hr.mono (by decide)) T.m_law_low T.F_law_low.kp (b_law_low T) (axc (xix w_ixL (xlst (alc (xv 4 rfl) (alc (xun w_neg (xv 4 rfl)) (aln (en := eI))))) (xcall (ok_law_pick T.F_law_pick T.z_int) (hr.mono (by decide)) T.m_law_pick T.F_law_pick.kp (b_law_pick T) (axp 0 rfl (axc xint axn)))) (axc (xv 5 rfl) axn)))))))))))))
theorem ok_law_alike (T : Txt K mg) : ∀ n : Nat, FnOk P w K mg base CX0 (1 + n) T.a_law_alike T.d_law_alike P_law_alike (spW (K := K) poolA (aC eD (aC eD aN)) (w_law_alike n) eB)
  | 0 => fn_R (k := 0) (wb := fun _ => stuck) (ρ' := fun z : Empty => nomatch z) T.F_law_alike sc_law_alike rfl (show 2 ≤ 4 by decide) fun cdv A outer s H E pp x hr => snever
  | n + 1 =>
    have ih := ok_law_alike T n
    fn_R (k := 1 + n) (ρ' := fun z : Empty => nomatch z) T.F_law_alike sc_law_alike rfl (show 2 ≤ 4 by decide) fun cdv A outer s H E pp x hr => (re [Sl.sh eD x.1, Sl.sh eD x.2.1, Sl.nil, Sl.nil] rfl (sq_ (nif0 (tisND (xv 1 rfl)) (re [Sl.sh eD x.1, Sl.sh eD x.2.1, Sl.nil, Sl.nil] rfl (sret (xisND (xv 0 rfl))))) fun _ => (re [Sl.sh eD x.1, Sl.sh eD x.2.1, Sl.nil, Sl.nil] rfl (sq_ (nif0 (tval (xisi2 T.z_isinstance T.z_list (by decide +kernel) (by decide) T.z_tuple (by decide +kernel) (by decide) (xv 1 rfl))) (re [Sl.sh eD x.1, Sl.sh eD x.2.1, Sl.nil, Sl.nil] rfl (sx (nset 2 sc_law_alike.nd (xif (tval (xisi T.z_isinstance T.z_list (by decide +kernel) (by decide) (xv 1 rfl))) (xisi T.z_isinstance T.z_list (by decide +kernel) (by decide) (xv 0 rfl)) (xisi T.z_isinstance T.z_tuple (by decide +kernel) (by decide) (xv 0 rfl)))) fun _ v438 => (re [Sl.sh eD x.1, Sl.sh eD x.2.1, Sl.sh eB v438, Sl.nil] rfl (sq_ (nif0 (tw (wor (tnot (tval (xv 2 rfl))) (wor1 (tcmp w_neI (xcallB c_lenD T.z_len (by decide +kernel) (axc (xv 0 rfl) axn)) (xcallB c_lenD T.z_len (by decide +kernel) (axc (xv 1 rfl) axn)))))) (re [Sl.sh eD x.1, Sl.sh eD x.2.1, Sl.sh eB v438, Sl.nil] rfl (sret xbl))) fun _ => (re [Sl.sh eD x.1, Sl.sh eD x.2.1, Sl.sh eB v438, Sl.nil] rfl (sq_ (nforJ (fun r (_ : Unit) => r) (s0 := ()) PassesOwn.never rfl (wrange1 3 T.z_range (axc (xcallB c_lenD T.z_len (by decide +kernel) (axc (xv 1 rfl) axn)) axn)) (pg_name (i := 3) sc_law_alike.nd rfl (by first | exact Or.inl rfl | exact Or.inr rfl)) (Fit.eq (Fit.eq (Fit.eq (Fit.eq Fit.nil)))) (fun s461 y462 => (re [Sl.sh eD x.1, Sl.sh eD x.2.1, Sl.sh eB v438, Sl.sh eI y462] rfl (sq_ (nif0 (tnot (tval (xcall ih hr T.m_law_alike T.F_law_alike.kp (b_law_alike T) (axc (xix w_ixD (xv 0 rfl) (xv 3 rfl)) (axc (xix w_ixD (xv 1 rfl) (xv 3 rfl)) axn))))) (re [Sl.sh eD x.1, Sl.sh eD x.2.1, Sl.sh eB v438, Sl.sh eI y462] rfl (sret xbl))) fun _ => (re [Sl.sh eD x.1, Sl.sh eD x.2.1, Sl.sh eB v438, Sl.sh eI y462] rfl (snil (s := ()) (Fit.eq (Fit.eq (Fit.eq (Fit.dr Fit.nil)))))))))) fun s474 => (re [Sl.sh eD x.1, Sl.sh eD x.2.1, Sl.sh eB v438, Sl.nil] rfl (sret xbl))))))))) fun _ => (re [Sl.sh eD x.1, Sl.sh eD x.2.1, Sl.nil, Sl.nil] rfl (sret (xand (xisi T.z_isinstance T.z_int (by decide +kernel) (by decide) (xv 0 rfl)) (xand (xcmp w_eqB (xisi T.z_isinstance T.z_bool (by decide +kernel) (by decide) (xv 0 rfl)) (xisi T.z_isinstance T.z_bool (by decide +kernel) (by decide) (xv 1 rfl))) (xone (xcmpG (w_eqDD hr.units) (xv 0 rfl) (xv 1 rfl)))))))))))
theorem ok_law_line (T : Txt K mg) : FnOk P w K mg base CX0 3 T.a_law_line T.d_law_line P_law_line (spW (K := K) poolA (aPl (aC eI (aC eB aN))) w_law_line (eL eN)) :=
  fn_R (k := 2) (wb := wb_law_line) (ρ' := fun z : Empty => nomatch z) T.F_law_line sc_law_line rfl (show 3 ≤ 6 by decide) fun cdv A outer s H E pp x hr => (re [Sl.pl, Sl.sh eI x.1, Sl.sh eB x.2.1, Sl.nil, Sl.nil, Sl.nil] rfl (sq_ (nif0 (tcmp w_le (xv 1 rfl) xint) (re [Sl.pl, Sl.sh eI x.1, Sl.sh eB x.2.1, Sl.nil, Sl.nil, Sl.nil] rfl (sret (xfr (xlc (own := [(Str.ofString "_law_k", 3)]) rfl sc_law_line.nd (wrange1 3 T.z_range (axc (xv 1 rfl) axn)) (blkOk_by (N := N_law_line) (sc := defScope s_law_line) (by decide +kernel)) (by decide) (nil1 rfl) (fun _ => rfl) (fun _ _ _ _ _ => (pg_name (i := 3) sc_law_line.nd rfl (by first | exact Or.inl rfl | exact Or.inr rfl))) (fun _ _ _ _ _ y492 => (xcall (ok_law_number T) (hr.mono (by decide)) T.m_law_number T.F_law_number.kp (b_law_number T) (axp 0 rfl (axc (xv 2 rfl) axn))))))))) fun _ => (re [Sl.pl, Sl.sh eI x.1, Sl.sh eB x.2.1, Sl.nil, Sl.nil, Sl.nil] rfl (sq_ (nif0 (tcmp w_eqI (xcall (ok_law_pick T.F_law_pick T.z_int) (hr.mono (by decide)) T.m_law_pick T.F_law_pick.kp (b_law_pick T) (axp 0 rfl (axc xint axn))) xint) (re [Sl.pl, Sl.sh eI x.1, Sl.sh eB x.2.1, Sl.nil, Sl.nil, Sl.nil] rfl (sret (xfr (xlc (own := [(Str.ofString "_law_k", 3)]) rfl sc_law_line.nd (wrange1 3 T.z_range (axc (xv 1 rfl) axn)) (blkOk_by (N := N_law_line) (sc := defScope s_law_line) (by decide +kernel)) (by decide) (nil1 rfl) (fun _ => rfl) (fun _ _ _ _ _ => (pg_name (i := 3) sc_law_line.nd rfl (by first | exact Or.inl rfl | exact Or.inr rfl))) (fun _ _ _ _ _ y505 => (xtup2 (axc (xop0 w_sub (xcall (ok_law_pick T.F_law_pick T.z_int) (hr.mono (by decide)) T.m_law_pick T.F_law_pick.kp (b_law_pick T) (axp 0 rfl (axc xint axn))) xint) (axc xint axn))))))))) fun _ => (re [Sl.pl, Sl.sh eI x.1, Sl.sh eB x.2.1, Sl.nil, Sl.nil, Sl.nil] rfl (sx (nown (nsetFe 4 sc_law_line.nd (xrepF (xlst (alc (xtup2 (axc xint (axc xint axn))) (aln (en := eN)))) (xv 1 rfl)))) fun p527 v517 => (re [Sl.pl, Sl.sh eI x.1, Sl.sh eB x.2.1, Sl.nil, Sl.ow p527 (oL eN) v517, Sl.nil] rfl (sq_ (nforJ (fun r (s : (List (Int × Int))) => (put r 4 (Sl.ow p527 (oL eN) s))) (s0 := (v517)) PassesOwn.never rfl (wrange1 5 T.z_range (axc (xop0 w_add xint (xcall (ok_law_pick T.F_law_pick T.z_int) (hr.mono (by decide)) T.m_law_pick T.F_law_pick.kp (b_law_pick T) (axp 0 rfl (axc xint axn)))) axn)) (pg_name (i := 5) sc_law_line.nd rfl (by first | exact Or.inl rfl | exact Or.inr rfl)) (Fit.eq (Fit.eq (Fit.eq (Fit.eq (Fit.eq (Fit.eq Fit.nil)))))) (fun s535 y536 => (re [Sl.pl, Sl.sh eI x.1, Sl.sh eB x.2.1, Sl.nil, Sl.ow p527 (oL eN) s535, Sl.sh eI y536] rfl (sx (nsetix 4 rfl (xcall (ok_law_number T) (hr.mono (by decide)) T.m_law_number T.F_law_number.kp (b_law_number T) (axp 0 rfl (axc (xv 2 rfl) axn))) (xcall (ok_law_pick T.F_law_pick T.z_int) (hr.mono (by decide)) T.m_law_pick T.F_law_pick.kp (b_law_pick T) (axp 0 rfl (axc (xv 1 rfl) axn)))) fun _ v541 => (re [Sl.pl, Sl.sh eI x.1, Sl.sh eB x.2.1, Sl.nil, Sl.ow p527 (oL eN) (s535.set ((ixN s535.length v541.1).getD 0) v541.2), Sl.sh eI y536] rfl (snil (s := ((s535.set ((ixN s535.length v541.1).getD 0) v541.2))) (Fit.eq (Fit.eq (Fit.eq (Fit.eq (Fit.eq (Fit.dr Fit.nil)))))))))))) fun s544 => (re [Sl.pl, Sl.sh eI x.1, Sl.sh eB x.2.1, Sl.nil, Sl.ow p527 (oL eN) s544, Sl.nil] rfl (nfreeze 4 rfl (re [Sl.pl, Sl.sh eI x.1, Sl.sh eB x.2.1, Sl.nil, Sl.sh (eL eN) s544, Sl.nil] rfl (sret (xv 4 rfl)))))))))))))
theorem ok_law_numbers_right (T : Txt K mg) : FnOk P w K mg base CX0 8 T.a_law_numbers_right T.d_law_numbers_right P_law_numbers_right (spW (K := K) poolA (aPl aN) w_law_numbers_right eB) :=
  fn_R (k := 7) (wb := wb_law_numbers_right) (ρ' := fun z : Empty => nomatch z) T.F_law_numbers_right sc_law_numbers_right rfl (show 1 ≤ 8 by decide) fun cdv A outer s H E pp x hr => (re [Sl.pl, Sl.nil, Sl.nil, Sl.nil, Sl.nil, Sl.nil, Sl.nil, Sl.nil] rfl (sx (npar 1 2 rfl sc_law_numbers_right.nd (axc (xop0 w_add xint (xcall (ok_law_pick T.F_law_pick T.z_int) (hr.mono (by decide)) T.m_law_pick T.F_law_pick.kp (b_law_pick T) (axp 0 rfl (axc xint axn)))) (axc (xop0 w_sub (xcall (ok_law_pick T.F_law_pick T.z_int) (hr.mono (by decide)) T.m_law_pick T.F_law_pick.kp (b_law_pick T) (axp 0 rfl (axc xint axn))) xint) axn))) fun _ v546 => (re [Sl.pl, Sl.sh eI v546.1, Sl.sh eI v546.2.1, Sl.nil, Sl.nil, Sl.nil, Sl.nil, Sl.nil] rfl (sx (nset 3 sc_law_numbers_right.nd (xop w_mul (xop0 w_add xint (xcall (ok_law_pick T.F_law_pick T.z_int) (hr.mono (by decide)) T.m_law_pick T.F_law_pick.kp (b_law_pick T) (axp 0 rfl (axc xint axn)))) (xix w_ixL (xlst (alc xint (alc (xun w_neg xint) (aln (en := eI))))) (xcall (ok_law_pick T.F_law_pick T.z_int) (hr.mono (by decide)) T.m_law_pick T.F_law_pick.kp (b_law_pick T) (axp 0 rfl (axc xint axn)))))) fun _ v559 => (re [Sl.pl, Sl.sh eI v546.1, Sl.sh eI v546.2.1, Sl.sh eI v559, Sl.nil, Sl.nil, Sl.nil, Sl.nil] rfl (sq_ (nifJ (fun r (s : Int × Int × Int) => (put (put (put r 1 (Sl.sh eI s.1)) 2 (Sl.sh eI s.2.1)) 3 (Sl.sh eI s.2.2))) (tcmp w_eqI (xcall (ok_law_pick T.F_law_pick T.z_int) (hr.mono (by decide)) T.m_law_pick T.F_law_pick.kp (b_law_pick T) (axp 0 rfl (axc xint axn))) xint) (re [Sl.pl, Sl.sh eI v546.1, Sl.sh eI v546.2.1, Sl.sh eI v559, Sl.nil, Sl.nil, Sl.nil, Sl.nil] rfl (sx (npar 1 2 rfl sc_law_numbers_right.nd (axc xint (axc (xop0 w_sub (xcall (ok_law_pick T.F_law_pick T.z_int) (hr.mono (by decide)) T.m_law_pick T.F_law_pick.kp (b_law_pick T) (axp 0 rfl (axc xint axn))) xint) axn))) fun _ v580 => (re [Sl.pl, Sl.sh eI v580.1, Sl.sh eI v580.2.1, Sl.sh eI v559, Sl.nil, Sl.nil, Sl.nil, Sl.nil] rfl (sx (nset 3 sc_law_numbers_right.nd (xop w_mul (xix w_ixL (xlst (alc xint (alc (xun w_neg xint) (aln (en := eI))))) (xcall (ok_law_pick T.F_law_pick T.z_int) (hr.mono (by decide)) T.m_law_pick T.F_law_pick.kp (b_law_pick T) (axp 0 rfl (axc xint axn)))) (xop0 w_add xint (xcall (ok_law_pick T.F_law_pick T.z_int) (hr.mono (by decide)) T.m_law_pick T.F_law_pick.kp (b_law_pick T) (axp 0 rfl (axc xint axn)))))) fun _ v589 => (re [Sl.pl, Sl.sh eI v580.1, Sl.sh eI v580.2.1, Sl.sh eI v589, Sl.nil, Sl.nil, Sl.nil, Sl.nil] rfl (snil (s := (v580.1, v580.2.1, v589)) (Fit.eq (Fit.eq (Fit.eq (Fit.eq (Fit.eq (Fit.eq (Fit.eq (Fit.eq Fit.nil)))))))))))))) (re [Sl.pl, Sl.sh eI v546.1, Sl.sh eI v546.2.1, Sl.sh eI v559, Sl.nil, Sl.nil, Sl.nil, Sl.nil] rfl (snil (s := (v546.1, v546.2.1, v559)) (Fit.eq (Fit.eq (Fit.eq (Fit.eq (Fit.eq (Fit.eq (Fit.eq (Fit.eq Fit.nil))))))))))) fun s605 => (re [Sl.pl, Sl.sh eI s605.1, Sl.sh eI s605.2.1, Sl.sh eI s605.2.2, Sl.nil, Sl.nil, Sl.nil, Sl.nil] rfl (sx (nset 4 sc_law_numbers_right.nd (xcall (ok_law_low T) (hr.mono (by decide)) T.m_law_low T.F_law_low.kp (b_law_low T) (axc (xop w_mul (xv 1 rfl) (xv 2 rfl)) (axc (xop w_mul (xv 1 rfl) (xv 3 rfl)) axn)))) fun _ v606 => (re [Sl.pl, Sl.sh eI s605.1, Sl.sh eI s605.2.1, Sl.sh eI s605.2.2, Sl.sh eN v606, Sl.nil, Sl.nil, Sl.nil] rfl (sq_ (nif0 (tnot (tval (xcall (ok_law_alike T 6) (hr.mono (by decide)) T.m_law_alike T.F_law_alike.kp (b_law_alike T) (axc (xD (tdP tdI tdI) (xcall (ok_number T) (hr.mono (by decide)) T.m_number T.F_number.kp (b_number T) (axc (xop w_mul (xv 1 rfl) (xv 2 rfl)) (axc (xop w_mul (xv 1 rfl) (xv 3 rfl)) axn)))) (axc (xD (tdP tdI tdI) (xv 4 rfl)) axn))))) (re [Sl.pl, Sl.sh eI s605.1, Sl.sh eI s605.2.1, Sl.sh eI s605.2.2, Sl.sh eN v606, Sl.nil, Sl.nil, Sl.nil] rfl (sret xbl))) fun _ => (re [Sl.pl, Sl.sh eI s605.1, Sl.sh eI s605.2.1, Sl.sh eI s605.2.2, Sl.sh eN v606, Sl.nil, Sl.nil, Sl.nil] rfl (sq_ (nif0 (tnot (tval (xcall (ok_law_alike T 6) (hr.mono (by decide)) T.m_law_alike T.F_law_alike.kp (b_law_alike T) (axc (xD (tdP tdI tdI) (xcallK _ (ok_number T) (hr.mono (by decide)) T.m_number T.F_number.kp (kb_number_1_0 T) (kxc (xop w_mul (xun w_neg (xv 1 rfl)) (xv 3 rfl)) (kxc (xop w_mul (xv 1 rfl) (xv 2 rfl)) kxn)) kb_number_1_0_pm)) (axc (xD (tdP tdI tdI) (xtup2 (axc (xun w_neg (xfst (xv 4 rfl))) (axc (xsnd (xv 4 rfl)) axn)))) axn))))) (re [Sl.pl, Sl.sh eI s605.1, Sl.sh eI s605.2.1, Sl.sh eI s605.2.2, Sl.sh eN v606, Sl.nil, Sl.nil, Sl.nil] rfl (sret xbl))) fun _ => (re [Sl.pl, Sl.sh eI s605.1, Sl.sh eI s605.2.1, Sl.sh eI s605.2.2, Sl.sh eN v606, Sl.nil, Sl.nil, Sl.nil] rfl (sx (nset 5 sc_law_numbers_right.nd (xop0 w_add xint (xcall (ok_law_pick T.F_law_pick T.z_int) (hr.mono (by decide)) T.m_law_pick T.F_law_pick.kp (b_law_pick T) (axp 0 rfl (axc (xix w_ixL (xlst (alc xint (alc xint (aln (en := eI))))) (xcall (ok_law_pick T.F_law_pick T.z_int) (hr.mono (by decide)) T.m_law_pick T.F_law_pick.kp (b_law_pick T) (axp 0 rfl (axc xint axn)))) axn))))) fun _ v659 => (re [Sl.pl, Sl.sh eI s605.1, Sl.sh eI s605.2.1, Sl.sh eI s605.2.2, Sl.sh eN v606, Sl.sh eI v659, Sl.nil, Sl.nil] rfl (sx (nset 6 sc_law_numbers_right.nd (xcall (ok_law_pick T.F_law_pick T.z_int) (hr.mono (by decide)) T.m_law_pick T.F_law_pick.kp (b_law_pick T) (axp 0 rfl (axc (xv 5 rfl) axn)))) fun _ v672 => (re [Sl.pl, Sl.sh eI s605.1, Sl.sh eI s605.2.1, Sl.sh eI s605.2.2, Sl.sh eN v606, Sl.sh eI v659, Sl.sh eI v672, Sl.nil] rfl (sx (nsetF (xlcS 4 (own := [(Str.ofString "_law_k", 7)]) rfl sc_law_numbers_right.nd (wrange1 7 T.z_range (axc (xv 5 rfl) axn)) (blkOk_by (N := N_law_numbers_right) (sc := defScope s_law_numbers_right) (by decide +kernel)) (by decide) (nil1 rfl) (fun _ => rfl) (fun _ _ _ _ _ => (pg_name (i := 7) sc_law_numbers_right.nd rfl (by first | exact Or.inl rfl | exact Or.inr rfl))) (fun _ _ _ _ _ y679 => (xtup2 (axc (xcallT c_intB T.z_int (by decide +kernel) (axc (xcmp w_eqI (xv 7 rfl) (xv 6 rfl)) axn)) (axc xint axn)))) (sw_true rfl rfl rfl (by decide +kernel)))) fun _ v675 => (re [Sl.pl, Sl.sh eI s605.1, Sl.sh eI s605.2.1, Sl.sh eI s605.2.2, Sl.sh (eL eN) v675, Sl.sh eI v659, Sl.sh eI v672, Sl.nil] rfl (sq_ (nif0 (tw (wor (tnot (tval (xcall (ok_law_alike T 6) (hr.mono (by decide)) T.m_law_alike T.F_law_alike.kp (b_law_alike T) (axc (xD (tdL (tdP tdI tdI)) (xcall (ok_unit T) (hr.mono (by decide)) T.m_unit T.F_unit.kp (b_unit T) (axc (xv 5 rfl) (axc (xv 6 rfl) axn)))) (axc (xD (tdL (tdP tdI tdI)) (xv 4 rfl)) axn))))) (wor1 (tnot (tval (xcall (ok_law_alike T 6) (hr.mono (by decide)) T.m_law_alike T.F_law_alike.kp (b_law_alike T) (axc (xD (tdL (tdP tdI tdI)) (xcallK _ (ok_unit T) (hr.mono (by decide)) T.m_unit T.F_unit.kp (kb_unit_1_0 T) (kxc (xv 6 rfl) (kxc (xv 5 rfl) kxn)) kb_unit_1_0_pm)) (axc (xD (tdL (tdP tdI tdI)) (xv 4 rfl)) axn)))))))) (re [Sl.pl, Sl.sh eI s605.1, Sl.sh eI s605.2.1, Sl.sh eI s605.2.2, Sl.sh (eL eN) v675, Sl.sh eI v659, Sl.sh eI v672, Sl.nil] rfl (sret xbl))) fun _ => (re [Sl.pl, Sl.sh eI s605.1, Sl.sh eI s605.2.1, Sl.sh eI s605.2.2, Sl.sh (eL eN) v675, Sl.sh eI v659, Sl.sh eI v672, Sl.nil] rfl (sret (xand (xcall (ok_law_alike T 6) (hr.mono (by decide)) T.m_law_alike T.F_law_alike.kp (b_law_alike T) (axc (xD (tdL (tdP tdI tdI)) (xcall (ok_noughts T) (hr.mono (by decide)) T.m_noughts T.F_noughts.kp (b_noughts T) (axc (xv 5 rfl) axn))) (axc (xD (tdL (tdP tdI tdI)) (xfr (xrepF (xlst (alc (xtup2 (axc xint (axc xint axn))) (aln (en := eN)))) (xv 5 rfl)))) axn))) (xone (xcall (ok_law_alike T 6) (hr.mono (by decide)) T.m_law_alike T.F_law_alike.kp (b_law_alike T) (axc (xD (tdL (tdP tdI tdI)) (xcallK _ (ok_noughts T) (hr.mono (by decide)) T.m_noughts T.F_noughts.kp (kb_noughts_0 T) (kxc xint kxn) kb_noughts_0_pm)) (axc (xD (tdL (tdP tdI tdI)) (xlst (alc (xtup2 (axc xint (axc xint axn))) (aln (en := eN))))) axn)))))))))))))))))))))))))))
theorem ok_law_two_right (T : Txt K mg) : FnOk P w K mg base CX0 8 T.a_law_two_right T.d_law_two_right P_law_two_right (spW (K := K) poolA (aPl aN) w_law_two_right eB) :=
  fn_R (k := 7) (wb := wb_law_two_right) (ρ' := fun z : Empty => nomatch z) T.F_law_two_right sc_law_two_right rfl (show 1 ≤ 12 by decide) fun cdv A outer s H E pp x hr => (re [Sl.pl, Sl.nil, Sl.nil, Sl.nil, Sl.nil, Sl.nil, Sl.nil, Sl.nil, Sl.nil, Sl.nil, Sl.nil, Sl.nil] rfl (sx (nset 1 sc_law_two_right.nd (xop0 w_add xint (xcall (ok_law_pick T.F_law_pick T.z_int) (hr.mono (by decide)) T.m_law_pick T.F_law_pick.kp (b_law_pick T) (axp 0 rfl (axc (xix w_ixL (xlst (alc xint (alc xint (alc xint (aln (en := eI)))))) (xcall (ok_law_pick T.F_law_pick T.z_int) (hr.mono (by decide)) T.m_law_pick T.F_law_pick.kp (b_law_pick T) (axp 0 rfl (axc xint axn)))) axn))))) fun _ v759 => (re [Sl.pl, Sl.sh eI v759, Sl.nil, Sl.nil, Sl.nil, Sl.nil, Sl.nil, Sl.nil, Sl.nil, Sl.nil, Sl.nil, Sl.nil] rfl (sx (nset 2 sc_law_two_right.nd (xcmp w_eqI (xcall (ok_law_pick T.F_law_pick T.z_int) (hr.mono (by decide)) T.m_law_pick T.F_law_pick.kp (b_law_pick T) (axp 0 rfl (axc xint axn))) xint)) fun _ v774 => (re [Sl.pl, Sl.sh eI v759, Sl.sh eB v774, Sl.nil, Sl.nil, Sl.nil, Sl.nil, Sl.nil, Sl.nil, Sl.nil, Sl.nil, Sl.nil] rfl (sx (npar 3 4 rfl sc_law_two_right.nd (axc (xcall (ok_law_line T) (hr.mono (by decide)) T.m_law_line T.F_law_line.kp (b_law_line T) (axp 0 rfl (axc (xv 1 rfl) (axc (xv 2 rfl) axn)))) (axc (xcall (ok_law_line T) (hr.mono (by decide)) T.m_law_line T.F_law_line.kp (b_law_line T) (axp 0 rfl (axc (xv 1 rfl) (axc (xv 2 rfl) axn)))) axn))) fun _ v779 => (re [Sl.pl, Sl.sh eI v759, Sl.sh eB v774, Sl.sh (eL eN) v779.1, Sl.sh (eL eN) v779.2.1, Sl.nil, Sl.nil, Sl.nil, Sl.nil, Sl.nil, Sl.nil, Sl.nil] rfl (sq_ (nifJ (fun r (s : (List (Int × Int))) => (put r 4 (Sl.sh (eL eN) s))) (tcmp w_eqI (xcall (ok_law_pick T.F_law_pick T.z_int) (hr.mono (by decide)) T.m_law_pick T.F_law_pick.kp (b_law_pick T) (axp 0 rfl (axc xint axn))) xint) (re [Sl.pl, Sl.sh eI v759, Sl.sh eB v774, Sl.sh (eL eN) v779.1, Sl.sh (eL eN) v779.2.1, Sl.nil, Sl.nil, Sl.nil, Sl.nil, Sl.nil, Sl.nil, Sl.nil] rfl (sx (nsetF (xlcS 4 (own := [(Str.ofString "_law_one", 5)]) rfl sc_law_two_right.nd (wlistL 5 (xv 3 rfl)) (blkOk_by (N := N_law_two_right) (sc := defScope s_law_two_right) (by decide +kernel)) (by decide) (nil1 rfl) (fun _ => rfl) (fun _ _ _ _ _ => (pg_name (i := 5) sc_law_two_right.nd rfl (by first | exact Or.inl rfl | exact Or.inr rfl))) (fun _ _ _ _ _ y798 => (xif (tcmp w_eqI (xcall (ok_law_pick T.F_law_pick T.z_int) (hr.mono (by decide)) T.m_law_pick T.F_law_pick.kp (b_law_pick T) (axp 0 rfl (axc xint axn))) xint) (xtup2 (axc (xun w_neg (xfst (xv 5 rfl))) (axc (xsnd (xv 5 rfl)) axn))) (xv 5 rfl))) (sw_true rfl rfl rfl (by decide +kernel)))) fun _ v797 => (re [Sl.pl, Sl.sh eI v759, Sl.sh eB v774, Sl.sh (eL eN) v779.1, Sl.sh (eL eN) v797, Sl.nil, Sl.nil, Sl.nil, Sl.nil, Sl.nil, Sl.nil, Sl.nil] rfl (snil (s := (v797)) (Fit.eq (Fit.eq (Fit.eq (Fit.eq (Fit.eq (Fit.eq (Fit.eq (Fit.eq (Fit.eq (Fit.eq (Fit.eq (Fit.eq Fit.nil)))))))))))))))) (re [Sl.pl, Sl.sh eI v759, Sl.sh eB v774, Sl.sh (eL eN) v779.1, Sl.sh (eL eN) v779.2.1, Sl.nil, Sl.nil, Sl.nil, Sl.nil, Sl.nil, Sl.nil, Sl.nil] rfl (snil (s := (v779.2.1)) (Fit.eq (Fit.eq (Fit.eq (Fit.eq (Fit.eq (Fit.eq (Fit.eq (Fit.eq (Fit.eq (Fit.eq (Fit.eq (Fit.eq Fit.nil))))))))))))))) fun s813 => (re [Sl.pl, Sl.sh eI v759, Sl.sh eB v774, Sl.sh (eL eN) v779.1, Sl.sh (eL eN) s813, Sl.nil, Sl.nil, Sl.nil, Sl.nil, Sl.nil, Sl.nil, Sl.nil] rfl (sx (nset 6 sc_law_two_right.nd (xcall (ok_law_number T) (hr.mono (by decide)) T.m_law_number T.F_law_number.kp (b_law_number T) (axp 0 rfl (axc (xv 2 rfl) axn)))) fun _ v814 => (re [Sl.pl, Sl.sh eI v759, Sl.sh eB v774, Sl.sh (eL eN) v779.1, Sl.sh (eL eN) s813, Sl.nil, Sl.sh eN v814, Sl.nil, Sl.nil, Sl.nil, Sl.nil, Sl.nil] rfl (sx (npar 7 8 rfl sc_law_two_right.nd (axc (xcallT c_list T.z_list (by decide +kernel) (axc (xR (xv 3 rfl)) axn)) (axc (xcallT c_list T.z_list (by decide +kernel) (axc (xR (xv 4 rfl)) axn)) axn))) fun _ v817 => (re [Sl.pl, Sl.sh eI v759, Sl.sh eB v774, Sl.sh (eL eN) v779.1, Sl.sh (eL eN) s813, Sl.nil, Sl.sh eN v814, Sl.sh (eL eN) v817.1, Sl.sh (eL eN) v817.2.1, Sl.nil, Sl.nil, Sl.nil] rfl (sx (nsetF (xlcS 9 (own := [(Str.ofString "_law_a", 10), (Str.ofString "_law_b", 11)]) rfl sc_law_two_right.nd (wzip 10 11 T.z_zip (axc (xv 3 rfl) (axc (xv 4 rfl) axn))) (blkOk_by (N := N_law_two_right) (sc := defScope s_law_two_right) (by decide +kernel)) (by decide) (nil2 rfl rfl) (fun _ => rfl) (fun _ _ _ _ _ => (pg_tup rfl (pgs_cons (pg_name (i := 10) sc_law_two_right.nd rfl (by first | exact Or.inl rfl | exact Or.inr rfl)) (pgs_cons (pg_name (i := 11) sc_law_two_right.nd rfl (by first | exact Or.inl rfl | exact Or.inr rfl)) pgs_nil)))) (fun _ _ _ _ _ y834 => (xcall (ok_law_add T) (hr.mono (by decide)) T.m_law_add T.F_law_add.kp (b_law_add T) (axc (xv 10 rfl) (axc (xv 11 rfl) axn)))) (sw_true rfl rfl rfl (by decide +kernel)))) fun _ v828 => (re [Sl.pl, Sl.sh eI v759, Sl.sh eB v774, Sl.sh (eL eN) v779.1, Sl.sh (eL eN) s813, Sl.nil, Sl.sh eN v814, Sl.sh (eL eN) v817.1, Sl.sh (eL eN) v817.2.1, Sl.sh (eL eN) v828, Sl.nil, Sl.nil] rfl (sq_ (nif0 (tw (wor (tnot (tval (xcall (ok_law_alike T 6) (hr.mono (by decide)) T.m_law_alike T.F_law_alike.kp (b_law_alike T) (axc (xD (tdL (tdP tdI tdI)) (xcall (ok_sum_of T) (hr.mono (by decide)) T.m_sum_of T.F_sum_of.kp (b_sum_of T) (axc (xv 7 rfl) (axc (xv 8 rfl) axn)))) (axc (xD (tdL (tdP tdI tdI)) (xv 9 rfl)) axn))))) (wor1 (tnot (tval (xcall (ok_law_alike T 6) (hr.mono (by decide)) T.m_law_alike T.F_law_alike.kp (b_law_alike T) (axc (xD (tdL (tdP tdI tdI)) (xcallK _ (ok_sum_of T) (hr.mono (by decide)) T.m_sum_of T.F_sum_of.kp (kb_sum_of_1_0 T) (kxc (xv 7 rfl) (kxc (xv 8 rfl) kxn)) kb_sum_of_1_0_pm)) (axc (xD (tdL (tdP tdI tdI)) (xv 9 rfl)) axn)))))))) (re [Sl.pl, Sl.sh eI v759, Sl.sh eB v774, Sl.sh (eL eN) v779.1, Sl.sh (eL eN) s813, Sl.nil, Sl.sh eN v814, Sl.sh (eL eN) v817.1, Sl.sh (eL eN) v817.2.1, Sl.sh (eL eN) v828, Sl.nil, Sl.nil] rfl (sret xbl))) fun _ => (re [Sl.pl, Sl.sh eI v759, Sl.sh eB v774, Sl.sh (eL eN) v779.1, Sl.sh (eL eN) s813, Sl.nil, Sl.sh eN v814, Sl.sh (eL eN) v817.1, Sl.sh (eL eN) v817.2.1, Sl.sh (eL eN) v828, Sl.nil, Sl.nil] rfl (sx (nsetF (xlcS 9 (own := [(Str.ofString "_law_a", 10)]) rfl sc_law_two_right.nd (wlistL 10 (xv 3 rfl)) (blkOk_by (N := N_law_two_right) (sc := defScope s_law_two_right) (by decide +kernel)) (by decide) (nil1 rfl) (fun _ => rfl) (fun _ _ _ _ _ => (pg_name (i := 10) sc_law_two_right.nd rfl (by first | exact Or.inl rfl | exact Or.inr rfl))) (fun _ _ _ _ _ y867 => (xcall (ok_law_mul T) (hr.mono (by decide)) T.m_law_mul T.F_law_mul.kp (b_law_mul T) (axc (xv 6 rfl) (axc (xv 10 rfl) axn)))) (sw_true rfl rfl rfl (by decide +kernel)))) fun _ v866 => (re [Sl.pl, Sl.sh eI v759, Sl.sh eB v774, Sl.sh (eL eN) v779.1, Sl.sh (eL eN) s813, Sl.nil, Sl.sh eN v814, Sl.sh (eL eN) v817.1, Sl.sh (eL eN) v817.2.1, Sl.sh (eL eN) v866, Sl.nil, Sl.nil] rfl (sq_ (nif0 (tw (wor (tnot (tval (xcall (ok_law_alike T 6) (hr.mono (by decide)) T.m_law_alike T.F_law_alike.kp (b_law_alike T) (axc (xD (tdL (tdP tdI tdI)) (xcall (ok_times T) (hr.mono (by decide)) T.m_times T.F_times.kp (b_times T) (axc (xv 6 rfl) (axc (xv 7 rfl) axn)))) (axc (xD (tdL (tdP tdI tdI)) (xv 9 rfl)) axn))))) (wor1 (tnot (tval (xcall (ok_law_alike T 6) (hr.mono (by decide)) T.m_law_alike T.F_law_alike.kp (b_law_alike T) (axc (xD (tdL (tdP tdI tdI)) (xcallK _ (ok_times T) (hr.mono (by decide)) T.m_times T.F_times.kp (kb_times_1_0 T) (kxc (xv 7 rfl) (kxc (xv 6 rfl) kxn)) kb_times_1_0_pm)) (axc (xD (tdL (tdP tdI tdI)) (xv 9 rfl)) axn)))))))) (re [Sl.pl, Sl.sh eI v759, Sl.sh eB v774, Sl.sh (eL eN) v779.1, Sl.sh (eL eN) s813, Sl.nil, Sl.sh eN v814, Sl.sh (eL eN) v817.1, Sl.sh (eL eN) v817.2.1, Sl.sh (eL eN) v866, Sl.nil, Sl.nil] rfl (sret xbl))) fun _ => (re [Sl.pl, Sl.sh eI v759, Sl.sh eB v774, Sl.sh (eL eN) v779.1, Sl.sh (eL eN) s813, Sl.nil, Sl.sh eN v814, Sl.sh (eL eN) v817.1, Sl.sh (eL eN) v817.2.1, Sl.sh (eL eN) v866, Sl.nil, Sl.nil] rfl (sq_ (nif0 (tnot (tval (xcall (ok_law_alike T 6) (hr.mono (by decide)) T.m_law_alike T.F_law_alike.kp (b_law_alike T) (axc (xD (tdL (tdP tdI tdI)) (xcall (ok_sum_of T) (hr.mono (by decide)) T.m_sum_of T.F_sum_of.kp (b_sum_of T) (axc (xv 7 rfl) (axc (xv 7 rfl) axn)))) (axc (xD (tdL (tdP tdI tdI)) (xfr (xlc (own := [(Str.ofString "_law_a", 10)]) rfl sc_law_two_right.nd (wlistL 10 (xv 3 rfl)) (blkOk_by (N := N_law_two_right) (sc := defScope s_law_two_right) (by decide +kernel)) (by decide) (nil1 rfl) (fun _ => rfl) (fun _ _ _ _ _ => (pg_name (i := 10) sc_law_two_right.nd rfl (by first | exact Or.inl rfl | exact Or.inr rfl))) (fun _ _ _ _ _ y899 => (xcall (ok_law_mul T) (hr.mono (by decide)) T.m_law_mul T.F_law_mul.kp (b_law_mul T) (axc (xtup2 (axc xint (axc xint axn))) (axc (xv 10 rfl) axn))))))) axn))))) (re [Sl.pl, Sl.sh eI v759, Sl.sh eB v774, Sl.sh (eL eN) v779.1, Sl.sh (eL eN) s813, Sl.nil, Sl.sh eN v814, Sl.sh (eL eN) v817.1, Sl.sh (eL eN) v817.2.1, Sl.sh (eL eN) v866, Sl.nil, Sl.nil] rfl (sret xbl))) fun _ => (re [Sl.pl, Sl.sh eI v759, Sl.sh eB v774, Sl.sh (eL eN) v779.1, Sl.sh (eL eN) s813, Sl.nil, Sl.sh eN v814, Sl.sh (eL eN) v817.1, Sl.sh (eL eN) v817.2.1, Sl.sh (eL eN) v866, Sl.nil, Sl.nil] rfl (sret (xand (xcmp (w_eqD (dL (dP dI dI)) (dL (dP dI dI)) (shx (shL (shP shI shI))) (shx (shL (shP shI shI))) hr.units) (xv 7 rfl) (xv 3 rfl)) (xone (xcmp (w_eqD (dL (dP dI dI)) (dL (dP dI dI)) (shx (shL (shP shI shI))) (shx (shL (shP shI shI))) hr.units) (xv 8 rfl) (xv 4 rfl))))))))))))))))))))))))))))
theorem ok_law_shape (T : Txt K mg) : FnOk P w K mg base CX0 2 T.a_law_shape T.d_law_shape P_law_shape (spW (K := K) poolA (aPl aN) w_law_shape eN) :=
  fn_R (k := 1) (wb := wb_law_shape) (ρ' := fun z : Empty => nomatch z) T.F_law_shape sc_law_shape rfl (show 1 ≤ 2 by decide) fun cdv A outer s H E pp x hr => (re [Sl.pl, Sl.nil] rfl (sq_ (nif0 (tcmp w_eqI (xcall (ok_law_pick T.F_law_pick T.z_int) (hr.mono (by decide)) T.m_law_pick T.F_law_pick.kp (b_law_pick T) (axp 0 rfl (axc xint axn))) xint) (re [Sl.pl, Sl.nil] rfl (sret (xtup2 (axc (xop0 w_sub xint (xcall (ok_law_pick T.F_law_pick T.z_int) (hr.mono (by decide)) T.m_law_pick T.F_law_pick.kp (b_law_pick T) (axp 0 rfl (axc xint axn)))) (axc (xop0 w_sub xint (xcall (ok_law_pick T.F_law_pick T.z_int) (hr.mono (by decide)) T.m_law_pick T.F_law_pick.kp (b_law_pick T) (axp 0 rfl (axc xint axn)))) axn)))))) fun _ => (re [Sl.pl, Sl.nil] rfl (sx (nset 1 sc_law_shape.nd (xcall (ok_law_pick T.F_law_pick T.z_int) (hr.mono (by decide)) T.m_law_pick T.F_law_pick.kp (b_law_pick T) (axp 0 rfl (axc xint axn)))) fun _ v948 => (re [Sl.pl, Sl.sh eI v948] rfl (sq_ (nif0 (tcmp w_eqI (xv 1 rfl) xint) (re [Sl.pl, Sl.sh eI v948] rfl (sret (xtup2 (axc (xcall (ok_law_pick T.F_law_pick T.z_int) (hr.mono (by decide)) T.m_law_pick T.F_law_pick.kp (b_law_pick T) (axp 0 rfl (axc xint axn))) (axc (xop0 w_add xint (xcall (ok_law_pick T.F_law_pick T.z_int) (hr.mono (by decide)) T.m_law_pick T.F_law_pick.kp (b_law_pick T) (axp 0 rfl (axc xint axn)))) axn)))))) fun _ => (re [Sl.pl, Sl.sh eI v948] rfl (sq_ (nif0 (tcmp w_eqI (xv 1 rfl) xint) (re [Sl.pl, Sl.sh eI v948] rfl (sret (xtup2 (axc (xcall (ok_law_pick T.F_law_pick T.z_int) (hr.mono (by decide)) T.m_law_pick T.F_law_pick.kp (b_law_pick T) (axp 0 rfl (axc xint axn))) (axc (xop0 w_add xint (xcall (ok_law_pick T.F_law_pick T.z_int) (hr.mono (by decide)) T.m_law_pick T.F_law_pick.kp (b_law_pick T) (axp 0 rfl (axc xint axn)))) axn)))))) fun _ => (re [Sl.pl, Sl.sh eI v948] rfl (sret (xtup2 (axc (xcall (ok_law_pick T.F_law_pick T.z_int) (hr.mono (by decide)) T.m_law_pick T.F_law_pick.kp (b_law_pick T) (axp 0 rfl (axc xint axn))) (axc (xop0 w_add xint (xcall (ok_law_pick T.F_law_pick T.z_int) (hr.mono (by decide)) T.m_law_pick T.F_law_pick.kp (b_law_pick T) (axp 0 rfl (axc xint axn)))) axn)))))))))))))
theorem ok_law_many_right (T : Txt K mg) : FnOk P w K mg base CX0 8 T.a_law_many_right T.d_law_many_right P_law_many_right (spW (K := K) poolA (aPl aN) w_law_many_right eB) :=
  fn_R (k := 7) (wb := wb_law_many_right) (ρ' := fun z : Empty => nomatch z) T.F_law_many_right sc_law_many_right rfl (show 1 ≤ 15 by decide) fun cdv A outer s H E pp x hr => (re [Sl.pl, Sl.nil, Sl.nil, Sl.nil, Sl.nil, Sl.nil, Sl.nil, Sl.nil, Sl.nil, Sl.nil, Sl.nil, Sl.nil, Sl.nil, Sl.nil, Sl.nil] rfl (sx (npair 1 2 rfl sc_law_many_right.nd (xcall (ok_law_shape T) (hr.mono (by decide)) T.m_law_shape T.F_law_shape.kp (b_law_shape T) (axp 0 rfl axn))) fun _ v993 => (re [Sl.pl, Sl.sh eI v993.1, Sl.sh eI v993.2, Sl.nil, Sl.nil, Sl.nil, Sl.nil, Sl.nil, Sl.nil, Sl.nil, Sl.nil, Sl.nil, Sl.nil, Sl.nil, Sl.nil] rfl (sx (nset 3 sc_law_many_right.nd (xand (xcmp w_lt (xop w_mul (xv 1 rfl) (xv 2 rfl)) xint) (xone (xcmp w_eqI (xcall (ok_law_pick T.F_law_pick T.z_int) (hr.mono (by decide)) T.m_law_pick T.F_law_pick.kp (b_law_pick T) (axp 0 rfl (axc xint axn))) xint)))) fun _ v994 => (re [Sl.pl, Sl.sh eI v993.1, Sl.sh eI v993.2, Sl.sh eB v994, Sl.nil, Sl.nil, Sl.nil, Sl.nil, Sl.nil, Sl.nil, Sl.nil, Sl.nil, Sl.nil, Sl.nil, Sl.nil] rfl (sx (nown (xlcS 4 (own := [(Str.ofString "_law_k", 5)]) rfl sc_law_many_right.nd (wrange1 5 T.z_range (axc (xv 1 rfl) axn)) (blkOk_by (N := N_law_many_right) (sc := defScope s_law_many_right) (by decide +kernel)) (by decide) (nil1 rfl) (fun _ => rfl) (fun _ _ _ _ _ => (pg_name (i := 5) sc_law_many_right.nd rfl (by first | exact Or.inl rfl | exact Or.inr rfl))) (fun _ _ _ _ _ y1008 => (xcall (ok_law_line T) (hr.mono (by decide)) T.m_law_line T.F_law_line.kp (b_law_line T) (axp 0 rfl (axc (xv 2 rfl) (axc (xv 3 rfl) axn))))) (sw_true rfl rfl rfl (by decide +kernel)))) fun p1014 v1004 => (re [Sl.pl, Sl.sh eI v993.1, Sl.sh eI v993.2, Sl.sh eB v994, Sl.ow p1014 (oL (eL eN)) v1004, Sl.nil, Sl.nil, Sl.nil, Sl.nil, Sl.nil, Sl.nil, Sl.nil, Sl.nil, Sl.nil, Sl.nil] rfl (sx (nsetF (xlcS 6 (own := [(Str.ofString "_law_k", 5)]) rfl sc_law_many_right.nd (wrange1 5 T.z_range (axc (xv 1 rfl) axn)) (blkOk_by (N := N_law_many_right) (sc := defScope s_law_many_right) (by decide +kernel)) (by decide) (nil1 rfl) (fun _ => rfl) (fun _ _ _ _ _ => (pg_name (i := 5) sc_law_many_right.nd rfl (by first | exact Or.inl rfl | exact Or.inr rfl))) (fun _ _ _ _ _ y1019 => (xcall (ok_law_number T) (hr.mono (by decide)) T.m_law_number T.F_law_number.kp (b_law_number T) (axp 0 rfl (axc (xv 3 rfl) axn)))) (sw_true rfl rfl rfl (by decide +kernel)))) fun _ v1015 => (re [Sl.pl, Sl.sh eI v993.1, Sl.sh eI v993.2, Sl.sh eB v994, Sl.ow p1014 (oL (eL eN)) v1004, Sl.nil, Sl.sh (eL eN) v1015, Sl.nil, Sl.nil, Sl.nil, Sl.nil, Sl.nil, Sl.nil, Sl.nil, Sl.nil] rfl (sq_ (nifJ (fun r (s : (List (List (Int × Int)))) => (put r 4 (Sl.ow p1014 (oL (eL eN)) s))) (tw (wand (tcmp w_gt (xv 1 rfl) xint) (wand1 (tcmp w_eqI (xcall (ok_law_pick T.F_law_pick T.z_int) (hr.mono (by decide)) T.m_law_pick T.F_law_pick.kp (b_law_pick T) (axp 0 rfl (axc xint axn))) xint)))) (re [Sl.pl, Sl.sh eI v993.1, Sl.sh eI v993.2, Sl.sh eB v994, Sl.ow p1014 (oL (eL eN)) v1004, Sl.nil, Sl.sh (eL eN) v1015, Sl.nil, Sl.nil, Sl.nil, Sl.nil, Sl.nil, Sl.nil, Sl.nil, Sl.nil] rfl (sx (nsetix 4 rfl (xixO 4 rfl (xcall (ok_law_pick T.F_law_pick T.z_int) (hr.mono (by decide)) T.m_law_pick T.F_law_pick.kp (b_law_pick T) (axp 0 rfl (axc (xv 1 rfl) axn)))) (xcall (ok_law_pick T.F_law_pick T.z_int) (hr.mono (by decide)) T.m_law_pick T.F_law_pick.kp (b_law_pick T) (axp 0 rfl (axc (xv 1 rfl) axn)))) fun _ v1036 => (re [Sl.pl, Sl.sh eI v993.1, Sl.sh eI v993.2, Sl.sh eB v994, Sl.ow p1014 (oL (eL eN)) (v1004.set ((ixN v1004.length v1036.1).getD 0) v1036.2), Sl.nil, Sl.sh (eL eN) v1015, Sl.nil, Sl.nil, Sl.nil, Sl.nil, Sl.nil, Sl.nil, Sl.nil, Sl.nil] rfl (snil (s := ((v1004.set ((ixN v1004.length v1036.1).getD 0) v1036.2))) (Fit.eq (Fit.eq (Fit.eq (Fit.eq (Fit.eq (Fit.eq (Fit.eq (Fit.eq (Fit.eq (Fit.eq (Fit.eq (Fit.eq (Fit.eq (Fit.eq (Fit.eq Fit.nil))))))))))))))))))) (re [Sl.pl, Sl.sh eI v993.1, Sl.sh eI v993.2, Sl.sh eB v994, Sl.ow p1014 (oL (eL eN)) v1004, Sl.nil, Sl.sh (eL eN) v1015, Sl.nil, Sl.nil, Sl.nil, Sl.nil, Sl.nil, Sl.nil, Sl.nil, Sl.nil] rfl (snil (s := (v1004)) (Fit.eq (Fit.eq (Fit.eq (Fit.eq (Fit.eq (Fit.eq (Fit.eq (Fit.eq (Fit.eq (Fit.eq (Fit.eq (Fit.eq (Fit.eq (Fit.eq (Fit.eq Fit.nil)))))))))))))))))) fun s1039 => (re [Sl.pl, Sl.sh eI v993.1, Sl.sh eI v993.2, Sl.sh eB v994, Sl.ow p1014 (oL (eL eN)) s1039, Sl.nil, Sl.sh (eL eN) v1015, Sl.nil, Sl.nil, Sl.nil, Sl.nil, Sl.nil, Sl.nil, Sl.nil, Sl.nil] rfl (nfreeze 4 rfl (re [Sl.pl, Sl.sh eI v993.1, Sl.sh eI v993.2, Sl.sh eB v994, Sl.sh (eL (eL eN)) s1039, Sl.nil, Sl.sh (eL eN) v1015, Sl.nil, Sl.nil, Sl.nil, Sl.nil, Sl.nil, Sl.nil, Sl.nil, Sl.nil] rfl (sx (nsetF (nsetFe 7 sc_law_many_right.nd (xrepF (xlst (alc (xtup2 (axc xint (axc xint axn))) (aln (en := eN)))) (xv 2 rfl)))) fun _ v1040 => (re [Sl.pl, Sl.sh eI v993.1, Sl.sh eI v993.2, Sl.sh eB v994, Sl.sh (eL (eL eN)) s1039, Sl.nil, Sl.sh (eL eN) v1015, Sl.sh (eL eN) v1040, Sl.nil, Sl.nil, Sl.nil, Sl.nil, Sl.nil, Sl.nil, Sl.nil] rfl (sq_ (nforJ (fun r (s : (List (Int × Int))) => (put r 7 (Sl.sh (eL eN) s))) (s0 := (v1040)) PassesOwn.never rfl (wzip 8 9 T.z_zip (axc (xv 6 rfl) (axc (xv 4 rfl) axn))) (pg_tup rfl (pgs_cons (pg_name (i := 8) sc_law_many_right.nd rfl (by first | exact Or.inl rfl | exact Or.inr rfl)) (pgs_cons (pg_name (i := 9) sc_law_many_right.nd rfl (by first | exact Or.inl rfl | exact Or.inr rfl)) pgs_nil))) (Fit.eq (Fit.eq (Fit.eq (Fit.eq (Fit.eq (Fit.eq (Fit.eq (Fit.eq (Fit.eq (Fit.eq (Fit.eq (Fit.eq (Fit.eq (Fit.eq (Fit.eq Fit.nil))))))))))))))) (fun s1055 y1056 => (re [Sl.pl, Sl.sh eI v993.1, Sl.sh eI v993.2, Sl.sh eB v994, Sl.sh (eL (eL eN)) s1039, Sl.nil, Sl.sh (eL eN) v1015, Sl.sh (eL eN) s1055, Sl.sh eN y1056.1, Sl.sh (eL eN) y1056.2, Sl.nil, Sl.nil, Sl.nil, Sl.nil, Sl.nil] rfl (sq_ (nifJ (fun r (s : (List (Int × Int))) => (put r 7 (Sl.sh (eL eN) s))) (tcmp w_neI (xfst (xv 8 rfl)) xint) (re [Sl.pl, Sl.sh eI v993.1, Sl.sh eI v993.2, Sl.sh eB v994, Sl.sh (eL (eL eN)) s1039, Sl.nil, Sl.sh (eL eN) v1015, Sl.sh (eL eN) s1055, Sl.sh eN y1056.1, Sl.sh (eL eN) y1056.2, Sl.nil, Sl.nil, Sl.nil, Sl.nil, Sl.nil] rfl (sx (nsetF (xlcS 7 (own := [(Str.ofString "_law_a", 10), (Str.ofString "_law_b", 11)]) rfl sc_law_many_right.nd (wzip 10 11 T.z_zip (axc (xv 7 rfl) (axc (xv 9 rfl) axn))) (blkOk_by (N := N_law_many_right) (sc := defScope s_law_many_right) (by decide +kernel)) (by decide) (nil2 rfl rfl) (fun _ => rfl) (fun _ _ _ _ _ => (pg_tup rfl (pgs_cons (pg_name (i := 10) sc_law_many_right.nd rfl (by first | exact Or.inl rfl | exact Or.inr rfl)) (pgs_cons (pg_name (i := 11) sc_law_many_right.nd rfl (by first | exact Or.inl rfl | exact Or.inr rfl)) pgs_nil)))) (fun _ _ _ _ _ y1067 => (xif (tcmp w_eqI (xfst (xv 11 rfl)) xint) (xv 10 rfl) (xcall (ok_law_add T) (hr.mono (by decide)) T.m_law_add T.F_law_add.kp (b_law_add T) (axc (xv 10 rfl) (axc (xcall (ok_law_mul T) (hr.mono (by decide)) T.m_law_mul T.F_law_mul.kp (b_law_mul T) (axc (xv 8 rfl) (axc (xv 11 rfl) axn))) axn))))) (sw_true rfl rfl rfl (by decide +kernel)))) fun _ v1061 => (re [Sl.pl, Sl.sh eI v993.1, Sl.sh eI v993.2, Sl.sh eB v994, Sl.sh (eL (eL eN)) s1039, Sl.nil, Sl.sh (eL eN) v1015, Sl.sh (eL eN) v1061, Sl.sh eN y1056.1, Sl.sh (eL eN) y1056.2, Sl.nil, Sl.nil, Sl.nil, Sl.nil, Sl.nil] rfl (snil (s := (v1061)) (Fit.eq (Fit.eq (Fit.eq (Fit.eq (Fit.eq (Fit.eq (Fit.eq (Fit.eq (Fit.eq (Fit.eq (Fit.eq (Fit.eq (Fit.eq (Fit.eq (Fit.eq Fit.nil))))))))))))))))))) (re [Sl.pl, Sl.sh eI v993.1, Sl.sh eI v993.2, Sl.sh eB v994, Sl.sh (eL (eL eN)) s1039, Sl.nil, Sl.sh (eL eN) v1015, Sl.sh (eL eN) s1055, Sl.sh eN y1056.1, Sl.sh (eL eN) y1056.2, Sl.nil, Sl.nil, Sl.nil, Sl.nil, Sl.nil] rfl (snil (s := (s1055)) (Fit.eq (Fit.eq (Fit.eq (Fit.eq (Fit.eq (Fit.eq (Fit.eq (Fit.eq (Fit.eq (Fit.eq (Fit.eq (Fit.eq (Fit.eq (Fit.eq (Fit.eq Fit.nil)))))))))))))))))) fun s1081 => (re [Sl.pl, Sl.sh eI v993.1, Sl.sh eI v993.2, Sl.sh eB v994, Sl.sh (eL (eL eN)) s1039, Sl.nil, Sl.sh (eL eN) v1015, Sl.sh (eL eN) s1081, Sl.sh eN y1056.1, Sl.sh (eL eN) y1056.2, Sl.nil, Sl.nil, Sl.nil, Sl.nil, Sl.nil] rfl (snil (s := (s1081)) (Fit.eq (Fit.eq (Fit.eq (Fit.eq (Fit.eq (Fit.eq (Fit.eq (Fit.eq (Fit.dr (Fit.dr (Fit.eq (Fit.eq (Fit.eq (Fit.eq (Fit.eq Fit.nil))))))))))))))))))))) fun s1082 => (re [Sl.pl, Sl.sh eI v993.1, Sl.sh eI v993.2, Sl.sh eB v994, Sl.sh (eL (eL eN)) s1039, Sl.nil, Sl.sh (eL eN) v1015, Sl.sh (eL eN) s1082, Sl.nil, Sl.nil, Sl.nil, Sl.nil, Sl.nil, Sl.nil, Sl.nil] rfl (sx (npar3 12 13 14 rfl sc_law_many_right.nd (axc (xcallT c_list T.z_list (by decide +kernel) (axc (xR (xv 6 rfl)) axn)) (axc (xcallT c_list T.z_list (by decide +kernel) (axc (xR (xv 4 rfl)) axn)) (axc (xfr (xlc (own := [(Str.ofString "_law_line_here", 9)]) rfl sc_law_many_right.nd (wlistL 9 (xv 4 rfl)) (blkOk_by (N := N_law_many_right) (sc := defScope s_law_many_right) (by decide +kernel)) (by decide) (nil1 rfl) (fun _ => rfl) (fun _ _ _ _ _ => (pg_name (i := 9) sc_law_many_right.nd rfl (by first | exact Or.inl rfl | exact Or.inr rfl))) (fun _ _ _ _ _ y1089 => (xcallT c_list T.z_list (by decide +kernel) (axc (xR (xv 9 rfl)) axn))))) axn)))) fun _ v1100 => (re [Sl.pl, Sl.sh eI v993.1, Sl.sh eI v993.2, Sl.sh eB v994, Sl.sh (eL (eL eN)) s1039, Sl.nil, Sl.sh (eL eN) v1015, Sl.sh (eL eN) s1082, Sl.nil, Sl.nil, Sl.nil, Sl.nil, Sl.sh (eL eN) v1100.1, Sl.sh (eL (eL eN)) v1100.2.1, Sl.sh (eL (eL eN)) v1100.2.2.1] rfl (sq_ (nif0 (tnot (tval (xcall (ok_law_alike T 6) (hr.mono (by decide)) T.m_law_alike T.F_law_alike.kp (b_law_alike T) (axc (xD (tdL (tdP tdI tdI)) (xcall (ok_combined T) (hr.mono (by decide)) T.m_combined T.F_combined.kp (b_combined T) (axc (xv 12 rfl) (axc (xv 13 rfl) (axc (xv 2 rfl) axn))))) (axc (xD (tdL (tdP tdI tdI)) (xv 7 rfl)) axn))))) (re [Sl.pl, Sl.sh eI v993.1, Sl.sh eI v993.2, Sl.sh eB v994, Sl.sh (eL (eL eN)) s1039, Sl.nil, Sl.sh (eL eN) v1015, Sl.sh (eL eN) s1082, Sl.nil, Sl.nil, Sl.nil, Sl.nil, Sl.sh (eL eN) v1100.1, Sl.sh (eL (eL eN)) v1100.2.1, Sl.sh (eL (eL eN)) v1100.2.2.1] rfl (sret xbl))) fun _ => (re [Sl.pl, Sl.sh eI v993.1, Sl.sh eI v993.2, Sl.sh eB v994, Sl.sh (eL (eL eN)) s1039, Sl.nil, Sl.sh (eL eN) v1015, Sl.sh (eL eN) s1082, Sl.nil, Sl.nil, Sl.nil, Sl.nil, Sl.sh (eL eN) v1100.1, Sl.sh (eL (eL eN)) v1100.2.1, Sl.sh (eL (eL eN)) v1100.2.2.1] rfl (sq_ (nif0 (tnot (tval (xcall (ok_law_alike T 6) (hr.mono (by decide)) T.m_law_alike T.F_law_alike.kp (b_law_alike T) (axc (xD (tdL (tdP tdI tdI)) (xcallK _ (ok_combined T) (hr.mono (by decide)) T.m_combined T.F_combined.kp (kb_combined_2_1_0 T) (kxc (xv 2 rfl) (kxc (xv 13 rfl) (kxc (xv 12 rfl) kxn))) kb_combined_2_1_0_pm)) (axc (xD (tdL (tdP tdI tdI)) (xv 7 rfl)) axn))))) (re [Sl.pl, Sl.sh eI v993.1, Sl.sh eI v993.2, Sl.sh eB v994, Sl.sh (eL (eL eN)) s1039, Sl.nil, Sl.sh (eL eN) v1015, Sl.sh (eL eN) s1082, Sl.nil, Sl.nil, Sl.nil, Sl.nil, Sl.sh (eL eN) v1100.1, Sl.sh (eL (eL eN)) v1100.2.1, Sl.sh (eL (eL eN)) v1100.2.2.1] rfl (sret xbl))) fun _ => (re [Sl.pl, Sl.sh eI v993.1, Sl.sh eI v993.2, Sl.sh eB v994, Sl.sh (eL (eL eN)) s1039, Sl.nil, Sl.sh (eL eN) v1015, Sl.sh (eL eN) s1082, Sl.nil, Sl.nil, Sl.nil, Sl.nil, Sl.sh (eL eN) v1100.1, Sl.sh (eL (eL eN)) v1100.2.1, Sl.sh (eL (eL eN)) v1100.2.2.1] rfl (sret (xand (xcmp (w_eqD (dL (dP dI dI)) (dL (dP dI dI)) (shx (shL (shP shI shI))) (shx (shL (shP shI shI))) hr.units) (xv 12 rfl) (xv 6 rfl)) (xone (xcmp (w_eqD (dL (dL (dP dI dI))) (dL (dL (dP dI dI))) (shx (shL (shL (shP shI shI)))) (shx (shL (shL (shP shI shI)))) hr.units) (xv 13 rfl) (xv 14 rfl))))))))))))))))))))))))))))
theorem ok_law (T : Txt K mg) (hm : ∀ ns : List Int, ns.length ≤ 63 → w_law (ns, ()) (fun r _ => r = true) noX 0) : FnOk P w K mg base CX0 9 T.a_law T.d_law P_law (spLaw K) :=
  fn_law (PK := poolA) (k := 8) (wb := wb_law) (ρ' := fun z : Empty => nomatch z) T.F_law sc_law (show 1 ≤ 3 by decide) (fun cdv A outer s H E x hl hr => (re [Sl.sh (eR eI) x.1, Sl.nil, Sl.nil] rfl (spool 1 0 hl sc_law.nd rfl rfl rfl (ok_law_pool T.F_law_pool T.z_int T.z_enumerate) (hr.mono (by decide)) T.m_law_pool T.F_law_pool.kp (b_law_pool T) (fun _ _ => (re [Sl.sh (eR eI) x.1, Sl.pl, Sl.nil] rfl (sq_ (nforJ (fun r (_ : Unit) => r) (s0 := ()) PassesOwn.never rfl (wrange1 2 T.z_range (axc xint axn)) (pg_name (i := 2) sc_law.nd rfl (by first | exact Or.inl rfl | exact Or.inr rfl)) (Fit.eq (Fit.eq (Fit.eq Fit.nil))) (fun s1141 y1142 => (re [Sl.sh (eR eI) x.1, Sl.pl, Sl.sh eI y1142] rfl (sq_ (nif0 (tw (wor (tnot (tval (xcall (ok_law_numbers_right T) (hr.mono (by decide)) T.m_law_numbers_right T.F_law_numbers_right.kp (b_law_numbers_right T) (axp 1 rfl axn)))) (wor (tnot (tval (xcall (ok_law_two_right T) (hr.mono (by decide)) T.m_law_two_right T.F_law_two_right.kp (b_law_two_right T) (axp 1 rfl axn)))) (wor1 (tnot (tval (xcall (ok_law_many_right T) (hr.mono (by decide)) T.m_law_many_right T.F_law_many_right.kp (b_law_many_right T) (axp 1 rfl axn)))))))) (re [Sl.sh (eR eI) x.1, Sl.pl, Sl.sh eI y1142] rfl (sret xbl))) fun _ => (re [Sl.sh (eR eI) x.1, Sl.pl, Sl.sh eI y1142] rfl (snil (s := ()) (Fit.eq (Fit.eq (Fit.dr Fit.nil))))))))) fun s1150 => (re [Sl.sh (eR eI) x.1, Sl.pl, Sl.nil] rfl (sret xbl)))))))) hm
end
theorem all_mk {l : PySem.W.OpenLaw} {w : World} {K : PySem.W.Frag} {h : Heap} {mg : Str → Option Value} {fa : Addr} (X : K.In h) (G : h.Ns mainGlobals mg) (hfa : mg (Str.ofString "law") = some (.ref fa))
    {f0 : Addr} {od0 an0 : Option Addr} {sl0 : Array (Option Value)} {oc0 kV0 dc0 pm0 cd0 ct0 : Value}
    (a0 : PySem.W.nsIn K mainGlobals (Str.ofString "lowest") = some (some (.ref f0))) (l0 : K.lookup f0 = some ⟨oc0, od0, .func (PySem.W.fnOf (Str.ofString "lowest") (Str.ofString "lowest") (defArgs s_lowest) (defBody s_lowest) (defScope s_lowest) .none kV0 dc0 pm0 an0 cd0 ct0), sl0⟩) (c0 : PySem.W.codeIn K cd0 (Str.ofString "lowest") = true) (k0 : PySem.W.keepIn K (.ref f0) = true)
    {f1 : Addr} {od1 an1 : Option Addr} {sl1 : Array (Option Value)} {oc1 kV1 dc1 pm1 cd1 ct1 : Value}
    (a1 : PySem.W.nsIn K mainGlobals (Str.ofString "sum_two") = some (some (.ref f1))) (l1 : K.lookup f1 = some ⟨oc1, od1, .func (PySem.W.fnOf (Str.ofString "sum_two") (Str.ofString "sum_two") (defArgs s_sum_two) (defBody s_sum_two) (defScope s_sum_two) .none kV1 dc1 pm1 an1 cd1 ct1), sl1⟩) (c1 : PySem.W.codeIn K cd1 (Str.ofString "sum_two") = true) (k1 : PySem.W.keepIn K (.ref f1) = true)
    {f2 : Addr} {od2 an2 : Option Addr} {sl2 : Array (Option Value)} {oc2 kV2 dc2 pm2 cd2 ct2 : Value}
    (a2 : PySem.W.nsIn K mainGlobals (Str.ofString "product_two") = some (some (.ref f2))) (l2 : K.lookup f2 = some ⟨oc2, od2, .func (PySem.W.fnOf (Str.ofString "product_two") (Str.ofString "product_two") (defArgs s_product_two) (defBody s_product_two) (defScope s_product_two) .none kV2 dc2 pm2 an2 cd2 ct2), sl2⟩) (c2 : PySem.W.codeIn K cd2 (Str.ofString "product_two") = true) (k2 : PySem.W.keepIn K (.ref f2) = true)
    {f3 : Addr} {od3 an3 : Option Addr} {sl3 : Array (Option Value)} {oc3 kV3 dc3 pm3 cd3 ct3 : Value}
    (a3 : PySem.W.nsIn K mainGlobals (Str.ofString "is_number") = some (some (.ref f3))) (l3 : K.lookup f3 = some ⟨oc3, od3, .func (PySem.W.fnOf (Str.ofString "is_number") (Str.ofString "is_number") (defArgs s_is_number) (defBody s_is_number) (defScope s_is_number) .none kV3 dc3 pm3 an3 cd3 ct3), sl3⟩) (c3 : PySem.W.codeIn K cd3 (Str.ofString "is_number") = true) (k3 : PySem.W.keepIn K (.ref f3) = true)
    {f4 : Addr} {od4 an4 : Option Addr} {sl4 : Array (Option Value)} {oc4 kV4 dc4 pm4 cd4 ct4 : Value}
    (a4 : PySem.W.nsIn K mainGlobals (Str.ofString "checked") = some (some (.ref f4))) (l4 : K.lookup f4 = some ⟨oc4, od4, .func (PySem.W.fnOf (Str.ofString "checked") (Str.ofString "checked") (defArgs s_checked) (defBody s_checked) (defScope s_checked) .none kV4 dc4 pm4 an4 cd4 ct4), sl4⟩) (c4 : PySem.W.codeIn K cd4 (Str.ofString "checked") = true) (k4 : PySem.W.keepIn K (.ref f4) = true)
    {f5 : Addr} {od5 an5 : Option Addr} {sl5 : Array (Option Value)} {oc5 kV5 dc5 pm5 cd5 ct5 : Value}
    (a5 : PySem.W.nsIn K mainGlobals (Str.ofString "check_numbers") = some (some (.ref f5))) (l5 : K.lookup f5 = some ⟨oc5, od5, .func (PySem.W.fnOf (Str.ofString "check_numbers") (Str.ofString "check_numbers") (defArgs s_check_numbers) (defBody s_check_numbers) (defScope s_check_numbers) .none kV5 dc5 pm5 an5 cd5 ct5), sl5⟩) (c5 : PySem.W.codeIn K cd5 (Str.ofString "check_numbers") = true) (k5 : PySem.W.keepIn K (.ref f5) = true)
    {f6 : Addr} {od6 an6 : Option Addr} {sl6 : Array (Option Value)} {oc6 kV6 dc6 pm6 cd6 ct6 : Value}
    (a6 : PySem.W.nsIn K mainGlobals (Str.ofString "integers_of") = some (some (.ref f6))) (l6 : K.lookup f6 = some ⟨oc6, od6, .func (PySem.W.fnOf (Str.ofString "integers_of") (Str.ofString "integers_of") (defArgs s_integers_of) (defBody s_integers_of) (defScope s_integers_of) .none kV6 dc6 pm6 an6 cd6 ct6), sl6⟩) (c6 : PySem.W.codeIn K cd6 (Str.ofString "integers_of") = true) (k6 : PySem.W.keepIn K (.ref f6) = true)
    {f7 : Addr} {od7 an7 : Option Addr} {sl7 : Array (Option Value)} {oc7 kV7 dc7 pm7 cd7 ct7 : Value}
    (a7 : PySem.W.nsIn K mainGlobals (Str.ofString "numbers_of") = some (some (.ref f7))) (l7 : K.lookup f7 = some ⟨oc7, od7, .func (PySem.W.fnOf (Str.ofString "numbers_of") (Str.ofString "numbers_of") (defArgs s_numbers_of) (defBody s_numbers_of) (defScope s_numbers_of) .none kV7 dc7 pm7 an7 cd7 ct7), sl7⟩) (c7 : PySem.W.codeIn K cd7 (Str.ofString "numbers_of") = true) (k7 : PySem.W.keepIn K (.ref f7) = true)
    {f8 : Addr} {od8 an8 : Option Addr} {sl8 : Array (Option Value)} {oc8 kV8 dc8 pm8 cd8 ct8 : Value}
    (a8 : PySem.W.nsIn K mainGlobals (Str.ofString "nought_row") = some (some (.ref f8))) (l8 : K.lookup f8 = some ⟨oc8, od8, .func (PySem.W.fnOf (Str.ofString "nought_row") (Str.ofString "nought_row") (defArgs s_nought_row) (defBody s_nought_row) (defScope s_nought_row) .none kV8 dc8 pm8 an8 cd8 ct8), sl8⟩) (c8 : PySem.W.codeIn K cd8 (Str.ofString "nought_row") = true) (k8 : PySem.W.keepIn K (.ref f8) = true)
    {f9 : Addr} {od9 an9 : Option Addr} {sl9 : Array (Option Value)} {oc9 kV9 dc9 pm9 cd9 ct9 : Value}
    (a9 : PySem.W.nsIn K mainGlobals (Str.ofString "unit_row") = some (some (.ref f9))) (l9 : K.lookup f9 = some ⟨oc9, od9, .func (PySem.W.fnOf (Str.ofString "unit_row") (Str.ofString "unit_row") (defArgs s_unit_row) (defBody s_unit_row) (defScope s_unit_row) .none kV9 dc9 pm9 an9 cd9 ct9), sl9⟩) (c9 : PySem.W.codeIn K cd9 (Str.ofString "unit_row") = true) (k9 : PySem.W.keepIn K (.ref f9) = true)
    {f10 : Addr} {od10 an10 : Option Addr} {sl10 : Array (Option Value)} {oc10 kV10 dc10 pm10 cd10 ct10 : Value}
    (a10 : PySem.W.nsIn K mainGlobals (Str.ofString "plus_row") = some (some (.ref f10))) (l10 : K.lookup f10 = some ⟨oc10, od10, .func (PySem.W.fnOf (Str.ofString "plus_row") (Str.ofString "plus_row") (defArgs s_plus_row) (defBody s_plus_row) (defScope s_plus_row) .none kV10 dc10 pm10 an10 cd10 ct10), sl10⟩) (c10 : PySem.W.codeIn K cd10 (Str.ofString "plus_row") = true) (k10 : PySem.W.keepIn K (.ref f10) = true)
    {f11 : Addr} {od11 an11 : Option Addr} {sl11 : Array (Option Value)} {oc11 kV11 dc11 pm11 cd11 ct11 : Value}
    (a11 : PySem.W.nsIn K mainGlobals (Str.ofString "scaled_row") = some (some (.ref f11))) (l11 : K.lookup f11 = some ⟨oc11, od11, .func (PySem.W.fnOf (Str.ofString "scaled_row") (Str.ofString "scaled_row") (defArgs s_scaled_row) (defBody s_scaled_row) (defScope s_scaled_row) .none kV11 dc11 pm11 an11 cd11 ct11), sl11⟩) (c11 : PySem.W.codeIn K cd11 (Str.ofString "scaled_row") = true) (k11 : PySem.W.keepIn K (.ref f11) = true)
    {f12 : Addr} {od12 an12 : Option Addr} {sl12 : Array (Option Value)} {oc12 kV12 dc12 pm12 cd12 ct12 : Value}
    (a12 : PySem.W.nsIn K mainGlobals (Str.ofString "combination") = some (some (.ref f12))) (l12 : K.lookup f12 = some ⟨oc12, od12, .func (PySem.W.fnOf (Str.ofString "combination") (Str.ofString "combination") (defArgs s_combination) (defBody s_combination) (defScope s_combination) .none kV12 dc12 pm12 an12 cd12 ct12), sl12⟩) (c12 : PySem.W.codeIn K cd12 (Str.ofString "combination") = true) (k12 : PySem.W.keepIn K (.ref f12) = true)
    {f13 : Addr} {od13 an13 : Option Addr} {sl13 : Array (Option Value)} {oc13 kV13 dc13 pm13 cd13 ct13 : Value}
    (a13 : PySem.W.nsIn K mainGlobals (Str.ofString "check_rows") = some (some (.ref f13))) (l13 : K.lookup f13 = some ⟨oc13, od13, .func (PySem.W.fnOf (Str.ofString "check_rows") (Str.ofString "check_rows") (defArgs s_check_rows) (defBody s_check_rows) (defScope s_check_rows) .none kV13 dc13 pm13 an13 cd13 ct13), sl13⟩) (c13 : PySem.W.codeIn K cd13 (Str.ofString "check_rows") = true) (k13 : PySem.W.keepIn K (.ref f13) = true)
    {f14 : Addr} {od14 an14 : Option Addr} {sl14 : Array (Option Value)} {oc14 kV14 dc14 pm14 cd14 ct14 : Value}
    (a14 : PySem.W.nsIn K mainGlobals (Str.ofString "number") = some (some (.ref f14))) (l14 : K.lookup f14 = some ⟨oc14, od14, .func (PySem.W.fnOf (Str.ofString "number") (Str.ofString "number") (defArgs s_number) (defBody s_number) (defScope s_number) .none kV14 dc14 pm14 an14 cd14 ct14), sl14⟩) (c14 : PySem.W.codeIn K cd14 (Str.ofString "number") = true) (k14 : PySem.W.keepIn K (.ref f14) = true)
    {f15 : Addr} {od15 an15 : Option Addr} {sl15 : Array (Option Value)} {oc15 kV15 dc15 pm15 cd15 ct15 : Value}
    (a15 : PySem.W.nsIn K mainGlobals (Str.ofString "unit") = some (some (.ref f15))) (l15 : K.lookup f15 = some ⟨oc15, od15, .func (PySem.W.fnOf (Str.ofString "unit") (Str.ofString "unit") (defArgs s_unit) (defBody s_unit) (defScope s_unit) .none kV15 dc15 pm15 an15 cd15 ct15), sl15⟩) (c15 : PySem.W.codeIn K cd15 (Str.ofString "unit") = true) (k15 : PySem.W.keepIn K (.ref f15) = true)
    {f16 : Addr} {od16 an16 : Option Addr} {sl16 : Array (Option Value)} {oc16 kV16 dc16 pm16 cd16 ct16 : Value}
    (a16 : PySem.W.nsIn K mainGlobals (Str.ofString "noughts") = some (some (.ref f16))) (l16 : K.lookup f16 = some ⟨oc16, od16, .func (PySem.W.fnOf (Str.ofString "noughts") (Str.ofString "noughts") (defArgs s_noughts) (defBody s_noughts) (defScope s_noughts) .none kV16 dc16 pm16 an16 cd16 ct16), sl16⟩) (c16 : PySem.W.codeIn K cd16 (Str.ofString "noughts") = true) (k16 : PySem.W.keepIn K (.ref f16) = true)
    {f17 : Addr} {od17 an17 : Option Addr} {sl17 : Array (Option Value)} {oc17 kV17 dc17 pm17 cd17 ct17 : Value}
    (a17 : PySem.W.nsIn K mainGlobals (Str.ofString "sum_of") = some (some (.ref f17))) (l17 : K.lookup f17 = some ⟨oc17, od17, .func (PySem.W.fnOf (Str.ofString "sum_of") (Str.ofString "sum_of") (defArgs s_sum_of) (defBody s_sum_of) (defScope s_sum_of) .none kV17 dc17 pm17 an17 cd17 ct17), sl17⟩) (c17 : PySem.W.codeIn K cd17 (Str.ofString "sum_of") = true) (k17 : PySem.W.keepIn K (.ref f17) = true)
    {f18 : Addr} {od18 an18 : Option Addr} {sl18 : Array (Option Value)} {oc18 kV18 dc18 pm18 cd18 ct18 : Value}
    (a18 : PySem.W.nsIn K mainGlobals (Str.ofString "times") = some (some (.ref f18))) (l18 : K.lookup f18 = some ⟨oc18, od18, .func (PySem.W.fnOf (Str.ofString "times") (Str.ofString "times") (defArgs s_times) (defBody s_times) (defScope s_times) .none kV18 dc18 pm18 an18 cd18 ct18), sl18⟩) (c18 : PySem.W.codeIn K cd18 (Str.ofString "times") = true) (k18 : PySem.W.keepIn K (.ref f18) = true)
    {f19 : Addr} {od19 an19 : Option Addr} {sl19 : Array (Option Value)} {oc19 kV19 dc19 pm19 cd19 ct19 : Value}
    (a19 : PySem.W.nsIn K mainGlobals (Str.ofString "combined") = some (some (.ref f19))) (l19 : K.lookup f19 = some ⟨oc19, od19, .func (PySem.W.fnOf (Str.ofString "combined") (Str.ofString "combined") (defArgs s_combined) (defBody s_combined) (defScope s_combined) .none kV19 dc19 pm19 an19 cd19 ct19), sl19⟩) (c19 : PySem.W.codeIn K cd19 (Str.ofString "combined") = true) (k19 : PySem.W.keepIn K (.ref f19) = true)
    {f20 : Addr} {od20 an20 : Option Addr} {sl20 : Array (Option Value)} {oc20 kV20 dc20 pm20 cd20 ct20 : Value}
    (a20 : PySem.W.nsIn K mainGlobals (Str.ofString "_law_pool") = some (some (.ref f20))) (l20 : K.lookup f20 = some ⟨oc20, od20, .func (PySem.W.fnOf (Str.ofString "_law_pool") (Str.ofString "_law_pool") (defArgs s_law_pool) (defBody s_law_pool) (defScope s_law_pool) .none kV20 dc20 pm20 an20 cd20 ct20), sl20⟩) (c20 : PySem.W.codeIn K cd20 (Str.ofString "_law_pool") = true) (k20 : PySem.W.keepIn K (.ref f20) = true)
    {f21 : Addr} {od21 an21 : Option Addr} {sl21 : Array (Option Value)} {oc21 kV21 dc21 pm21 cd21 ct21 : Value}
    (a21 : PySem.W.nsIn K mainGlobals (Str.ofString "_law_pick") = some (some (.ref f21))) (l21 : K.lookup f21 = some ⟨oc21, od21, .func (PySem.W.fnOf (Str.ofString "_law_pick") (Str.ofString "_law_pick") (defArgs s_law_pick) (defBody s_law_pick) (defScope s_law_pick) .none kV21 dc21 pm21 an21 cd21 ct21), sl21⟩) (c21 : PySem.W.codeIn K cd21 (Str.ofString "_law_pick") = true) (k21 : PySem.W.keepIn K (.ref f21) = true)
    {f22 : Addr} {od22 an22 : Option Addr} {sl22 : Array (Option Value)} {oc22 kV22 dc22 pm22 cd22 ct22 : Value}
    (a22 : PySem.W.nsIn K mainGlobals (Str.ofString "_law_low") = some (some (.ref f22))) (l22 : K.lookup f22 = some ⟨oc22, od22, .func (PySem.W.fnOf (Str.ofString "_law_low") (Str.ofString "_law_low") (defArgs s_law_low) (defBody s_law_low) (defScope s_law_low) .none kV22 dc22 pm22 an22 cd22 ct22), sl22⟩) (c22 : PySem.W.codeIn K cd22 (Str.ofString "_law_low") = true) (k22 : PySem.W.keepIn K (.ref f22) = true)
    {f23 : Addr} {od23 an23 : Option Addr} {sl23 : Array (Option Value)} {oc23 kV23 dc23 pm23 cd23 ct23 : Value}
    (a23 : PySem.W.nsIn K mainGlobals (Str.ofString "_law_add") = some (some (.ref f23))) (l23 : K.lookup f23 = some ⟨oc23, od23, .func (PySem.W.fnOf (Str.ofString "_law_add") (Str.ofString "_law_add") (defArgs s_law_add) (defBody s_law_add) (defScope s_law_add) .none kV23 dc23 pm23 an23 cd23 ct23), sl23⟩) (c23 : PySem.W.codeIn K cd23 (Str.ofString "_law_add") = true) (k23 : PySem.W.keepIn K (.ref f23) = true)
    {f24 : Addr} {od24 an24 : Option Addr} {sl24 : Array (Option Value)} {oc24 kV24 dc24 pm24 cd24 ct24 : Value}
    (a24 : PySem.W.nsIn K mainGlobals (Str.ofString "_law_mul") = some (some (.ref f24))) (l24 : K.lookup f24 = some ⟨oc24, od24, .func (PySem.W.fnOf (Str.ofString "_law_mul") (Str.ofString "_law_mul") (defArgs s_law_mul) (defBody s_law_mul) (defScope s_law_mul) .none kV24 dc24 pm24 an24 cd24 ct24), sl24⟩) (c24 : PySem.W.codeIn K cd24 (Str.ofString "_law_mul") = true) (k24 : PySem.W.keepIn K (.ref f24) = true)
    {f25 : Addr} {od25 an25 : Option Addr} {sl25 : Array (Option Value)} {oc25 kV25 dc25 pm25 cd25 ct25 : Value}
    (a25 : PySem.W.nsIn K mainGlobals (Str.ofString "_law_number") = some (some (.ref f25))) (l25 : K.lookup f25 = some ⟨oc25, od25, .func (PySem.W.fnOf (Str.ofString "_law_number") (Str.ofString "_law_number") (defArgs s_law_number) (defBody s_law_number) (defScope s_law_number) .none kV25 dc25 pm25 an25 cd25 ct25), sl25⟩) (c25 : PySem.W.codeIn K cd25 (Str.ofString "_law_number") = true) (k25 : PySem.W.keepIn K (.ref f25) = true)
    {f26 : Addr} {od26 an26 : Option Addr} {sl26 : Array (Option Value)} {oc26 kV26 dc26 pm26 cd26 ct26 : Value}
    (a26 : PySem.W.nsIn K mainGlobals (Str.ofString "_law_alike") = some (some (.ref f26))) (l26 : K.lookup f26 = some ⟨oc26, od26, .func (PySem.W.fnOf (Str.ofString "_law_alike") (Str.ofString "_law_alike") (defArgs s_law_alike) (defBody s_law_alike) (defScope s_law_alike) .none kV26 dc26 pm26 an26 cd26 ct26), sl26⟩) (c26 : PySem.W.codeIn K cd26 (Str.ofString "_law_alike") = true) (k26 : PySem.W.keepIn K (.ref f26) = true)
    {f27 : Addr} {od27 an27 : Option Addr} {sl27 : Array (Option Value)} {oc27 kV27 dc27 pm27 cd27 ct27 : Value}
    (a27 : PySem.W.nsIn K mainGlobals (Str.ofString "_law_line") = some (some (.ref f27))) (l27 : K.lookup f27 = some ⟨oc27, od27, .func (PySem.W.fnOf (Str.ofString "_law_line") (Str.ofString "_law_line") (defArgs s_law_line) (defBody s_law_line) (defScope s_law_line) .none kV27 dc27 pm27 an27 cd27 ct27), sl27⟩) (c27 : PySem.W.codeIn K cd27 (Str.ofString "_law_line") = true) (k27 : PySem.W.keepIn K (.ref f27) = true)
    {f28 : Addr} {od28 an28 : Option Addr} {sl28 : Array (Option Value)} {oc28 kV28 dc28 pm28 cd28 ct28 : Value}
    (a28 : PySem.W.nsIn K mainGlobals (Str.ofString "_law_numbers_right") = some (some (.ref f28))) (l28 : K.lookup f28 = some ⟨oc28, od28, .func (PySem.W.fnOf (Str.ofString "_law_numbers_right") (Str.ofString "_law_numbers_right") (defArgs s_law_numbers_right) (defBody s_law_numbers_right) (defScope s_law_numbers_right) .none kV28 dc28 pm28 an28 cd28 ct28), sl28⟩) (c28 : PySem.W.codeIn K cd28 (Str.ofString "_law_numbers_right") = true) (k28 : PySem.W.keepIn K (.ref f28) = true)
    {f29 : Addr} {od29 an29 : Option Addr} {sl29 : Array (Option Value)} {oc29 kV29 dc29 pm29 cd29 ct29 : Value}
    (a29 : PySem.W.nsIn K mainGlobals (Str.ofString "_law_two_right") = some (some (.ref f29))) (l29 : K.lookup f29 = some ⟨oc29, od29, .func (PySem.W.fnOf (Str.ofString "_law_two_right") (Str.ofString "_law_two_right") (defArgs s_law_two_right) (defBody s_law_two_right) (defScope s_law_two_right) .none kV29 dc29 pm29 an29 cd29 ct29), sl29⟩) (c29 : PySem.W.codeIn K cd29 (Str.ofString "_law_two_right") = true) (k29 : PySem.W.keepIn K (.ref f29) = true)
    {f30 : Addr} {od30 an30 : Option Addr} {sl30 : Array (Option Value)} {oc30 kV30 dc30 pm30 cd30 ct30 : Value}
    (a30 : PySem.W.nsIn K mainGlobals (Str.ofString "_law_shape") = some (some (.ref f30))) (l30 : K.lookup f30 = some ⟨oc30, od30, .func (PySem.W.fnOf (Str.ofString "_law_shape") (Str.ofString "_law_shape") (defArgs s_law_shape) (defBody s_law_shape) (defScope s_law_shape) .none kV30 dc30 pm30 an30 cd30 ct30), sl30⟩) (c30 : PySem.W.codeIn K cd30 (Str.ofString "_law_shape") = true) (k30 : PySem.W.keepIn K (.ref f30) = true)
    {f31 : Addr} {od31 an31 : Option Addr} {sl31 : Array (Option Value)} {oc31 kV31 dc31 pm31 cd31 ct31 : Value}
    (a31 : PySem.W.nsIn K mainGlobals (Str.ofString "_law_many_right") = some (some (.ref f31))) (l31 : K.lookup f31 = some ⟨oc31, od31, .func (PySem.W.fnOf (Str.ofString "_law_many_right") (Str.ofString "_law_many_right") (defArgs s_law_many_right) (defBody s_law_many_right) (defScope s_law_many_right) .none kV31 dc31 pm31 an31 cd31 ct31), sl31⟩) (c31 : PySem.W.codeIn K cd31 (Str.ofString "_law_many_right") = true) (k31 : PySem.W.keepIn K (.ref f31) = true)
    {f32 : Addr} {od32 an32 : Option Addr} {sl32 : Array (Option Value)} {oc32 kV32 dc32 pm32 cd32 ct32 : Value}
    (a32 : PySem.W.nsIn K mainGlobals (Str.ofString "law") = some (some (.ref f32))) (l32 : K.lookup f32 = some ⟨oc32, od32, .func (PySem.W.fnOf (Str.ofString "law") (Str.ofString "law") (defArgs s_law) (defBody s_law) (defScope s_law) .none kV32 dc32 pm32 an32 cd32 ct32), sl32⟩) (c32 : PySem.W.codeIn K cd32 (Str.ofString "law") = true) (k32 : PySem.W.keepIn K (.ref f32) = true)
    (z_abs : PySem.W.nsIn K mainGlobals (Str.ofString "abs") = some none)
    (z_bool : PySem.W.nsIn K mainGlobals (Str.ofString "bool") = some none)
    (z_enumerate : PySem.W.nsIn K mainGlobals (Str.ofString "enumerate") = some none)
    (z_int : PySem.W.nsIn K mainGlobals (Str.ofString "int") = some none)
    (z_isinstance : PySem.W.nsIn K mainGlobals (Str.ofString "isinstance") = some none)
    (z_len : PySem.W.nsIn K mainGlobals (Str.ofString "len") = some none)
    (z_list : PySem.W.nsIn K mainGlobals (Str.ofString "list") = some none)
    (z_range : PySem.W.nsIn K mainGlobals (Str.ofString "range") = some none)
    (z_tuple : PySem.W.nsIn K mainGlobals (Str.ofString "tuple") = some none)
    (z_zip : PySem.W.nsIn K mainGlobals (Str.ofString "zip") = some none)
    (g_gcd : PySem.W.nsIn K mainGlobals (Str.ofString "gcd") = some (some (.builtin "math.gcd")))
    (g_lcm : PySem.W.nsIn K mainGlobals (Str.ofString "lcm") = some (some (.builtin "math.lcm")))
    {c_NOUGHT : Addr} {cd_NOUGHT : Option Addr} {cs_NOUGHT : Array (Option Value)} {n_NOUGHT : Nat} {t_NOUGHT u_NOUGHT : Tok} (m_NOUGHT : PySem.W.nsIn K mainGlobals (Str.ofString "NOUGHT") = some (some (.ref c_NOUGHT))) (q_NOUGHT : K.lookup c_NOUGHT = some ⟨.type "tuple", cd_NOUGHT, .seq #[.int 0 t_NOUGHT, .int 1 u_NOUGHT] n_NOUGHT, cs_NOUGHT⟩)
    {c_ONE : Addr} {cd_ONE : Option Addr} {cs_ONE : Array (Option Value)} {n_ONE : Nat} {t_ONE u_ONE : Tok} (m_ONE : PySem.W.nsIn K mainGlobals (Str.ofString "ONE") = some (some (.ref c_ONE))) (q_ONE : K.lookup c_ONE = some ⟨.type "tuple", cd_ONE, .seq #[.int 1 t_ONE, .int 1 u_ONE] n_ONE, cs_ONE⟩)
    (hm : ∀ ns : List Int, ns.length ≤ 63 → w_law (ns, ()) (fun r _ => r = true) noX 0) :
    ∃ fd : FuncData, (∀ (s : Shared) (v : Value), BindsTo s fd ⟨[v], []⟩ [(Str.ofString "_law_script", v)]) ∧ ∀ base : Heap, K.In base → base.Ns mainGlobals mg → FnOk l.prog w K mg base CX0 9 fa fd P_law (spLaw K) := by
  have e := hfa.symm.trans (PySem.W.mg_of X G a32)
  cases e
  let T : Txt K mg := {
    a_lowest := f0, d_lowest := _, F_lowest := fun_mk (st := s_lowest) l0 c0 k0, m_lowest := PySem.W.mg_of X G a0,
    a_sum_two := f1, d_sum_two := _, F_sum_two := fun_mk (st := s_sum_two) l1 c1 k1, m_sum_two := PySem.W.mg_of X G a1,
    a_product_two := f2, d_product_two := _, F_product_two := fun_mk (st := s_product_two) l2 c2 k2, m_product_two := PySem.W.mg_of X G a2,
    a_is_number := f3, d_is_number := _, F_is_number := fun_mk (st := s_is_number) l3 c3 k3, m_is_number := PySem.W.mg_of X G a3,
    a_checked := f4, d_checked := _, F_checked := fun_mk (st := s_checked) l4 c4 k4, m_checked := PySem.W.mg_of X G a4,
    a_check_numbers := f5, d_check_numbers := _, F_check_numbers := fun_mk (st := s_check_numbers) l5 c5 k5, m_check_numbers := PySem.W.mg_of X G a5,
    a_integers_of := f6, d_integers_of := _, F_integers_of := fun_mk (st := s_integers_of) l6 c6 k6, m_integers_of := PySem.W.mg_of X G a6,
    a_numbers_of := f7, d_numbers_of := _, F_numbers_of := fun_mk (st := s_numbers_of) l7 c7 k7, m_numbers_of := PySem.W.mg_of X G a7,
    a_nought_row := f8, d_nought_row := _, F_nought_row := fun_mk (st := s_nought_row) l8 c8 k8, m_nought_row := PySem.W.mg_of X G a8,
    a_unit_row := f9, d_unit_row := _, F_unit_row := fun_mk (st := s_unit_row) l9 c9 k9, m_unit_row := PySem.W.mg_of X G a9,
    a_plus_row := f10, d_plus_row := _, F_plus_row := fun_mk (st := s_plus_row) l10 c10 k10, m_plus_row := PySem.W.mg_of X G a10,
    a_scaled_row := f11, d_scaled_row := _, F_scaled_row := fun_mk (st := s_scaled_row) l11 c11 k11, m_scaled_row := PySem.W.mg_of X G a11,
    a_combination := f12, d_combination := _, F_combination := fun_mk (st := s_combination) l12 c12 k12, m_combination := PySem.W.mg_of X G a12,
    a_check_rows := f13, d_check_rows := _, F_check_rows := fun_mk (st := s_check_rows) l13 c13 k13, m_check_rows := PySem.W.mg_of X G a13,
    a_number := f14, d_number := _, F_number := fun_mk (st := s_number) l14 c14 k14, m_number := PySem.W.mg_of X G a14,
    a_unit := f15, d_unit := _, F_unit := fun_mk (st := s_unit) l15 c15 k15, m_unit := PySem.W.mg_of X G a15,
    a_noughts := f16, d_noughts := _, F_noughts := fun_mk (st := s_noughts) l16 c16 k16, m_noughts := PySem.W.mg_of X G a16,
    a_sum_of := f17, d_sum_of := _, F_sum_of := fun_mk (st := s_sum_of) l17 c17 k17, m_sum_of := PySem.W.mg_of X G a17,
    a_times := f18, d_times := _, F_times := fun_mk (st := s_times) l18 c18 k18, m_times := PySem.W.mg_of X G a18,
    a_combined := f19, d_combined := _, F_combined := fun_mk (st := s_combined) l19 c19 k19, m_combined := PySem.W.mg_of X G a19,
    a_law_pool := f20, d_law_pool := _, F_law_pool := fun_mk (st := s_law_pool) l20 c20 k20, m_law_pool := PySem.W.mg_of X G a20,
    a_law_pick := f21, d_law_pick := _, F_law_pick := fun_mk (st := s_law_pick) l21 c21 k21, m_law_pick := PySem.W.mg_of X G a21,
    a_law_low := f22, d_law_low := _, F_law_low := fun_mk (st := s_law_low) l22 c22 k22, m_law_low := PySem.W.mg_of X G a22,
    a_law_add := f23, d_law_add := _, F_law_add := fun_mk (st := s_law_add) l23 c23 k23, m_law_add := PySem.W.mg_of X G a23,
    a_law_mul := f24, d_law_mul := _, F_law_mul := fun_mk (st := s_law_mul) l24 c24 k24, m_law_mul := PySem.W.mg_of X G a24,
    a_law_number := f25, d_law_number := _, F_law_number := fun_mk (st := s_law_number) l25 c25 k25, m_law_number := PySem.W.mg_of X G a25,
    a_law_alike := f26, d_law_alike := _, F_law_alike := fun_mk (st := s_law_alike) l26 c26 k26, m_law_alike := PySem.W.mg_of X G a26,
    a_law_line := f27, d_law_line := _, F_law_line := fun_mk (st := s_law_line) l27 c27 k27, m_law_line := PySem.W.mg_of X G a27,
    a_law_numbers_right := f28, d_law_numbers_right := _, F_law_numbers_right := fun_mk (st := s_law_numbers_right) l28 c28 k28, m_law_numbers_right := PySem.W.mg_of X G a28,
    a_law_two_right := f29, d_law_two_right := _, F_law_two_right := fun_mk (st := s_law_two_right) l29 c29 k29, m_law_two_right := PySem.W.mg_of X G a29,
    a_law_shape := f30, d_law_shape := _, F_law_shape := fun_mk (st := s_law_shape) l30 c30 k30, m_law_shape := PySem.W.mg_of X G a30,
    a_law_many_right := f31, d_law_many_right := _, F_law_many_right := fun_mk (st := s_law_many_right) l31 c31 k31, m_law_many_right := PySem.W.mg_of X G a31,
    a_law := fa, d_law := _, F_law := fun_mk (st := s_law) l32 c32 k32, m_law := PySem.W.mg_of X G a32,
    z_abs := PySem.W.mg_none_of X G z_abs,
    z_bool := PySem.W.mg_none_of X G z_bool,
    z_enumerate := PySem.W.mg_none_of X G z_enumerate,
    z_int := PySem.W.mg_none_of X G z_int,
    z_isinstance := PySem.W.mg_none_of X G z_isinstance,
    z_len := PySem.W.mg_none_of X G z_len,
    z_list := PySem.W.mg_none_of X G z_list,
    z_range := PySem.W.mg_none_of X G z_range,
    z_tuple := PySem.W.mg_none_of X G z_tuple,
    z_zip := PySem.W.mg_none_of X G z_zip,
    m_gcd := PySem.W.mg_of X G g_gcd,
    m_lcm := PySem.W.mg_of X G g_lcm,
    c_NOUGHT := c_NOUGHT, m_NOUGHT := PySem.W.mg_of X G m_NOUGHT, k_NOUGHT := ⟨_, _, _, q_NOUGHT, rfl, rfl, by show 2 ≤ sizeLine; decide, .cons ⟨_, rfl⟩ (.cons ⟨_, rfl⟩ .nil)⟩,
    c_ONE := c_ONE, m_ONE := PySem.W.mg_of X G m_ONE, k_ONE := ⟨_, _, _, q_ONE, rfl, rfl, by show 2 ≤ sizeLine; decide, .cons ⟨_, rfl⟩ (.cons ⟨_, rfl⟩ .nil)⟩
  }
  exact ⟨_, fun s v => .of_eq rfl, fun base _ _ => ok_law T hm⟩

end Dc
namespace Dc
open PySem PySem.Spec L2
theorem gcd_pos_of {a b : Int} (h : b ≠ 0) : 0 < Nat.gcd a.natAbs b.natAbs := Nat.gcd_pos_of_pos_right _ (by omega)
theorem gcd_le_of {a b : Int} (h : b ≠ 0) : Nat.gcd a.natAbs b.natAbs ≤ b.natAbs := Nat.gcd_le_right _ (by omega)
theorem fdiv_negr (a : Int) (g : Nat) : Int.fdiv a (-(g : Int)) = -a / (g : Int) := by
  have := Int.neg_fdiv_neg (-a) (g : Int)
  rw [Int.neg_neg] at this
  rw [this, Int.fdiv_eq_ediv_of_nonneg _ (by omega)]
theorem fdiv_posr (a : Int) (g : Nat) : Int.fdiv a (g : Int) = a / (g : Int) := Int.fdiv_eq_ediv_of_nonneg _ (by omega)
theorem lowest_eq {a b : Int} (h : b ≠ 0) (hb : b.natAbs < 2 ^ 9000) : w_lowest (a, b, ()) = ret (ofQ (Rat.divInt a b)) := by
  have g0 := gcd_pos_of (a := a) h
  have g1 := gcd_le_of (a := a) h
  unfold w_lowest wb_lowest
  simp only [bnd_ret, bnd_assoc, bnd_grd, bnd_ite, grd_true, fnR_bnd, fnR_ite, fnR_grd, fnR_ret, sq_nx]
  generalize hg : Nat.gcd a.natAbs b.natAbs = g at *
  by_cases q : b < 0
  · rw [ite_ok (decide_eq_true q), grd_ok (fdivOk_of (by omega) (by omega)), grd_ok (fdivOk_of (by omega) (by omega)), fdiv_negr, fdiv_negr, ← low_neg q, hg]
  · rw [ite_no (decide_eq_false q), grd_ok (fdivOk_of (by omega) (by omega)), grd_ok (fdivOk_of (by omega) (by omega)), fdiv_posr, fdiv_posr, ← low_pos (by omega), hg]
theorem gcd_loop {β δ : Type} (t : Int × Int → W Bool) (f : Int × Int → W (Fl (Int × Int) (Int × Int) β)) (ht : ∀ s, t s = ret (!decide (s.2 = 0))) (hf : ∀ s : Int × Int, 0 < s.2 → f s = ret (.nx (s.2, s.1 % s.2))) :
    ∀ (n : Nat) (x y : Int), 0 ≤ x → 0 ≤ y → y.toNat < n → whW (δ := δ) t f n (x, y) = ret (.nx ((Nat.gcd x.natAbs y.natAbs : Nat), 0))
  | 0, _, _, _, _, h => by omega
  | n + 1, x, y, hx, hy, h => by
    show bnd (t (x, y)) _ = _
    rw [ht, bnd_ret]
    by_cases q : y = 0
    · subst q
      rw [ite_no (by simp)]
      simp [Int.natAbs_of_nonneg hx]
    · rw [ite_ok (by simp [q]), hf _ (by show 0 < y; omega), bnd_ret]
      have m0 := Int.emod_nonneg x q
      have m1 := Int.emod_lt_of_pos x (show 0 < y by omega)
      have := gcd_loop (δ := δ) t f ht hf n y (x % y) hy m0 (by omega)
      refine this.trans ?_
      have e : (x % y).natAbs = x.natAbs % y.natAbs := by
        rw [Int.natAbs_emod_of_nonneg hx]
      rw [e, Nat.gcd_comm y.natAbs, ← Nat.gcd_rec, Nat.gcd_comm y.natAbs]
theorem iabs (a : Int) : (if a < 0 then -a else a) = (a.natAbs : Int) := by split <;> omega
theorem law_low_eq {a b : Int} (h : b ≠ 0) (hb : b.natAbs < 2 ^ 9000) : w_law_low (a, b, ()) = ret (ofQ (Rat.divInt a b)) := by
  have g0 := gcd_pos_of (a := a) h
  have g1 := gcd_le_of (a := a) h
  unfold w_law_low wb_law_low
  simp only [bnd_ret, bnd_assoc, bnd_grd, bnd_ite, grd_true, fnR_bnd, fnR_ite, fnR_grd, fnR_ret, sq_nx, iabs]
  rw [gcd_loop _ _ (fun s => rfl) (fun s hs => by rw [grd_ok (by simp [modOk]; exact hs)]) _ _ _ (by omega) (by omega) (by omega), bnd_ret, sq_nx]
  simp only [fnR_ite, fnR_grd, fnR_ret, Int.natAbs_natCast]
  generalize hg : Nat.gcd a.natAbs b.natAbs = g at *
  by_cases q : 0 < b
  · rw [ite_ok (decide_eq_true q), grd_ok (fdivOk_of (by omega) (by omega)), grd_ok (fdivOk_of (by omega) (by omega)), fdiv_posr, fdiv_posr, ← low_pos (by omega), hg]
  · rw [ite_no (decide_eq_false q), grd_ok (fdivOk_of (by omega) (by omega)), grd_ok (fdivOk_of (by omega) (by omega)), fdiv_posr, fdiv_posr, ← low_neg (by omega), hg]
end Dc
namespace Dc
open PySem PySem.Spec L2
theorem small {x : Nat} (h : x < 2 ^ 64) : x < 2 ^ 9000 := Nat.lt_of_lt_of_le h (Nat.pow_le_pow_right (by decide) (by decide))
theorem lsmall {x : Nat} (h : x < 2 ^ 64) : x.log2 < 9000 := log2_lt (small h) (by decide)
theorem ixN_of {n : Nat} {k : Int} (h : 0 ≤ k) (h2 : k < n) : ixN n k = some k.toNat := by
  unfold ixN
  simp only [h, h2]
  simp
theorem ix_in {α : Type} [Inhabited α] {l : List α} {k : Int} (h : 0 ≤ k) (h2 : k < l.length) : ixOk l k = true ∧ ixAt l k ∈ l := by
  have e := ixN_of h h2
  refine ⟨by simp [ixOk, e], ?_⟩
  have hk : k.toNat < l.length := by omega
  unfold ixAt
  rw [e, Option.getD_some, List.getD_eq_getElem?_getD, List.getElem?_eq_getElem hk, Option.getD_some]
  exact List.getElem_mem hk
/-- numbers of the law's pool -/
structure Num (g : Bool) (x : Fr) : Prop where
  red : Red x
  up : x.1.natAbs ≤ 9999
  dn : x.2.natAbs ≤ 9999
  sm : g = false → x.2.natAbs ≤ 9
theorem Num.of {g : Bool} {a b m : Int} (h1 : 1 ≤ b) (h2 : b ≤ m) (ha : a.natAbs ≤ m.natAbs) (hm : m ≤ 9999) (hg : g = false → m ≤ 9) : Num g (ofQ (Rat.divInt a b)) := by
  have h := low_le (a := a) (b := b) (by omega)
  exact ⟨red_ofQ _, by omega, by omega, fun z => by have := hg z; omega⟩
theorem law_number_tr (g : Bool) : Tr 5 (w_law_number (g, ())) (Num g) := by
  unfold w_law_number wb_law_number
  simp only [bnd_ret, bnd_assoc, bnd_grd, bnd_ifr, grd_true, fnR_bnd, fnR_ite, fnR_grd, fnR_ret, sq_nx, sq_rt]
  refine Tr.bnd (a := 1) (b := 4) Tr.pick fun k hk => ?_
  refine Tr.ite (fun q => Tr.ret ?_) fun q => ?_
  · have q := of_decide_eq_true q
    exact ⟨red_int k, by show k.natAbs ≤ 9999; omega, by show (1 : Int).natAbs ≤ 9999; decide, fun _ => by show (1 : Int).natAbs ≤ 9; decide⟩
  have q := of_decide_eq_false q
  refine Tr.bnd (a := 0) (b := 4) (S := fun m : Int => 1 ≤ m ∧ m ≤ 9999 ∧ (g = false → m ≤ 9)) (Tr.ite (fun hg => ?_) fun hg => Tr.ret ⟨by decide, by decide, fun _ => by decide⟩) fun m hm => ?_
  · have i1 := ix_in (l := ([9, 9, 9, 99, 9999] : List Int)) (k := k - 2) (by omega) (by have : ([9, 9, 9, 99, 9999] : List Int).length = 5 := rfl; omega)
    refine Tr.grd i1.1 (Tr.ret ?_)
    generalize ixAt ([9, 9, 9, 99, 9999] : List Int) (k - 2) = m at i1 ⊢
    have hz : 1 ≤ m ∧ m ≤ 9999 := by
      have := i1.2
      simp at this
      omega
    exact ⟨hz.1, hz.2, fun z => by rw [hg] at z; cases z⟩
  · obtain ⟨h1, h2, h3⟩ := hm
    refine Tr.bnd (a := 1) (b := 3) (Tr.pick (by omega) (lsmall (by omega))) fun x hx => ?_
    refine Tr.bnd (a := 1) (b := 2) Tr.pick fun y hy => ?_
    have i1 := ix_in (l := [1, m]) hy.1 hy.2
    refine Tr.grd i1.1 ?_
    generalize ixAt [1, m] y = z at i1
    have hz : 1 ≤ z ∧ z ≤ m := by
      have := i1.2
      simp at this
      omega
    refine Tr.bnd (a := 1) (b := 1) (Tr.pick (by omega) (lsmall (by omega))) fun u hu => ?_
    refine Tr.bnd (a := 1) (b := 0) Tr.pick fun v hv => ?_
    have i2 := ix_in (l := [1 + x, -(1 + x)]) hv.1 hv.2
    refine Tr.grd i2.1 ?_
    generalize ixAt [1 + x, -(1 + x)] v = a at i2
    have ha : a.natAbs ≤ m.natAbs := by
      have := i2.2
      simp at this
      omega
    rw [law_low_eq (by omega) (small (by omega)), bnd_ret]
    exact Tr.ret (Num.of (m := m) (by omega) (by omega) ha h2 h3)
end Dc
namespace Dc
open PySem PySem.Spec L2
theorem rangeF_mem {lo : Int} {n : Nat} {y : Int} (h : y ∈ rangeF lo n) : lo ≤ y ∧ y < lo + n := by
  obtain ⟨i, hi⟩ := List.getElem?_of_mem h
  have := rangeF_get _ _ _ _ hi
  omega
/-! ### alike -/
def dOk : Nat → D → Prop
  | _, .int _ => True
  | _, .bl _ => True
  | _, .non => True
  | n + 1, .lst ds => ds.length ≤ 16777216 ∧ ∀ d ∈ ds, dOk n d
  | n + 1, .tup ds => ds.length ≤ 16777216 ∧ ∀ d ∈ ds, dOk n d
  | _, _ => False
theorem alike_loop {n : Nat} {d : D} (ih : ∀ e ∈ itemsD d, w_law_alike n (e, e, ()) = ret true) (f : Unit → Int → W (Fl Unit Unit Bool))
    (hf : ∀ y, f () y = grd (true && ixOk (itemsD d) y) (grd (true && ixOk (itemsD d) y) (bnd (w_law_alike n (ixAt (itemsD d) y, ixAt (itemsD d) y, ())) fun t => ite (!t) (ret (Fl.rt false)) (ret (Fl.nx ()))))) :
    forW (δ := Empty) f () (rangeF 0 ((itemsD d).length : Int).toNat) = ret (.nx ()) := by
  have := forW_eq (δ := Empty) (f := f) (g := fun _ _ => ()) (s := ()) (xs := rangeF 0 ((itemsD d).length : Int).toNat) (fun y hy s => by
    have hm := rangeF_mem hy
    have i := ix_in (l := itemsD d) (k := y) (by omega) (by omega)
    cases s
    rw [hf, grd_ok (by simp [i.1]), grd_ok (by simp [i.1]), ih _ i.2, bnd_ret]
    rfl)
  rw [this]
theorem alike_leaf {n : Nat} {d : D} (h0 : nonD d = false) (h1 : isD "list" d = false) (h2 : isD "tuple" d = false) (h3 : isD "int" d = true) (h4 : SeqAt.shaped (toP d) = true) (h5 : PyData.eqv (toP d) (toP d) = true) : w_law_alike (n + 1) (d, d, ()) = ret true := by
  unfold w_law_alike
  simp only [bnd_ret, bnd_assoc, bnd_grd, bnd_ifr, grd_true, fnR_bnd, fnR_ite, fnR_grd, fnR_ret, sq_nx, sq_rt, h0, h1, h2, h3, h4, h5, ite_false, ite_true, bnd_ite, Bool.or_false, Bool.and_true, beq_self_eq_true]
theorem alike_node {n : Nat} {d : D} (h0 : nonD d = false) (h1 : (isD "list" d || isD "tuple" d) = true) (hs : seqD d = true) (hl : (itemsD d).length ≤ 16777216) (ih : ∀ e ∈ itemsD d, w_law_alike n (e, e, ()) = ret true) : w_law_alike (n + 1) (d, d, ()) = ret true := by
  have hk : isD "list" d = false → isD "tuple" d = true := fun z => by simpa [z] using h1
  unfold w_law_alike
  simp only [bnd_ret, bnd_assoc, bnd_grd, bnd_ifr, grd_true, fnR_bnd, fnR_ite, fnR_grd, fnR_ret, sq_nx, sq_rt, h0, h1, hs, ite_false, ite_true, bnd_ite, Bool.not_true, Bool.not_false, decide_true, fnR_stuck]
  cases e : isD "list" d
  · simp only [hk e, ite_false, ite_true, Bool.not_true, Bool.not_false]
    rw [grd_ok (by simp [rngOk]; omega), alike_loop ih _ fun y => rfl, bnd_ret]
    rfl
  · simp only [ite_false, ite_true, Bool.not_true, Bool.not_false]
    rw [grd_ok (by simp [rngOk]; omega), alike_loop ih _ fun y => rfl, bnd_ret]
    rfl
theorem alike_self : ∀ (n : Nat) (d : D), dOk n d → w_law_alike (n + 1) (d, d, ()) = ret true := by
  intro n
  induction n with
  | zero =>
    intro d h
    cases d with
    | lst ds => exact h.elim
    | tup ds => exact h.elim
    | str s => exact h.elim
    | non => rfl
    | int i => exact alike_leaf rfl rfl rfl rfl rfl (by simp [toP, PyData.eqv])
    | bl b => exact alike_leaf rfl rfl rfl rfl rfl (by simp [toP, PyData.eqv])
  | succ n ih =>
    intro d h
    cases d with
    | lst ds => exact alike_node rfl rfl rfl h.1 fun e he => ih e (h.2 e he)
    | tup ds => exact alike_node rfl rfl rfl h.1 fun e he => ih e (h.2 e he)
    | str s => exact h.elim
    | non => rfl
    | int i => exact alike_leaf rfl rfl rfl rfl rfl (by simp [toP, PyData.eqv])
    | bl b => exact alike_leaf rfl rfl rfl rfl rfl (by simp [toP, PyData.eqv])
end Dc
namespace Dc
open PySem PySem.Spec L2
def lineD (l : List Fr) : D := D.lst (l.map fun z => D.tup [D.int z.1, D.int z.2])
theorem alike_pair (a b : Int) : w_law_alike 6 (D.tup [D.int a, D.int b], D.tup [D.int a, D.int b], ()) = ret true := alike_self 5 _ ⟨by show 2 ≤ 16777216; decide, fun d hd => by
  simp only [List.mem_cons, List.not_mem_nil, or_false] at hd
  rcases hd with rfl | rfl <;> exact True.intro⟩
theorem alike_line {l : List Fr} (h : l.length ≤ 16777216) : w_law_alike 6 (D.lst (l.map fun z => D.tup [D.int z.1, D.int z.2]), D.lst (l.map fun z => D.tup [D.int z.1, D.int z.2]), ()) = ret true := alike_self 5 _ ⟨by rw [List.length_map]; exact h, fun d hd => by
  obtain ⟨x, _, rfl⟩ := List.mem_map.mp hd
  exact ⟨by show 2 ≤ 16777216; decide, fun d hd => by
    simp only [List.mem_cons, List.not_mem_nil, or_false] at hd
    rcases hd with rfl | rfl <;> exact True.intro⟩⟩
/-- not too great -/
def Sz (n : Nat) (x : Fr) : Prop := x.1.natAbs < 2 ^ n ∧ x.2.natAbs < 2 ^ n
theorem mul_lt_pow {a b n m : Nat} (h : a < 2 ^ n) (h2 : b < 2 ^ m) : a * b < 2 ^ (n + m) := by
  rw [Nat.pow_add]
  rcases Nat.eq_zero_or_pos b with z | z
  · rw [z, Nat.mul_zero]; exact Nat.mul_pos (Nat.pow_pos (by decide)) (Nat.pow_pos (by decide))
  · exact Nat.lt_of_lt_of_le ((Nat.mul_lt_mul_right z).mpr h) (Nat.mul_le_mul_left _ (Nat.le_of_lt h2))
theorem is_number_eq {x : Fr} (h : Red x) : w_is_number (x, ()) = ret true := by
  unfold w_is_number wb_is_number
  simp only [bnd_ret, bnd_assoc, bnd_grd, bnd_ite, grd_true, fnR_bnd, fnR_ite, fnR_grd, fnR_ret, sq_nx, sq_rt]
  rw [ite_ok (decide_eq_true h.1), h.2]
  rfl
theorem checked_eq {x : Fr} (h : Red x) : w_checked (x, ()) = ret x := by
  unfold w_checked wb_checked
  simp only [bnd_ret, is_number_eq h, bnd_assoc, bnd_grd, bnd_ifs, grd_true, fnR_bnd, fnR_ite, fnR_grd, fnR_ret, sq_nx, sq_rt]
  rfl
theorem check_numbers_eq {l : List Fr} (h : ∀ x ∈ l, Red x) : w_check_numbers (l, ()) = ret () := by
  unfold w_check_numbers wb_check_numbers
  simp only [bnd_ret]
  rw [forW_eq (g := fun _ _ => ()) (fun x hx s => by
    simp only [bnd_ret, is_number_eq (h x hx), bnd_assoc, bnd_ifs]
    rfl), bnd_ret]
  rfl
theorem sum_two_eq {x y : Fr} (hx : x.2 ≠ 0) (hy : y.2 ≠ 0) (sx : Sz 4000 x) (sy : Sz 4000 y) : w_sum_two (x, y, ()) = ret (ofQ (toQ x + toQ y)) := by
  have b := mul_lt_pow sx.2 sy.2
  unfold w_sum_two wb_sum_two
  simp only [bnd_ret, bnd_assoc, bnd_grd, fnR_bnd, fnR_grd, fnR_ret]
  rw [grd_ok (mulOk_of sx.1 sy.2), grd_ok (mulOk_of sy.1 sx.2), grd_ok (mulOk_of sx.2 sy.2), lowest_eq (Int.mul_ne_zero hx hy) (by rw [Int.natAbs_mul]; exact Nat.lt_of_lt_of_le b (Nat.pow_le_pow_right (by decide) (by decide))), bnd_ret, toQ_add hx hy]
theorem law_add_eq {x y : Fr} (hx : x.2 ≠ 0) (hy : y.2 ≠ 0) (sx : Sz 4000 x) (sy : Sz 4000 y) : w_law_add (x, y, ()) = ret (ofQ (toQ x + toQ y)) := by
  have b := mul_lt_pow sx.2 sy.2
  unfold w_law_add wb_law_add
  simp only [bnd_ret, bnd_assoc, bnd_grd, fnR_bnd, fnR_grd, fnR_ret]
  rw [grd_ok (mulOk_of sx.1 sy.2), grd_ok (mulOk_of sy.1 sx.2), grd_ok (mulOk_of sx.2 sy.2), law_low_eq (Int.mul_ne_zero hx hy) (by rw [Int.natAbs_mul]; exact Nat.lt_of_lt_of_le b (Nat.pow_le_pow_right (by decide) (by decide))), bnd_ret, toQ_add hx hy]
theorem product_two_eq {x y : Fr} (hx : x.2 ≠ 0) (hy : y.2 ≠ 0) (sx : Sz 4000 x) (sy : Sz 4000 y) : w_product_two (x, y, ()) = ret (ofQ (toQ x * toQ y)) := by
  have b := mul_lt_pow sx.2 sy.2
  unfold w_product_two wb_product_two
  simp only [bnd_ret, bnd_assoc, bnd_grd, fnR_bnd, fnR_grd, fnR_ret]
  rw [grd_ok (mulOk_of sx.1 sy.1), grd_ok (mulOk_of sx.2 sy.2), lowest_eq (Int.mul_ne_zero hx hy) (by rw [Int.natAbs_mul]; exact Nat.lt_of_lt_of_le b (Nat.pow_le_pow_right (by decide) (by decide))), bnd_ret, toQ_mul]
theorem law_mul_eq {x y : Fr} (hx : x.2 ≠ 0) (hy : y.2 ≠ 0) (sx : Sz 4000 x) (sy : Sz 4000 y) : w_law_mul (x, y, ()) = ret (ofQ (toQ x * toQ y)) := by
  have b := mul_lt_pow sx.2 sy.2
  unfold w_law_mul wb_law_mul
  simp only [bnd_ret, bnd_assoc, bnd_grd, fnR_bnd, fnR_grd, fnR_ret]
  rw [grd_ok (mulOk_of sx.1 sy.1), grd_ok (mulOk_of sx.2 sy.2), law_low_eq (Int.mul_ne_zero hx hy) (by rw [Int.natAbs_mul]; exact Nat.lt_of_lt_of_le b (Nat.pow_le_pow_right (by decide) (by decide))), bnd_ret, toQ_mul]
theorem Num.sz {g : Bool} {x : Fr} (h : Num g x) : Sz 4000 x := by
  have h1 := h.up
  have h2 := h.dn
  have e : (2 : Nat) ^ 14 ≤ 2 ^ 4000 := Nat.pow_le_pow_right (by decide) (by decide)
  exact ⟨Nat.lt_of_lt_of_le (show x.1.natAbs < 2 ^ 14 by omega) e, Nat.lt_of_lt_of_le (show x.2.natAbs < 2 ^ 14 by omega) e⟩
theorem Num.ne {g : Bool} {x : Fr} (h : Num g x) : x.2 ≠ 0 := red_ne h.red
def addL (l m : List Fr) : List Fr := (l.zip m).map fun z => ofQ (toQ z.1 + toQ z.2)
def mulL (x : Fr) (l : List Fr) : List Fr := l.map fun z => ofQ (toQ x * toQ z)
theorem plus_row_eq {l m : List Fr} {g : Bool} (hl : ∀ x ∈ l, Num g x) (hm : ∀ x ∈ m, Num g x) : w_plus_row (l, m, ()) = ret (addL l m) := by
  unfold w_plus_row wb_plus_row
  simp only [bnd_ret, bnd_assoc, fnR_bnd, fnR_ret]
  rw [mapW_eq (g := fun z => ofQ (toQ z.1 + toQ z.2)) fun z hz => by
    have h1 := hl _ (List.of_mem_zip hz).1
    have h2 := hm _ (List.of_mem_zip hz).2
    exact sum_two_eq h1.ne h2.ne h1.sz h2.sz, bnd_ret]
  rfl
theorem sum_of_eq {l m : List Fr} {g : Bool} (hl : ∀ x ∈ l, Num g x) (hm : ∀ x ∈ m, Num g x) (h : l.length = m.length) (hn : l.length ≤ 8000000) : w_sum_of (l, m, ()) = ret (addL l m) := by
  unfold w_sum_of wb_sum_of
  simp only [bnd_ret, bnd_assoc, bnd_grd, bnd_ifs, grd_true, fnR_bnd, fnR_ite, fnR_grd, fnR_ret]
  rw [grd_ok (decide_eq_true (by omega)), check_numbers_eq (fun x hx => by
    rcases List.mem_append.mp hx with q | q
    · exact (hl x q).red
    · exact (hm x q).red), bnd_ret, ite_no (by simp [h]), plus_row_eq hl hm, bnd_ret]
theorem scaled_row_eq {x : Fr} {l : List Fr} {g : Bool} (hx : Num g x) (hl : ∀ x ∈ l, Num g x) : w_scaled_row (x, l, ()) = ret (mulL x l) := by
  unfold w_scaled_row wb_scaled_row
  simp only [bnd_ret, bnd_assoc, fnR_bnd, fnR_ret]
  rw [mapW_eq (g := fun z => ofQ (toQ x * toQ z)) fun z hz => by
    have h2 := hl _ hz
    exact product_two_eq hx.ne h2.ne hx.sz h2.sz, bnd_ret]
  rfl
theorem times_eq {x : Fr} {l : List Fr} {g : Bool} (hx : Num g x) (hl : ∀ x ∈ l, Num g x) : w_times (x, l, ()) = ret (mulL x l) := by
  unfold w_times wb_times
  simp only [bnd_ret, bnd_assoc, fnR_bnd, fnR_ret]
  rw [checked_eq hx.red, bnd_ret, check_numbers_eq fun y hy => (hl y hy).red, bnd_ret, scaled_row_eq hx hl, bnd_ret]
theorem number_eq {a b : Int} (h : b ≠ 0) (hb : b.natAbs < 2 ^ 9000) : w_number (a, b, ()) = ret (ofQ (Rat.divInt a b)) := by
  unfold w_number wb_number
  simp only [bnd_ret, bnd_assoc, bnd_ifs, fnR_bnd, fnR_ite, fnR_ret]
  rw [ite_no (decide_eq_false h), lowest_eq h hb, bnd_ret]
def unitL (n s : Int) : List Fr := (rangeF 0 n.toNat).map fun k => if k = s then (1, 1) else (0, 1)
theorem unit_eq {n s : Int} (h0 : 0 ≤ s) (h : s < n) (hn : n ≤ 16777216) : w_unit (n, s, ()) = ret (unitL n s) := by
  unfold w_unit wb_unit w_unit_row wb_unit_row
  simp only [bnd_ret, bnd_assoc, bnd_grd, bnd_ifs, grd_true, fnR_bnd, fnR_ite, fnR_grd, fnR_ret, bnd_ite]
  rw [ite_no (decide_eq_false (by omega)), ite_no (decide_eq_false (by omega)), grd_ok (by simp [rngOk]; omega), mapW_eq (g := fun k => if k = s then (1, 1) else (0, 1)) fun z hz => by
    by_cases q : z = s
    · rw [ite_ok (decide_eq_true q), if_pos q]
    · rw [ite_no (decide_eq_false q), if_neg q], bnd_ret]
  rfl
theorem flat1 {α : Type} (x : α) : ∀ n : Nat, (List.replicate n [x]).flatten = List.replicate n x
  | 0 => rfl
  | n + 1 => by rw [List.replicate_succ, List.flatten_cons, flat1 x n]; rfl
theorem repOk1 {n : Int} (h0 : 0 ≤ n) (h : n ≤ 16777216) : repOk 1 n = true := by
  simp only [repOk, Bool.and_eq_true, decide_eq_true_eq]
  omega
theorem noughts_eq {n : Int} (h0 : 0 ≤ n) (h : n ≤ 16777216) : w_noughts (n, ()) = ret (List.replicate n.toNat (0, 1)) := by
  unfold w_noughts wb_noughts w_nought_row wb_nought_row
  simp only [bnd_ret, bnd_assoc, bnd_grd, fnR_bnd, fnR_grd, fnR_ret]
  rw [grd_ok (show repOk ([(0, 1)] : List Fr).length n = true from repOk1 h0 h), flat1]
end Dc
namespace Dc
open PySem PySem.Spec L2
theorem Tr.then {α β : Type} {n : Nat} (a : Nat) {m : W α} {k : α → W β} {S : α → Prop} {T : β → Prop} (h : Tr a m S) (h2 : ∀ x, S x → Tr (n - a) (k x) T) (ha : a ≤ n := by decide) : Tr n (Dc.bnd m k) T :=
  (Tr.bnd h h2).up (by omega)
theorem Tr.mapN {α β : Type} {n L N : Nat} {f : α → W β} {S : β → Prop} {xs : List α} (h : ∀ x ∈ xs, Tr n (f x) S) (hl : xs.length ≤ L) (hN : L * n ≤ N := by decide) : Tr N (mapW f xs) (fun ys => ys.length = xs.length ∧ ∀ y ∈ ys, S y) :=
  (Tr.map (S := fun _ y => S y) h).mono (Nat.le_trans (Nat.mul_le_mul_right n hl) hN) fun ys z => ⟨z.len, fun y hy => by
    obtain ⟨_, _, q⟩ := z.all y hy
    exact q⟩
theorem Tr.forN {α β γ δ : Type} {n L N : Nat} {f : γ → α → W (Fl γ γ β)} {xs : List α} {s : γ} (R : γ → Prop) (h0 : R s) (h : ∀ x ∈ xs, ∀ s, R s → Tr n (f s x) (fun fl => ∃ s', fl = .nx s' ∧ R s')) (hl : xs.length ≤ L) (hN : L * n ≤ N := by decide) : Tr N (forW (δ := δ) f s xs) (fun fl => ∃ s', fl = .nx s' ∧ R s') :=
  (Tr.for h0 h).up (Nat.le_trans (Nat.mul_le_mul_right n hl) hN)
/-- a line of numbers -/
def Lin (g : Bool) (n : Nat) (l : List Fr) : Prop := l.length = n ∧ ∀ x ∈ l, Num g x
theorem num_int {g : Bool} {n : Int} (h : n.natAbs ≤ 9999) : Num g (n, 1) := ⟨red_int n, h, by show (1 : Int).natAbs ≤ 9999; decide, fun _ => by show (1 : Int).natAbs ≤ 9; decide⟩
theorem lin_set {g : Bool} {n : Nat} {l : List Fr} (h : Lin g n l) {x : Fr} (hx : Num g x) (i : Nat) : Lin g n (l.set i x) := ⟨by rw [List.length_set]; exact h.1, fun y hy => by
  rcases List.mem_or_eq_of_mem_set hy with q | q
  · exact h.2 y q
  · rw [q]; exact hx⟩
theorem law_line_tr {wide : Int} (g : Bool) (h1 : 1 ≤ wide) (h2 : wide ≤ 100) : Tr 500 (w_law_line (wide, g, ())) (Lin g wide.toNat) := by
  unfold w_law_line wb_law_line
  simp only [bnd_ret, bnd_assoc, bnd_grd, bnd_ite, grd_true, fnR_bnd, fnR_ite, fnR_grd, fnR_ret, sq_nx, sq_rt]
  refine Tr.ite (fun q => ?_) fun q => ?_
  · have q := of_decide_eq_true q
    refine Tr.grd (by simp [rngOk]; omega) (Tr.then 100 (Tr.mapN (L := 8) (fun _ _ => law_number_tr g) (by rw [rangeF_len]; omega)) fun l hl => Tr.ret ?_)
    exact ⟨by rw [hl.1, rangeF_len], hl.2⟩
  · refine Tr.then 1 Tr.pick fun k hk => Tr.ite (fun q => ?_) fun q => ?_
    · refine Tr.grd (by simp [rngOk]; omega) (Tr.then 200 (Tr.mapN (n := 1) (S := Num g) (L := 100) (fun _ _ => Tr.then 1 Tr.pick fun k hk => Tr.ret (num_int (by omega))) (by rw [rangeF_len]; omega)) fun l hl => Tr.ret ?_)
      exact ⟨by rw [hl.1, rangeF_len], hl.2⟩
    · refine Tr.grd (show repOk ([(0, 1)] : List Fr).length wide = true from repOk1 (by omega) (by omega)) ?_
      rw [flat1]
      refine Tr.then 1 Tr.pick fun k hk => Tr.grd (by simp [rngOk]; omega) ?_
      refine Tr.then 100 (Tr.forN (Lin g wide.toNat) (n := 10) (L := 5) ⟨by simp, fun x hx => by rw [List.eq_of_mem_replicate hx]; exact num_int (by decide)⟩ (fun y hy s hs => ?_) (by rw [rangeF_len]; omega)) fun fl hfl => ?_
      · refine Tr.then 5 (law_number_tr g) fun x hx => Tr.then 1 (Tr.pick (by omega) (lsmall (by omega))) fun u hu => ?_
        have i1 := ix_in (l := s) (k := u) hu.1 (by rw [hs.1]; omega)
        exact Tr.grd i1.1 (Tr.ret ⟨_, rfl, lin_set hs hx _⟩)
      · obtain ⟨s', rfl, hs'⟩ := hfl
        simp only [sq_nx, bnd_ret, fnR_ret]
        exact Tr.ret hs'
theorem lin_len {g : Bool} {n : Nat} {l : List Fr} (h : Lin g n l) (hn : n ≤ 1000) : l.length ≤ 16777216 := by rw [h.1]; omega
end Dc
namespace Dc
open PySem PySem.Spec L2
theorem mem2 {a b x : Int} (h : x ∈ [a, b]) : x = a ∨ x = b := by simpa using h
theorem mulSmall {i j : Int} (hi : i.natAbs < 2 ^ 64) (hj : j.natAbs < 2 ^ 64) : mulOk i j = true := mulOk_of hi hj
theorem prodSmall {i j : Int} (hi : i.natAbs < 2 ^ 64) (hj : j.natAbs < 2 ^ 64) : (i * j).natAbs < 2 ^ 9000 := by
  rw [Int.natAbs_mul]
  exact Nat.lt_of_lt_of_le (mul_lt_pow hi hj) (Nat.pow_le_pow_right (by decide) (by decide))
theorem divInt_negr (a b : Int) : ofQ (Rat.divInt a (-b)) = (-(ofQ (Rat.divInt a b)).1, (ofQ (Rat.divInt a b)).2) := by
  rw [Rat.divInt_neg', ← Rat.neg_divInt, ofQ_neg]
theorem unit_due (wide spot : Int) : mapW (fun y => ret ((if decide (y = spot) = true then (1 : Int) else 0), (1 : Int))) (rangeF 0 wide.toNat) = ret (unitL wide spot) := by
  rw [mapW_eq (g := fun k => if k = spot then ((1, 1) : Fr) else (0, 1)) fun z _ => by by_cases q : z = spot <;> simp [q]]
  rfl
theorem numbers_right_tr : Tr 60 (w_law_numbers_right ()) (fun r => r = true) := by
  unfold w_law_numbers_right wb_law_numbers_right
  simp only [bnd_ret, bnd_assoc, bnd_grd, bnd_ifr, grd_true, fnR_bnd, fnR_ite, fnR_grd, fnR_ret, sq_nx, sq_rt]
  refine Tr.then 1 Tr.pick fun k1 h1 => Tr.then 1 Tr.pick fun k2 h2 => Tr.then 1 Tr.pick fun k3 h3 => Tr.then 1 Tr.pick fun k4 h4 => ?_
  have i1 := ix_in (l := [1, -1]) h4.1 h4.2
  refine Tr.grd i1.1 ?_
  have z := mem2 i1.2
  generalize ixAt [1, -1] k4 = sg at z ⊢
  refine Tr.grd (mulSmall (by omega) (by rcases z with rfl | rfl <;> decide)) ?_
  refine Tr.then 1 Tr.pick fun k5 h5 => ?_
  refine Tr.then 10 (S := fun fl => ∃ s : Int × Int × Int, fl = Fl.nx s ∧ 1 ≤ s.1 ∧ s.1 ≤ 99 ∧ s.2.1.natAbs ≤ 9999 ∧ s.2.2 ≠ 0 ∧ s.2.2.natAbs ≤ 9999) (Tr.ite (fun q => ?_) fun q => ?_) fun fl hfl => ?_
  · refine Tr.then 1 Tr.pick fun k1 h1 => Tr.then 1 Tr.pick fun k2 h2 => ?_
    have i1 := ix_in (l := [1, -1]) h2.1 h2.2
    refine Tr.grd i1.1 ?_
    have z := mem2 i1.2
    generalize ixAt [1, -1] k2 = sg at z ⊢
    refine Tr.then 1 Tr.pick fun k3 h3 => Tr.grd (mulSmall (by rcases z with rfl | rfl <;> decide) (by omega)) (Tr.ret ⟨_, rfl, ?_⟩)
    rcases z with rfl | rfl <;> simp only <;> omega
  · refine Tr.ret ⟨_, rfl, ?_⟩
    rcases z with rfl | rfl <;> simp only <;> omega
  obtain ⟨⟨c, a, b⟩, rfl, hc1, hc2, ha, hb, hb2⟩ := hfl
  simp only at hc1 hc2 ha hb hb2
  have p1 : mulOk c a = true := mulSmall (by omega) (by omega)
  have p2 : mulOk c b = true := mulSmall (by omega) (by omega)
  have p3 : mulOk (-c) b = true := mulSmall (by omega) (by omega)
  have n1 : c * b ≠ 0 := Int.mul_ne_zero (by omega) hb
  have n2 : (c * b).natAbs < 2 ^ 9000 := prodSmall (by omega) (by omega)
  simp only [sq_nx, bnd_ret, bnd_assoc, bnd_grd, bnd_ifr, grd_true, fnR_bnd, fnR_ite, fnR_grd, fnR_ret, sq_rt, p1, p2, p3, law_low_eq n1 n2, number_eq n1 n2, Int.neg_mul, number_eq (a := c * a) (b := -(c * b)) (by omega) (by rw [Int.natAbs_neg]; exact n2), divInt_negr, alike_pair, Bool.not_true, ite_false]
  refine Tr.then 1 Tr.pick fun k1 h1 => ?_
  have i1 := ix_in (l := ([6, 40] : List Int)) h1.1 h1.2
  refine Tr.grd i1.1 ?_
  have z := mem2 i1.2
  generalize ixAt ([6, 40] : List Int) k1 = sg at z ⊢
  refine Tr.then 1 (Tr.pick (by omega) (lsmall (by omega))) fun k2 h2 => ?_
  have hw : 1 ≤ 1 + k2 ∧ 1 + k2 ≤ 40 := by omega
  generalize 1 + k2 = wide at hw ⊢
  refine Tr.then 1 (Tr.pick (by omega) (lsmall (by omega))) fun spot hs => ?_
  have r1 : rngOk 0 wide = true := by simp [rngOk]; omega
  have r2 : repOk ([(0, 1)] : List Fr).length wide = true := repOk1 (by omega) (by omega)
  have l1 : (unitL wide spot).length ≤ 16777216 := by rw [unitL, List.length_map, rangeF_len]; omega
  have l2 : (List.replicate wide.toNat ((0, 1) : Fr)).length ≤ 16777216 := by rw [List.length_replicate]; omega
  simp only [r1, grd_true, unit_due, bnd_ret, unit_eq hs.1 hs.2 (by omega), alike_line l1, Bool.not_true, ite_false, noughts_eq (n := wide) (by omega) (by omega), r2, flat1, alike_line l2, ite_true, noughts_eq (n := 1) (by decide) (by decide)]
  rw [show List.replicate (Int.toNat 1) ((0, 1) : Fr) = [(0, 1)] from rfl, alike_line (l := [(0, 1)]) (by decide), bnd_ret]
  exact Tr.ret rfl
theorem eqvAll_refl {α : Type} {to : α → PyData} (h : ∀ x, PyData.eqv (to x) (to x) = true) : ∀ l : List α, PyData.eqvAll (l.map to) (l.map to) = true
  | [] => rfl
  | x :: r => by
    show (PyData.eqv (to x) (to x) && PyData.eqvAll (r.map to) (r.map to)) = true
    rw [h, eqvAll_refl h r]
    rfl
theorem eqv_pair (x : Fr) : PyData.eqv (PyData.tuple [PyData.int x.1, PyData.int x.2]) (PyData.tuple [PyData.int x.1, PyData.int x.2]) = true := by simp [PyData.eqv, PyData.eqvAll]
theorem eqv_line (l : List Fr) : PyData.eqv (PyData.list (l.map fun z => PyData.tuple [PyData.int z.1, PyData.int z.2])) (PyData.list (l.map fun z => PyData.tuple [PyData.int z.1, PyData.int z.2])) = true := by
  simp only [PyData.eqv]
  exact eqvAll_refl eqv_pair l
theorem eqv_rows (l : List (List Fr)) : PyData.eqv (PyData.list (l.map fun z => PyData.list (z.map fun z => PyData.tuple [PyData.int z.1, PyData.int z.2]))) (PyData.list (l.map fun z => PyData.list (z.map fun z => PyData.tuple [PyData.int z.1, PyData.int z.2]))) = true := by
  simp only [PyData.eqv]
  exact eqvAll_refl eqv_line l
theorem num_neg {g : Bool} {x : Fr} (h : Num g x) : Num g (-x.1, x.2) := ⟨red_neg h.red, by have := h.up; show (-x.1).natAbs ≤ 9999; omega, h.dn, h.sm⟩
theorem addL_comm (l m : List Fr) : addL l m = addL m l := by
  unfold addL
  induction l generalizing m with
  | nil => cases m <;> rfl
  | cons a r ih =>
    cases m with
    | nil => rfl
    | cons b t => simp only [List.zip_cons_cons, List.map_cons, ih, Rat.add_comm]
theorem addL_self (l : List Fr) : addL l l = mulL (2, 1) l := by
  unfold addL mulL
  induction l with
  | nil => rfl
  | cons a r ih =>
    rw [List.zip_cons_cons, List.map_cons, List.map_cons, ih]
    have e : toQ (2, 1) = 1 + 1 := by decide +kernel
    rw [e, Rat.add_mul, Rat.one_mul]
theorem add_due {g : Bool} {l m : List Fr} (hl : ∀ x ∈ l, Num g x) (hm : ∀ x ∈ m, Num g x) : mapW (fun y : Fr × Fr => w_law_add (y.1, y.2, ())) (l.zip m) = ret (addL l m) := mapW_eq fun z hz => by
  have h1 := hl _ (List.of_mem_zip hz).1
  have h2 := hm _ (List.of_mem_zip hz).2
  exact law_add_eq h1.ne h2.ne h1.sz h2.sz
theorem mul_due {g : Bool} {x : Fr} {l : List Fr} (hx : Num g x) (hl : ∀ x ∈ l, Num g x) : mapW (fun y : Fr => w_law_mul (x, y, ())) l = ret (mulL x l) := mapW_eq fun z hz => by
  have h2 := hl _ hz
  exact law_mul_eq hx.ne h2.ne hx.sz h2.sz
theorem two_right_tr : Tr 2000 (w_law_two_right ()) (fun r => r = true) := by
  unfold w_law_two_right wb_law_two_right
  simp only [bnd_ret, bnd_assoc, bnd_grd, bnd_ifr, grd_true, fnR_bnd, fnR_ite, fnR_grd, fnR_ret, sq_nx, sq_rt]
  refine Tr.then 1 Tr.pick fun k1 h1 => ?_
  have i1 := ix_in (l := ([4, 12, 40] : List Int)) h1.1 h1.2
  refine Tr.grd i1.1 ?_
  have z : ixAt ([4, 12, 40] : List Int) k1 = 4 ∨ ixAt ([4, 12, 40] : List Int) k1 = 12 ∨ ixAt ([4, 12, 40] : List Int) k1 = 40 := by simpa using i1.2
  generalize ixAt ([4, 12, 40] : List Int) k1 = sg at z ⊢
  refine Tr.then 1 (Tr.pick (by omega) (lsmall (by omega))) fun k2 h2 => Tr.then 1 Tr.pick fun k3 h3 => ?_
  have hw : 1 ≤ 1 + k2 ∧ 1 + k2 ≤ 40 := by omega
  generalize 1 + k2 = wide at hw ⊢
  generalize decide (k3 = 1) = g
  refine Tr.then 500 (law_line_tr g hw.1 (by omega)) fun l1 hl1 => Tr.then 500 (law_line_tr g hw.1 (by omega)) fun l2 hl2 => Tr.then 1 Tr.pick fun k4 h4 => ?_
  refine Tr.then 100 (S := fun fl => ∃ s : List Fr, fl = Fl.nx s ∧ Lin g wide.toNat s) (Tr.ite (fun q => ?_) fun q => Tr.ret ⟨_, rfl, hl2⟩) fun fl hfl => ?_
  · refine Tr.then 100 (Tr.mapN (n := 1) (S := Num g) (L := 100) (fun y hy => Tr.then 1 Tr.pick fun k hk => Tr.ite (fun q => Tr.ret (num_neg (hl1.2 y hy))) fun q => Tr.ret (hl1.2 y hy)) (by rw [hl1.1]; omega)) fun l hl => Tr.ret ⟨_, rfl, hl.1.trans hl1.1, hl.2⟩
  obtain ⟨l2, rfl, hl2⟩ := hfl
  simp only [sq_nx, bnd_ret, bnd_assoc, bnd_grd, bnd_ifr, grd_true, fnR_bnd, fnR_ite, fnR_grd, fnR_ret, sq_rt]
  refine Tr.then 5 (law_number_tr g) fun fee hf => ?_
  have n2 : Num g (2, 1) := num_int (by decide)
  have e : l1.length = l2.length := hl1.1.trans hl2.1.symm
  have a1 : (addL l1 l2).length ≤ 16777216 := by rw [addL, List.length_map, List.length_zip, hl1.1, hl2.1]; omega
  have a2 : (mulL fee l1).length ≤ 16777216 := by rw [mulL, List.length_map, hl1.1]; omega
  have a3 : (mulL (2, 1) l1).length ≤ 16777216 := by rw [mulL, List.length_map, hl1.1]; omega
  have b1 : l1.length ≤ 8000000 := by rw [hl1.1]; omega
  have b2 : l2.length ≤ 8000000 := by rw [hl2.1]; omega
  simp only [add_due hl1.2 hl2.2, bnd_ret, sum_of_eq hl1.2 hl2.2 e b1, alike_line a1, sum_of_eq hl2.2 hl1.2 e.symm b2, addL_comm l2 l1, mul_due hf hl1.2, times_eq hf hl1.2, alike_line a2, sum_of_eq hl1.2 hl1.2 rfl b1, mul_due n2 hl1.2, addL_self, alike_line a3, eqv_line, Bool.not_true, ite_true, ite_false]
  exact Tr.ret rfl
end Dc
namespace Dc
open PySem PySem.Spec L2
theorem mapW_ret {α : Type} (l : List α) : mapW (fun y => ret y) l = ret l := by
  rw [mapW_eq (g := fun y => y) fun _ _ => rfl, List.map_id']
theorem flat_eq {α : Type} : ∀ (n : Nat) (rows : List (List α)), n + rows.flatten.length ≤ 16777216 → flatW (fun y => ret y) (fun _ z => ret z) n rows = ret rows.flatten
  | _, [], _ => rfl
  | n, r :: t, h => by
    rw [List.flatten_cons, List.length_append] at h
    show bnd (ret r) _ = _
    rw [bnd_ret, grd_ok (decide_eq_true (by omega)), mapW_ret, bnd_ret, flat_eq (n + r.length) t (by omega), bnd_ret]
    rfl
/-- the least common denominator -/
def lcmL (l : List Fr) : Int := l.foldl (fun s x => ((Nat.lcm s.natAbs x.2.natAbs : Nat) : Int)) 1
theorem lcmL_go : ∀ (l : List Fr) (s : Int), 0 < s → (∀ x ∈ l, 1 ≤ x.2) → 0 < l.foldl (fun s x => ((Nat.lcm s.natAbs x.2.natAbs : Nat) : Int)) s ∧ s ∣ l.foldl (fun s x => ((Nat.lcm s.natAbs x.2.natAbs : Nat) : Int)) s ∧ ∀ x ∈ l, x.2 ∣ l.foldl (fun s x => ((Nat.lcm s.natAbs x.2.natAbs : Nat) : Int)) s
  | [], s, hs, _ => ⟨hs, Int.dvd_refl _, fun _ h => by cases h⟩
  | x :: r, s, hs, h => by
    have hx := h x (List.mem_cons_self ..)
    have hp : 0 < ((Nat.lcm s.natAbs x.2.natAbs : Nat) : Int) := by
      have := Nat.lcm_pos (m := s.natAbs) (n := x.2.natAbs) (by omega) (by omega)
      omega
    obtain ⟨h1, h2, h3⟩ := lcmL_go r _ hp fun y hy => h y (List.mem_cons_of_mem _ hy)
    have d1 : s ∣ ((Nat.lcm s.natAbs x.2.natAbs : Nat) : Int) := Int.natAbs_dvd_natAbs.mp (by rw [Int.natAbs_natCast]; exact Nat.dvd_lcm_left ..)
    have d2 : x.2 ∣ ((Nat.lcm s.natAbs x.2.natAbs : Nat) : Int) := Int.natAbs_dvd_natAbs.mp (by rw [Int.natAbs_natCast]; exact Nat.dvd_lcm_right ..)
    refine ⟨h1, Int.dvd_trans d1 h2, fun y hy => ?_⟩
    rcases List.mem_cons.mp hy with q | q
    · rw [q]; exact Int.dvd_trans d2 h2
    · exact h3 y q
theorem lcmL_loop {f : Int → Fr → W (Fl Int Int (List Int × Int))} (hf : ∀ s x, f s x = grd (lcmOk s x.2) (ret (.nx ((Nat.lcm s.natAbs x.2.natAbs : Nat) : Int)))) : ∀ (l : List Fr) (s : Int), 0 < s → (∀ x ∈ l, 1 ≤ x.2) → l.foldl (fun s x => ((Nat.lcm s.natAbs x.2.natAbs : Nat) : Int)) s < 2 ^ 13000 → forW (δ := Empty) f s l = ret (.nx (l.foldl (fun s x => ((Nat.lcm s.natAbs x.2.natAbs : Nat) : Int)) s))
  | [], s, hs, _, _ => rfl
  | x :: r, s, hs, h, hb => by
    have hx := h x (List.mem_cons_self ..)
    have hp : 0 < ((Nat.lcm s.natAbs x.2.natAbs : Nat) : Int) := by
      have := Nat.lcm_pos (m := s.natAbs) (n := x.2.natAbs) (by omega) (by omega)
      omega
    obtain ⟨h1, h2, h3⟩ := lcmL_go (x :: r) s hs h
    have l1 := Int.le_of_dvd h1 h2
    have l2 := Int.le_of_dvd h1 (h3 x (List.mem_cons_self ..))
    have e : ((2 : Int) ^ 13000) = ((2 ^ 13000 : Nat) : Int) := by simp
    generalize hB : List.foldl (fun s x => ((Nat.lcm s.natAbs x.2.natAbs : Nat) : Int)) s (x :: r) = B at *
    show bnd (f s x) _ = _
    rw [e] at hb
    rw [hf, grd_ok (lcmOk_of (by omega) (by omega)), bnd_ret]
    refine (lcmL_loop hf r _ hp (fun y hy => h y (List.mem_cons_of_mem _ hy)) (by rw [e]; rw [← hB] at hb; exact hb)).trans ?_
    rw [← hB]
    rfl
def intsL (l : List Fr) : List Int := l.map fun x => x.1 * Int.fdiv (lcmL l) x.2
theorem integers_of_eq {l : List Fr} (h : ∀ x ∈ l, Red x) (hz : ∀ x ∈ l, Sz 4000 x) (hb : lcmL l < 2 ^ 13000) : w_integers_of (l, ()) = ret (intsL l, lcmL l) := by
  have h1 : ∀ x ∈ l, 1 ≤ x.2 := fun x hx => (h x hx).1
  unfold w_integers_of wb_integers_of
  simp only [bnd_ret, bnd_assoc, bnd_grd, grd_true, fnR_bnd, fnR_ite, fnR_grd, fnR_ret, sq_nx, sq_rt]
  rw [lcmL_loop (fun s x => rfl) l 1 (by decide) h1 hb, bnd_ret, sq_nx]
  have hp := (lcmL_go l 1 (by decide) h1).1
  have e : ((2 : Int) ^ 13000) = ((2 ^ 13000 : Nat) : Int) := by simp
  rw [e] at hb
  change lcmL l < _ at hb
  change 0 < lcmL l at hp
  change fnR (bnd (mapW (fun y92 => grd (fdivOk (lcmL l) y92.2) (grd (mulOk y92.1 (Int.fdiv (lcmL l) y92.2)) (ret (y92.1 * Int.fdiv (lcmL l) y92.2)))) l) fun t => ret (Fl.rt (t, lcmL l))) = _
  rw [mapW_eq (g := fun x => x.1 * Int.fdiv (lcmL l) x.2) fun x hx => by
    have q := h1 x hx
    have z := hz x hx
    rw [grd_ok (fdivOk_of (by omega) (Nat.lt_of_lt_of_le z.2 (Nat.pow_le_pow_right (by decide) (by decide)))), grd_ok (mulOk_of (m := 13000) z.1 ?_)]
    rw [Int.fdiv_eq_ediv_of_nonneg _ (by omega)]
    have := Int.natAbs_ediv_le_natAbs (lcmL l) x.2
    omega, bnd_ret]
  rfl
theorem lcmL_dvd {l : List Fr} (h : ∀ x ∈ l, Red x) {x : Fr} (hx : x ∈ l) : x.2 ∣ lcmL l := (lcmL_go l 1 (by decide) fun y hy => (h y hy).1).2.2 x hx
theorem lcmL_pos {l : List Fr} (h : ∀ x ∈ l, Red x) : 0 < lcmL l := (lcmL_go l 1 (by decide) fun y hy => (h y hy).1).1
/-- over a common denominator -/
theorem over {x : Fr} {B : Int} (h : 1 ≤ x.2) (hB : 0 < B) (hd : x.2 ∣ B) : Rat.divInt (x.1 * Int.fdiv B x.2) B = toQ x := by
  obtain ⟨k, rfl⟩ := hd
  have hk : k ≠ 0 := by rintro rfl; simp at hB
  rw [Int.fdiv_eq_ediv_of_nonneg _ (by omega), Int.mul_ediv_cancel_left _ (by omega)]
  exact Rat.divInt_mul_right hk
theorem divInt_add_same {a b d : Int} (hd : d ≠ 0) : Rat.divInt a d + Rat.divInt b d = Rat.divInt (a + b) d := by
  rw [Rat.divInt_add_divInt _ _ hd hd, ← Int.add_mul, Rat.divInt_mul_right hd]
/-- totals -/
def zadd (f : Int) (T r : List Int) : List Int := List.zipWith (fun t m => t + f * m) T r
def totF : List Int → List Int → List (List Int) → List Int
  | T, f :: fs, r :: rs => totF (if f ≠ 0 then zadd f T r else T) fs rs
  | T, _, _ => T
theorem zadd_len {f : Int} {T r : List Int} (h : r.length = T.length) : (zadd f T r).length = T.length := by
  rw [zadd, List.length_zipWith]; omega
theorem add_loop {f : List Int → Int × Int → W (Fl (List Int) (List Int) (List Fr))} {c : Int} (hf : ∀ s y, f s y = grd (ixOk s y.1) (grd (mulOk c y.2) (ret (.nx (s.set ((ixN s.length y.1).getD 0) (ixAt s y.1 + c * y.2)))))) : ∀ (r T P : List Int), r.length = T.length → (∀ m ∈ r, mulOk c m = true) → forW (δ := List Int) f (P ++ T) (enumF P.length r) = ret (.nx (P ++ zadd c T r))
  | [], [], P, _, _ => by simp [zadd]; rfl
  | [], _ :: _, _, h, _ => by simp at h
  | _ :: _, [], _, h, _ => by simp at h
  | m :: r, t :: T, P, h, hm => by
    show bnd (f (P ++ t :: T) ((P.length : Int), m)) _ = _
    have hl : ((P ++ t :: T).length) = P.length + (T.length + 1) := by simp
    have e : ixN (P ++ t :: T).length (P.length : Int) = some P.length := by
      rw [ixN_of (by omega) (by omega)]; simp
    rw [hf, grd_ok (show ixOk (P ++ t :: T) (P.length : Int) = true by unfold ixOk; rw [e]; rfl), grd_ok (hm m (List.mem_cons_self ..)), bnd_ret]
    have e1 : ixAt (P ++ t :: T) (P.length : Int) = t := by
      unfold ixAt; rw [e]; simp
    have e2 : (P ++ t :: T).set ((ixN (P ++ t :: T).length (P.length : Int)).getD 0) (ixAt (P ++ t :: T) (P.length : Int) + c * m) = (P ++ [t + c * m]) ++ T := by
      rw [e1, e]; simp
    have ih := add_loop hf r T (P ++ [t + c * m]) (by simpa using h) fun x hx => hm x (List.mem_cons_of_mem _ hx)
    have e3 : ((P ++ [t + c * m]).length : Int) = (P.length : Int) + 1 := by simp
    rw [e3] at ih
    show forW f ((P ++ t :: T).set ((ixN (P ++ t :: T).length (P.length : Int)).getD 0) (ixAt (P ++ t :: T) (P.length : Int) + c * m)) (enumF ((P.length : Int) + 1) r) = _
    rw [e2, ih]
    simp [zadd]
end Dc
namespace Dc
open PySem PySem.Spec L2
theorem tot_loop {f : List Int → Int × Int → W (Fl (List Int) (List Int) (List Fr))} {size : Nat} : ∀ (fs : List Int) (rs : List (List Int)) (k : Int) (T : List Int), fs.length = rs.length → T.length = size → (∀ r ∈ rs, r.length = size) →
    (∀ (i : Nat) (h : i < rs.length) (c : Int) (T : List Int), c ∈ fs → T.length = size → f T (k + i, c) = ret (.nx (if c ≠ 0 then zadd c T rs[i] else T))) → forW (δ := Empty) f T (enumF k fs) = ret (.nx (totF T fs rs))
  | [], [], _, _, _, _, _, _ => rfl
  | [], _ :: _, _, _, h, _, _, _ => by simp at h
  | _ :: _, [], _, _, h, _, _, _ => by simp at h
  | c :: fs, r :: rs, k, T, h, hT, hr, hf => by
    show bnd (f T (k, c)) _ = _
    have h0 := hf 0 (by simp) c T (List.mem_cons_self ..) hT
    rw [show k + ((0 : Nat) : Int) = k by simp] at h0
    rw [h0, bnd_ret]
    refine (tot_loop fs rs (k + 1) _ (by simpa using h) ?_ (fun x hx => hr x (List.mem_cons_of_mem _ hx)) fun i hi c' T' hc' hT' => ?_).trans rfl
    · split
      · rw [List.getElem_cons_zero, zadd_len (by rw [hr r (List.mem_cons_self ..), hT]), hT]
      · exact hT
    · have := hf (i + 1) (by simp; omega) c' T' (List.mem_cons_of_mem _ hc') hT'
      rw [show k + ((i + 1 : Nat) : Int) = k + 1 + (i : Int) by omega] at this
      rw [this, List.getElem_cons_succ]
theorem flat_slice {α : Type} {size : Nat} : ∀ (rows : List (List α)) (i : Nat) (h : i < rows.length), (∀ r ∈ rows, r.length = size) → (rows.flatten.drop (i * size)).take size = rows[i]
  | [], _, h, _ => by simp at h
  | r :: rs, 0, _, hr => by
    have := hr r (List.mem_cons_self ..)
    rw [Nat.zero_mul, List.drop_zero, List.flatten_cons, List.take_append_of_le_length (by omega), List.take_of_length_le (by omega), List.getElem_cons_zero]
  | r :: rs, i + 1, h, hr => by
    have hl := hr r (List.mem_cons_self ..)
    have e : (i + 1) * size = r.length + i * size := by rw [hl, Nat.add_mul]; omega
    rw [List.flatten_cons, e, List.drop_append, List.drop_eq_nil_of_le (by omega), List.nil_append, Nat.add_sub_cancel_left, flat_slice rs i (by simpa using h) fun x hx => hr x (List.mem_cons_of_mem _ hx), List.getElem_cons_succ]
theorem flat_len {α : Type} {size : Nat} : ∀ (rows : List (List α)), (∀ r ∈ rows, r.length = size) → rows.flatten.length = rows.length * size
  | [], _ => by simp
  | r :: rs, h => by
    rw [List.flatten_cons, List.length_append, flat_len rs fun x hx => h x (List.mem_cons_of_mem _ hx), h r (List.mem_cons_self ..), List.length_cons, Nat.add_mul]; omega
/-- a line over a common denominator -/
def over_ (F : Int) (l : List Fr) : List Int := l.map fun x => x.1 * Int.fdiv F x.2
structure RowsOk (rows : List (List Fr)) (n : Nat) : Prop where
  len : ∀ r ∈ rows, r.length = n
  red : ∀ r ∈ rows, ∀ x ∈ r, Red x
  sz : ∀ r ∈ rows, ∀ x ∈ r, Sz 4000 x
theorem over_small {F : Int} {x : Fr} (hF : 0 < F) (hb : F < 2 ^ 4000) (h : 1 ≤ x.2) (hx : Sz 4000 x) : (x.1 * Int.fdiv F x.2).natAbs < 2 ^ 8000 := by
  rw [Int.natAbs_mul]
  refine mul_lt_pow (n := 4000) (m := 4000) hx.1 ?_
  have e : ((2 : Int) ^ 4000) = ((2 ^ 4000 : Nat) : Int) := by simp
  rw [e] at hb
  rw [Int.fdiv_eq_ediv_of_nonneg _ (by omega)]
  have := Int.natAbs_ediv_le_natAbs F x.2
  omega
theorem numbers_of_eq {l : List Int} {b : Int} (h : b ≠ 0) (hb : b.natAbs < 2 ^ 9000) : w_numbers_of (l, b, ()) = ret (l.map fun t => ofQ (Rat.divInt t b)) := by
  unfold w_numbers_of wb_numbers_of
  simp only [bnd_ret, bnd_assoc, fnR_bnd, fnR_ret]
  rw [mapW_eq (g := fun t => ofQ (Rat.divInt t b)) fun z _ => lowest_eq h hb, bnd_ret]
def combL (ns : List Fr) (rows : List (List Fr)) (n : Nat) : List Fr :=
  (totF (List.replicate n 0) (over_ (lcmL ns) ns) (rows.map (over_ (lcmL rows.flatten)))).map fun t => ofQ (Rat.divInt t (lcmL ns * lcmL rows.flatten))
theorem combination_eq {ns : List Fr} {rows : List (List Fr)} {size : Int} (h0 : 0 ≤ size) (h1 : size ≤ 1000) (hl : ns.length = rows.length) (hn : rows.length ≤ 1000) (hr : RowsOk rows size.toNat) (hN : ∀ x ∈ ns, Red x) (hS : ∀ x ∈ ns, Sz 4000 x) (hC : lcmL ns < 2 ^ 4000) (hF : lcmL rows.flatten < 2 ^ 4000) :
    w_combination (ns, rows, size, ()) = ret (combL ns rows size.toNat) := by
  have big : (2 : Int) ^ 4000 ≤ 2 ^ 13000 := by
    have : (2 : Nat) ^ 4000 ≤ 2 ^ 13000 := Nat.pow_le_pow_right (by decide) (by decide)
    have e : ((2 : Int) ^ 4000) = ((2 ^ 4000 : Nat) : Int) := by simp
    have e2 : ((2 : Int) ^ 13000) = ((2 ^ 13000 : Nat) : Int) := by simp
    omega
  have fl := flat_len rows hr.len
  have fb : rows.length * size.toNat ≤ 1000 * 1000 := Nat.mul_le_mul hn (by omega)
  have fred : ∀ x ∈ rows.flatten, Red x := fun x hx => by
    obtain ⟨r, hr', hx'⟩ := List.mem_flatten.mp hx
    exact hr.red r hr' x hx'
  have fsz : ∀ x ∈ rows.flatten, Sz 4000 x := fun x hx => by
    obtain ⟨r, hr', hx'⟩ := List.mem_flatten.mp hx
    exact hr.sz r hr' x hx'
  have pC := lcmL_pos hN
  have pF := lcmL_pos fred
  unfold w_combination wb_combination
  simp only [bnd_ret, bnd_assoc, bnd_grd, grd_true, fnR_bnd, fnR_ite, fnR_grd, fnR_ret, sq_nx, sq_rt]
  rw [integers_of_eq hN hS (Int.lt_of_lt_of_le hC big), bnd_ret, flat_eq 0 rows (by omega), bnd_ret, integers_of_eq fred fsz (Int.lt_of_lt_of_le hF big), bnd_ret, grd_ok (show repOk ([0] : List Int).length size = true from repOk1 h0 (by omega)), flat1]
  have ol : ∀ (F : Int) (l : List Fr), (over_ F l).length = l.length := fun F l => List.length_map ..
  have e1 : (intsL rows.flatten).length = rows.length * size.toNat := by rw [intsL, List.length_map, fl]
  dsimp only
  rw [show intsL ns = over_ (lcmL ns) ns from rfl, tot_loop (size := size.toNat) (over_ (lcmL ns) ns) (rows.map (over_ (lcmL rows.flatten))) 0 (List.replicate size.toNat 0) (by rw [ol, List.length_map, hl]) (List.length_replicate ..) (fun r hr' => by
    obtain ⟨q, hq, rfl⟩ := List.mem_map.mp hr'
    rw [ol, hr.len q hq]) (fun i hi c T hc hT => ?_)]
  rotate_left
  · rw [List.length_map] at hi
    have es : i * size.toNat + size.toNat ≤ rows.length * size.toNat := by
      have := Nat.mul_le_mul_right size.toNat (show i + 1 ≤ rows.length by omega)
      rw [Nat.add_mul] at this
      omega
    have en : ((i : Int) * size) = ((i * size.toNat : Nat) : Int) := by rw [Int.natCast_mul, Int.toNat_of_nonneg h0]
    have en2 : ((i : Int) * size + size) = ((i * size.toNat + size.toNat : Nat) : Int) := by rw [Int.natCast_add, ← en, Int.toNat_of_nonneg h0]
    have sl : List.take (HT.sIx (intsL rows.flatten).length (intsL rows.flatten).length (some ((i : Int) * size + size)) - HT.sIx (intsL rows.flatten).length 0 (some ((i : Int) * size))) (List.drop (HT.sIx (intsL rows.flatten).length 0 (some ((i : Int) * size))) (intsL rows.flatten)) = over_ (lcmL rows.flatten) rows[i] := by
      rw [en2, en, HT.sIx_nat, HT.sIx_nat, e1, Nat.min_eq_left es, Nat.min_eq_left (by omega), Nat.add_sub_cancel_left, intsL, ← List.map_drop, ← List.map_take, flat_slice rows i hi hr.len]
      rfl
    show bnd (ite (!decide (c = 0)) (grd (mulOk (0 + i) size) (grd (mulOk (0 + i) size) (bnd (forW _ T (enumF 0 (List.take (HT.sIx (intsL rows.flatten).length (intsL rows.flatten).length (some ((0 + i : Int) * size + size)) - HT.sIx (intsL rows.flatten).length 0 (some ((0 + i : Int) * size))) (List.drop (HT.sIx (intsL rows.flatten).length 0 (some ((0 + i : Int) * size))) (intsL rows.flatten))))) (sq fun s => ret (Fl.nx s))))) (ret (Fl.nx T))) (sq fun s => ret (Fl.nx s)) = _
    rw [Int.zero_add, sl]
    by_cases q : c = 0
    · rw [ite_no (by simp [q]), bnd_ret, sq_nx, if_neg (by simp [q])]
    · have hm : mulOk (i : Int) size = true := mulSmall (by omega) (by omega)
      rw [ite_ok (by simp [q]), grd_ok hm, grd_ok hm, if_pos q, List.getElem_map]
      have := add_loop (f := fun s185 y186 => grd (ixOk s185 y186.1) (grd (mulOk c y186.2) (ret (Fl.nx (s185.set ((ixN s185.length y186.1).getD 0) (ixAt s185 y186.1 + c * y186.2)))))) (c := c) (fun _ _ => rfl) (over_ (lcmL rows.flatten) rows[i]) T [] (by rw [ol, hr.len _ (List.getElem_mem hi), hT]) fun m hm => by
        obtain ⟨x, hx, rfl⟩ := List.mem_map.mp hm
        obtain ⟨y, hy, rfl⟩ := List.mem_map.mp hc
        have r1 := hr.red _ (List.getElem_mem hi) x hx
        have s1 := hr.sz _ (List.getElem_mem hi) x hx
        exact mulOk_of (over_small pC hC (hN y hy).1 (hS y hy)) (over_small pF hF r1.1 s1)
      refine (congrArg (fun z => bnd (bnd z _) _) this).trans ?_
      rfl
  · rw [bnd_ret, sq_nx]
    have m1 : (lcmL ns).natAbs < 2 ^ 4000 := by
      have e : ((2 : Int) ^ 4000) = ((2 ^ 4000 : Nat) : Int) := by simp
      omega
    have m2 : (lcmL rows.flatten).natAbs < 2 ^ 4000 := by
      have e : ((2 : Int) ^ 4000) = ((2 ^ 4000 : Nat) : Int) := by simp
      omega
    rw [grd_ok (mulOk_of m1 m2), numbers_of_eq (Int.mul_ne_zero (by omega) (by omega)) (by
      rw [Int.natAbs_mul]
      exact Nat.lt_of_lt_of_le (mul_lt_pow m1 m2) (Nat.pow_le_pow_right (by decide) (by decide))), bnd_ret, fnR_ret]
    rfl
end Dc
namespace Dc
open PySem PySem.Spec L2
theorem natpow_cast (n : Nat) : ((2 : Int) ^ n) = ((2 ^ n : Nat) : Int) := by simp
theorem pow_mono {a n m : Nat} (h : a < 2 ^ n) (hnm : n ≤ m) : a < 2 ^ m := Nat.lt_of_lt_of_le h (Nat.pow_le_pow_right (by decide) hnm)
theorem sz_low {a b : Int} {n : Nat} (h : b ≠ 0) (ha : a.natAbs < 2 ^ n) (hb : b.natAbs < 2 ^ n) : Sz n (ofQ (Rat.divInt a b)) := by
  have := low_le (a := a) h
  exact ⟨by omega, by omega⟩
/-- what one number adds -/
theorem due_cell {g : Bool} {fee x : Fr} {t C F : Int} (hf : Num g fee) (hx : Num g x) (hC : 0 < C) (hF : 0 < F) (dC : fee.2 ∣ C) (dF : x.2 ∣ F) (ht : t.natAbs < 2 ^ 4000) (hD : (C * F).natAbs < 2 ^ 4000) :
    ite (decide (x.1 = 0)) (ret (ofQ (Rat.divInt t (C * F)))) (bnd (w_law_mul (fee, x, ())) fun u => w_law_add (ofQ (Rat.divInt t (C * F)), u, ())) = ret (ofQ (Rat.divInt (t + (fee.1 * Int.fdiv C fee.2) * (x.1 * Int.fdiv F x.2)) (C * F))) := by
  have hD0 : C * F ≠ 0 := Int.mul_ne_zero (by omega) (by omega)
  by_cases q : x.1 = 0
  · rw [ite_ok (by simp [q]), q, Int.zero_mul, Int.mul_zero, Int.add_zero]
  · rw [ite_no (by simp [q]), law_mul_eq hf.ne hx.ne hf.sz hx.sz, bnd_ret]
    have s2 : Sz 4000 (ofQ (toQ fee * toQ x)) := by
      rw [← toQ_mul]
      have h1 := mul_lt_pow (n := 14) (m := 14) (a := fee.1.natAbs) (b := x.1.natAbs) (by have := hf.up; omega) (by have := hx.up; omega)
      have h2 := mul_lt_pow (n := 14) (m := 14) (a := fee.2.natAbs) (b := x.2.natAbs) (by have := hf.dn; omega) (by have := hx.dn; omega)
      exact sz_low (Int.mul_ne_zero hf.ne hx.ne) (by rw [Int.natAbs_mul]; exact pow_mono h1 (by decide)) (by rw [Int.natAbs_mul]; exact pow_mono h2 (by decide))
    rw [law_add_eq (red_ne (red_ofQ _)) (red_ne (red_ofQ _)) (sz_low hD0 ht hD) s2, toQ_ofQ, toQ_ofQ, ← over (x := fee) hf.red.1 hC dC, ← over (x := x) hx.red.1 hF dF, Rat.divInt_mul_divInt, divInt_add_same hD0]
def toF (D t : Int) : Fr := ofQ (Rat.divInt t D)
theorem due_row {g : Bool} {fee : Fr} {C F : Int} (hf : Num g fee) (hC : 0 < C) (hF : 0 < F) (dC : fee.2 ∣ C) (hD : (C * F).natAbs < 2 ^ 4000) : ∀ (T : List Int) (line : List Fr), line.length = T.length → (∀ x ∈ line, Num g x ∧ x.2 ∣ F) → (∀ t ∈ T, t.natAbs < 2 ^ 4000) →
    mapW (fun y1 : Fr × Fr => ite (decide (y1.2.1 = 0)) (ret y1.1) (bnd (w_law_mul (fee, y1.2, ())) fun u => w_law_add (y1.1, u, ()))) ((T.map (toF (C * F))).zip line) = ret ((zadd (fee.1 * Int.fdiv C fee.2) T (over_ F line)).map (toF (C * F)))
  | [], [], _, _, _ => rfl
  | [], _ :: _, h, _, _ => by simp at h
  | _ :: _, [], h, _, _ => by simp at h
  | t :: T, x :: line, h, hx, ht => by
    have h1 := hx x (List.mem_cons_self ..)
    have c := due_cell hf h1.1 hC hF dC h1.2 (ht t (List.mem_cons_self ..)) hD
    show bnd (ite (decide (x.1 = 0)) (ret (toF (C * F) t)) (bnd (w_law_mul (fee, x, ())) fun u => w_law_add (toF (C * F) t, u, ()))) _ = _
    unfold toF at c ⊢
    rw [c, bnd_ret]
    have ih := due_row hf hC hF dC hD T line (by simpa using h) (fun y hy => hx y (List.mem_cons_of_mem _ hy)) (fun y hy => ht y (List.mem_cons_of_mem _ hy))
    unfold toF at ih
    change bnd (mapW _ ((T.map fun t => ofQ (Rat.divInt t (C * F))).zip line)) _ = _
    rw [ih, bnd_ret]
    rfl
theorem zadd_small {f : Int} {T r : List Int} {k B : Nat} (hT : ∀ t ∈ T, t.natAbs ≤ k * B) (hr : ∀ m ∈ r, (f * m).natAbs ≤ B) : ∀ t ∈ zadd f T r, t.natAbs ≤ (k + 1) * B := fun t ht => by
  unfold zadd at ht
  rw [← List.map_uncurry_zip_eq_zipWith] at ht
  obtain ⟨⟨a, m⟩, hz, rfl⟩ := List.mem_map.mp ht
  have h1 := hT a (List.of_mem_zip hz).1
  have h2 := hr m (List.of_mem_zip hz).2
  show (a + f * m).natAbs ≤ _
  have := Int.natAbs_add_le a (f * m)
  rw [Nat.add_mul]
  omega
theorem law_due {g : Bool} {C F : Int} {f : List Fr → Fr × List Fr → W (Fl (List Fr) (List Fr) Bool)} (hC : 0 < C) (hF : 0 < F) (bC : C.natAbs < 2 ^ 1400) (bF : F.natAbs < 2 ^ 1400)
    (hf : ∀ s y, f s y = bnd (ite (!decide (y.1.1 = 0)) (bnd (mapW (fun y1 : Fr × Fr => ite (decide (y1.2.1 = 0)) (ret y1.1) (bnd (w_law_mul (y.1, y1.2, ())) fun u => w_law_add (y1.1, u, ()))) (s.zip y.2)) fun v => ret (Fl.nx v)) (ret (Fl.nx s))) (sq fun s => ret (Fl.nx s))) :
    ∀ (fees : List Fr) (lines : List (List Fr)) (T : List Int) (k : Nat), fees.length = lines.length → (∀ x ∈ fees, Num g x ∧ x.2 ∣ C) → (∀ l ∈ lines, l.length = T.length ∧ ∀ x ∈ l, Num g x ∧ x.2 ∣ F) → (∀ t ∈ T, t.natAbs ≤ k * 2 ^ 3000) → k + fees.length ≤ 1024 →
      forW (δ := Empty) f (T.map (toF (C * F))) (fees.zip lines) = ret (.nx ((totF T (over_ C fees) (lines.map (over_ F))).map (toF (C * F))))
  | [], [], _, _, _, _, _, _, _ => rfl
  | [], _ :: _, _, _, h, _, _, _, _ => by simp at h
  | _ :: _, [], _, _, h, _, _, _, _ => by simp at h
  | fee :: fees, l :: lines, T, k, h, h1, h2, hT, hk => by
    have a1 := h1 fee (List.mem_cons_self ..)
    have a2 := h2 l (List.mem_cons_self ..)
    have hD : (C * F).natAbs < 2 ^ 4000 := by rw [Int.natAbs_mul]; exact pow_mono (mul_lt_pow bC bF) (by decide)
    have hT' : ∀ t ∈ T, t.natAbs < 2 ^ 4000 := fun t ht => by
      have b1 := hT t ht
      have b2 : k * 2 ^ 3000 < 2 ^ (11 + 3000) := by
        rw [Nat.pow_add]
        exact (Nat.mul_lt_mul_right (Nat.pow_pos (by decide))).mpr (by omega)
      exact pow_mono (Nat.lt_of_le_of_lt b1 b2) (by decide)
    have row := due_row a1.1 hC hF a1.2 hD T l a2.1 a2.2 hT'
    have hfd : ∀ {x : Fr} {B : Int}, Num g x → 0 < B → B.natAbs < 2 ^ 1400 → (x.1 * Int.fdiv B x.2).natAbs < 2 ^ (14 + 1400) := fun {x B} hx hB bB => by
      rw [Int.natAbs_mul]
      refine mul_lt_pow (by have := hx.up; omega) ?_
      have := hx.red.1
      rw [Int.fdiv_eq_ediv_of_nonneg _ (by omega)]
      have := Int.natAbs_ediv_le_natAbs B x.2
      omega
    have cz : fee.1 * Int.fdiv C fee.2 ≠ 0 ↔ fee.1 ≠ 0 := by
      obtain ⟨q, hq⟩ := a1.2
      have q0 : q ≠ 0 := by rintro rfl; simp at hq; omega
      rw [hq, Int.fdiv_eq_ediv_of_nonneg _ (by have := a1.1.red.1; omega), Int.mul_ediv_cancel_left _ a1.1.ne]
      constructor
      · intro z y; exact z (by rw [y, Int.zero_mul])
      · intro z; exact Int.mul_ne_zero z q0
    have zs := zadd_small (f := fee.1 * Int.fdiv C fee.2) (r := over_ F l) hT fun m hm => by
      obtain ⟨x, hx, rfl⟩ := List.mem_map.mp hm
      rw [Int.natAbs_mul]
      exact Nat.le_of_lt (pow_mono (mul_lt_pow (hfd a1.1 hC bC) (hfd (a2.2 x hx).1 hF bF)) (by decide))
    show bnd (f (T.map (toF (C * F))) (fee, l)) _ = _
    rw [hf]
    have tail : ∀ T' : List Int, T'.length = T.length → (∀ t ∈ T', t.natAbs ≤ (k + 1) * 2 ^ 3000) → forW (δ := Empty) f (T'.map (toF (C * F))) (fees.zip lines) = ret (.nx ((totF T' (over_ C fees) (lines.map (over_ F))).map (toF (C * F)))) := fun T' e b =>
      law_due hC hF bC bF hf fees lines T' (k + 1) (by simpa using h) (fun x hx => h1 x (List.mem_cons_of_mem _ hx)) (fun x hx => ⟨(h2 x (List.mem_cons_of_mem _ hx)).1.trans e.symm, (h2 x (List.mem_cons_of_mem _ hx)).2⟩) b (by simp at hk; omega)
    by_cases q : fee.1 = 0
    · rw [ite_no (by simp [q]), bnd_ret, sq_nx, bnd_ret]
      refine (tail T rfl fun t ht => Nat.le_trans (hT t ht) (Nat.mul_le_mul_right _ (by omega))).trans ?_
      show _ = ret (Fl.nx ((totF (if _ then _ else _) _ _).map _))
      rw [if_neg (by rw [cz]; simp [q])]
      rfl
    · rw [ite_ok (by simp [q])]
      dsimp only
      rw [row, bnd_ret, bnd_ret, sq_nx, bnd_ret]
      refine (tail _ (zadd_len (by rw [over_, List.length_map, a2.1])) zs).trans ?_
      show _ = ret (Fl.nx ((totF (if _ then _ else _) _ _).map _))
      rw [if_pos (cz.mpr q)]
      rfl
end Dc
namespace Dc
open PySem PySem.Spec L2
theorem check_rows_eq {rows : List (List Fr)} {n : Int} (h0 : 0 ≤ n) (h : RowsOk rows n.toNat) : w_check_rows (rows, n, ()) = ret () := by
  unfold w_check_rows wb_check_rows
  simp only [bnd_ret, bnd_assoc, bnd_ifs, grd_true]
  rw [forW_eq (g := fun _ _ => ()) (fun r hr s => by rw [check_numbers_eq (h.red r hr), bnd_ret]), bnd_ret, sq_nx, forW_eq (g := fun _ _ => ()) (fun r hr s => by
    have := h.len r hr
    rw [ite_no (by simp; omega)]), bnd_ret]
  rfl
theorem combined_eq {ns : List Fr} {rows : List (List Fr)} {size : Int} (h0 : 0 ≤ size) (h1 : size ≤ 1000) (hl : ns.length = rows.length) (hn : rows.length ≤ 1000) (hr : RowsOk rows size.toNat) (hN : ∀ x ∈ ns, Red x) (hS : ∀ x ∈ ns, Sz 4000 x) (hC : lcmL ns < 2 ^ 4000) (hF : lcmL rows.flatten < 2 ^ 4000) :
    w_combined (ns, rows, size, ()) = ret (combL ns rows size.toNat) := by
  unfold w_combined wb_combined
  simp only [bnd_ret, bnd_assoc, bnd_ifs, bnd_grd, grd_true, fnR_bnd, fnR_ite, fnR_grd, fnR_ret]
  rw [check_numbers_eq hN, bnd_ret, check_rows_eq h0 hr, bnd_ret, ite_no (by simp [hl]), combination_eq h0 h1 hl hn hr hN hS hC hF, bnd_ret]
theorem shape_tr : Tr 10 (w_law_shape ()) (fun s => 0 ≤ s.1 ∧ s.1 ≤ 40 ∧ 1 ≤ s.2 ∧ s.2 ≤ 40) := by
  unfold w_law_shape wb_law_shape
  simp only [bnd_ret, bnd_assoc, bnd_ite, bnd_grd, grd_true, fnR_bnd, fnR_ite, fnR_grd, fnR_ret, sq_nx, sq_rt]
  have two : ∀ (a b : Int) (n : Nat) (k : Int → Int → Int × Int), 2 ≤ n → 0 < a → 0 < b → a ≤ 100 → b ≤ 100 → (∀ x y, 0 ≤ x → x < a → 0 ≤ y → y < b → 0 ≤ (k x y).1 ∧ (k x y).1 ≤ 40 ∧ 1 ≤ (k x y).2 ∧ (k x y).2 ≤ 40) → Tr n (bnd (pickW a) fun x => bnd (pickW b) fun y => ret (k x y)) (fun s => 0 ≤ s.1 ∧ s.1 ≤ 40 ∧ 1 ≤ s.2 ∧ s.2 ≤ 40) := fun a b n k hn ha hb la lb h =>
    Tr.then 1 (Tr.pick ha (lsmall (by omega))) (fun x hx => Tr.then 1 (Tr.pick hb (lsmall (by omega))) (fun y hy => Tr.ret (h x y hx.1 hx.2 hy.1 hy.2)) (by omega)) (by omega)
  refine Tr.then 1 Tr.pick fun k hk => Tr.ite (fun _ => ?_) fun _ => Tr.then 1 Tr.pick fun k2 hk2 => Tr.ite (fun _ => ?_) fun _ => Tr.ite (fun _ => ?_) fun _ => ?_
  · exact two 3 3 _ (fun x y => (40 - x, 40 - y)) (by decide) (by decide) (by decide) (by decide) (by decide) fun x y _ _ _ _ => by simp only; omega
  · exact two 41 3 _ (fun x y => (x, 1 + y)) (by decide) (by decide) (by decide) (by decide) (by decide) fun x y _ _ _ _ => by simp only; omega
  · exact two 4 40 _ (fun x y => (x, 1 + y)) (by decide) (by decide) (by decide) (by decide) (by decide) fun x y _ _ _ _ => by simp only; omega
  · exact two 7 6 _ (fun x y => (x, 1 + y)) (by decide) (by decide) (by decide) (by decide) (by decide) fun x y _ _ _ _ => by simp only; omega
/-- how great a common denominator can be -/
theorem lcm_go {l : List Fr} (h : ∀ x ∈ l, 1 ≤ x.2 ∧ x.2.natAbs < 2 ^ 14) : ∀ s : Int, 0 < s → (l.foldl (fun s x => ((Nat.lcm s.natAbs x.2.natAbs : Nat) : Int)) s).natAbs ≤ s.natAbs * 2 ^ (14 * l.length) := by
  induction l with
  | nil => intro s _; simp
  | cons x r ih =>
    intro s hs
    have hx := h x (List.mem_cons_self ..)
    have hp := Nat.lcm_pos (m := s.natAbs) (n := x.2.natAbs) (by omega) (by omega)
    have := ih (fun y hy => h y (List.mem_cons_of_mem _ hy)) ((Nat.lcm s.natAbs x.2.natAbs : Nat) : Int) (by omega)
    refine Nat.le_trans this ?_
    rw [Int.natAbs_natCast, List.length_cons, Nat.mul_add, Nat.mul_one, Nat.pow_add, Nat.mul_comm (2 ^ (14 * r.length)), ← Nat.mul_assoc]
    refine Nat.mul_le_mul_right _ (Nat.le_trans (Nat.le_of_dvd ?_ (Nat.lcm_dvd_mul ..)) (Nat.mul_le_mul_left _ (Nat.le_of_lt hx.2)))
    exact Nat.mul_pos (by omega) (by omega)
theorem lcm_small {g : Bool} {l : List Fr} (h : ∀ x ∈ l, Num g x) (hl : l.length ≤ 99) : (lcmL l).natAbs < 2 ^ 1400 := by
  have := lcm_go (l := l) (fun x hx => ⟨(h x hx).red.1, by have := (h x hx).dn; omega⟩) 1 (by decide)
  rw [show (1 : Int).natAbs = 1 from rfl, Nat.one_mul] at this
  exact Nat.lt_of_le_of_lt this (Nat.pow_lt_pow_right (by decide) (by omega))
theorem lcm_dvd_go {M : Nat} {l : List Fr} (h : ∀ x ∈ l, x.2.natAbs ∣ M) : ∀ s : Int, s.natAbs ∣ M → (l.foldl (fun s x => ((Nat.lcm s.natAbs x.2.natAbs : Nat) : Int)) s).natAbs ∣ M := by
  induction l with
  | nil => intro s hs; exact hs
  | cons x r ih =>
    intro s hs
    refine ih (fun y hy => h y (List.mem_cons_of_mem _ hy)) _ ?_
    rw [Int.natAbs_natCast]
    exact Nat.lcm_dvd hs (h x (List.mem_cons_self ..))
theorem lcm_nine {l : List Fr} (h : ∀ x ∈ l, Num false x) : (lcmL l).natAbs < 2 ^ 1400 := by
  have d := lcm_dvd_go (M := 2520) (l := l) (fun x hx => by
    have h1 := (h x hx).sm rfl
    have h2 := (h x hx).red.1
    generalize hq : x.2.natAbs = q at h1 ⊢
    have h3 : 1 ≤ q := by omega
    have : ∀ q : Fin 10, 1 ≤ q.val → q.val ∣ 2520 := by decide
    exact this ⟨q, by omega⟩ h3) 1 (by decide)
  have := Nat.le_of_dvd (by decide) d
  exact Nat.lt_of_le_of_lt this (Nat.lt_of_lt_of_le (show 2520 < 2 ^ 12 by decide) (Nat.pow_le_pow_right (by decide) (by decide)))
theorem lin_rows {g : Bool} {rows : List (List Fr)} {n : Nat} (h : ∀ r ∈ rows, Lin g n r) : RowsOk rows n := ⟨fun r hr => (h r hr).1, fun r hr x hx => ((h r hr).2 x hx).red, fun r hr x hx => ((h r hr).2 x hx).sz⟩
theorem totF_len {n : Nat} : ∀ (fs : List Int) (rs : List (List Int)) (T : List Int), T.length = n → (∀ r ∈ rs, r.length = n) → (totF T fs rs).length = n
  | [], _, T, h, _ => by simpa [totF] using h
  | _ :: _, [], T, h, _ => by simpa [totF] using h
  | f :: fs, r :: rs, T, h, hr => by
    show (totF (if _ then _ else _) fs rs).length = n
    refine totF_len fs rs _ ?_ fun x hx => hr x (List.mem_cons_of_mem _ hx)
    split
    · rw [zadd_len (by rw [hr r (List.mem_cons_self ..), h]), h]
    · exact h
theorem many_right_tr : Tr 30000 (w_law_many_right ()) (fun r => r = true) := by
  unfold w_law_many_right wb_law_many_right
  simp only [bnd_ret, bnd_assoc, bnd_grd, bnd_ifr, grd_true, fnR_bnd, fnR_ite, fnR_grd, fnR_ret, sq_nx, sq_rt]
  refine Tr.then 10 shape_tr fun mw hmw => ?_
  obtain ⟨many, wide⟩ := mw
  simp only at hmw
  obtain ⟨m0, m1, w0, w1⟩ := hmw
  have r1 : rngOk 0 many = true := by simp [rngOk]; omega
  have mo : mulOk many wide = true := mulSmall (by omega) (by omega)
  refine Tr.grd mo (Tr.then 1 (S := fun g : Bool => g = true → many * wide < 50) (Tr.ite (fun q => Tr.then 1 Tr.pick fun k hk => Tr.ret fun _ => of_decide_eq_true q) fun q => Tr.ret fun z => by cases z) fun g hg => ?_)
  refine Tr.grd r1 (Tr.then 25000 (Tr.mapN (L := 41) (fun y hy => law_line_tr g w0 (by omega)) (by rw [rangeF_len]; omega)) fun lines hl => ?_)
  refine Tr.grd r1 (Tr.then 300 (Tr.mapN (L := 41) (fun y hy => law_number_tr g) (by rw [rangeF_len]; omega)) fun fees hf => ?_)
  rw [rangeF_len] at hl hf
  refine Tr.then 1 (S := fun b : Bool => b = true → 1 < many) (Tr.ite (fun q => Tr.then 1 Tr.pick fun k hk => Tr.ret fun _ => of_decide_eq_true q) fun q => Tr.ret fun z => by cases z) fun b hb => ?_
  refine Tr.then 2 (S := fun fl => ∃ s : List (List Fr), fl = Fl.nx s ∧ s.length = many.toNat ∧ ∀ l ∈ s, Lin g wide.toNat l) (Tr.ite (fun q => ?_) fun q => Tr.ret ⟨lines, rfl, hl⟩) fun fl hfl => ?_
  · have := hb q
    refine Tr.then 1 (Tr.pick (by show 0 < many; omega) (lsmall (by show many.natAbs < _; omega))) fun k hk => ?_
    have i1 := ix_in (l := lines) (k := k) hk.1 (by have := hk.2; simp only at this; omega)
    refine Tr.grd i1.1 (Tr.then 1 (Tr.pick (by show 0 < many; omega) (lsmall (by show many.natAbs < _; omega))) fun k2 hk2 => ?_)
    have i2 := ix_in (l := lines) (k := k2) hk2.1 (by have := hk2.2; simp only at this; omega)
    refine Tr.grd i2.1 (Tr.ret ⟨_, rfl, by rw [List.length_set]; exact hl.1, fun l hl' => ?_⟩)
    rcases List.mem_or_eq_of_mem_set hl' with z | z
    · exact hl.2 l z
    · rw [z]; exact hl.2 _ i1.2
  obtain ⟨rows, rfl, hl⟩ := hfl
  have ro := lin_rows hl.2
  have e : fees.length = rows.length := hf.1.trans hl.1.symm
  have cF : ∀ x ∈ rows.flatten, Num g x := fun x hx => by
    obtain ⟨r, hr', hx'⟩ := List.mem_flatten.mp hx
    exact (hl.2 r hr').2 x hx'
  have bC : (lcmL fees).natAbs < 2 ^ 1400 := lcm_small hf.2 (by rw [hf.1]; omega)
  have bF : (lcmL rows.flatten).natAbs < 2 ^ 1400 := by
    cases g with
    | false => exact lcm_nine cF
    | true =>
      refine lcm_small cF ?_
      rw [flat_len rows ro.len, hl.1]
      have := hg rfl
      have e1 : ((many.toNat * wide.toNat : Nat) : Int) = many * wide := by rw [Int.natCast_mul, Int.toNat_of_nonneg m0, Int.toNat_of_nonneg (by omega)]
      omega
  have pC := lcmL_pos fun x hx => (hf.2 x hx).red
  have pF := lcmL_pos fun x hx => (cF x hx).red
  have sC : lcmL fees < 2 ^ 4000 := by
    have := pow_mono bC (show 1400 ≤ 4000 by decide)
    have e := natpow_cast 4000
    omega
  have sF : lcmL rows.flatten < 2 ^ 4000 := by
    have := pow_mono bF (show 1400 ≤ 4000 by decide)
    have e := natpow_cast 4000
    omega
  have start : List.replicate wide.toNat ((0, 1) : Fr) = (List.replicate wide.toNat (0 : Int)).map (toF (lcmL fees * lcmL rows.flatten)) := by
    rw [List.map_replicate, toF, Rat.zero_divInt]
    rfl
  have cl : (combL fees rows wide.toNat).length ≤ 16777216 := by
    rw [combL, List.length_map, totF_len (n := wide.toNat) _ _ _ (List.length_replicate ..) fun r hr => by
      obtain ⟨q, hq, rfl⟩ := List.mem_map.mp hr
      rw [over_, List.length_map, ro.len q hq]]
    omega
  dsimp only
  rw [sq_nx, grd_ok (show repOk ([(0, 1)] : List Fr).length wide = true from repOk1 (by omega) (by omega)), flat1, start]
  have due := law_due (g := g) (f := fun s y => bnd (ite (!decide (y.1.1 = 0)) (bnd (mapW (fun y1 : Fr × Fr => ite (decide (y1.2.1 = 0)) (ret y1.1) (bnd (w_law_mul (y.1, y1.2, ())) fun x => w_law_add (y1.1, x, ()))) (s.zip y.2)) fun v => ret (Fl.nx v)) (ret (Fl.nx s))) (sq fun v => ret (Fl.nx v))) pC pF bC bF (fun _ _ => rfl) fees rows (List.replicate wide.toNat 0) 0 e (fun x hx => ⟨hf.2 x hx, lcmL_dvd (fun y hy => (hf.2 y hy).red) hx⟩) (fun l hl' => ⟨by rw [(hl.2 l hl').1, List.length_replicate], fun x hx => ⟨(hl.2 l hl').2 x hx, lcmL_dvd (fun y hy => (cF y hy).red) (List.mem_flatten.mpr ⟨l, hl', hx⟩)⟩⟩) (fun t ht => by rw [List.eq_of_mem_replicate ht]; simp) (by rw [hf.1]; omega)
  rw [due, bnd_ret, sq_nx]
  have ec : (totF (List.replicate wide.toNat 0) (over_ (lcmL fees) fees) (rows.map (over_ (lcmL rows.flatten)))).map (toF (lcmL fees * lcmL rows.flatten)) = combL fees rows wide.toNat := rfl
  have ce := combined_eq (ns := fees) (rows := rows) (size := wide) (by omega) (by omega) e (by rw [hl.1]; omega) ro (fun x hx => (hf.2 x hx).red) (fun x hx => (hf.2 x hx).sz) sC sF
  rw [ec]
  simp only [mapW_ret, ce, bnd_ret, alike_line cl, eqv_line, eqv_rows, Bool.not_true, ite_true, ite_false, fnR_ret]
  exact Tr.ret rfl
theorem law_tr (ns : List Int) : Tr 100000 (w_law (ns, ())) (fun r => r = true) := by
  unfold w_law wb_law
  simp only [bnd_ret, bnd_assoc, bnd_grd, grd_true, fnR_bnd, fnR_grd, fnR_ret]
  refine Tr.grd (by decide) (Tr.then 99999 (Tr.forN (fun _ : Unit => True) (n := 33000) (L := 3) True.intro (fun y _ s _ => ?_) (by rw [rangeF_len]; decide)) fun fl hfl => ?_)
  · refine Tr.then 60 numbers_right_tr fun r hr => ?_
    rw [hr]
    simp only [Bool.not_true, ite_false, bnd_assoc]
    refine Tr.then 2000 two_right_tr fun r hr => ?_
    rw [hr]
    simp only [Bool.not_true, ite_false, bnd_assoc]
    refine Tr.then 30000 many_right_tr fun r hr => ?_
    rw [hr]
    simp only [Bool.not_true, ite_false, bnd_ret, sq_nx]
    exact Tr.ret ⟨(), rfl, True.intro⟩
  · obtain ⟨s', rfl, _⟩ := hfl
    rw [sq_nx, fnR_ret]
    exact Tr.ret rfl
theorem law_true (ns : List Int) (_ : ns.length ≤ 63) : w_law (ns, ()) (fun r _ => r = true) noX 0 := law_tr ns _ _ 0 (Nat.le_trans (show 0 + 100000 ≤ 2 ^ 17 by decide) (Nat.pow_le_pow_right (by decide) (by decide))) fun r _ _ h => h
end Dc
open PySem PySem.W PyProof.Rows
set_option maxHeartbeats 0 in
theorem PySem.Challenge.cw_toldproducts_k01_numbers_sums_and_multip_holds : PySem.Challenge.rw_toldproducts_k01_numbers_sums_and_multip.Holds := by
  w_on; o_law; k_head; (case hw => w_witness2)
  k_fill
  refine L2.walk_of (l := PySem.Challenge.rw_toldproducts_k01_numbers_sums_and_multip) (n := 63) (k := 9) (x := Str.ofString "_law_script") (CX := fun _ => L2.CX0) (sp := fun w => Dc.spLaw _) rfl (by decide) rfl ⟨rfl, by decide, by decide⟩ (fun w h Y => PySem.W.kIn_of Y) ?F (fun _ _ a ns hl _ hS => ⟨a, ns, rfl, hS, hl, fun _ => rfl⟩) (fun _ _ _ _ _ h => h)
  case F =>
    intro w mg fa h KX G hmg
    refine' Dc.all_mk KX G hmg ?a0 ?l0 ?c0 ?k0 ?a1 ?l1 ?c1 ?k1 ?a2 ?l2 ?c2 ?k2 ?a3 ?l3 ?c3 ?k3 ?a4 ?l4 ?c4 ?k4 ?a5 ?l5 ?c5 ?k5 ?a6 ?l6 ?c6 ?k6 ?a7 ?l7 ?c7 ?k7 ?a8 ?l8 ?c8 ?k8 ?a9 ?l9 ?c9 ?k9 ?a10 ?l10 ?c10 ?k10 ?a11 ?l11 ?c11 ?k11 ?a12 ?l12 ?c12 ?k12 ?a13 ?l13 ?c13 ?k13 ?a14 ?l14 ?c14 ?k14 ?a15 ?l15 ?c15 ?k15 ?a16 ?l16 ?c16 ?k16 ?a17 ?l17 ?c17 ?k17 ?a18 ?l18 ?c18 ?k18 ?a19 ?l19 ?c19 ?k19 ?a20 ?l20 ?c20 ?k20 ?a21 ?l21 ?c21 ?k21 ?a22 ?l22 ?c22 ?k22 ?a23 ?l23 ?c23 ?k23 ?a24 ?l24 ?c24 ?k24 ?a25 ?l25 ?c25 ?k25 ?a26 ?l26 ?c26 ?k26 ?a27 ?l27 ?c27 ?k27 ?a28 ?l28 ?c28 ?k28 ?a29 ?l29 ?c29 ?k29 ?a30 ?l30 ?c30 ?k30 ?a31 ?l31 ?c31 ?k31 ?a32 ?l32 ?c32 ?k32 ?z_abs ?z_bool ?z_enumerate ?z_int ?z_isinstance ?z_len ?z_list ?z_range ?z_tuple ?z_zip ?g_gcd ?g_lcm ?m_NOUGHT ?q_NOUGHT ?m_ONE ?q_ONE Dc.law_true
    (case a0 => k_is)
    (case l0 => k_is)
    (case c0 => k_is)
    (case k0 => k_is)
    (case a1 => k_is)
    (case l1 => k_is)
    (case c1 => k_is)
    (case k1 => k_is)
    (case a2 => k_is)
    (case l2 => k_is)
    (case c2 => k_is)
    (case k2 => k_is)
    (case a3 => k_is)
    (case l3 => k_is)
    (case c3 => k_is)
    (case k3 => k_is)
    (case a4 => k_is)
    (case l4 => k_is)
    (case c4 => k_is)
    (case k4 => k_is)
    (case a5 => k_is)
    (case l5 => k_is)
    (case c5 => k_is)
    (case k5 => k_is)
    (case a6 => k_is)
    (case l6 => k_is)
    (case c6 => k_is)
    (case k6 => k_is)
    (case a7 => k_is)
    (case l7 => k_is)
    (case c7 => k_is)
    (case k7 => k_is)
    (case a8 => k_is)
    (case l8 => k_is)
    (case c8 => k_is)
    (case k8 => k_is)
    (case a9 => k_is)
    (case l9 => k_is)
    (case c9 => k_is)
    (case k9 => k_is)
    (case a10 => k_is)
    (case l10 => k_is)
    (case c10 => k_is)
    (case k10 => k_is)
    (case a11 => k_is)
    (case l11 => k_is)
    (case c11 => k_is)
    (case k11 => k_is)
    (case a12 => k_is)
    (case l12 => k_is)
    (case c12 => k_is)
    (case k12 => k_is)
    (case a13 => k_is)
    (case l13 => k_is)
    (case c13 => k_is)
    (case k13 => k_is)
    (case a14 => k_is)
    (case l14 => k_is)
    (case c14 => k_is)
    (case k14 => k_is)
    (case a15 => k_is)
    (case l15 => k_is)
    (case c15 => k_is)
    (case k15 => k_is)
    (case a16 => k_is)
    (case l16 => k_is)
    (case c16 => k_is)
    (case k16 => k_is)
    (case a17 => k_is)
    (case l17 => k_is)
    (case c17 => k_is)
    (case k17 => k_is)
    (case a18 => k_is)
    (case l18 => k_is)
    (case c18 => k_is)
    (case k18 => k_is)
    (case a19 => k_is)
    (case l19 => k_is)
    (case c19 => k_is)
    (case k19 => k_is)
    (case a20 => k_is)
    (case l20 => k_is)
    (case c20 => k_is)
    (case k20 => k_is)
    (case a21 => k_is)
    (case l21 => k_is)
    (case c21 => k_is)
    (case k21 => k_is)
    (case a22 => k_is)
    (case l22 => k_is)
    (case c22 => k_is)
    (case k22 => k_is)
    (case a23 => k_is)
    (case l23 => k_is)
    (case c23 => k_is)
    (case k23 => k_is)
    (case a24 => k_is)
    (case l24 => k_is)
    (case c24 => k_is)
    (case k24 => k_is)
    (case a25 => k_is)
    (case l25 => k_is)
    (case c25 => k_is)
    (case k25 => k_is)
    (case a26 => k_is)
    (case l26 => k_is)
    (case c26 => k_is)
    (case k26 => k_is)
    (case a27 => k_is)
    (case l27 => k_is)
    (case c27 => k_is)
    (case k27 => k_is)
    (case a28 => k_is)
    (case l28 => k_is)
    (case c28 => k_is)
    (case k28 => k_is)
    (case a29 => k_is)
    (case l29 => k_is)
    (case c29 => k_is)
    (case k29 => k_is)
    (case a30 => k_is)
    (case l30 => k_is)
    (case c30 => k_is)
    (case k30 => k_is)
    (case a31 => k_is)
    (case l31 => k_is)
    (case c31 => k_is)
    (case k31 => k_is)
    (case a32 => k_is)
    (case l32 => k_is)
    (case c32 => k_is)
    (case k32 => k_is)
    (case z_abs => k_is)
    (case z_bool => k_is)
    (case z_enumerate => k_is)
    (case z_int => k_is)
    (case z_isinstance => k_is)
    (case z_len => k_is)
    (case z_list => k_is)
    (case z_range => k_is)
    (case z_tuple => k_is)
    (case z_zip => k_is)
    (case g_gcd => k_is)
    (case g_lcm => k_is)
    (case m_NOUGHT => k_is)
    (case q_NOUGHT => k_is)
    (case m_ONE => k_is)
    (case q_ONE => k_is)
