import PyProof.Rows.All
import Wide.All
import OpenK.AllK
import Wide.FinOn
import HandS.ForMost
import HandS.ForExc
import HandS.IsInst
import HandS.Style
import HandS.Flow
import HandS.Wide
import HandS.Walk
import HandS.Defaults
import HandS.EndBits
import PySem.Challenge.RW_fourstones_k02_what_any_value_is
set_option Elab.async false
set_option linter.all false
set_option maxRecDepth 100000
set_option maxHeartbeats 4000000
/-! Mini: mirrors of Python functions over abstract values, and what ties them to the text. -/
namespace Mi
open PySem PySem.Spec PyProof.Rows L2

/-- values; tuples, and lists and dicts that nobody changes, by what they hold; ref n: the n-th object of the memory -/
inductive Wv where
  | non | bl (b : Bool) | int (i : Int) | str (s : Str) | ty (n : String) | adr (a : Addr)
  | tup (xs : List Wv) | lst (xs : List Wv) | rdl (xs : List Wv) | dct (ks : List Key) (xs : List Wv) | ref (n : Nat)
/-- objects that change -/
inductive Ob where
  | lst (xs : List Wv)
abbrev Mem := List Ob
structure Xc where
  cls : Addr
  fs : List (Str × Wv)
inductive R (α : Type) where
  | ok (a : α) (M : Mem) | exc (x : Xc) (M : Mem) | no
def R.bind {α β : Type} (r : R α) (k : α → Mem → R β) : R β := match r with
  | .ok a M => k a M
  | .exc x M => .exc x M
  | .no => .no
abbrev Ev := List (Option Wv)
abbrev Me := Ev → Mem → R Wv
abbrev Ma := Ev → Mem → R (List Wv)
abbrev Mt := Ev → Mem → R Bool

/-- the addresses of the memory's objects; those that are being made and belong to none -/
structure Rn where
  l : List Addr
  f : List Addr
def Rn.no (ρ : Rn) (a : Addr) : Prop := a ∉ ρ.l ∧ a ∉ ρ.f
def Rn.add (ρ : Rn) (p : Addr) : Rn := ⟨ρ.l ++ [p], ρ.f⟩
def KT (K : PySem.W.Frag) (a : Addr) (xs : List V) : Prop := ∃ (o : Obj) (its : Array Value) (n : Nat), K.lookup a = some o ∧ o.cls = .type "tuple" ∧ o.data = .seq its n ∧ its.size ≤ sizeLine ∧ Vals xs its.toList
def KL (K : PySem.W.Frag) (a : Addr) (xs : List V) : Prop := ∃ (o : Obj) (its : Array Value) (n : Nat), K.lookup a = some o ∧ o.cls = .type "list" ∧ o.dict = none ∧ o.data = .seq its n ∧ its.size ≤ sizeLine ∧ Vals xs its.toList
mutual
def RV (K : PySem.W.Frag) (ρ : Rn) (H : Hp) : Wv → V → Prop
  | .non, v => v = .non
  | .bl b, v => v = .bl b
  | .int i, v => v = .int i
  | .str s, v => v = .str s
  | .ty n, v => v = .ty n
  | .adr a, v => v = .ref a
  | .tup xs, v => ∃ a vs, v = .ref a ∧ ((H a = some (.tup vs) ∧ ρ.no a) ∨ KT K a vs) ∧ RVs K ρ H xs vs
  | .lst xs, v => ∃ a vs, v = .ref a ∧ (H a = some (.lst vs) ∧ ρ.no a) ∧ RVs K ρ H xs vs
  | .rdl xs, v => ∃ a vs, v = .ref a ∧ ((Rd H a (.lst vs) ∧ ρ.no a) ∨ KL K a vs) ∧ RVs K ρ H xs vs
  | .dct ks xs, v => ∃ a kvs, v = .ref a ∧ (H a = some (.dK kvs) ∧ ρ.no a) ∧ kvs.map (·.1) = ks ∧ RVs K ρ H xs (kvs.map (·.2))
  | .ref n, v => ∃ a, v = .ref a ∧ ρ.l[n]? = some a
def RVs (K : PySem.W.Frag) (ρ : Rn) (H : Hp) : List Wv → List V → Prop
  | [], vs => vs = []
  | x :: xs, vs => ∃ v vr, vs = v :: vr ∧ RV K ρ H x v ∧ RVs K ρ H xs vr
end

structure Gr (ρ : Rn) (H : Hp) (ρ' : Rn) (H' : Hp) : Prop where
  pre : ∃ t, ρ'.l = ρ.l ++ t
  same : ρ'.f = ρ.f
  keep : ∀ a o, a ∉ ρ.l → H a = some o → H' a = some o
  new : ∀ a, a ∈ ρ'.l → a ∈ ρ.l ∨ H a = none
theorem Gr.refl (ρ : Rn) (H : Hp) : Gr ρ H ρ H := ⟨⟨[], by simp⟩, rfl, fun _ _ _ h => h, fun _ h => .inl h⟩
theorem Gr.outl {ρ ρ' : Rn} {H H' : Hp} (g : Gr ρ H ρ' H') {a : Addr} {o : HO} (h : a ∉ ρ.l) (e : H a = some o) : a ∉ ρ'.l := fun z => by
  rcases g.new a z with q | q
  · exact h q
  · rw [e] at q; cases q
theorem Gr.out {ρ ρ' : Rn} {H H' : Hp} (g : Gr ρ H ρ' H') {a : Addr} {o : HO} (h : ρ.no a) (e : H a = some o) : ρ'.no a := ⟨g.outl h.1 e, by rw [g.same]; exact h.2⟩
theorem Gr.trans {ρ ρ1 ρ2 : Rn} {H H1 H2 : Hp} (a : Gr ρ H ρ1 H1) (b : Gr ρ1 H1 ρ2 H2) : Gr ρ H ρ2 H2 := by
  refine ⟨?_, b.same.trans a.same, fun x o h e => b.keep x o (a.outl h e) (a.keep x o h e), fun x h => ?_⟩
  · obtain ⟨t, e1⟩ := a.pre
    obtain ⟨u, e2⟩ := b.pre
    exact ⟨t ++ u, by rw [e2, e1, List.append_assoc]⟩
  · rcases b.new x h with q | q
    · exact a.new x q
    · by_cases hx : x ∈ ρ.l
      · exact .inl hx
      · refine .inr ?_
        cases e : H x with
        | none => rfl
        | some o => rw [a.keep x o hx e] at q; cases q
theorem Gr.ix {ρ ρ' : Rn} {H H' : Hp} (g : Gr ρ H ρ' H') {n : Nat} {a : Addr} (h : ρ.l[n]? = some a) : ρ'.l[n]? = some a := by
  obtain ⟨t, e⟩ := g.pre
  rw [e, List.getElem?_append_left (List.getElem?_eq_some_iff.mp h).1]
  exact h
theorem Gr.rd {ρ ρ' : Rn} {H H' : Hp} (g : Gr ρ H ρ' H') {a : Addr} {u : HO} (h : Rd H a u ∧ ρ.no a) : Rd H' a u ∧ ρ'.no a := by
  obtain ⟨h | ⟨o, h⟩, n⟩ := h
  · exact ⟨.inl (g.keep _ _ n.1 h), g.out n h⟩
  · exact ⟨.inr ⟨o, g.keep _ _ n.1 h⟩, g.out n h⟩
theorem Gr.at {ρ ρ' : Rn} {H H' : Hp} (g : Gr ρ H ρ' H') {a : Addr} {u : HO} (h : H a = some u ∧ ρ.no a) : H' a = some u ∧ ρ'.no a := ⟨g.keep _ _ h.2.1 h.1, g.out h.2 h.1⟩
/-- a new object, not of the memory -/
theorem Gr.fresh {ρ : Rn} {H : Hp} {p : Addr} {o : HO} (h : H p = none) : Gr ρ H ρ (upd H p o) :=
  ⟨⟨[], by simp⟩, rfl, fun a u _ e => by rw [upd_ne (ne_of_none e h)]; exact e, fun _ h => .inl h⟩

/-- what is known of values stands -/
structure Mv (ρ : Rn) (H : Hp) (ρ' : Rn) (H' : Hp) : Prop where
  go : ∀ a u, H a = some u ∧ ρ.no a → H' a = some u ∧ ρ'.no a
  ix : ∀ (n : Nat) (a : Addr), ρ.l[n]? = some a → ρ'.l[n]? = some a
theorem Gr.mv {ρ ρ' : Rn} {H H' : Hp} (g : Gr ρ H ρ' H') : Mv ρ H ρ' H' := ⟨fun _ _ h => g.at h, fun _ _ h => g.ix h⟩
theorem Mv.refl {ρ : Rn} {H : Hp} : Mv ρ H ρ H := ⟨fun _ _ h => h, fun _ _ h => h⟩
theorem Mv.trans {ρ ρ1 ρ2 : Rn} {H H1 H2 : Hp} (a : Mv ρ H ρ1 H1) (b : Mv ρ1 H1 ρ2 H2) : Mv ρ H ρ2 H2 := ⟨fun x u h => b.go x u (a.go x u h), fun n x h => b.ix n x (a.ix n x h)⟩
theorem Mv.rd {ρ ρ' : Rn} {H H' : Hp} (g : Mv ρ H ρ' H') {a : Addr} {u : HO} (h : Rd H a u ∧ ρ.no a) : Rd H' a u ∧ ρ'.no a := by
  obtain ⟨h | ⟨o, h⟩, n⟩ := h
  · exact (g.go _ _ ⟨h, n⟩).imp .inl id
  · exact (g.go _ _ ⟨h, n⟩).imp (fun z => .inr ⟨o, z⟩) id
section
variable {K : PySem.W.Frag} {ρ ρ' : Rn} {H H' : Hp}
mutual
theorem RV.move (g : Mv ρ H ρ' H') : ∀ (w : Wv) {v : V}, RV K ρ H w v → RV K ρ' H' w v
  | .non, _, h => h
  | .bl _, _, h => h
  | .int _, _, h => h
  | .str _, _, h => h
  | .ty _, _, h => h
  | .adr _, _, h => h
  | .tup xs, _, ⟨a, vs, e, h, r⟩ => ⟨a, vs, e, h.imp (g.go _ _) id, RVs.move g xs r⟩
  | .lst xs, _, ⟨a, vs, e, h, r⟩ => ⟨a, vs, e, g.go _ _ h, RVs.move g xs r⟩
  | .rdl xs, _, ⟨a, vs, e, h, r⟩ => ⟨a, vs, e, h.imp g.rd id, RVs.move g xs r⟩
  | .dct ks xs, _, ⟨a, kvs, e, h, ek, r⟩ => ⟨a, kvs, e, g.go _ _ h, ek, RVs.move g xs r⟩
  | .ref n, _, ⟨a, e, h⟩ => ⟨a, e, g.ix _ _ h⟩
theorem RVs.move (g : Mv ρ H ρ' H') : ∀ (ws : List Wv) {vs : List V}, RVs K ρ H ws vs → RVs K ρ' H' ws vs
  | [], _, h => h
  | x :: xs, _, ⟨v, vr, e, h, r⟩ => ⟨v, vr, e, RV.move g x h, RVs.move g xs r⟩
end
theorem RV.mono (g : Gr ρ H ρ' H') (w : Wv) {v : V} (h : RV K ρ H w v) : RV K ρ' H' w v := RV.move g.mv w h
theorem RVs.mono (g : Gr ρ H ρ' H') (ws : List Wv) {vs : List V} (h : RVs K ρ H ws vs) : RVs K ρ' H' ws vs := RVs.move g.mv ws h
theorem RVs.length : ∀ {ws : List Wv} {vs : List V}, RVs K ρ H ws vs → ws.length = vs.length
  | [], _, h => by cases h; rfl
  | x :: xs, _, ⟨v, vr, e, h, r⟩ => by subst e; simp [RVs.length r]
theorem RVs.get : ∀ {ws : List Wv} {vs : List V} {i : Nat} {w : Wv}, RVs K ρ H ws vs → ws[i]? = some w → ∃ v, vs[i]? = some v ∧ RV K ρ H w v
  | [], _, _, _, _, h => by simp at h
  | x :: xs, _, 0, w, ⟨v, vr, e, h, r⟩, q => by subst e; simp at q; subst q; exact ⟨v, rfl, h⟩
  | x :: xs, _, i + 1, w, ⟨v, vr, e, h, r⟩, q => by
    subst e
    obtain ⟨u, h1, h2⟩ := RVs.get (i := i) r (by simpa using q)
    exact ⟨u, by simpa using h1, h2⟩
theorem RVs.set : ∀ {ws : List Wv} {vs : List V} {i : Nat} {w : Wv} {v : V}, RVs K ρ H ws vs → RV K ρ H w v → RVs K ρ H (ws.set i w) (vs.set i v)
  | [], _, _, _, _, h, _ => by cases h; exact rfl
  | x :: xs, _, 0, w, u, ⟨v, vr, e, h, r⟩, q => by subst e; exact ⟨u, vr, rfl, q, r⟩
  | x :: xs, _, i + 1, w, u, ⟨v, vr, e, h, r⟩, q => by subst e; exact ⟨v, vr.set i u, rfl, h, RVs.set r q⟩
theorem RVs.append : ∀ {ws us : List Wv} {vs zs : List V}, RVs K ρ H ws vs → RVs K ρ H us zs → RVs K ρ H (ws ++ us) (vs ++ zs)
  | [], _, _, _, h, q => by cases h; exact q
  | x :: xs, us, _, zs, ⟨v, vr, e, h, r⟩, q => by subst e; exact ⟨v, vr ++ zs, rfl, h, RVs.append r q⟩
theorem RVs.take : ∀ (n : Nat) {ws : List Wv} {vs : List V}, RVs K ρ H ws vs → RVs K ρ H (ws.take n) (vs.take n)
  | 0, _, _, _ => rfl
  | n + 1, [], _, h => by cases h; exact rfl
  | n + 1, x :: xs, _, ⟨v, vr, e, h, r⟩ => by subst e; exact ⟨v, vr.take n, rfl, h, RVs.take n r⟩
theorem RVs.drop : ∀ (n : Nat) {ws : List Wv} {vs : List V}, RVs K ρ H ws vs → RVs K ρ H (ws.drop n) (vs.drop n)
  | 0, _, _, h => h
  | n + 1, [], _, h => by cases h; exact rfl
  | n + 1, x :: xs, _, ⟨v, vr, e, h, r⟩ => by subst e; exact RVs.drop n r
end

def RO (K : PySem.W.Frag) (ρ : Rn) (H : Hp) (a : Addr) : Ob → Prop
  | .lst ws => ∃ vs, H a = some (.lst vs) ∧ RVs K ρ H ws vs
structure Rl (K : PySem.W.Frag) (ρ : Rn) (M : Mem) (H : Hp) : Prop where
  nd : ρ.l.Nodup
  len : ρ.l.length = M.length
  ob : ∀ (n : Nat) (o : Ob), M[n]? = some o → ∃ a, ρ.l[n]? = some a ∧ RO K ρ H a o
  fs : ∀ a, a ∈ ρ.f → a ∉ ρ.l ∧ ∃ u, H a = some u
def RE (K : PySem.W.Frag) (ρ : Rn) (H : Hp) (env : Ev) (σ : L2.St) : Prop :=
  env.length = σ.length ∧ ∀ (i : Nat) (w : Wv), env[i]? = some (some w) → ∃ v, σ[i]? = some (some v) ∧ RV K ρ H w v
theorem RE.move {K : PySem.W.Frag} {ρ ρ' : Rn} {H H' : Hp} {env : Ev} {σ : L2.St} (g : Mv ρ H ρ' H') (r : RE K ρ H env σ) : RE K ρ' H' env σ :=
  ⟨r.1, fun i w e => let ⟨v, h1, h2⟩ := r.2 i w e; ⟨v, h1, RV.move g w h2⟩⟩
theorem RE.mono {K : PySem.W.Frag} {ρ ρ' : Rn} {H H' : Hp} {env : Ev} {σ : L2.St} (g : Gr ρ H ρ' H') (r : RE K ρ H env σ) : RE K ρ' H' env σ :=
  ⟨r.1, fun i w e => let ⟨v, h1, h2⟩ := r.2 i w e; ⟨v, h1, RV.mono g w h2⟩⟩
theorem RE.set {K : PySem.W.Frag} {ρ : Rn} {H : Hp} {env : Ev} {σ : L2.St} (r : RE K ρ H env σ) {j : Nat} {w : Wv} {v : V} (h : RV K ρ H w v) : RE K ρ H (env.set j (some w)) (σ.set j (some v)) := by
  refine ⟨by rw [List.length_set, List.length_set]; exact r.1, fun i u e => ?_⟩
  by_cases hj : j = i
  · subst hj
    have hlt : j < env.length := by
      have := (List.getElem?_eq_some_iff.mp e).1
      simpa using this
    rw [List.getElem?_set_self hlt] at e
    cases e
    exact ⟨v, by rw [List.getElem?_set_self (by rw [← r.1]; exact hlt)], h⟩
  · rw [List.getElem?_set_ne hj] at e ⊢
    exact r.2 i u e

/-- fields -/
def RF (K : PySem.W.Frag) (ρ : Rn) (H : Hp) (fs : List (Str × Wv)) (vs : List (Str × V)) : Prop := vs.map (·.1) = fs.map (·.1) ∧ RVs K ρ H (fs.map (·.2)) (vs.map (·.2))
def Fin {α : Type} (K : PySem.W.Frag) (ρ : Rn) (H : Hp) (P : α → Mem → Rn → Hp → Prop) (E : XK) : R α → Prop
  | .ok a M' => ∀ ρ' H', Gr ρ H ρ' H' → Rl K ρ' M' H' → P a M' ρ' H'
  | .exc x M' => ∀ ρ' H' d vs, Gr ρ H ρ' H' → Rl K ρ' M' H' → H' d = some (.xd vs) → ρ'.no d → RF K ρ' H' x.fs vs → E (.ref x.cls) (some d) H'
  | .no => False
section
variable {α β : Type} {K : PySem.W.Frag} {ρ ρ1 : Rn} {H H1 : Hp} {P P' : α → Mem → Rn → Hp → Prop} {E : XK} {r : R α}
theorem Fin.from (g : Gr ρ H ρ1 H1) (h : Fin K ρ H P E r) : Fin K ρ1 H1 P E r := by
  cases r with
  | ok a M => exact fun ρ' H' g' rl => h ρ' H' (g.trans g') rl
  | exc x M => exact fun ρ' H' d vs g' => h ρ' H' d vs (g.trans g')
  | no => exact h
theorem Fin.imp (h : Fin K ρ H P E r) (k : ∀ a M ρ' H', Gr ρ H ρ' H' → Rl K ρ' M H' → P a M ρ' H' → P' a M ρ' H') : Fin K ρ H P' E r := by
  cases r with
  | ok a M => exact fun ρ' H' g rl => k a M ρ' H' g rl (h ρ' H' g rl)
  | exc x M => exact h
  | no => exact h
theorem Fin.bind {Pb : β → Mem → Rn → Hp → Prop} {k : α → Mem → R β} (h : Fin K ρ H Pb E (r.bind k)) : Fin K ρ H (fun a M ρ' H' => Fin K ρ' H' Pb E (k a M)) E r := by
  cases r with
  | ok a M => exact fun ρ' H' g rl => Fin.from g h
  | exc x M => exact h
  | no => exact h
theorem Fin.here {a : α} {M : Mem} (h : Fin K ρ H P E (.ok a M)) (rl : Rl K ρ M H) : P a M ρ H := h ρ H (Gr.refl ρ H) rl
end
/-- a value comes -/
def PV (K : PySem.W.Frag) (Q : VK) : Wv → Mem → Rn → Hp → Prop := fun w _ ρ H => ∀ v, RV K ρ H w v → Q v H
def PB (Q : Bool → Hp → Prop) : Bool → Mem → Rn → Hp → Prop := fun b _ _ H => Q b H
def PVs (K : PySem.W.Frag) (Q : List V → Hp → Prop) : List Wv → Mem → Rn → Hp → Prop := fun ws _ ρ H => ∀ vs, RVs K ρ H ws vs → Q vs H
/-- the readings by a mirror -/
def te (K : PySem.W.Frag) (E : XK) (m : Me) : TE := fun σ H Q => ∃ ρ M env, Rl K ρ M H ∧ RE K ρ H env σ ∧ Fin K ρ H (PV K Q) E (m env M)
def ta (K : PySem.W.Frag) (E : XK) (m : Ma) : TA := fun σ H Q => ∃ ρ M env, Rl K ρ M H ∧ RE K ρ H env σ ∧ Fin K ρ H (PVs K Q) E (m env M)
def tt (K : PySem.W.Frag) (E : XK) (m : Mt) : TT := fun σ H Q => ∃ ρ M env, Rl K ρ M H ∧ RE K ρ H env σ ∧ Fin K ρ H (PB Q) E (m env M)
/-- a wish on a pair of values, with the memory -/
def r2 (K : PySem.W.Frag) (E : XK) (f : Wv → Wv → Mem → R Wv) : R2 := fun x y H Q => ∃ ρ M wx wy, Rl K ρ M H ∧ RV K ρ H wx x ∧ RV K ρ H wy y ∧ Fin K ρ H (PV K Q) E (f wx wy M)
def r1 (K : PySem.W.Frag) (E : XK) (f : Wv → Mem → R Wv) : V → Hp → VK → Prop := fun x H Q => ∃ ρ M wx, Rl K ρ M H ∧ RV K ρ H wx x ∧ Fin K ρ H (PV K Q) E (f wx M)
def rc (K : PySem.W.Frag) (E : XK) (f : List Wv → Mem → R Wv) : List V → Hp → VK → Prop := fun xs H Q => ∃ ρ M ws, Rl K ρ M H ∧ RVs K ρ H ws xs ∧ Fin K ρ H (PV K Q) E (f ws M)

theorem PE.imp {X : Cx} {e : Expr} {t t' : TE} (h : PE X e t) (k : ∀ σ H Q, t' σ H Q → t σ H Q) : PE X e t' := ⟨fun pins s σ H Q I q => h.run pins s σ H Q I (k σ H Q q)⟩
theorem PT.imp {X : Cx} {e : Expr} {t t' : TT} (h : PT X e t) (k : ∀ σ H Q, t' σ H Q → t σ H Q) : PT X e t' := ⟨fun pins s σ H Q I q => h.run pins s σ H Q I (k σ H Q q)⟩
theorem PW.imp {X : Cx} {e : Expr} {t t' : TT} (h : PW X e t) (k : ∀ σ H Q, t' σ H Q → t σ H Q) : PW X e t' := ⟨fun wh pins s σ H Q I q => h.run wh pins s σ H Q I (k σ H Q q)⟩
theorem PA.imp {X : Cx} {e : List Expr} {t t' : TA} (h : PA X e t) (k : ∀ σ H Q, t' σ H Q → t σ H Q) : PA X e t' := ⟨fun pos pins s σ H Q I q => h.run pos pins s σ H Q I (k σ H Q q)⟩
theorem PS.imp {X : Cx} {e : Stmt} {t t' : TS} (h : PS X e t) (k : ∀ D σ H, t' D σ H → t D σ H) : PS X e t' := ⟨fun pins s σ H D I q => h.run pins s σ H D I (k D σ H q)⟩
theorem PSs.imp {X : Cx} {e : List Stmt} {t t' : TS} (h : PSs X e t) (k : ∀ D σ H, t' D σ H → t D σ H) : PSs X e t' := ⟨fun pins s σ H D I q => h.run pins s σ H D I (k D σ H q)⟩

/-! ### composition -/
section
variable {K : PySem.W.Frag} {E : XK} {σ : L2.St} {H : Hp}
/-- one value, then what follows -/
theorem te_then {m : Me} {β : Type} {k : Wv → Mem → R β} {P : β → Mem → Rn → Hp → Prop} {ρ : Rn} {M : Mem} {env : Ev} (rl : Rl K ρ M H) (re : RE K ρ H env σ) (h : Fin K ρ H P E ((m env M).bind k)) {Q : VK}
    (q : ∀ w M1 ρ1 H1 v, Gr ρ H ρ1 H1 → Rl K ρ1 M1 H1 → RE K ρ1 H1 env σ → RV K ρ1 H1 w v → Fin K ρ1 H1 P E (k w M1) → Q v H1) : te K E m σ H Q :=
  ⟨ρ, M, env, rl, re, h.bind.imp fun w M1 ρ1 H1 g rl1 f v rv => q w M1 ρ1 H1 v g rl1 (re.mono g) rv f⟩
theorem ta_then {m : Ma} {β : Type} {k : List Wv → Mem → R β} {P : β → Mem → Rn → Hp → Prop} {ρ : Rn} {M : Mem} {env : Ev} (rl : Rl K ρ M H) (re : RE K ρ H env σ) (h : Fin K ρ H P E ((m env M).bind k)) {Q : List V → Hp → Prop}
    (q : ∀ ws M1 ρ1 H1 vs, Gr ρ H ρ1 H1 → Rl K ρ1 M1 H1 → RE K ρ1 H1 env σ → RVs K ρ1 H1 ws vs → Fin K ρ1 H1 P E (k ws M1) → Q vs H1) : ta K E m σ H Q :=
  ⟨ρ, M, env, rl, re, h.bind.imp fun w M1 ρ1 H1 g rl1 f v rv => q w M1 ρ1 H1 v g rl1 (re.mono g) rv f⟩
theorem tt_then {m : Mt} {β : Type} {k : Bool → Mem → R β} {P : β → Mem → Rn → Hp → Prop} {ρ : Rn} {M : Mem} {env : Ev} (rl : Rl K ρ M H) (re : RE K ρ H env σ) (h : Fin K ρ H P E ((m env M).bind k)) {Q : Bool → Hp → Prop}
    (q : ∀ b M1 ρ1 H1, Gr ρ H ρ1 H1 → Rl K ρ1 M1 H1 → RE K ρ1 H1 env σ → Fin K ρ1 H1 P E (k b M1) → Q b H1) : tt K E m σ H Q :=
  ⟨ρ, M, env, rl, re, h.bind.imp fun w M1 ρ1 H1 g rl1 f => q w M1 ρ1 H1 g rl1 (re.mono g) f⟩
end

/-! ### names, constants -/
def mVar (i : Nat) : Me := fun env M => match env[i]? with
  | some (some w) => .ok w M
  | _ => .no
def mC (w : Wv) : Me := fun _ M => .ok w M
section
variable {X : Cx} {E : XK}
theorem e_var {i : Nat} {e : Expr} (h : PE X e (tVar i)) : PE X e (te X.K E (mVar i)) := PE.imp h fun σ H Q ⟨ρ, M, env, rl, re, f⟩ => by
  unfold mVar at f
  cases q : env[i]? with
  | none => rw [q] at f; exact f.elim
  | some o =>
    cases o with
    | none => rw [q] at f; exact f.elim
    | some w =>
      rw [q] at f
      obtain ⟨v, h1, h2⟩ := re.2 i w q
      exact ⟨v, h1, f.here rl v h2⟩
theorem e_const {e : Expr} {v : V} (w : Wv) (h : PE X e (tC v)) (r : ∀ ρ H, RV X.K ρ H w v) : PE X e (te X.K E (mC w)) := PE.imp h fun σ H Q ⟨ρ, M, env, rl, re, f⟩ => f.here rl v (r ρ H)
theorem e_int {i : Int} {j pos} : PE X (.Constant (.int i) j pos) (te X.K E (mC (.int i))) := e_const _ pe_int fun _ _ => rfl
theorem e_bl {b : Bool} {j pos} : PE X (.Constant (.bool b) j pos) (te X.K E (mC (.bl b))) := e_const _ pe_bl fun _ _ => rfl
theorem e_non {j pos} : PE X (.Constant .none j pos) (te X.K E (mC .non)) := e_const _ pe_non fun _ _ => rfl
theorem e_str {s : Str} {j pos} : PE X (.Constant (.str s) j pos) (te X.K E (mC (.str s))) := e_const _ pe_str fun _ _ => rfl

/-! ### operators -/
def mBin (f : Wv → Wv → Mem → R Wv) (a b : Me) : Me := fun env M => (a env M).bind fun x M1 => (b env M1).bind fun y M2 => f x y M2
def mUn (f : Wv → Mem → R Wv) (a : Me) : Me := fun env M => (a env M).bind f
variable {a b : Expr} {ma mb : Me} {pos : Pos}
theorem te_two {K : PySem.W.Frag} {f : Wv → Wv → Mem → R Wv} {σ : L2.St} {H : Hp} {Q : VK} (h : te K E (mBin f ma mb) σ H Q) : tOp (r2 K E f) (te K E ma) (te K E mb) σ H Q := by
  obtain ⟨ρ, M, env, rl, re, h⟩ := h
  refine te_then rl re h fun x M1 ρ1 H1 v g1 rl1 re1 rv1 h1 => ?_
  refine te_then rl1 re1 h1 fun y M2 ρ2 H2 u g2 rl2 re2 rv2 h2 => ?_
  exact ⟨ρ2, M2, x, y, rl2, RV.mono g2 x rv1, rv2, h2⟩
theorem e_bin {op : Operator} {f : Wv → Wv → Mem → R Wv} (ho : OpR X (binaryOp op) (r2 X.K E f)) (ha : PE X a (te X.K E ma)) (hb : PE X b (te X.K E mb)) : PE X (.BinOp a op b pos) (te X.K E (mBin f ma mb)) :=
  PE.imp (pe_op ho ha hb) fun _ _ _ h => te_two h
theorem e_un {op : UnaryOp} {f : Wv → Mem → R Wv} (ho : UnR X (unaryOp op) (r1 X.K E f)) (ha : PE X a (te X.K E ma)) : PE X (.UnaryOp op a pos) (te X.K E (mUn f ma)) :=
  PE.imp (pe_un ho ha) fun _ _ _ ⟨ρ, M, env, rl, re, h⟩ => te_then rl re h fun x M1 ρ1 H1 v g1 rl1 re1 rv1 h1 => ⟨ρ1, M1, x, rl1, rv1, h1⟩
end
end Mi

namespace Mi
open PySem PySem.Spec PyProof.Rows L2

/-! ### new objects -/
section
variable {K : PySem.W.Frag} {ρ : Rn} {M : Mem} {H : Hp} {p : Addr} {o : HO}
theorem Rl.there (rl : Rl K ρ M H) {a : Addr} (h : a ∈ ρ.l) : ∃ u, H a = some u := by
  obtain ⟨n, hn⟩ := List.getElem?_of_mem h
  have hlt : n < M.length := by rw [← rl.len]; exact (List.getElem?_eq_some_iff.mp hn).1
  obtain ⟨b, h1, h2⟩ := rl.ob n _ (List.getElem?_eq_getElem hlt)
  have e : b = a := Option.some.inj (h1.symm.trans hn)
  subst e
  cases q : M[n] with
  | lst ws =>
    rw [q] at h2
    obtain ⟨vs, h3, _⟩ := h2
    exact ⟨_, h3⟩
theorem Rl.out (rl : Rl K ρ M H) (h : H p = none) : ρ.no p := by
  refine ⟨fun z => ?_, fun z => ?_⟩
  · obtain ⟨u, e⟩ := rl.there z
    rw [h] at e
    cases e
  · obtain ⟨_, u, e⟩ := rl.fs p z
    rw [h] at e
    cases e
theorem RO.mono {ρ' : Rn} {H' : Hp} (g : Gr ρ H ρ' H') {a : Addr} (ha : H' a = H a) {b : Ob} (h : RO K ρ H a b) : RO K ρ' H' a b := by
  cases b with
  | lst ws =>
    obtain ⟨vs, h1, h2⟩ := h
    exact ⟨vs, by rw [ha]; exact h1, RVs.mono g ws h2⟩
theorem Rl.upd (rl : Rl K ρ M H) (h : H p = none) : Rl K ρ M (upd H p o) := by
  refine ⟨rl.nd, rl.len, fun n b e => ?_, fun a ha => ?_⟩
  · obtain ⟨a, h1, h2⟩ := rl.ob n b e
    refine ⟨a, h1, RO.mono (Gr.fresh h) (upd_ne fun z => ?_) h2⟩
    subst z
    exact (rl.out h).1 (List.mem_of_getElem? h1)
  · obtain ⟨h1, u, h2⟩ := rl.fs a ha
    exact ⟨h1, u, by rw [upd_ne (ne_of_none h2 h)]; exact h2⟩
theorem Gr.mk1 (h : H p = none) : Gr ρ H (ρ.add p) (upd H p o) :=
  ⟨⟨[p], rfl⟩, rfl, fun a u _ e => by rw [upd_ne (ne_of_none e h)]; exact e, fun a z => by
    rcases List.mem_append.mp z with z | z
    · exact .inl z
    · rw [List.mem_singleton.mp z]; exact .inr h⟩
/-- the new object is of the memory -/
theorem Rl.new (rl : Rl K ρ M H) (h : H p = none) {b : Ob} (hb : RO K (ρ.add p) (L2.upd H p o) p b) : Rl K (ρ.add p) (M ++ [b]) (L2.upd H p o) := by
  refine ⟨?_, by simp [Rn.add, rl.len], fun n c e => ?_, fun a ha => ?_⟩
  · show (ρ.l ++ [p]).Nodup
    rw [List.nodup_append]
    refine ⟨rl.nd, by simp, fun x hx y hy z => ?_⟩
    rw [List.mem_singleton.mp hy] at z
    rw [z] at hx
    exact (rl.out h).1 hx
  · by_cases hn : n < M.length
    · rw [List.getElem?_append_left hn] at e
      obtain ⟨a, h1, h2⟩ := rl.ob n c e
      refine ⟨a, by show (ρ.l ++ [p])[n]? = _; rw [List.getElem?_append_left (by rw [rl.len]; exact hn)]; exact h1, RO.mono (Gr.mk1 h) (upd_ne fun z => ?_) h2⟩
      subst z
      exact (rl.out h).1 (List.mem_of_getElem? h1)
    · have hlt := (List.getElem?_eq_some_iff.mp e).1
      rw [List.length_append, List.length_singleton] at hlt
      have hn' : n = M.length := by omega
      subst hn'
      rw [List.getElem?_append_right (Nat.le_refl _), Nat.sub_self] at e
      have e' : b = c := by simpa using e
      subst e'
      refine ⟨p, ?_, hb⟩
      show (ρ.l ++ [p])[M.length]? = _
      rw [← rl.len, List.getElem?_append_right (Nat.le_refl _), Nat.sub_self]
      rfl
  · obtain ⟨h1, u, h2⟩ := rl.fs a ha
    have ne := ne_of_none h2 h
    refine ⟨fun z => ?_, u, by rw [upd_ne ne]; exact h2⟩
    rcases List.mem_append.mp z with z | z
    · exact h1 z
    · exact ne (List.mem_singleton.mp z)
theorem nodup_at : ∀ {l : List Addr} {i j : Nat} {a : Addr}, l.Nodup → l[i]? = some a → l[j]? = some a → i = j
  | [], _, _, _, _, h, _ => by simp at h
  | x :: xs, 0, 0, _, _, _, _ => rfl
  | x :: xs, 0, j + 1, a, n, h, k => by
    simp at h k
    subst h
    exact absurd (List.mem_of_getElem? k) (List.nodup_cons.mp n).1
  | x :: xs, i + 1, 0, a, n, h, k => by
    simp at h k
    subst k
    exact absurd (List.mem_of_getElem? h) (List.nodup_cons.mp n).1
  | x :: xs, i + 1, j + 1, a, n, h, k => by
    simp at h k
    rw [nodup_at (List.nodup_cons.mp n).2 h k]
/-- an object of the memory is changed -/
theorem Gr.write {n : Nat} (hp : ρ.l[n]? = some p) : Gr ρ H ρ (L2.upd H p o) :=
  ⟨⟨[], by simp⟩, rfl, fun a u ha e => by
    rw [upd_ne]
    · exact e
    · rintro rfl
      exact ha (List.mem_of_getElem? hp), fun _ h => .inl h⟩
theorem Rl.write (rl : Rl K ρ M H) {n : Nat} (hp : ρ.l[n]? = some p) {b : Ob} (hb : RO K ρ (L2.upd H p o) p b) : Rl K ρ (M.set n b) (L2.upd H p o) := by
  refine ⟨rl.nd, by simp [rl.len], fun m c e => ?_, fun a ha => ?_⟩
  · by_cases hm : n = m
    · subst hm
      have hlt : n < M.length := by rw [← rl.len]; exact (List.getElem?_eq_some_iff.mp hp).1
      rw [List.getElem?_set_self hlt] at e
      cases e
      exact ⟨p, hp, hb⟩
    · rw [List.getElem?_set_ne hm] at e
      obtain ⟨a, h1, h2⟩ := rl.ob m c e
      refine ⟨a, h1, RO.mono (Gr.write hp) (upd_ne fun z => ?_) h2⟩
      subst z
      exact hm (nodup_at rl.nd hp h1)
  · obtain ⟨h1, u, h2⟩ := rl.fs a ha
    refine ⟨h1, u, ?_⟩
    rw [upd_ne]
    · exact h2
    · rintro rfl
      exact h1 (List.mem_of_getElem? hp)
end

/-! ### sizes -/
def lim : Nat := 100000
theorem lim_le {n : Nat} (h : n ≤ lim) : n ≤ sizeLine := Nat.le_trans h (by decide)
theorem lim_lt {n : Nat} (h : n < lim) : n < sizeLine := Nat.lt_of_lt_of_le h (by decide)

/-! ### a value that is handed on -/
section
variable {K : PySem.W.Frag} {E : XK} {ρ : Rn} {M : Mem} {H : Hp} {Q : VK} {w : Wv}
theorem fin_val (h : Fin K ρ H (PV K Q) E (.ok w M)) (rl : Rl K ρ M H) {v : V} (r : RV K ρ H w v) : Q v H := h.here rl v r
theorem fin_lst {ws : List Wv} {vs : List V} (h : Fin K ρ H (PV K Q) E (.ok (.lst ws) M)) (rl : Rl K ρ M H) (r : RVs K ρ H ws vs) {p : Addr} (hp : H p = none) : Q (.ref p) (upd H p (.lst vs)) :=
  h ρ _ (Gr.fresh hp) (rl.upd hp) _ ⟨p, vs, rfl, ⟨upd_same, rl.out hp⟩, RVs.mono (Gr.fresh hp) ws r⟩
theorem fin_tup {ws : List Wv} {vs : List V} (h : Fin K ρ H (PV K Q) E (.ok (.tup ws) M)) (rl : Rl K ρ M H) (r : RVs K ρ H ws vs) {p : Addr} (hp : H p = none) : Q (.ref p) (upd H p (.tup vs)) :=
  h ρ _ (Gr.fresh hp) (rl.upd hp) _ ⟨p, vs, rfl, .inl ⟨upd_same, rl.out hp⟩, RVs.mono (Gr.fresh hp) ws r⟩
theorem fin_new {ws : List Wv} {vs : List V} (h : Fin K ρ H (PV K Q) E (.ok (.ref M.length) (M ++ [.lst ws]))) (rl : Rl K ρ M H) (r : RVs K ρ H ws vs) {p : Addr} (hp : H p = none) : Q (.ref p) (upd H p (.lst vs)) :=
  h (ρ.add p) _ (Gr.mk1 hp) (rl.new hp ⟨vs, upd_same, RVs.mono (Gr.mk1 hp) ws r⟩) _ ⟨p, rfl, by show (ρ.l ++ [p])[M.length]? = _; rw [← rl.len, List.getElem?_append_right (Nat.le_refl _), Nat.sub_self]; rfl⟩
theorem sq_l {a : Addr} {vs : List V} (h : (Rd H a (.lst vs) ∧ ρ.no a) ∨ KL K a vs) : SqL K H a vs := h.imp (·.1) id
theorem sq_t {a : Addr} {vs : List V} (h : (H a = some (.tup vs) ∧ ρ.no a) ∨ KT K a vs) : SqT K H a vs := h.imp (fun z => .inl z.1) id
end

/-! ### ints and others by operators -/
def mulOk (i j : Int) : Bool := decide (i.natAbs < 2 ^ 64) || decide (j.natAbs < 2 ^ 64) || decide (i.natAbs.log2 + j.natAbs.log2 < 1000000)
def addW : Wv → Wv → Mem → R Wv
  | .int i, .int j, M => .ok (.int (i + j)) M
  | .str a, .str b, M => if a.length + b.length ≤ lim then .ok (.str (a ++ b)) M else .no
  | .lst xs, .lst ys, M => if xs.length + ys.length ≤ lim then .ok (.lst (xs ++ ys)) M else .no
  | .tup xs, .tup ys, M => if 0 < xs.length ∧ 0 < ys.length ∧ xs.length + ys.length ≤ lim then .ok (.tup (xs ++ ys)) M else .no
  | _, _, _ => .no
def subW : Wv → Wv → Mem → R Wv
  | .int i, .int j, M => .ok (.int (i - j)) M
  | _, _, _ => .no
def mulW : Wv → Wv → Mem → R Wv
  | .int i, .int j, M => if mulOk i j then .ok (.int (i * j)) M else .no
  | .lst xs, .int k, M => if 0 ≤ k ∧ k < 1000 ∧ xs.length * k.toNat ≤ lim then .ok (.lst (List.replicate k.toNat xs).flatten) M else .no
  | _, _, _ => .no
def divW : Wv → Wv → Mem → R Wv
  | .int i, .int j, M => if 0 < j ∧ j < 1073741824 then .ok (.int (i / j)) M else .no
  | _, _, _ => .no
def modW : Wv → Wv → Mem → R Wv
  | .int i, .int j, M => if 0 < j then .ok (.int (i % j)) M else .no
  | _, _, _ => .no
def powW : Wv → Wv → Mem → R Wv
  | .int i, .int j, M => if 0 ≤ j ∧ j ≤ 1000000 ∧ i.natAbs < 2 ^ 64 then .ok (.int (i ^ j.toNat)) M else .no
  | _, _, _ => .no
def shlW : Wv → Wv → Mem → R Wv
  | .int i, .int j, M => if 0 ≤ j ∧ j ≤ 1000000 ∧ i.natAbs < 2 ^ 64 then .ok (.int (i * 2 ^ j.toNat)) M else .no
  | _, _, _ => .no
def negW : Wv → Mem → R Wv
  | .int i, M => .ok (.int (-i)) M
  | _, _ => .no
def cmpW (p : Int → Int → Bool) : Wv → Wv → Mem → R Bool
  | .int i, .int j, M => .ok (p i j) M
  | _, _, _ => .no
/-- a comparison's wish -/
def rb (K : PySem.W.Frag) (E : XK) (f : Wv → Wv → Mem → R Bool) : R2 := fun x y H Q => ∃ ρ M wx wy, Rl K ρ M H ∧ RV K ρ H wx x ∧ RV K ρ H wy y ∧ Fin K ρ H (PB fun b H' => Q (.bl b) H') E (f wx wy M)
theorem pick {β : Type} {α : Prop} {P : R β} {K : PySem.W.Frag} {E : XK} {ρ : Rn} {H : Hp} {Q : β → Mem → Rn → Hp → Prop} [Decidable α] (h : Fin K ρ H Q E (if α then P else .no)) : α ∧ Fin K ρ H Q E P := by
  by_cases ha : α
  · rw [if_pos ha] at h; exact ⟨ha, h⟩
  · rw [if_neg ha] at h; exact h.elim

section
variable {X : Cx} {E : XK}
theorem OpR.imp {f : Value → Value → Sem Value} {r r' : R2} (h : OpR X f r) (k : ∀ x y H Q, r' x y H Q → r x y H Q) : OpR X f r' := fun pins s σ H x y v u Q I rx ry q => h pins s σ H x y v u Q I rx ry (k x y H Q q)
theorem OpR.two {f : Value → Value → Sem Value} {r r' : R2} (h : OpR X f r) (h' : OpR X f r') : OpR X f (fun x y H Q => r x y H Q ∨ r' x y H Q) := fun pins s σ H x y v u Q I rx ry q =>
  q.elim (h pins s σ H x y v u Q I rx ry) (h' pins s σ H x y v u Q I rx ry)
theorem UnR.imp {f : Value → Sem Value} {r r' : V → Hp → VK → Prop} (h : UnR X f r) (k : ∀ x H Q, r' x H Q → r x H Q) : UnR X f r' := fun pins s σ H x v Q I rx q => h pins s σ H x v Q I rx (k x H Q q)
theorem CallR.imp {f : Value} {r r' : List V → Hp → VK → Prop} (h : CallR X f r) (k : ∀ xs H Q, r' xs H Q → r xs H Q) : CallR X f r' := fun pins s σ H xs us Q I rx q => h pins s σ H xs us Q I rx (k xs H Q q)

theorem o_add : OpR X (binaryOp .Add) (r2 X.K E addW) := by
  refine OpR.imp (OpR.two op_add (OpR.two op_add_str (OpR.two op_cat op_catT))) fun x y H Q ⟨ρ, M, wx, wy, rl, rx, ry, h⟩ => ?_
  cases wx <;> cases wy <;> first | exact h.elim | skip
  · exact .inl ⟨_, _, rx, ry, fin_val h rl rfl⟩
  · obtain ⟨h0, h⟩ := pick h
    exact .inr (.inl ⟨_, _, rx, ry, lim_le h0, fin_val h rl rfl⟩)
  · rename_i xs ys
    obtain ⟨⟨n1, n2, h0⟩, h⟩ := pick h
    obtain ⟨a, vs, rfl, ha, r1⟩ := rx
    obtain ⟨b, us, rfl, hb, r2⟩ := ry
    have l1 := r1.length
    have l2 := r2.length
    refine .inr (.inr (.inr ⟨a, b, vs, us, rfl, rfl, sq_t ha, sq_t hb, ?_, ?_, ?_, ?_⟩))
    · rintro rfl; rw [List.length_nil] at l1; omega
    · rw [← l1, ← l2]; exact lim_le h0
    · rintro rfl; rw [List.length_nil] at l2; omega
    · exact fun _ p hp => fin_tup h rl (r1.append r2) hp
  · obtain ⟨h0, h⟩ := pick h
    obtain ⟨a, vs, rfl, ha, r1⟩ := rx
    obtain ⟨b, us, rfl, hb, r2⟩ := ry
    exact .inr (.inr (.inl ⟨a, b, vs, us, rfl, rfl, ha.1, hb.1, by rw [← r1.length, ← r2.length]; exact lim_le h0, fun p hp => fin_lst h rl (r1.append r2) hp⟩))
theorem o_sub : OpR X (binaryOp .Sub) (r2 X.K E subW) := by
  refine OpR.imp op_sub fun x y H Q ⟨ρ, M, wx, wy, rl, rx, ry, h⟩ => ?_
  cases wx <;> cases wy <;> first | exact h.elim | skip
  exact ⟨_, _, rx, ry, fin_val h rl rfl⟩
theorem flatten_rep {K : PySem.W.Frag} {ρ : Rn} {H : Hp} {ws : List Wv} {vs : List V} (r : RVs K ρ H ws vs) : ∀ n, RVs K ρ H (List.replicate n ws).flatten (List.replicate n vs).flatten
  | 0 => rfl
  | n + 1 => by
    rw [List.replicate_succ, List.replicate_succ, List.flatten_cons, List.flatten_cons]
    exact r.append (flatten_rep r n)
theorem o_mul : OpR X (binaryOp .Mult) (r2 X.K E mulW) := by
  refine OpR.imp (OpR.two op_mul (OpR.two op_mulW op_rep)) fun x y H Q ⟨ρ, M, wx, wy, rl, rx, ry, h⟩ => ?_
  cases wx <;> cases wy <;> first | exact h.elim | skip
  · obtain ⟨h0, h⟩ := pick h
    unfold mulOk at h0
    rw [Bool.or_eq_true, Bool.or_eq_true, decide_eq_true_eq, decide_eq_true_eq, decide_eq_true_eq] at h0
    rcases h0 with (h0 | h0) | h0
    · exact .inl ⟨_, _, rx, ry, .inl (by omega), fin_val h rl rfl⟩
    · exact .inl ⟨_, _, rx, ry, .inr (by omega), fin_val h rl rfl⟩
    · exact .inr (.inl ⟨_, _, rx, ry, h0, fin_val h rl rfl⟩)
  · obtain ⟨⟨h0, h1, h2⟩, h⟩ := pick h
    obtain ⟨a, vs, rfl, ha, r1⟩ := rx
    exact .inr (.inr ⟨a, _, vs, rfl, ry, ha.1, by omega, by omega, by rw [← r1.length]; exact lim_le h2, fun p hp => fin_lst h rl (flatten_rep r1 _) hp⟩)
theorem o_div : OpR X (binaryOp .FloorDiv) (r2 X.K E divW) := by
  refine OpR.imp op_fdiv fun x y H Q ⟨ρ, M, wx, wy, rl, rx, ry, h⟩ => ?_
  cases wx <;> cases wy <;> first | exact h.elim | skip
  obtain ⟨h0, h⟩ := pick h
  exact ⟨_, _, rx, ry, h0, fin_val h rl rfl⟩
theorem o_mod : OpR X (binaryOp .Mod) (r2 X.K E modW) := by
  refine OpR.imp op_mod fun x y H Q ⟨ρ, M, wx, wy, rl, rx, ry, h⟩ => ?_
  cases wx <;> cases wy <;> first | exact h.elim | skip
  obtain ⟨h0, h⟩ := pick h
  exact ⟨_, _, rx, ry, h0, fin_val h rl rfl⟩
theorem o_pow : OpR X (binaryOp .Pow) (r2 X.K E powW) := by
  refine OpR.imp op_pow fun x y H Q ⟨ρ, M, wx, wy, rl, rx, ry, h⟩ => ?_
  cases wx <;> cases wy <;> first | exact h.elim | skip
  obtain ⟨h0, h⟩ := pick h
  exact ⟨_, _, rx, ry, h0, fin_val h rl rfl⟩
theorem o_shl : OpR X (binaryOp .LShift) (r2 X.K E shlW) := by
  refine OpR.imp op_shl fun x y H Q ⟨ρ, M, wx, wy, rl, rx, ry, h⟩ => ?_
  cases wx <;> cases wy <;> first | exact h.elim | skip
  obtain ⟨h0, h⟩ := pick h
  exact ⟨_, _, rx, ry, h0, fin_val h rl rfl⟩
theorem o_neg : UnR X (unaryOp .USub) (r1 X.K E negW) := by
  refine UnR.imp un_neg fun x H Q ⟨ρ, M, wx, rl, rx, h⟩ => ?_
  cases wx <;> first | exact h.elim | skip
  exact ⟨_, rx, fin_val h rl rfl⟩
theorem o_cmp {op : CmpOp} {p : Int → Int → Bool} (ho : OpR X (compareOp op) (rI0 fun i j => .bl (p i j))) : OpR X (compareOp op) (rb X.K E (cmpW p)) := by
  refine OpR.imp ho fun x y H Q ⟨ρ, M, wx, wy, rl, rx, ry, h⟩ => ?_
  cases wx <;> cases wy <;> first | exact h.elim | skip
  exact ⟨_, _, rx, ry, h.here rl⟩
abbrev ltW := cmpW fun i j => decide (i < j)
abbrev leW := cmpW fun i j => decide (i ≤ j)
abbrev gtW := cmpW fun i j => decide (j < i)
abbrev geW := cmpW fun i j => decide (j ≤ i)
theorem o_lt : OpR X (compareOp .Lt) (rb X.K E ltW) := o_cmp op_lt
theorem o_le : OpR X (compareOp .LtE) (rb X.K E leW) := o_cmp op_le
theorem o_gt : OpR X (compareOp .Gt) (rb X.K E gtW) := o_cmp op_gt
theorem o_ge : OpR X (compareOp .GtE) (rb X.K E geW) := o_cmp op_ge
end

/-! ### == of data -/
mutual
def toD : Wv → Option PyData
  | .non => some .none
  | .bl b => some (.bool b)
  | .int i => some (.int i)
  | .str s => some (.str s)
  | .tup xs => (toDs xs).map .tuple
  | .lst xs => (toDs xs).map .list
  | .rdl xs => (toDs xs).map .list
  | _ => none
def toDs : List Wv → Option (List PyData)
  | [] => some []
  | x :: xs => match toD x, toDs xs with
    | some d, some ds => some (d :: ds)
    | _, _ => none
end
/-- .. a list of the memory too -/
def toDM (M : Mem) : Wv → Option PyData
  | .ref n => match M[n]? with
    | some (.lst xs) => (toDs xs).map .list
    | _ => none
  | w => toD w
section
variable {K : PySem.W.Frag} {ρ : Rn} {H : Hp}
mutual
theorem dp_of : ∀ (w : Wv) {d : PyData} {v : V}, toD w = some d → RV K ρ H w v → Dp K H v d
  | .non, _, _, e, r => by cases e; cases r; exact .non
  | .bl b, _, _, e, r => by cases e; cases r; exact .bl b
  | .int i, _, _, e, r => by cases e; cases r; exact .int i
  | .str s, _, _, e, r => by cases e; cases r; exact .str s
  | .tup xs, _, _, e, r => by
    obtain ⟨ds, e1, rfl⟩ := Option.map_eq_some_iff.mp (show (toDs xs).map PyData.tuple = some _ from e)
    obtain ⟨a, vs, rfl, h, r⟩ := r
    exact .tup (sq_t h) (dps_of xs e1 r)
  | .lst xs, _, _, e, r => by
    obtain ⟨ds, e1, rfl⟩ := Option.map_eq_some_iff.mp (show (toDs xs).map PyData.list = some _ from e)
    obtain ⟨a, vs, rfl, h, r⟩ := r
    exact .lst (SqL.of h.1) (dps_of xs e1 r)
  | .rdl xs, _, _, e, r => by
    obtain ⟨ds, e1, rfl⟩ := Option.map_eq_some_iff.mp (show (toDs xs).map PyData.list = some _ from e)
    obtain ⟨a, vs, rfl, h, r⟩ := r
    exact .lst (sq_l h) (dps_of xs e1 r)
  | .ty _, _, _, e, _ => by cases e
  | .adr _, _, _, e, _ => by cases e
  | .dct _ _, _, _, e, _ => by cases e
  | .ref _, _, _, e, _ => by cases e
theorem dps_of : ∀ (ws : List Wv) {ds : List PyData} {vs : List V}, toDs ws = some ds → RVs K ρ H ws vs → DpAll K H vs ds
  | [], _, _, e, r => by cases e; cases r; exact .nil
  | x :: xs, _, _, e, r => by
    obtain ⟨v, vr, rfl, h, r⟩ := r
    have e : (match toD x, toDs xs with | some d, some ds => some (d :: ds) | _, _ => none) = some _ := e
    cases q1 : toD x with
    | none => rw [q1] at e; cases e
    | some d =>
      cases q2 : toDs xs with
      | none => rw [q1, q2] at e; cases e
      | some ds =>
        rw [q1, q2] at e
        cases e
        exact .cons (dp_of x q1 h) (dps_of xs q2 r)
end
theorem dpM_of {M : Mem} (rl : Rl K ρ M H) (w : Wv) {d : PyData} {v : V} (e : toDM M w = some d) (r : RV K ρ H w v) : Dp K H v d := by
  cases w with
  | ref n =>
    obtain ⟨a, rfl, ha⟩ := r
    have e : (match M[n]? with | some (Ob.lst xs) => (toDs xs).map PyData.list | _ => none) = some d := e
    cases q : M[n]? with
    | none => rw [q] at e; cases e
    | some o =>
      obtain ⟨b, h1, h2⟩ := rl.ob n o q
      have eb : b = a := Option.some.inj (h1.symm.trans ha)
      subst eb
      cases o with
      | lst xs =>
        rw [q] at e
        obtain ⟨ds, e1, rfl⟩ := Option.map_eq_some_iff.mp e
        obtain ⟨vs, h3, r⟩ := h2
        exact .lst (SqL.of h3) (dps_of xs e1 r)
  | _ => exact dp_of _ e r
end
/-- a list of some items is not the empty one, whatever the items are -/
def eqNil : Wv → Wv → Mem → R Bool
  | .lst (_ :: _), .lst [], M => .ok false M
  | _, _, _ => .no
def eqW (neg : Bool) (x y : Wv) (M : Mem) : R Bool := match toDM M x, toDM M y with
  | some d, some e => if SeqAt.shaped d && SeqAt.shaped e then .ok (neg ^^ PyData.eqv d e) M else .no
  | _, _ => if neg then .no else eqNil x y M
section
variable {X : Cx} {E : XK}
theorem op_eq_len (hu : X.A.units + 64 < cLine) : OpR X (compareOp .Eq) (fun x y H Q => ∃ a b xs ys, x = .ref a ∧ y = .ref b ∧ SqL X.K H a xs ∧ SqL X.K H b ys ∧ xs.length ≠ ys.length ∧ Q (.bl false) H) := by
  intro pins s σ H x y v u Q I rx ry h
  obtain ⟨a, b, xs, ys, rfl, rfl, ha, hb, hl, q⟩ := h
  cases (show v = Value.ref a from rx)
  cases (show u = Value.ref b from ry)
  obtain ⟨us, r1, p1, _⟩ := I.list ha
  obtain ⟨ws, r2, p2, _⟩ := I.list hb
  refine PySem.EqBoolInt.of_rc (SeqAt.RcAt.lists_lengths p1.isList p2.isList ?_ (by omega)) ⟨.bl false, H, I, rfl, q⟩
  rw [List.size_toArray, List.size_toArray, ← r1.length, ← r2.length]
  simpa using hl
theorem eqNil_run (hu : X.A.units + 64 < cLine) {pins : List (Addr × Obj)} {σ : L2.St} {H : Hp} {s : Shared} {x y : V} {v u : Value} {Q : VK} {ρ : Rn} {M : Mem} {wx wy : Wv} (I : Inv X pins σ H s) (qx : RelV x v) (qy : RelV y u) (rl : Rl X.K ρ M H) (rx : RV X.K ρ H wx x) (ry : RV X.K ρ H wy y)
    (h : Fin X.K ρ H (PB fun b H' => Q (.bl b) H') E (eqNil wx wy M)) : wpAny (model X.prog X.w) X.A (compareOp .Eq v u) (EP X pins σ Q) X.xe s := by
  unfold eqNil at h
  split at h
  · obtain ⟨a, vs, rfl, ⟨ha, _⟩, r1⟩ := rx
    obtain ⟨b, ws, rfl, ⟨hb, _⟩, r2⟩ := ry
    obtain ⟨_, _, rfl, _⟩ := r1
    cases (show ws = [] from r2)
    exact op_eq_len hu pins s σ H _ _ v u Q I qx qy ⟨a, b, _, _, rfl, rfl, SqL.of ha, SqL.of hb, (by simp), h.here rl⟩
  · exact h.elim
theorem o_eq (hu : X.A.units + 64 < cLine) : OpR X (compareOp .Eq) (rb X.K E (eqW false)) := by
  intro pins s σ H x y v u Q I qx qy ⟨ρ, M, wx, wy, rl, rx, ry, h⟩
  unfold eqW at h
  cases q1 : toDM M wx with
  | none => rw [q1] at h; exact eqNil_run hu I qx qy rl rx ry h
  | some d =>
    cases q2 : toDM M wy with
    | none => rw [q1, q2] at h; exact eqNil_run hu I qx qy rl rx ry h
    | some e =>
      rw [q1, q2] at h
      obtain ⟨h0, h⟩ := pick h
      rw [Bool.and_eq_true] at h0
      exact op_eqD hu pins s σ H x y v u Q I qx qy ⟨d, e, dpM_of rl wx q1 rx, dpM_of rl wy q2 ry, h0.1, h0.2, (by have q := h.here rl; simpa [PB] using q)⟩
theorem o_ne (hu : X.A.units + 64 < cLine) : OpR X (compareOp .NotEq) (rb X.K E (eqW true)) := by
  refine OpR.imp (op_neD hu) fun x y H Q ⟨ρ, M, wx, wy, rl, rx, ry, h⟩ => ?_
  unfold eqW at h
  cases q1 : toDM M wx with
  | none => rw [q1] at h; exact h.elim
  | some d =>
    cases q2 : toDM M wy with
    | none => rw [q1, q2] at h; exact h.elim
    | some e =>
      rw [q1, q2] at h
      obtain ⟨h0, h⟩ := pick h
      rw [Bool.and_eq_true] at h0
      exact ⟨d, e, dpM_of rl wx q1 rx, dpM_of rl wy q2 ry, h0.1, h0.2, (by have q := h.here rl; simpa [PB] using q)⟩
/-! ### is -/
def isNonW : Wv → Bool
  | .non => true
  | _ => false
def isNW (neg : Bool) : Wv → Wv → Mem → R Bool
  | x, .non, M => .ok (neg ^^ isNonW x) M
  | _, _, _ => .no
theorem non_iff {K : PySem.W.Frag} {ρ : Rn} {H : Hp} {w : Wv} {v : V} (r : RV K ρ H w v) : decide (v = .non) = isNonW w := by
  cases w with
  | non => cases r; rfl
  | bl b => cases r; rfl
  | int b => cases r; rfl
  | str b => cases r; rfl
  | ty b => cases r; rfl
  | adr b => cases r; rfl
  | tup b => obtain ⟨a, vs, rfl, _⟩ := r; rfl
  | lst b => obtain ⟨a, vs, rfl, _⟩ := r; rfl
  | rdl b => obtain ⟨a, vs, rfl, _⟩ := r; rfl
  | dct b c => obtain ⟨a, vs, rfl, _⟩ := r; rfl
  | ref b => obtain ⟨a, rfl, _⟩ := r; rfl
theorem o_isN : OpR X (compareOp .Is) (rb X.K E (isNW false)) := by
  refine OpR.imp op_isN fun x y H Q ⟨ρ, M, wx, wy, rl, rx, ry, h⟩ => ?_
  cases wy <;> first | exact h.elim | skip
  exact ⟨ry, by rw [non_iff rx]; have q := h.here rl; simpa [PB] using q⟩
theorem o_notN : OpR X (compareOp .IsNot) (rb X.K E (isNW true)) := by
  refine OpR.imp op_notN fun x y H Q ⟨ρ, M, wx, wy, rl, rx, ry, h⟩ => ?_
  cases wy <;> first | exact h.elim | skip
  exact ⟨ry, by rw [non_iff rx]; have q := h.here rl; simpa [PB] using q⟩
end
end Mi

namespace Mi
open PySem PySem.Spec PyProof.Rows L2

/-! ### arguments, displays -/
def maN : Ma := fun _ M => .ok [] M
def maC (a : Me) (r : Ma) : Ma := fun env M => (a env M).bind fun x M1 => (r env M1).bind fun xs M2 => .ok (x :: xs) M2
def mTup (a : Ma) : Me := fun env M => (a env M).bind fun ws M1 => if ws.length ≤ lim then .ok (.tup ws) M1 else .no
def mLst (a : Ma) : Me := fun env M => (a env M).bind fun ws M1 => if ws.length ≤ lim then .ok (.lst ws) M1 else .no
/-- a list that will be changed -/
def mNew (a : Ma) : Me := fun env M => (a env M).bind fun ws M1 => if ws.length ≤ lim then .ok (.ref M1.length) (M1 ++ [.lst ws]) else .no
section
variable {X : Cx} {E : XK} {e : Expr} {es : List Expr} {me : Me} {ma : Ma} {pos : Pos}
theorem a_nil : PA X [] (ta X.K E maN) := PA.imp pa_nil fun σ H Q ⟨ρ, M, env, rl, re, f⟩ => f.here rl [] rfl
theorem a_cons (h : PE X e (te X.K E me)) (hr : PA X es (ta X.K E ma)) (hs : starEach (e :: es) X.env = (false, eval e X.env) :: starEach es X.env := by rfl) : PA X (e :: es) (ta X.K E (maC me ma)) :=
  PA.imp (pa_cons h hr hs) fun σ H Q ⟨ρ, M, env, rl, re, f⟩ =>
    te_then rl re f fun x M1 ρ1 H1 v g1 rl1 re1 rv1 f1 => ta_then rl1 re1 f1 fun xs M2 ρ2 H2 vs g2 rl2 re2 rv2 f2 => f2.here rl2 (v :: vs) ⟨v, vs, rfl, RV.mono g2 x rv1, rv2⟩
theorem e_tup {k : Nat} (h : PA X es (ta X.K E ma)) : PE X (.Tuple es k pos) (te X.K E (mTup ma)) := PE.imp (pe_tup h) fun σ H Q ⟨ρ, M, env, rl, re, f⟩ =>
  ta_then rl re f fun ws M1 ρ1 H1 vs g1 rl1 re1 rv1 f1 => by
    obtain ⟨h0, f1⟩ := pick f1
    exact ⟨by rw [← rv1.length]; exact lim_le h0, fun p hp => fin_tup f1 rl1 rv1 hp⟩
theorem e_lst (h : PA X es (ta X.K E ma)) : PE X (.List es pos) (te X.K E (mLst ma)) := PE.imp (pe_lst h) fun σ H Q ⟨ρ, M, env, rl, re, f⟩ =>
  ta_then rl re f fun ws M1 ρ1 H1 vs g1 rl1 re1 rv1 f1 => by
    obtain ⟨h0, f1⟩ := pick f1
    exact ⟨by rw [← rv1.length]; exact lim_le h0, fun p hp => fin_lst f1 rl1 rv1 hp⟩
theorem e_new (h : PA X es (ta X.K E ma)) : PE X (.List es pos) (te X.K E (mNew ma)) := PE.imp (pe_lst h) fun σ H Q ⟨ρ, M, env, rl, re, f⟩ =>
  ta_then rl re f fun ws M1 ρ1 H1 vs g1 rl1 re1 rv1 f1 => by
    obtain ⟨h0, f1⟩ := pick f1
    exact ⟨by rw [← rv1.length]; exact lim_le h0, fun p hp => fin_new f1 rl1 rv1 hp⟩
end

/-! ### places -/
section
variable {K : PySem.W.Frag} {ρ : Rn} {H : Hp}
theorem RVs.at {ws : List Wv} {vs : List V} {i : Int} {w : Wv} (r : RVs K ρ H ws vs) (h : atI ws i = some w) : ∃ v, atI vs i = some v ∧ RV K ρ H w v := by
  unfold atI at h ⊢
  rw [← r.length]
  cases e : ixN ws.length i with
  | none => rw [e] at h; cases h
  | some j =>
    rw [e] at h
    exact r.get (i := j) h
theorem Rl.lst {M : Mem} (rl : Rl K ρ M H) {n : Nat} {ws : List Wv} (e : M[n]? = some (.lst ws)) {v : V} (r : RV K ρ H (.ref n) v) : ∃ a vs, v = .ref a ∧ ρ.l[n]? = some a ∧ H a = some (.lst vs) ∧ RVs K ρ H ws vs := by
  obtain ⟨a, rfl, ha⟩ := r
  obtain ⟨b, h1, vs, h2, h3⟩ := rl.ob n _ e
  have eb : b = a := Option.some.inj (h1.symm.trans ha)
  subst eb
  exact ⟨b, vs, rfl, h1, h2, h3⟩
end
/-- the items of a list or tuple -/
inductive Sq where
  | l (xs : List Wv) | t (xs : List Wv)
def Sq.xs : Sq → List Wv
  | .l xs => xs
  | .t xs => xs
def sqOf (M : Mem) : Wv → Option Sq
  | .tup xs => some (.t xs)
  | .lst xs => some (.l xs)
  | .rdl xs => some (.l xs)
  | .ref n => match M[n]? with
    | some (.lst xs) => some (.l xs)
    | _ => none
  | _ => none
theorem sq_l_of {K : PySem.W.Frag} {ρ : Rn} {H : Hp} {M : Mem} (rl : Rl K ρ M H) {w : Wv} {v : V} {xs : List Wv} (e : sqOf M w = some (.l xs)) (r : RV K ρ H w v) : ∃ a vs, v = .ref a ∧ SqL K H a vs ∧ RVs K ρ H xs vs := by
  cases w with
  | lst ys => cases e; obtain ⟨a, vs, rfl, h, r⟩ := r; exact ⟨a, vs, rfl, SqL.of h.1, r⟩
  | rdl ys => cases e; obtain ⟨a, vs, rfl, h, r⟩ := r; exact ⟨a, vs, rfl, sq_l h, r⟩
  | ref n =>
    have e : (match M[n]? with | some (Ob.lst xs) => some (Sq.l xs) | _ => none) = some (.l xs) := e
    cases q : M[n]? with
    | none => rw [q] at e; cases e
    | some o =>
      cases o with
      | lst ys =>
        rw [q] at e
        cases e
        obtain ⟨a, vs, rfl, _, h2, h3⟩ := rl.lst q r
        exact ⟨a, vs, rfl, SqL.of h2, h3⟩
  | _ => cases e
theorem sq_t_of {K : PySem.W.Frag} {ρ : Rn} {H : Hp} {M : Mem} {w : Wv} {v : V} {xs : List Wv} (e : sqOf M w = some (.t xs)) (r : RV K ρ H w v) : ∃ a vs, v = .ref a ∧ SqT K H a vs ∧ RVs K ρ H xs vs := by
  cases w with
  | tup ys => cases e; obtain ⟨a, vs, rfl, h, r⟩ := r; exact ⟨a, vs, rfl, sq_t h, r⟩
  | ref n =>
    have e : (match M[n]? with | some (Ob.lst xs) => some (Sq.l xs) | _ => none) = some (.t xs) := e
    cases q : M[n]? with
    | none => rw [q] at e; cases e
    | some o => cases o with | lst ys => rw [q] at e; cases e
  | _ => cases e
def ixW (x y : Wv) (M : Mem) : R Wv := match y with
  | .int i => match x with
    | .str z => if z.length ≤ lim then (match atI z.cps.toList i with | some c => .ok (.str ⟨#[c]⟩) M | none => .no) else .no
    | x => match sqOf M x with
      | some s => match atI s.xs i with
        | some w => .ok w M
        | none => .no
      | none => .no
  | _ => .no
def setW (o i v : Wv) (M : Mem) : R Unit := match o, i with
  | .ref n, .int k => match M[n]? with
    | some (.lst xs) => match ixN xs.length k with
      | some j => .ok () (M.set n (.lst (xs.set j v)))
      | none => .no
    | _ => .no
  | _, _ => .no
section
variable {X : Cx} {E : XK} {a b : Expr} {ma mb : Me} {pos : Pos}
theorem IxR.imp {r r' : R2} (h : IxR X r) (k : ∀ x y H Q, r' x y H Q → r x y H Q) : IxR X r' := fun value slice pins s σ H x y v u Q I rx ry q hs => h value slice pins s σ H x y v u Q I rx ry (k x y H Q q) hs
theorem x_ix : IxR X (r2 X.K E ixW) := by
  refine IxR.imp ix_seq fun x y H Q ⟨ρ, M, wx, wy, rl, rx, ry, h⟩ => ?_
  cases wy with
  | int i =>
    cases ry
    by_cases hs : ∃ z, wx = .str z
    · obtain ⟨z, rfl⟩ := hs
      cases rx
      have h : Fin X.K ρ H (PV X.K Q) E (if z.length ≤ lim then (match atI z.cps.toList i with | some c => R.ok (Wv.str ⟨#[c]⟩) M | none => .no) else .no) := h
      obtain ⟨h0, h⟩ := pick h
      cases q : atI z.cps.toList i with
      | none => rw [q] at h; exact h.elim
      | some c =>
        rw [q] at h
        exact .inr (.inr ⟨z, i, c, rfl, rfl, lim_le h0, q, fin_val h rl rfl⟩)
    · have h' : Fin X.K ρ H (PV X.K Q) E (match sqOf M wx with | some s => (match atI s.xs i with | some w => R.ok w M | none => .no) | none => .no) := by
        cases wx with
        | str z => exact absurd ⟨z, rfl⟩ hs
        | _ => exact h
      cases q : sqOf M wx with
      | none => rw [q] at h'; exact h'.elim
      | some s =>
        rw [q] at h'
        have h' : Fin X.K ρ H (PV X.K Q) E (match atI s.xs i with | some w => R.ok w M | none => .no) := h'
        cases q2 : atI s.xs i with
        | none => rw [q2] at h'; exact h'.elim
        | some w =>
          rw [q2] at h'
          have h2 : Fin X.K ρ H (PV X.K Q) E (R.ok w M) := h'
          clear h' h
          cases s with
          | l xs =>
            obtain ⟨a, vs, rfl, h1, hr⟩ := sq_l_of rl q rx
            obtain ⟨v, h3, h4⟩ := hr.at q2
            exact .inl ⟨a, vs, i, v, rfl, rfl, h1, h3, fin_val h2 rl h4⟩
          | t xs =>
            obtain ⟨a, vs, rfl, h1, hr⟩ := sq_t_of q rx
            obtain ⟨v, h3, h4⟩ := hr.at q2
            exact .inr (.inl ⟨a, vs, i, v, rfl, rfl, h1, h3, fin_val h2 rl h4⟩)
  | _ => exact h.elim
theorem e_ix (ha : PE X a (te X.K E ma)) (hb : PE X b (te X.K E mb)) (hs : PlainIx b := by exact fun _ _ => rfl) : PE X (.Subscript a b pos) (te X.K E (mBin ixW ma mb)) := PE.imp (pe_ix x_ix ha hb hs) fun _ _ _ h => te_two h

/-! ### slices of lists -/
def cutW (xs : List Wv) (lo hi : Option Int) : List Wv := (xs.drop (HT.sIx xs.length 0 lo)).take (HT.sIx xs.length xs.length hi - HT.sIx xs.length 0 lo)
theorem RVs.cut {K : PySem.W.Frag} {ρ : Rn} {H : Hp} {ws : List Wv} {vs : List V} (r : RVs K ρ H ws vs) (lo hi : Option Int) : RVs K ρ H (cutW ws lo hi) (cutV vs lo hi) := by
  unfold cutW cutV
  rw [← r.length]
  exact RVs.take _ (RVs.drop _ r)
def optI : Wv → Option (Option Int)
  | .int i => some (some i)
  | _ => none
/-- xs[lo:hi] of a list; a bound that is left out: mNoB -/
abbrev Mo := Ev → Mem → R (Option Int)
def moN : Mo := fun _ M => .ok none M
def moS (a : Me) : Mo := fun env M => (a env M).bind fun w M1 => match w with
  | .int i => .ok (some i) M1
  | _ => .no
def mSl (a : Me) (lo hi : Mo) : Me := fun env M => (a env M).bind fun x M1 => (lo env M1).bind fun l M2 => (hi env M2).bind fun u M3 => match sqOf M3 x with
  | some (.l xs) => .ok (.lst (cutW xs l u)) M3
  | _ => .no
def PO' (o : Option Int) : Option Int → Mem → Rn → Hp → Prop := fun _ _ _ _ => True
def to (K : PySem.W.Frag) (E : XK) (m : Mo) : TO := fun σ H Q => ∃ ρ M env, Rl K ρ M H ∧ RE K ρ H env σ ∧ Fin K ρ H (fun o _ _ H' => Q o H') E (m env M)
theorem PO.imp {e : Option Expr} {t t' : TO} (h : PO X e t) (k : ∀ σ H Q, t' σ H Q → t σ H Q) : PO X e t' := ⟨fun pins s σ H Q I q => h.run pins s σ H Q I (k σ H Q q)⟩
theorem o_none : PO X none (to X.K E moN) := PO.imp po_none fun σ H Q ⟨ρ, M, env, rl, re, f⟩ => f.here rl
theorem o_some (h : PE X a (te X.K E ma)) : PO X (some a) (to X.K E (moS ma)) := PO.imp (po_some h) fun σ H Q ⟨ρ, M, env, rl, re, f⟩ =>
  te_then rl re f fun w M1 ρ1 H1 v g1 rl1 re1 rv1 f1 => by
    cases w with
    | int i => exact ⟨i, rv1, f1.here rl1⟩
    | _ => exact f1.elim
variable {lo hi : Option Expr} {ml mh : Mo} {p2 : Pos}
theorem e_sl (ha : PE X a (te X.K E ma)) (hl : PO X lo (to X.K E ml)) (hh : PO X hi (to X.K E mh)) : PE X (.Subscript a (.Slice lo hi none p2) pos) (te X.K E (mSl ma ml mh)) :=
  PE.imp (pe_slice sl_list ha hl hh) fun σ H Q ⟨ρ, M, env, rl, re, f⟩ => by
    refine te_then rl re f fun x M1 ρ1 H1 v g1 rl1 re1 rv1 f1 => ?_
    refine ⟨ρ1, M1, env, rl1, re1, f1.bind.imp fun l M2 ρ2 H2 g2 rl2 f2 => ?_⟩
    refine ⟨ρ2, M2, env, rl2, re1.mono g2, f2.bind.imp fun u M3 ρ3 H3 g3 rl3 f3 => ?_⟩
    have rv3 := RV.mono g3 x (RV.mono g2 x rv1)
    cases q : sqOf M3 x with
    | none => rw [q] at f3; exact f3.elim
    | some s =>
      cases s with
      | t xs => rw [q] at f3; exact f3.elim
      | l xs =>
        rw [q] at f3
        obtain ⟨a, vs, rfl, h1, h2⟩ := sq_l_of rl3 q rv3
        exact ⟨a, vs, rfl, h1, fun p hp => fin_lst f3 rl3 (h2.cut l u) hp⟩
end

/-! ### truth -/
def truW (M : Mem) : Wv → Option Bool
  | .non => some false
  | .bl b => some b
  | .int i => some (i != 0)
  | .str s => if s.length ≤ lim then some ((s.length : Int) != 0) else none
  | .dct ks _ => some (!ks.isEmpty)
  | w => (sqOf M w).map fun s => !s.xs.isEmpty
theorem isE {K : PySem.W.Frag} {ρ : Rn} {H : Hp} {ws : List Wv} {vs : List V} (r : RVs K ρ H ws vs) : ws.isEmpty = vs.isEmpty := by
  have := r.length
  cases ws <;> cases vs <;> simp at this ⊢
theorem tru_of {K : PySem.W.Frag} {ρ : Rn} {H : Hp} {M : Mem} (rl : Rl K ρ M H) {w : Wv} {v : V} {b : Bool} (e : truW M w = some b) (r : RV K ρ H w v) : TruV K v H b := by
  have seq : ∀ {s : Sq}, sqOf M w = some s → b = !s.xs.isEmpty → TruV K v H b := fun {s} q eb => by
    cases s with
    | l xs =>
      obtain ⟨a, vs, rfl, h1, h2⟩ := sq_l_of rl q r
      exact .inl ⟨vs, h1, by rw [eb, ← isE h2]; rfl⟩
    | t xs =>
      obtain ⟨a, vs, rfl, h1, h2⟩ := sq_t_of q r
      exact .inr (.inl ⟨vs, h1, by rw [eb, ← isE h2]; rfl⟩)
  cases w with
  | non => cases r; cases e; exact rfl
  | bl c => cases r; cases e; exact rfl
  | int i => cases r; cases e; exact rfl
  | str s =>
    cases r
    have e : (if s.length ≤ lim then some ((s.length : Int) != 0) else none) = some b := e
    by_cases h : s.length ≤ lim
    · rw [if_pos h] at e; cases e; exact ⟨lim_le h, rfl⟩
    · rw [if_neg h] at e; cases e
  | dct ks xs =>
    cases e
    obtain ⟨a, kvs, rfl, h, ek, r⟩ := r
    refine .inr (.inr ⟨kvs, h.1, ?_⟩)
    subst ek
    cases kvs <;> rfl
  | tup xs => obtain ⟨s, q, eb⟩ := Option.map_eq_some_iff.mp (show (sqOf M (.tup xs)).map (fun s => !s.xs.isEmpty) = some b from e); exact seq q eb.symm
  | lst xs => obtain ⟨s, q, eb⟩ := Option.map_eq_some_iff.mp (show (sqOf M (.lst xs)).map (fun s => !s.xs.isEmpty) = some b from e); exact seq q eb.symm
  | rdl xs => obtain ⟨s, q, eb⟩ := Option.map_eq_some_iff.mp (show (sqOf M (.rdl xs)).map (fun s => !s.xs.isEmpty) = some b from e); exact seq q eb.symm
  | ref xs => obtain ⟨s, q, eb⟩ := Option.map_eq_some_iff.mp (show (sqOf M (.ref xs)).map (fun s => !s.xs.isEmpty) = some b from e); exact seq q eb.symm
  | ty n => cases e
  | adr n => cases e
def asT (w : Wv) (M : Mem) : R Bool := match truW M w with
  | some b => .ok b M
  | none => .no
def mtE (a : Me) : Mt := fun env M => (a env M).bind asT
def mtNot (t : Mt) : Mt := fun env M => (t env M).bind fun b M1 => .ok (!b) M1
def mtAnd (t u : Mt) : Mt := fun env M => (t env M).bind fun b M1 => if b = true then u env M1 else .ok false M1
def mtOr (t u : Mt) : Mt := fun env M => (t env M).bind fun b M1 => if b = true then .ok true M1 else u env M1
def mAnd (a b : Me) : Me := fun env M => (a env M).bind fun w M1 => (asT w M1).bind fun c M2 => if c = true then b env M2 else .ok w M2
def mOr (a b : Me) : Me := fun env M => (a env M).bind fun w M1 => (asT w M1).bind fun c M2 => if c = true then .ok w M2 else b env M2
def mNot (a : Me) : Me := fun env M => (a env M).bind fun w M1 => (asT w M1).bind fun c M2 => .ok (.bl (!c)) M2
def mIf (t : Mt) (a b : Me) : Me := fun env M => (t env M).bind fun c M1 => if c = true then a env M1 else b env M1
section
variable {X : Cx} {E : XK} {a b c : Expr} {rest : List Expr} {ma mb : Me} {mt mu : Mt} {pos : Pos}
theorem fin_asT {K : PySem.W.Frag} {ρ : Rn} {H : Hp} {M : Mem} {w : Wv} {v : V} {P : Bool → Mem → Rn → Hp → Prop} (rl : Rl K ρ M H) (r : RV K ρ H w v) (f : Fin K ρ H P E (asT w M)) : ∃ k, TruV K v H k ∧ P k M ρ H := by
  unfold asT at f
  cases q : truW M w with
  | none => rw [q] at f; exact f.elim
  | some k => rw [q] at f; exact ⟨k, tru_of rl q r, f.here rl⟩
theorem t_val (ha : PE X a (te X.K E ma)) (he : ∀ whole, isTrue a X.env whole = (do let v ← whole; standAt a.pos; holding [v] (truthy v)) := by intro _; rfl) : PT X a (tt X.K E (mtE ma)) :=
  PT.imp (pt_truth ha he) fun σ H Q ⟨ρ, M, env, rl, re, f⟩ => te_then rl re f fun w M1 ρ1 H1 v g1 rl1 re1 rv1 f1 => fin_asT rl1 rv1 f1
/-! ### comparisons -/
def mCmp (f : Wv → Wv → Mem → R Bool) (a b : Me) : Me := fun env M => (a env M).bind fun x M1 => (b env M1).bind fun y M2 => (f x y M2).bind fun c M3 => .ok (.bl c) M3
def mtCmp (f : Wv → Wv → Mem → R Bool) (a b : Me) : Mt := fun env M => (a env M).bind fun x M1 => (b env M1).bind fun y M2 => f x y M2
theorem e_cmp {op : CmpOp} {f : Wv → Wv → Mem → R Bool} (ho : OpR X (compareOp op) (rb X.K E f)) (ha : PE X a (te X.K E ma)) (hb : PE X b (te X.K E mb)) (h1 : behindInMarks op b = false := by first | exact nomark _ | rfl) : PE X (.Compare a [op] [b] pos) (te X.K E (mCmp f ma mb)) :=
  PE.imp (pe_cmpR ho ha hb h1) fun _ _ _ ⟨ρ, M, env, rl, re, h⟩ =>
    te_then rl re h fun x M1 ρ1 H1 v g1 rl1 re1 rv1 h1 => te_then rl1 re1 h1 fun y M2 ρ2 H2 u g2 rl2 re2 rv2 h2 =>
      ⟨ρ2, M2, x, y, rl2, RV.mono g2 x rv1, rv2, h2.bind.imp fun c M3 ρ3 H3 g3 rl3 f3 => fin_val f3 rl3 rfl⟩
theorem t_cmp {op : CmpOp} {f : Wv → Wv → Mem → R Bool} (ho : OpR X (compareOp op) (rb X.K E f)) (ha : PE X a (te X.K E ma)) (hb : PE X b (te X.K E mb)) (h1 : behindInMarks op b = false := by first | exact nomark _ | rfl) : PT X (.Compare a [op] [b] pos) (tt X.K E (mtCmp f ma mb)) :=
  PT.imp (pt_cmpR ho ha hb h1) fun _ _ _ ⟨ρ, M, env, rl, re, h⟩ =>
    te_then rl re h fun x M1 ρ1 H1 v g1 rl1 re1 rv1 h1 => te_then rl1 re1 h1 fun y M2 ρ2 H2 u g2 rl2 re2 rv2 h2 =>
      ⟨ρ2, M2, x, y, rl2, RV.mono g2 x rv1, rv2, h2.imp fun c M3 ρ3 H3 g3 rl3 f3 => ⟨c, rfl, f3⟩⟩
theorem t_not (h : PT X a (tt X.K E mt)) : PT X (.UnaryOp .Not a pos) (tt X.K E (mtNot mt)) :=
  PT.imp (pt_not h) fun _ _ _ ⟨ρ, M, env, rl, re, f⟩ => tt_then rl re f fun b M1 ρ1 H1 g1 rl1 re1 f1 => f1.here rl1
/-- and, or in a test -/
theorem w_one {op} (h : PT X a (tt X.K E mt)) : op = .And ∨ op = .Or → PW X (.BoolOp op [a] pos) (tt X.K E mt)
  | .inl e => by subst e; exact pw_and1 h
  | .inr e => by subst e; exact pw_or1 h
theorem w_and (h : PT X a (tt X.K E mt)) (h2 : PW X (.BoolOp .And (b :: rest) pos) (tt X.K E mu)) : PW X (.BoolOp .And (a :: b :: rest) pos) (tt X.K E (mtAnd mt mu)) :=
  PW.imp (pw_and h h2) fun _ _ _ ⟨ρ, M, env, rl, re, f⟩ => tt_then rl re f fun b M1 ρ1 H1 g1 rl1 re1 f1 => by
    cases b with
    | true => exact ⟨ρ1, M1, env, rl1, re1, f1⟩
    | false => exact f1.here rl1
theorem w_or (h : PT X a (tt X.K E mt)) (h2 : PW X (.BoolOp .Or (b :: rest) pos) (tt X.K E mu)) : PW X (.BoolOp .Or (a :: b :: rest) pos) (tt X.K E (mtOr mt mu)) :=
  PW.imp (pw_or h h2) fun _ _ _ ⟨ρ, M, env, rl, re, f⟩ => tt_then rl re f fun b M1 ρ1 H1 g1 rl1 re1 f1 => by
    cases b with
    | true => exact f1.here rl1
    | false => exact ⟨ρ1, M1, env, rl1, re1, f1⟩
theorem t_w (h : PW X a (tt X.K E mt)) : PT X a (tt X.K E mt) := h.pt
/-- and, or, not as values -/
theorem e_one {op} (h : PE X a (te X.K E ma)) : PE X (.BoolOp op [a] pos) (te X.K E ma) := pe_one h
theorem e_and (h : PE X a (te X.K E ma)) (h2 : PE X (.BoolOp .And (b :: rest) pos) (te X.K E mb)) : PE X (.BoolOp .And (a :: b :: rest) pos) (te X.K E (mAnd ma mb)) :=
  PE.imp (pe_andT h h2) fun _ _ _ ⟨ρ, M, env, rl, re, f⟩ => te_then rl re f fun w M1 ρ1 H1 v g1 rl1 re1 rv1 f1 => by
    obtain ⟨k, h1, h2⟩ := fin_asT rl1 rv1 f1.bind
    refine ⟨k, h1, ?_⟩
    cases k with
    | true => exact ⟨ρ1, M1, env, rl1, re1, h2⟩
    | false => exact fin_val h2 rl1 rv1
theorem e_or (h : PE X a (te X.K E ma)) (h2 : PE X (.BoolOp .Or (b :: rest) pos) (te X.K E mb)) : PE X (.BoolOp .Or (a :: b :: rest) pos) (te X.K E (mOr ma mb)) :=
  PE.imp (pe_orT h h2) fun _ _ _ ⟨ρ, M, env, rl, re, f⟩ => te_then rl re f fun w M1 ρ1 H1 v g1 rl1 re1 rv1 f1 => by
    obtain ⟨k, h1, h2⟩ := fin_asT rl1 rv1 f1.bind
    refine ⟨k, h1, ?_⟩
    cases k with
    | false => exact ⟨ρ1, M1, env, rl1, re1, h2⟩
    | true => exact fin_val h2 rl1 rv1
theorem e_not (h : PE X a (te X.K E ma)) : PE X (.UnaryOp .Not a pos) (te X.K E (mNot ma)) :=
  PE.imp (pe_notT h) fun _ _ _ ⟨ρ, M, env, rl, re, f⟩ => te_then rl re f fun w M1 ρ1 H1 v g1 rl1 re1 rv1 f1 => by
    obtain ⟨k, h1, h2⟩ := fin_asT rl1 rv1 f1.bind
    exact ⟨k, h1, fin_val h2 rl1 rfl⟩
theorem e_if (hc : PT X c (tt X.K E mt)) (ha : PE X a (te X.K E ma)) (hb : PE X b (te X.K E mb)) : PE X (.IfExp c a b pos) (te X.K E (mIf mt ma mb)) :=
  PE.imp (pe_ifExp hc ha hb) fun _ _ _ ⟨ρ, M, env, rl, re, f⟩ => tt_then rl re f fun b M1 ρ1 H1 g1 rl1 re1 f1 => by
    cases b with
    | true => exact ⟨ρ1, M1, env, rl1, re1, f1⟩
    | false => exact ⟨ρ1, M1, env, rl1, re1, f1⟩
end
end Mi

namespace Mi
open PySem PySem.Spec PyProof.Rows L2

/-! ### built-ins by their names -/
def mCall (f : List Wv → Mem → R Wv) (a : Ma) : Me := fun env M => (a env M).bind f
section
variable {X : Cx} {E : XK} {e : Expr} {es : List Expr} {ma : Ma} {me : Me} {x : Str} {p pos : Pos} {nm T : String}
theorem e_bi {f : List Wv → Mem → R Wv} (hc : CallR X (.builtin nm) (rc X.K E f)) (hm : X.mg x = none) (hv : bootBuiltins x = some (.builtin nm)) (ha : PA X (e :: es) (ta X.K E ma)) (hg : Gl X x := by rfl) (hn : x ≠ "__name__" := by decide) (hdb : (x == ("__debug__" : Str)) = false := by decide)
    (he : starEach (e :: es) X.env = (false, eval e X.env) :: starEach es X.env := by rfl) (hpl : (backTo pos (starEach es X.env)).any (·.1) = false := by rfl) : PE X (.Call (.Name x p) (e :: es) [] pos) (te X.K E (mCall f ma)) :=
  PE.imp (pe_callB hc hg hm hv ha hn hdb he hpl) fun _ _ _ ⟨ρ, M, env, rl, re, h⟩ => ta_then rl re h fun ws M1 ρ1 H1 vs g1 rl1 re1 rv1 h1 => ⟨ρ1, M1, ws, rl1, rv1, h1⟩
theorem e_ty {f : List Wv → Mem → R Wv} (hc : CallR X (.type T) (rc X.K E f)) (hm : X.mg x = none) (hv : bootBuiltins x = some (.type T)) (ha : PA X (e :: es) (ta X.K E ma)) (hg : Gl X x := by rfl) (hn : x ≠ "__name__" := by decide) (hdb : (x == ("__debug__" : Str)) = false := by decide)
    (he : starEach (e :: es) X.env = (false, eval e X.env) :: starEach es X.env := by rfl) (hpl : (backTo pos (starEach es X.env)).any (·.1) = false := by rfl) : PE X (.Call (.Name x p) (e :: es) [] pos) (te X.K E (mCall f ma)) :=
  PE.imp (pe_callTy hc hg hm hv ha hn hdb he hpl) fun _ _ _ ⟨ρ, M, env, rl, re, h⟩ => ta_then rl re h fun ws M1 ρ1 H1 vs g1 rl1 re1 rv1 h1 => ⟨ρ1, M1, ws, rl1, rv1, h1⟩
/-- a constant of the module -/
theorem e_glob {v : V} {u : Value} (w : Wv) (hm : X.mg x = some u) (r : RelV v u) (rv : ∀ ρ H, RV X.K ρ H w v) (hg : Gl X x := by rfl) (hd : (x == ("__debug__" : Str)) = false := by decide) : PE X (.Name x pos) (te X.K E (mC w)) :=
  e_const w (pe_glob hg hm r hd) rv
theorem e_gint {i : Int} (hm : ∃ t, X.mg x = some (.int i t)) (hg : Gl X x := by rfl) (hd : (x == ("__debug__" : Str)) = false := by decide) : PE X (.Name x pos) (te X.K E (mC (.int i))) := let ⟨t, hm⟩ := hm; e_glob (v := .int i) _ hm ⟨t, rfl⟩ (fun _ _ => rfl) hg hd
theorem e_gstr {s : Str} (hm : ∃ t, X.mg x = some (.str s t)) (hg : Gl X x := by rfl) (hd : (x == ("__debug__" : Str)) = false := by decide) : PE X (.Name x pos) (te X.K E (mC (.str s))) := let ⟨t, hm⟩ := hm; e_glob (v := .str s) _ hm ⟨t, rfl⟩ (fun _ _ => rfl) hg hd

/-! len, abs, int, tuple, list, all -/
def un1 (f : Wv → Mem → R Wv) : List Wv → Mem → R Wv
  | [x], M => f x M
  | _, _ => .no
theorem rvs1 {K : PySem.W.Frag} {ρ : Rn} {H : Hp} {w : Wv} {vs : List V} (r : RVs K ρ H [w] vs) : ∃ v, vs = [v] ∧ RV K ρ H w v := by
  obtain ⟨v, vr, rfl, h, r⟩ := r
  cases r
  exact ⟨v, rfl, h⟩
theorem un1_in {K : PySem.W.Frag} {f : Wv → Mem → R Wv} {xs : List V} {H : Hp} {Q : VK} (h : rc K E (un1 f) xs H Q) : ∃ v ρ M w, xs = [v] ∧ Rl K ρ M H ∧ RV K ρ H w v ∧ Fin K ρ H (PV K Q) E (f w M) := by
  obtain ⟨ρ, M, ws, rl, rv, h⟩ := h
  match ws, rv, h with
  | [], _, h => exact h.elim
  | _ :: _ :: _, _, h => exact h.elim
  | [w], rv, h =>
    obtain ⟨v, rfl, r⟩ := rvs1 rv
    exact ⟨v, ρ, M, w, rfl, rl, r, h⟩
/-- a list or tuple: what is made of its items -/
def onSq (g : Sq → Mem → R Wv) (x : Wv) (M : Mem) : R Wv := match sqOf M x with
  | some s => g s M
  | none => .no
theorem onSq_in {K : PySem.W.Frag} {ρ : Rn} {M : Mem} {H : Hp} {Q : VK} {g : Sq → Mem → R Wv} {w : Wv} {v : V} (rl : Rl K ρ M H) (r : RV K ρ H w v) (h : Fin K ρ H (PV K Q) E (onSq g w M)) :
    ∃ s a vs, sqOf M w = some s ∧ v = .ref a ∧ RVs K ρ H s.xs vs ∧ Fin K ρ H (PV K Q) E (g s M) ∧ ((∃ xs, s = .l xs ∧ SqL K H a vs) ∨ (∃ xs, s = .t xs ∧ SqT K H a vs)) := by
  have h : Fin K ρ H (PV K Q) E (match sqOf M w with | some s => g s M | none => .no) := h
  cases q : sqOf M w with
  | none => rw [q] at h; exact h.elim
  | some s =>
    rw [q] at h
    have h2 : Fin K ρ H (PV K Q) E (g s M) := h
    cases s with
    | l xs =>
      obtain ⟨a, vs, rfl, h3, h4⟩ := sq_l_of rl q r
      exact ⟨_, a, vs, rfl, rfl, h4, h2, .inl ⟨xs, rfl, h3⟩⟩
    | t xs =>
      obtain ⟨a, vs, rfl, h3, h4⟩ := sq_t_of q r
      exact ⟨_, a, vs, rfl, rfl, h4, h2, .inr ⟨xs, rfl, h3⟩⟩
def len1 : Wv → Mem → R Wv
  | .str s, M => if s.length ≤ lim then .ok (.int s.length) M else .no
  | x, M => onSq (fun s M => .ok (.int s.xs.length) M) x M
abbrev lenW := un1 len1
theorem c_len : CallR X (.builtin "len") (rc X.K E lenW) := by
  refine CallR.imp (CallR.or call_len_seq call_len_str) fun xs H Q hh => ?_
  obtain ⟨v, ρ, M, w, rfl, rl, r, h⟩ := un1_in hh
  clear hh
  by_cases hs : ∃ z, w = .str z
  · obtain ⟨z, rfl⟩ := hs
    cases r
    obtain ⟨h0, h⟩ := pick h
    exact .inr ⟨z, rfl, lim_le h0, fin_val h rl rfl⟩
  · have h' : Fin X.K ρ H (PV X.K Q) E (onSq (fun s M => .ok (.int s.xs.length) M) w M) := by
      cases w with
      | str z => exact absurd ⟨z, rfl⟩ hs
      | _ => exact h
    obtain ⟨s, a, vs, q, rfl, h4, h2, h3⟩ := onSq_in rl r h'
    refine .inl ⟨a, vs, rfl, h3.imp (fun ⟨_, _, z⟩ => z) (fun ⟨_, _, z⟩ => z), fin_val h2 rl (by rw [← h4.length]; rfl)⟩
def abs1 : Wv → Mem → R Wv
  | .int i, M => .ok (.int (if i < 0 then -i else i)) M
  | _, _ => .no
abbrev absW := un1 abs1
theorem c_abs : CallR X (.builtin "abs") (rc X.K E absW) := by
  refine CallR.imp call_abs fun xs H Q hh => ?_
  obtain ⟨v, ρ, M, w, rfl, rl, r, h⟩ := un1_in hh
  clear hh
  cases w <;> first | exact h.elim | skip
  cases r
  exact ⟨_, rfl, fin_val h rl rfl⟩
def int1 : Wv → Mem → R Wv
  | .int i, M => .ok (.int i) M
  | .bl b, M => .ok (.int (if b then 1 else 0)) M
  | _, _ => .no
abbrev intW := un1 int1
theorem c_int : CallR X (.type "int") (rc X.K E intW) := by
  refine CallR.imp call_int1 fun xs H Q hh => ?_
  obtain ⟨v, ρ, M, w, rfl, rl, r, h⟩ := un1_in hh
  clear hh
  cases w <;> first | exact h.elim | skip
  · cases r; exact .inr ⟨_, rfl, fin_val h rl rfl⟩
  · cases r; exact .inl ⟨_, rfl, fin_val h rl rfl⟩
abbrev tupW := un1 (onSq fun s M => .ok (.tup s.xs) M)
theorem sq_tup {M : Mem} {w : Wv} {xs : List Wv} (q : sqOf M w = some (.t xs)) : w = .tup xs := by
  cases w with
  | tup ys => cases q; rfl
  | ref n =>
    have q' : (match M[n]? with | some (Ob.lst xs) => some (Sq.l xs) | _ => none) = some (.t xs) := q
    cases q3 : M[n]? with
    | none => rw [q3] at q'; cases q'
    | some o => cases o with | lst ys => rw [q3] at q'; cases q'
  | _ => cases q
theorem c_tup : CallR X (.type "tuple") (rc X.K E tupW) := by
  refine CallR.imp call_tuple_of fun xs H Q hh => ?_
  obtain ⟨v, ρ, M, w, rfl, rl, r, h⟩ := un1_in hh
  clear hh
  obtain ⟨s, a, vs, q, rfl, h4, h2, h3⟩ := onSq_in rl r h
  rcases h3 with ⟨xs, rfl, h3⟩ | ⟨xs, rfl, h3⟩
  · exact ⟨a, vs, rfl, .inl ⟨h3, fun l hl => fin_tup h2 rl h4 hl⟩⟩
  · obtain rfl := sq_tup q
    exact ⟨a, vs, rfl, .inr ⟨h3, fin_val h2 rl r⟩⟩
abbrev lstW := un1 (onSq fun s M => .ok (.lst s.xs) M)
theorem c_lst : CallR X (.type "list") (rc X.K E lstW) := by
  refine CallR.imp call_list_of fun xs H Q hh => ?_
  obtain ⟨v, ρ, M, w, rfl, rl, r, h⟩ := un1_in hh
  clear hh
  obtain ⟨s, a, vs, q, rfl, h4, h2, h3⟩ := onSq_in rl r h
  exact ⟨a, vs, rfl, h3.imp (fun ⟨_, _, z⟩ => z) (fun ⟨_, _, z⟩ => z), fun l hl => fin_lst h2 rl h4 hl⟩
def bools : List Wv → Option (List Bool)
  | [] => some []
  | .bl b :: xs => (bools xs).map (b :: ·)
  | _ => none
theorem bools_of {K : PySem.W.Frag} {ρ : Rn} {H : Hp} : ∀ {ws : List Wv} {bs : List Bool} {vs : List V}, bools ws = some bs → RVs K ρ H ws vs → vs = bs.map V.bl
  | [], _, _, e, r => by cases e; cases r; rfl
  | w :: ws, _, _, e, r => by
    cases w with
    | bl b =>
      obtain ⟨cs, e1, rfl⟩ := Option.map_eq_some_iff.mp (show (bools ws).map (b :: ·) = some _ from e)
      obtain ⟨v, vr, rfl, h, r⟩ := r
      cases h
      rw [bools_of e1 r, List.map_cons]
    | _ => cases e
def all1 (any : Bool) (s : Sq) (M : Mem) : R Wv := match s with
  | .l xs => match bools xs with
    | some bs => .ok (.bl (if any then bs.any id else bs.all id)) M
    | none => .no
  | _ => .no
abbrev allW (any : Bool) := un1 (onSq (all1 any))
theorem all_in {K : PySem.W.Frag} {H : Hp} {Q : VK} {any : Bool} {xs : List V} (h : rc K E (allW any) xs H Q) :
    ∃ (a : Addr) (bs : List Bool), xs = [V.ref a] ∧ SqL K H a (bs.map V.bl) ∧ Q (.bl (if any then bs.any id else bs.all id)) H := by
  obtain ⟨v, ρ, M, w, rfl, rl, r, h⟩ := un1_in h
  obtain ⟨s, a, vs, q, rfl, h4, h2, h3⟩ := onSq_in rl r h
  rcases h3 with ⟨xs, rfl, h3⟩ | ⟨xs, rfl, h3⟩
  · have h : Fin K ρ H (PV K Q) E (match bools xs with | some bs => R.ok (Wv.bl (if any then bs.any id else bs.all id)) M | none => .no) := h2
    cases q2 : bools xs with
    | none => rw [q2] at h; exact h.elim
    | some bs =>
      rw [q2] at h
      have e := bools_of q2 h4
      subst e
      exact ⟨a, bs, rfl, h3, fin_val h rl rfl⟩
  · exact h2.elim
theorem c_all (hc : X.calm = true) : CallR X (.builtin "all") (rc X.K E (allW false)) := CallR.imp (cr_all hc) fun xs H Q h => all_in h
theorem c_any (hc : X.calm = true) : CallR X (.builtin "any") (rc X.K E (allW true)) := CallR.imp (cr_any hc) fun xs H Q h => all_in h

/-! is True, is not False: a value of any kind beside a bool -/
def blIs (b : Bool) : Wv → Bool
  | .bl a => a == b
  | _ => false
def blIsV (b : Bool) : V → Bool
  | .bl a => a == b
  | _ => false
def isBlW (neg : Bool) : Wv → Wv → Mem → R Bool
  | x, .bl b, M => .ok (neg ^^ blIs b x) M
  | _, _, _ => .no
theorem plain_bl {v : V} {u : Value} {b : Bool} (r : RelV v u) : plainIs u (.bool b) = true ∧ (u == Value.bool b) = blIsV b v := by
  cases v with
  | non => cases r; exact ⟨rfl, rfl⟩
  | bl a => cases r; cases a <;> cases b <;> exact ⟨rfl, rfl⟩
  | int _ => obtain ⟨t, rfl⟩ := r; exact ⟨rfl, rfl⟩
  | str _ => obtain ⟨t, rfl⟩ := r; exact ⟨rfl, rfl⟩
  | byt _ => obtain ⟨t, rfl⟩ := r; exact ⟨rfl, rfl⟩
  | flt _ => obtain ⟨t, rfl⟩ := r; exact ⟨rfl, rfl⟩
  | ref _ => cases r; exact ⟨rfl, rfl⟩
  | ty _ => cases r; exact ⟨rfl, rfl⟩
theorem isbl_v {K : PySem.W.Frag} {ρ : Rn} {H : Hp} {w : Wv} {v : V} {b : Bool} (r : RV K ρ H w v) : blIsV b v = blIs b w := by
  cases w with
  | non => cases r; rfl
  | bl b => cases r; rfl
  | int b => cases r; rfl
  | str b => cases r; rfl
  | ty b => cases r; rfl
  | adr b => cases r; rfl
  | tup b => obtain ⟨a, vs, rfl, _⟩ := r; rfl
  | lst b => obtain ⟨a, vs, rfl, _⟩ := r; rfl
  | rdl b => obtain ⟨a, vs, rfl, _⟩ := r; rfl
  | dct b c => obtain ⟨a, vs, rfl, _⟩ := r; rfl
  | ref b => obtain ⟨a, rfl, _⟩ := r; rfl
theorem o_isBl : OpR X (compareOp .Is) (rb X.K E (isBlW false)) := by
  intro pins s σ H x y v u Q I rx ry ⟨ρ, M, wx, wy, rl, rvx, rvy, h⟩
  cases wy <;> first | exact h.elim | skip
  rename_i b
  cases rvy
  obtain rfl : u = Value.bool b := ry
  obtain ⟨hp, e⟩ := plain_bl (b := b) rx
  refine wpAny_is_plain hp ⟨.bl (blIs b wx), H, I, ?_, ?_⟩
  · rw [e, isbl_v rvx]; exact rfl
  · have q := h.here rl
    simpa [PB] using q
theorem o_notBl : OpR X (compareOp .IsNot) (rb X.K E (isBlW true)) := by
  intro pins s σ H x y v u Q I rx ry ⟨ρ, M, wx, wy, rl, rvx, rvy, h⟩
  cases wy <;> first | exact h.elim | skip
  rename_i b
  cases rvy
  obtain rfl : u = Value.bool b := ry
  obtain ⟨hp, e⟩ := plain_bl (b := b) rx
  refine wpAny_isNot_plain hp ⟨.bl (!blIs b wx), H, I, ?_, ?_⟩
  · rw [e, isbl_v rvx]; exact rfl
  · have q := h.here rl
    simpa [PB] using q
end

/-! ### isinstance -/
inductive Ty where
  | non | bl | int | str | tup | lst | dct
def Ty.name : Ty → String
  | .non => "NoneType" | .bl => "bool" | .int => "int" | .str => "str" | .tup => "tuple" | .lst => "list" | .dct => "dict"
def Ty.sub : Ty → Ty → Bool
  | .non, .non => true | .bl, .bl => true | .bl, .int => true | .int, .int => true | .str, .str => true | .tup, .tup => true | .lst, .lst => true | .dct, .dct => true
  | _, _ => false
theorem kit_sub {K : PySem.W.Frag} (a b : Ty) : PySem.W.kitOne K (.type a.name) (.type b.name) = some (a.sub b) := kit_ty (by cases a <;> cases b <;> decide +kernel)
theorem kit_subs {K : PySem.W.Frag} (a : Ty) : ∀ bs : List Ty, PySem.W.kitAny K (.type a.name) (bs.map fun b => Value.type b.name) = some (bs.any a.sub)
  | [] => rfl
  | b :: bs => by
    refine kitAny_cons (kit_sub a b) (fun e => ?_) fun e => ?_
    · rw [List.any_cons, e, Bool.false_or]; exact kit_subs a bs
    · rw [List.any_cons, e, Bool.true_or]
def tyOf (M : Mem) : Wv → Option Ty
  | .non => some .non
  | .bl _ => some .bl
  | .int _ => some .int
  | .str _ => some .str
  | .tup _ => some .tup
  | .lst _ => some .lst
  | .dct _ _ => some .dct
  | .ref n => match M[n]? with
    | some (.lst _) => some .lst
    | _ => none
  | _ => none
theorem tyx_of {K : PySem.W.Frag} {ρ : Rn} {H : Hp} {M : Mem} (rl : Rl K ρ M H) {w : Wv} {v : V} {t : Ty} (e : tyOf M w = some t) (r : RV K ρ H w v) : TyX K H v (.type t.name) := by
  cases w with
  | non => cases e; cases r; exact .base .non
  | bl b => cases e; cases r; exact .base (.bl b)
  | int b => cases e; cases r; exact .base (.int b)
  | str b => cases e; cases r; exact .base (.str b)
  | tup xs =>
    cases e
    obtain ⟨a, vs, rfl, h, _⟩ := r
    rcases h with h | ⟨o, its, n, h1, h2, _⟩
    · exact .base (.tup h.1)
    · exact .kTuple h1 h2
  | lst xs => cases e; obtain ⟨a, vs, rfl, h, _⟩ := r; exact .base (.lst h.1)
  | dct ks xs => cases e; obtain ⟨a, vs, rfl, h, _⟩ := r; exact .base (.dK h.1)
  | ref n =>
    have e : (match M[n]? with | some (Ob.lst _) => some Ty.lst | _ => none) = some t := e
    cases q : M[n]? with
    | none => rw [q] at e; cases e
    | some o =>
      cases o with
      | lst xs =>
        rw [q] at e
        cases e
        obtain ⟨a, vs, rfl, _, h2, _⟩ := rl.lst q r
        exact .base (.lst h2)
  | _ => cases e
def isW (ts : List Ty) (x : Wv) (M : Mem) : R Wv := match tyOf M x with
  | some t => .ok (.bl (ts.any t.sub)) M
  | none => .no
section
variable {X : Cx} {E : XK} {a : Expr} {ma : Me} {x : Str} {p pos p1 p2 p3 : Pos} {es : List Expr} {k : Nat}
/-- the built-in class T as an argument -/
structure IsTy (X : Cx) (e : Expr) (t : Ty) : Prop where
  pe : PE X e (tC (.ty t.name))
  st : ∀ es, starEach (e :: es) X.env = (false, eval e X.env) :: starEach es X.env
theorem isTy {t : Ty} (hg : Gl X x) (hm : X.mg x = none) (hv : bootBuiltins x = some (.type t.name)) (hn : x ≠ "__name__" := by decide) (hdb : (x == ("__debug__" : Str)) = false := by decide) : IsTy X (.Name x pos) t :=
  ⟨pe_bltn hg hm hv rfl hn hdb, fun _ => rfl⟩
inductive IsTys (X : Cx) : List Expr → List Ty → Prop
  | nil : IsTys X [] []
  | cons {e : Expr} {es : List Expr} {t : Ty} {ts : List Ty} (h : IsTy X e t) (r : IsTys X es ts) : IsTys X (e :: es) (t :: ts)
def tCs (vs : List V) : TA := fun _ H Q => Q vs H
theorem IsTys.pa : ∀ {es : List Expr} {ts : List Ty}, IsTys X es ts → PA X es (tCs (ts.map fun t => V.ty t.name))
  | _, _, .nil => PA.imp pa_nil fun _ _ _ h => h
  | _, _, .cons h r => PA.imp (pa_cons h.pe r.pa (h.st _)) fun _ _ _ q => q
theorem IsTys.cls (ts : List Ty) : Paired ClsV (ts.map fun t => V.ty t.name) (ts.map fun t => Value.type t.name) := by
  induction ts with
  | nil => exact .nil
  | cons t ts ih => exact .cons (.ty _) ih
theorem fin_is {K : PySem.W.Frag} {ρ : Rn} {M : Mem} {H : Hp} {Q : VK} {ts : List Ty} {w : Wv} (h : Fin K ρ H (PV K Q) E (isW ts w M)) : ∃ t, tyOf M w = some t ∧ Fin K ρ H (PV K Q) E (.ok (.bl (ts.any t.sub)) M) := by
  unfold isW at h
  cases q : tyOf M w with
  | none => rw [q] at h; exact h.elim
  | some t => rw [q] at h; exact ⟨t, rfl, h⟩
/-- isinstance(a, T) -/
theorem e_is {b : Expr} {t : Ty} (hm : X.mg "isinstance" = none) (ha : PE X a (te X.K E ma)) (hb : IsTy X b t) (hg : Gl X "isinstance" := by rfl) (hs : starEach (a :: [b]) X.env = (false, eval a X.env) :: starEach [b] X.env := by rfl) (hpl : (backTo pos (starEach [b] X.env)).any (·.1) = false := by rfl) :
    PE X (.Call (.Name "isinstance" p) [a, b] [] pos) (te X.K E (mUn (isW [t]) ma)) :=
  PE.imp (pe_callB call_isi hg hm PyProof.Rows.boot_isinstance (pa_cons ha (pa_cons hb.pe pa_nil (hb.st _)) hs) (by decide) (by decide) hs hpl) fun σ H Q ⟨ρ, M, env, rl, re, f⟩ => by
    refine te_then rl re f fun w M1 ρ1 H1 v g1 rl1 re1 rv1 f1 => ?_
    obtain ⟨u, e, f1⟩ := fin_is f1
    exact ⟨v, .ty t.name, .type u.name, .type t.name, _, rfl, .ty _, tyx_of rl1 e rv1, kit_sub u t, fin_val f1 rl1 (by simp [RV])⟩
/-- isinstance(a, (T, U, ..)) -/
theorem e_ist {ts : List Ty} (hm : X.mg "isinstance" = none) (ha : PE X a (te X.K E ma)) (hb : IsTys X es ts) (hg : Gl X "isinstance" := by rfl) (hlen : ts.length ≤ lim := by decide) (hs : starEach (a :: [.Tuple es k p1]) X.env = (false, eval a X.env) :: starEach [.Tuple es k p1] X.env := by rfl)
    (hpl : (backTo pos (starEach [.Tuple es k p1] X.env)).any (·.1) = false := by rfl) : PE X (.Call (.Name "isinstance" p) [a, .Tuple es k p1] [] pos) (te X.K E (mUn (isW ts) ma)) :=
  PE.imp (pe_callB call_isiT hg hm PyProof.Rows.boot_isinstance (pa_cons ha (pa_cons (pe_tup hb.pa) pa_nil) hs) (by decide) (by decide) hs hpl) fun σ H Q ⟨ρ, M, env, rl, re, f⟩ => by
    refine te_then rl re f fun w M1 ρ1 H1 v g1 rl1 re1 rv1 f1 => ?_
    obtain ⟨u, e, f1⟩ := fin_is f1
    refine ⟨by rw [List.length_map]; exact lim_le hlen, fun q hq => ?_⟩
    have g2 : Gr ρ1 H1 ρ1 (upd H1 q (.tup (ts.map fun t => V.ty t.name))) := Gr.fresh hq
    exact ⟨v, q, _, .type u.name, _, _, rfl, upd_same, IsTys.cls ts, tyx_of (rl1.upd hq) e (RV.mono g2 w rv1), kit_subs u ts, f1 ρ1 _ g2 (rl1.upd hq) _ rfl⟩
end
end Mi

namespace Mi
open PySem PySem.Spec PyProof.Rows L2

/-! ### repr of data -/
def reprOk (d : PyData) : Bool := d.showable && !d.hasDict && decide (d.shown.length ≤ lim) && decide (d.depth ≤ 60)
def repr1 (w : Wv) (M : Mem) : R Wv := match toDM M w with
  | some d => if reprOk d then .ok (.str d.shown) M else .no
  | none => .no
abbrev reprW := un1 repr1
section
variable {X : Cx} {E : XK}
theorem c_repr (hg : X.A.guards = some []) (hu : X.A.units + 64 < cLine) : CallR X (.builtin "repr") (rc X.K E reprW) := by
  intro pins s σ H xs us Q I r hh
  obtain ⟨v, ρ, M, w, rfl, rl, rv, h⟩ := un1_in hh
  clear hh
  obtain ⟨u, rfl, ru⟩ := vals1 r
  unfold repr1 at h
  cases q : toDM M w with
  | none => rw [q] at h; exact h.elim
  | some d =>
    rw [q] at h
    obtain ⟨h0, h⟩ := pick h
    unfold reprOk at h0
    rw [Bool.and_eq_true, Bool.and_eq_true, Bool.and_eq_true] at h0
    obtain ⟨⟨⟨h1, h2⟩, h3⟩, h4⟩ := h0
    have h3 := of_decide_eq_true h3
    have h4 := of_decide_eq_true h4
    have hz := lim_le h3
    have fin : Q (.str d.shown) H := fin_val h rl rfl
    have D := dpM_of rl w q rv
    obtain ⟨as, rd⟩ := Dp.reads I d v u D ru
    cases D with
    | non => cases ru; exact PySem.P.repr_of_none ⟨.str _, H, I.tok _, ⟨_, rfl⟩, fin⟩
    | bl b => cases ru; exact PySem.P.repr_of_bool ⟨.str _, H, I.tok _, ⟨_, rfl⟩, fin⟩
    | int i =>
      obtain ⟨t, rfl⟩ := ru
      exact PySem.P.repr_of_int (of_decide_eq_true h1) ⟨.str _, H, I.tok _, ⟨_, rfl⟩, fin⟩
    | str x =>
      obtain ⟨t, rfl⟩ := ru
      exact PySem.P.repr_of_str ⟨.str _, H, I.tok _, ⟨_, rfl⟩, fin⟩ hz
    | lst _ _ =>
      cases ru
      exact repr_of_reads' rd h1 (fun z => absurd z (by simp at h2; simp [h2])) hg (by omega) (fun _ _ e => e) (fun h' u' tk hk => ⟨.str _, H, I.kept hk, ⟨_, rfl⟩, fin⟩) hz
    | tup _ _ =>
      cases ru
      exact repr_of_reads' rd h1 (fun z => absurd z (by simp at h2; simp [h2])) hg (by omega) (fun _ _ e => e) (fun h' u' tk hk => ⟨.str _, H, I.kept hk, ⟨_, rfl⟩, fin⟩) hz
end

/-! ### statements -/
inductive Fl where
  | nx (env : Ev) | ret (w : Wv) | bk (env : Ev) | ct (env : Ev)
abbrev Ms := Ev → Mem → R Fl
def PF (K : PySem.W.Frag) (D : Ends) : Fl → Mem → Rn → Hp → Prop
  | .nx env, _, ρ, H => ∀ σ, RE K ρ H env σ → D.nx σ H
  | .ret w, _, ρ, H => ∀ v, RV K ρ H w v → D.rt v H
  | .bk env, _, ρ, H => ∀ σ, RE K ρ H env σ → D.bk σ H
  | .ct env, _, ρ, H => ∀ σ, RE K ρ H env σ → D.ct σ H
def ts (K : PySem.W.Frag) (E : XK) (m : Ms) : TS := fun D σ H => ∃ ρ M env, Rl K ρ M H ∧ RE K ρ H env σ ∧ Fin K ρ H (PF K D) E (m env M)
def sNil : Ms := fun env M => .ok (.nx env) M
def andThen (fl : Fl) (k : Ev → Mem → R Fl) (M : Mem) : R Fl := match fl with
  | .nx env => k env M
  | fl => .ok fl M
def sSeq (a b : Ms) : Ms := fun env M => (a env M).bind fun fl M1 => andThen fl b M1
def sSet (i : Nat) (a : Me) : Ms := fun env M => (a env M).bind fun w M1 => .ok (.nx (env.set i (some w))) M1
def sRet (a : Me) : Ms := fun env M => (a env M).bind fun w M1 => .ok (.ret w) M1
def sRetN : Ms := fun _ M => .ok (.ret .non) M
def sIf (t : Mt) (a b : Ms) : Ms := fun env M => (t env M).bind fun c M1 => if c = true then a env M1 else b env M1
def sExp (a : Me) : Ms := fun env M => (a env M).bind fun _ M1 => .ok (.nx env) M1
def sBrk : Ms := fun env M => .ok (.bk env) M
def sCnt : Ms := fun env M => .ok (.ct env) M
def sPut (a o i : Me) : Ms := fun env M => (a env M).bind fun w M1 => (o env M1).bind fun ov M2 => (i env M2).bind fun iv M3 => (setW ov iv w M3).bind fun _ M4 => .ok (.nx env) M4
def sPar2 (i j : Nat) (a : Ma) : Ms := fun env M => (a env M).bind fun ws M1 => match ws with
  | [u, v] => .ok (.nx ((env.set i (some u)).set j (some v))) M1
  | _ => .no
def sPar3 (i j l : Nat) (a : Ma) : Ms := fun env M => (a env M).bind fun ws M1 => match ws with
  | [u, v, w] => .ok (.nx (((env.set i (some u)).set j (some v)).set l (some w))) M1
  | _ => .no
section
variable {X : Cx} {E : XK} {e o i' : Expr} {st : Stmt} {rest : List Stmt} {me mo mi : Me} {ma : Ma} {mt : Mt} {m1 m2 : Ms} {pos : Pos} {i j l : Nat} {x y z : Str}
theorem s_nil : PSs X [] (ts X.K E sNil) := PSs.imp pss_nil fun D σ H ⟨ρ, M, env, rl, re, f⟩ => f.here rl σ re
theorem pf_then {K : PySem.W.Frag} {ρ : Rn} {M : Mem} {H : Hp} {D : Ends} {k : Ms} {fl : Fl} (rl : Rl K ρ M H) (f : Fin K ρ H (PF K D) E (andThen fl k M)) : PF K { D with nx := ts K E k D } fl M ρ H := by
  cases fl with
  | nx env => exact fun σ re => ⟨ρ, M, env, rl, re, f⟩
  | ret w => exact f.here rl
  | bk env => exact f.here rl
  | ct env => exact f.here rl
theorem s_cons (h1 : PS X st (ts X.K E m1)) (h2 : PSs X rest (ts X.K E m2)) : PSs X (st :: rest) (ts X.K E (sSeq m1 m2)) := PSs.imp (pss_cons h1 h2) fun D σ H ⟨ρ, M, env, rl, re, f⟩ =>
  ⟨ρ, M, env, rl, re, f.bind.imp fun fl M1 ρ1 H1 g1 rl1 f1 => pf_then rl1 f1⟩
theorem s_one (h1 : PS X st (ts X.K E m1)) : PSs X [st] (ts X.K E m1) := pss_one h1
theorem s_set {pos' : Pos} (hN : X.N.Nodup) (he : PE X e (te X.K E me)) (hi : X.N[i]? = some x := by rfl) (hx : Loc X.env.scope x := by first | exact Or.inl rfl | exact Or.inr rfl) (hs : swapsWith e (some (.Name x pos')) pos.line X.env = pure false := by rfl) (hf : X.fn x = true ∨ X.env.scope.names.lookup x = some .local := by first | exact .inl rfl | exact .inr rfl) :
    PS X (.Assign [.Name x pos'] e pos) (ts X.K E (sSet i me)) := PS.imp (ps_set (i := i) hN hi hx he hs hf) fun D σ H ⟨ρ, M, env, rl, re, f⟩ =>
  te_then rl re f fun w M1 ρ1 H1 v g1 rl1 re1 rv1 f1 => f1.here rl1 _ (re1.set rv1)
theorem s_ret (he : PE X e (te X.K E me)) : PS X (.Return (some e) pos) (ts X.K E (sRet me)) := PS.imp (ps_ret he) fun D σ H ⟨ρ, M, env, rl, re, f⟩ =>
  te_then rl re f fun w M1 ρ1 H1 v g1 rl1 re1 rv1 f1 => f1.here rl1 v rv1
theorem s_retN : PS X (.Return none pos) (ts X.K E sRetN) := PS.imp ps_retN fun D σ H ⟨ρ, M, env, rl, re, f⟩ => f.here rl .non rfl
theorem s_if {a b : List Stmt} (hc : PT X e (tt X.K E mt)) (ha : PSs X a (ts X.K E m1)) (hb : PSs X b (ts X.K E m2)) : PS X (.If e a b pos) (ts X.K E (sIf mt m1 m2)) := PS.imp (ps_if hc ha hb) fun D σ H ⟨ρ, M, env, rl, re, f⟩ =>
  tt_then rl re f fun b M1 ρ1 H1 g1 rl1 re1 f1 => by
    cases b with
    | true => exact ⟨ρ1, M1, env, rl1, re1, f1⟩
    | false => exact ⟨ρ1, M1, env, rl1, re1, f1⟩
theorem s_expr (he : PE X e (te X.K E me)) (hs : swapsWith e none pos.line X.env = pure false := by rfl) : PS X (.Expr e pos) (ts X.K E (sExp me)) := PS.imp (ps_expr he hs) fun D σ H ⟨ρ, M, env, rl, re, f⟩ =>
  te_then rl re f fun w M1 ρ1 H1 v g1 rl1 re1 rv1 f1 => f1.here rl1 _ re1
theorem s_brk : PS X (.Break pos) (ts X.K E sBrk) := PS.imp ps_break fun D σ H ⟨ρ, M, env, rl, re, f⟩ => f.here rl σ re
theorem s_cnt : PS X (.Continue pos) (ts X.K E sCnt) := PS.imp ps_continue fun D σ H ⟨ρ, M, env, rl, re, f⟩ => f.here rl σ re
theorem s_pass : PS X (.Pass pos) (ts X.K E sNil) := PS.imp ps_pass fun D σ H ⟨ρ, M, env, rl, re, f⟩ => f.here rl σ re
theorem set_in {K : PySem.W.Frag} {ρ : Rn} {M : Mem} {H : Hp} {wo wi w : Wv} {o i v : V} {P : Unit → Mem → Rn → Hp → Prop} {Q : Hp → Prop} (rl : Rl K ρ M H) (ro : RV K ρ H wo o) (ri : RV K ρ H wi i) (rv : RV K ρ H w v) (f : Fin K ρ H P E (setW wo wi w M))
    (q : ∀ M1 H1, Gr ρ H ρ H1 → Rl K ρ M1 H1 → P () M1 ρ H1 → Q H1) : rSetL o i v H Q := by
  cases wo <;> cases wi <;> first | exact f.elim | skip
  rename_i k n
  cases ri
  cases e : M[k]? with
  | none =>
    have f : Fin K ρ H P E (match M[k]? with | some (Ob.lst xs) => (match ixN xs.length n with | some j => R.ok () (M.set k (.lst (xs.set j w))) | none => .no) | _ => .no) := f
    rw [e] at f; exact f.elim
  | some ob =>
    have f : Fin K ρ H P E (match M[k]? with | some (Ob.lst xs) => (match ixN xs.length n with | some j => R.ok () (M.set k (.lst (xs.set j w))) | none => .no) | _ => .no) := f
    rw [e] at f
    cases ob with
    | lst xs =>
      have f : Fin K ρ H P E (match ixN xs.length n with | some j => R.ok () (M.set k (.lst (xs.set j w))) | none => .no) := f
      obtain ⟨a, vs, rfl, ha, h1, h2⟩ := rl.lst e ro
      cases ej : ixN xs.length n with
      | none => rw [ej] at f; exact f.elim
      | some j =>
        rw [ej] at f
        have gg : Gr ρ H ρ (upd H a (.lst (vs.set j v))) := Gr.write ha
        have rl2 : Rl K ρ (M.set k (.lst (xs.set j w))) (upd H a (.lst (vs.set j v))) := rl.write ha ⟨_, upd_same, RVs.set (RVs.mono gg xs h2) (RV.mono gg w rv)⟩
        exact ⟨a, vs, n, j, rfl, rfl, h1, by rw [← h2.length]; exact ej, q _ _ gg rl2 (f ρ _ gg rl2)⟩
theorem s_put {p2 : Pos} (he : PE X e (te X.K E me)) (ho : PE X o (te X.K E mo)) (hi : PE X i' (te X.K E mi)) (hs : swapsWithSole [.Subscript o i' p2] e pos.line X.env = pure false := by rfl) (hw : swappedStores [.Subscript o i' p2] e X.env = pure none := by rfl)
    (h1 : (assignEach [.Subscript o i' p2] X.env).map (·.2) = [assign (.Subscript o i' p2) X.env] := by rfl)
    (ha : ∀ v, assign (.Subscript o i' p2) X.env v = (do
      let ov ← holding [v] (eval o X.env)
      let iv ← holding [v, ov] (eval i' X.env)
      standAt p2
      holding [v, ov, iv] (setItem ov iv v)
      release [v, ov, iv] []) := by intro _; rfl) : PS X (.Assign [.Subscript o i' p2] e pos) (ts X.K E (sPut me mo mi)) :=
  PS.imp (ps_asg he (pg_sub ho hi set_list ha) hs hw h1) fun D σ H ⟨ρ, M, env, rl, re, f⟩ => by
    refine te_then rl re f fun w M1 ρ1 H1 v g1 rl1 re1 rv1 f1 => ?_
    refine te_then rl1 re1 f1 fun wo M2 ρ2 H2 ov g2 rl2 re2 rv2 f2 => ?_
    refine te_then rl2 re2 f2 fun wi M3 ρ3 H3 iv g3 rl3 re3 rv3 f3 => ?_
    exact set_in rl3 (RV.mono g3 wo rv2) rv3 (RV.mono g3 w (RV.mono g2 w rv1)) f3.bind fun M4 H4 g4 rl4 f4 => f4.here rl4 _ (re3.mono g4)
theorem s_par2 {a b : Expr} {px py pt : Pos} {kt k2 pt2} (hc : X.calm = true) (hN : X.N.Nodup) (ha : PA X [a, b] (ta X.K E ma)) (hi : X.N[i]? = some x := by rfl) (hj : X.N[j]? = some y := by rfl) (hij : i ≠ j := by decide)
    (hx : X.env.scope.names.lookup x = some .local := by rfl) (hy : X.env.scope.names.lookup y = some .local := by rfl) (hw : swappedStores [.Tuple [.Name x px, .Name y py] kt pt] (.Tuple [a, b] k2 pt2) X.env = pure (some [x, y]) := by rfl)
    (hs : swapsWithSole [.Tuple [.Name x px, .Name y py] kt pt] (.Tuple [a, b] k2 pt2) pos.line X.env = pure false := by rfl) : PS X (.Assign [.Tuple [.Name x px, .Name y py] kt pt] (.Tuple [a, b] k2 pt2) pos) (ts X.K E (sPar2 i j ma)) :=
  PS.imp (ps_par hc hN hi hj hij hx hy ha hw hs) fun D σ H ⟨ρ, M, env, rl, re, f⟩ => ta_then rl re f fun ws M1 ρ1 H1 vs g1 rl1 re1 rv1 f1 => by
    match ws, rv1, f1 with
    | [], _, f1 => exact f1.elim
    | [_], _, f1 => exact f1.elim
    | _ :: _ :: _ :: _, _, f1 => exact f1.elim
    | [u, v], rv, f1 =>
      obtain ⟨v1, _, rfl, r1, v2, _, rfl, r2, rfl⟩ := rv
      exact ⟨v1, v2, rfl, f1.here rl1 _ ((re1.set r1).set r2)⟩
theorem s_par3 {a b c : Expr} {px py pz pt : Pos} {kt k2 pt2} (hc : X.calm = true) (hN : X.N.Nodup) (ha : PA X [a, b, c] (ta X.K E ma)) (hi : X.N[i]? = some x := by rfl) (hj : X.N[j]? = some y := by rfl) (hl : X.N[l]? = some z := by rfl) (hij : i ≠ j := by decide) (hil : i ≠ l := by decide) (hjl : j ≠ l := by decide)
    (hx : X.env.scope.names.lookup x = some .local := by rfl) (hy : X.env.scope.names.lookup y = some .local := by rfl) (hz : X.env.scope.names.lookup z = some .local := by rfl)
    (hw : swappedStores [.Tuple [.Name x px, .Name y py, .Name z pz] kt pt] (.Tuple [a, b, c] k2 pt2) X.env = pure (some [x, y, z]) := by rfl)
    (hs : swapsWithSole [.Tuple [.Name x px, .Name y py, .Name z pz] kt pt] (.Tuple [a, b, c] k2 pt2) pos.line X.env = pure false := by rfl) :
    PS X (.Assign [.Tuple [.Name x px, .Name y py, .Name z pz] kt pt] (.Tuple [a, b, c] k2 pt2) pos) (ts X.K E (sPar3 i j l ma)) :=
  PS.imp (ps_par3 hc hN hi hj hl hij hil hjl hx hy hz ha hw hs) fun D σ H ⟨ρ, M, env, rl, re, f⟩ => ta_then rl re f fun ws M1 ρ1 H1 vs g1 rl1 re1 rv1 f1 => by
    match ws, rv1, f1 with
    | [], _, f1 => exact f1.elim
    | [_], _, f1 => exact f1.elim
    | [_, _], _, f1 => exact f1.elim
    | _ :: _ :: _ :: _ :: _, _, f1 => exact f1.elim
    | [u, v, w], rv, f1 =>
      obtain ⟨v1, _, rfl, r1, v2, _, rfl, r2, v3, _, rfl, r3, rfl⟩ := rv
      exact ⟨v1, v2, v3, rfl, f1.here rl1 _ (((re1.set r1).set r2).set r3)⟩
end

/-! ### functions; nothing is being shown meanwhile (guards) -/
structure FnG (P : Program) (w : World) (K : PySem.W.Frag) (mg : Str → Option Value) (base : Heap) (k : Nat) (f : Addr) (fd : FuncData) (ps : List Str) (m : List Wv → Mem → R Wv) : Prop where
  go : ∀ (A : Around) (outer : List Env) (s : Shared) (H : Hp) (as : Args) (us : List Value) (vs : List V) (ws : List Wv) (ρ : Rn) (M : Mem) (Q : VK) (E : XK), Room k A → A.guards = some [] → Env0 P w K mg base A outer s H → BindsTo s fd as (ps.zip us) → Vals vs us →
    vs.length = ps.length → Rl K ρ M H → RVs K ρ H ws vs → Fin K ρ H (PV K Q) E (m ws M) → codeAny (model P w) A (.call (.ref f) as) (CR (L2.CX P w) outer P w H s Q E) s
theorem FnG.up {P : Program} {w : World} {K : PySem.W.Frag} {mg : Str → Option Value} {base : Heap} {j k : Nat} {f : Addr} {fd : FuncData} {ps : List Str} {m : List Wv → Mem → R Wv} (F : FnG P w K mg base j f fd ps m) (h : j ≤ k) : FnG P w K mg base k f fd ps m :=
  ⟨fun A outer s H as us vs ws ρ M Q E hr => F.go A outer s H as us vs ws ρ M Q E (hr.mono h)⟩
def evStart (n : Nat) (ws : List Wv) : Ev := ws.map some ++ List.replicate (n - ws.length) none
def mFn (n : Nat) (b : Ms) : List Wv → Mem → R Wv := fun ws M => (b (evStart n ws) M).bind fun fl M1 => match fl with
  | .nx _ => .ok .non M1
  | .ret w => .ok w M1
  | _ => .no
theorem re_start {K : PySem.W.Frag} {ρ : Rn} {H : Hp} {N : List Str} {ws : List Wv} {vs : List V} (r : RVs K ρ H ws vs) : RE K ρ H (evStart N.length ws) (L2.start N vs) := by
  unfold evStart L2.start
  refine ⟨by simp [r.length], fun i w e => ?_⟩
  have hl := r.length
  by_cases hi : i < ws.length
  · rw [List.getElem?_append_left (by simpa using hi), List.getElem?_map] at e
    obtain ⟨u, h1, h2⟩ := Option.map_eq_some_iff.mp e
    cases h2
    obtain ⟨v, h3, h4⟩ := r.get h1
    exact ⟨v, by rw [List.getElem?_append_left (by simpa [← hl] using hi), List.getElem?_map, h3]; rfl, h4⟩
  · rw [List.getElem?_append_right (by simpa using hi)] at e
    have := List.mem_of_getElem? e
    simp at this
section
variable {P : Program} {w : World} {K : PySem.W.Frag} {mg : Str → Option Value} {base : Heap}
theorem FnG.of {x qual : Str} {st : Stmt} {f : Addr} {fd : FuncData} {N ps : List Str} {k : Nat} {b : Ms} (F : Fun K x qual st f fd) (S : FnScope N ps (defScope st))
    (body : ∀ (cdv : Value) (A : Around) (outer : List Env) (s : Shared) (H : Hp) (E : XK), Room k (A.deeper (envOfC qual (defScope st) s.heap.objs.size f cdv)) → A.guards = some [] →
      Passes (L2.CX P w) (cxOf (L2.CX P w) P w K mg base N qual (defScope st) f cdv A outer s H E) E →
      PSs (cxOf (L2.CX P w) P w K mg base N qual (defScope st) f cdv A outer s H E) (defBody st) (ts K E b)) : FnG P w K mg base (k + 1) f fd ps (mFn N.length b) := by
  obtain ⟨oc, od, kV, doc, pm, an, cdv, ct, osl, rfl, lk, hcd⟩ := F.ex
  refine ⟨fun A outer s H as us vs ws ρ M Q E hr hgd e0 hb r hl rl rv fin => ?_⟩
  have KX : K.In s.heap := e0.mod.kin.keeps fun c o q => (e0.bs c o q).1
  have noL : s.heap.NoLimit := e0.mod.nolimit.keeps fun c o q => (e0.bs c o q).1
  have kinds : ∀ y ∈ ps.zip us, (defScope st).names.lookup y.1 = some .local ∨ ((defScope st).names.lookup y.1 = some .cell ∧ ((cellsFrom (s.heap.objs.size + 1) (defScope st).names []).lookup y.1).isSome = true) := by
    rintro ⟨n, v⟩ hy
    refine (S.par n (List.of_mem_zip hy).1).imp id fun q => ?_
    exact ⟨q, PySem.W.cellsFrom_some _ _ _ (.inl q)⟩
  refine codeAny_call_function hr.depth (KX _ _ lk) rfl S.co S.gen rfl (PySem.W.codeRec_of KX hcd) (hb _ _ _ _ (wpAny_newFunctionEnv_cells S.kind kinds fun env he s1 inC => ?_))
  subst he
  refine ⟨noL.keeps inC.toInCall.keep, codeAny_func ?_⟩
  have I : Inv (cxOf (L2.CX P w) P w K mg base N qual (defScope st) f cdv A outer s H E) [] (L2.start N vs) H s1 := inv_start S hr.hd e0 hl r inC
  have hx : Passes (L2.CX P w) (cxOf (L2.CX P w) P w K mg base N qual (defScope st) f cdv A outer s H E) E := passes_call (takes_of rfl rfl rfl rfl) fun _ _ _ _ z => z
  have ht := body cdv A outer s H E (hr.deeper _) hgd hx
  have hw : ts K E b { nx := fun _ H' => Q .non H', rt := Q } (L2.start N vs) H := by
    refine ⟨ρ, M, evStart N.length ws, rl, re_start rv, fin.bind.imp fun fl M1 ρ1 H1 g1 rl1 f1 => ?_⟩
    cases fl with
    | nx env => exact fun σ _ => f1.here rl1 .non rfl
    | ret v => exact f1.here rl1
    | bk env => exact f1.elim
    | ct env => exact f1.elim
  refine wpAny_mono (ht.run [] s1 (L2.start N vs) H _ I hw) (fun fl s' hs => ?_) fun _ _ z => z
  cases fl with
  | ret u =>
    obtain ⟨v, σ', H', J, rv', q⟩ := hs
    exact ⟨v, H', J.os, J.bare, J.base, J.hok, rv', q⟩
  | next =>
    obtain ⟨σ', H', J, q⟩ := hs
    exact ⟨V.non, H', J.os, J.bare, J.base, J.hok, rfl, q⟩
  | brk => obtain ⟨_, _, _, q⟩ := hs; exact q.elim
  | cont => obtain ⟨_, _, _, q⟩ := hs; exact q.elim
end
section
variable {X : Cx} {E : XK} {k : Nat} {f : Addr} {fd : FuncData} {ps ks : List Str} {m : List Wv → Mem → R Wv} {x : Str} {p pos : Pos} {e : Expr} {es : List Expr} {ma mk : Ma} {kws : List Keyword}
theorem callG (F : FnG X.prog X.w X.K X.mg X.base k f fd ps m) (hr : Room k X.A) (hgd : X.A.guards = some []) (hx : Passes (L2.CX X.prog X.w) X E) {pins : List (Addr × Obj)} {σ : L2.St} {H : Hp} {s : Shared} {Q : VK} {kw : List (Str × Value)} {us us' : List Value} {vs : List V} {ws : List Wv} {ρ : Rn} {M : Mem}
    (I : Inv X pins σ H s) (hb : BindsTo s fd ⟨us, kw⟩ (ps.zip us')) (r : Vals vs us') (hl : vs.length = ps.length) (rl : Rl X.K ρ M H) (rv : RVs X.K ρ H ws vs) (fin : Fin X.K ρ H (PV X.K Q) E (m ws M)) : wpAny (model X.prog X.w) X.A (call (.ref f) us kw) (EP X pins σ Q) X.xe s := by
  refine wpAny_call (codeAny_mono (F.go X.A X.stack s H ⟨us, kw⟩ us' vs ws ρ M Q E hr hgd I.env0 hb r hl rl rv fin) fun res s' hq => ?_)
  cases res with
  | error er => exact hx pins σ H s er s' I hq
  | ok fl =>
    cases fl with
    | ret u => exact I.after hq
    | next => exact hq.elim
    | brk => exact hq.elim
    | cont => exact hq.elim
/-- f(e, ..); n the number of arguments -/
def mApp (n : Nat) (f : List Wv → Mem → R Wv) (a : Ma) : Me := fun env M => (a env M).bind fun ws M1 => if ws.length = n then f ws M1 else .no
theorem e_call (F : FnG X.prog X.w X.K X.mg X.base k f fd ps m) (hr : Room k X.A) (hgd : X.A.guards = some []) (hx : Passes (L2.CX X.prog X.w) X E) (hm : X.mg x = some (.ref f)) (hk : PySem.W.keepIn X.K (.ref f) = true) (hb : Binds X.K fd ps []) (ha : PA X (e :: es) (ta X.K E ma))
    (hg : Gl X x := by rfl) (hdb : (x == ("__debug__" : Str)) = false := by decide) (he : starEach (e :: es) X.env = (false, eval e X.env) :: starEach es X.env := by rfl) (hpl : (backTo pos (starEach es X.env)).any (·.1) = false := by rfl) {n : Nat} (hn : ps.length = n := by rfl) :
    PE X (.Call (.Name x p) (e :: es) [] pos) (te X.K E (mApp n m ma)) := by
  subst hn
  refine ⟨fun pins s σ H Q I ⟨ρ, M, env, rl, re, h⟩ => wpAny_Call_Name_kw (ld_glob I hg hm ?_ hdb)⟩
  refine PySem.W.callWith_K (h₀ := X.base) I.ok.mod.kin hk (thn (ha.run pos pins s σ H (fun vs H1 => ∃ ρ1 M1 ws, Rl X.K ρ1 M1 H1 ∧ RVs X.K ρ1 H1 ws vs ∧ ws.length = ps.length ∧ Fin X.K ρ1 H1 (PV X.K Q) E (m ws M1)) I
    (ta_then rl re h fun ws M1 ρ1 H1 vs g1 rl1 re1 rv1 f1 => by obtain ⟨h0, f1⟩ := pick f1; exact ⟨ρ1, M1, ws, rl1, rv1, h0, f1⟩)) fun us s1 ⟨vs, H1, I1, r, ρ1, M1, ws, rl1, rv1, hl, f1⟩ => ⟨I1.kIn, ?_⟩) he hpl
  have h1 : vs.length = ps.length := by rw [← rv1.length]; exact hl
  have h2 := hb s1 us I1.kIn (by rw [List.append_nil, ← r.length]; exact h1)
  rw [List.append_nil] at h2
  exact callG F hr hgd hx I1 h2 r h1 rl1 rv1 f1
end
end Mi

namespace Mi
open PySem PySem.Spec PyProof.Rows L2

/-! ### keywords -/
def pick' {α : Type} (p : List Nat) (l : List α) : List α := p.filterMap fun i => l[i]?
theorem pick_vals : ∀ (p : List Nat) {vs : List V} {us : List Value}, Vals vs us → Vals (pick' p vs) (pick' p us)
  | [], _, _, _ => .nil
  | i :: p, vs, us, r => by
    unfold pick'
    rw [List.filterMap_cons, List.filterMap_cons]
    cases e : vs[i]? with
    | none => rw [r.none_of e]; exact pick_vals p r
    | some v =>
      obtain ⟨u, h1, h2⟩ := r.get e
      rw [h1]
      exact .cons h2 (pick_vals p r)
theorem pick_rvs {K : PySem.W.Frag} {ρ : Rn} {H : Hp} : ∀ (p : List Nat) {ws : List Wv} {vs : List V}, RVs K ρ H ws vs → RVs K ρ H (pick' p ws) (pick' p vs)
  | [], _, _, _ => rfl
  | i :: p, ws, vs, r => by
    unfold pick'
    rw [List.filterMap_cons, List.filterMap_cons]
    cases e : ws[i]? with
    | none =>
      have : vs[i]? = none := by
        rw [List.getElem?_eq_none_iff] at e ⊢
        rw [← r.length]; exact e
      rw [this]; exact pick_rvs p r
    | some w =>
      obtain ⟨v, h1, h2⟩ := r.get e
      rw [h1]
      exact ⟨v, _, rfl, h2, pick_rvs p r⟩
/-- a call with n written values, the keywords ks; perm: where each parameter's value stands among them -/
structure BK (fd : FuncData) (ps : List Str) (n : Nat) (ks : List Str) (perm : List Nat) : Prop where
  to : ∀ (s : Shared) (us ws : List Value), us.length = n → ws.length = ks.length → BindsTo s fd ⟨us, ks.zip ws⟩ (ps.zip (pick' perm (us ++ ws)))
theorem BK.of {K : PySem.W.Frag} {x qual : Str} {st : Stmt} {f : Addr} {fd : FuncData} {ps ks : List Str} {n : Nat} {perm : List Nat} (F : Fun K x qual st f fd)
    (h : ∀ (kV doc pm : Value) (an : Option Addr) (cdv ct : Value) (us ws : List Value), us.length = n → ws.length = ks.length → bindArgs (PySem.W.fnOf x qual (defArgs st) (defBody st) (defScope st) .none kV doc pm an cdv ct) ⟨us, ks.zip ws⟩ = pure (ps.zip (pick' perm (us ++ ws)))) : BK fd ps n ks perm := by
  obtain ⟨oc, od, kV, doc, pm, an, cdv, ct, osl, rfl, lk, hcd⟩ := F.ex
  exact ⟨fun s us ws h1 h2 => .of_eq (h kV doc pm an cdv ct us ws h1 h2)⟩
def mAppK (n j l : Nat) (perm : List Nat) (f : List Wv → Mem → R Wv) (a k : Ma) : Me := fun env M => (a env M).bind fun us M1 => (k env M1).bind fun ws M2 =>
  if us.length = j ∧ ws.length = l ∧ (pick' perm (us ++ ws)).length = n then f (pick' perm (us ++ ws)) M2 else .no
section
variable {X : Cx} {E : XK} {k n : Nat} {f : Addr} {fd : FuncData} {ps ks : List Str} {perm : List Nat} {m : List Wv → Mem → R Wv} {x : Str} {p pos kpos : Pos} {e : Expr} {es : List Expr} {ma mk : Ma} {me : Me} {kws : List Keyword} {nm : Option Str}
theorem k_nil : PK X [] (ta X.K E maN) := ⟨fun pos pins s σ H Q I ⟨ρ, M, env, rl, re, f⟩ => pk_nil.run pos pins s σ H Q I (f.here rl [] rfl)⟩
theorem k_cons (h : PE X e (te X.K E me)) (hr : PK X kws (ta X.K E ma)) : PK X (⟨nm, e, kpos⟩ :: kws) (ta X.K E (maC me ma)) := ⟨fun pos pins s σ H Q I ⟨ρ, M, env, rl, re, f⟩ =>
  (pk_cons h hr).run pos pins s σ H Q I (te_then rl re f fun x M1 ρ1 H1 v g1 rl1 re1 rv1 f1 => ta_then rl1 re1 f1 fun xs M2 ρ2 H2 vs g2 rl2 re2 rv2 f2 => f2.here rl2 (v :: vs) ⟨v, vs, rfl, RV.mono g2 x rv1, rv2⟩)⟩
/-- f(k = v, ..) -/
theorem e_callK0 (F : FnG X.prog X.w X.K X.mg X.base k f fd ps m) (hr : Room k X.A) (hgd : X.A.guards = some []) (hx : Passes (L2.CX X.prog X.w) X E) (hm : X.mg x = some (.ref f)) (hk : PySem.W.keepIn X.K (.ref f) = true) (hb : BK fd ps 0 ks perm) (hkw : PK X kws (ta X.K E mk))
    (hall : (backToKw pos (keywordEach kws X.env)).all (·.1.isSome) = true := by rfl) (hks : (backToKw pos (keywordEach kws X.env)).filterMap (·.1) = ks := by rfl)
    (hg : Gl X x := by rfl) (hdb : (x == ("__debug__" : Str)) = false := by decide) (hpl : ((backTo pos (starEach [] X.env)).any (·.1) || (backToKw pos (keywordEach kws X.env)).any (·.1.isNone)) = false := by rfl) {j l : Nat} (hj : ps.length = j := by rfl) (hl : ks.length = l := by rfl) :
    PE X (.Call (.Name x p) [] kws pos) (te X.K E (mAppK j 0 l perm m maN mk)) := by
  subst hj hl
  refine ⟨fun pins s σ H Q I ⟨ρ, M, env, rl, re, h⟩ => wpAny_Call_Name_kw (ld_glob I hg hm ?_ hdb)⟩
  have h : Fin X.K ρ H (PV X.K Q) E ((mk env M).bind fun ws M2 => if ([] : List Wv).length = 0 ∧ ws.length = ks.length ∧ (pick' perm ws).length = ps.length then m (pick' perm ws) M2 else .no) := h
  refine PySem.W.callWith_KW0 (h₀ := X.base) I.ok.mod.kin hk hall (thn (hkw.run pos pins s σ H (fun vs H1 => ∃ ρ1 M1 ws, Rl X.K ρ1 M1 H1 ∧ RVs X.K ρ1 H1 ws vs ∧ ws.length = ks.length ∧ (pick' perm ws).length = ps.length ∧ Fin X.K ρ1 H1 (PV X.K Q) E (m (pick' perm ws) M1)) I
    (ta_then rl re h fun ws M1 ρ1 H1 vs g1 rl1 re1 rv1 f1 => by obtain ⟨⟨_, h0, h2⟩, f1⟩ := pick f1; exact ⟨ρ1, M1, ws, rl1, rv1, h0, h2, f1⟩)) fun us s1 ⟨vs, H1, I1, r, ρ1, M1, ws, rl1, rv1, hl, hl2, f1⟩ => ⟨I1.kIn, ?_⟩) hpl
  have h1 : us.length = ks.length := by rw [← r.length, ← rv1.length]; exact hl
  have h2 := hb.to s1 [] us rfl h1
  rw [hks]
  exact callG F hr hgd hx I1 h2 (pick_vals perm r) (by rw [← (pick_rvs perm rv1).length]; exact hl2) rl1 (pick_rvs perm rv1) f1
/-- f(e, .., k = v, ..) -/
theorem e_callK (F : FnG X.prog X.w X.K X.mg X.base k f fd ps m) (hr : Room k X.A) (hgd : X.A.guards = some []) (hx : Passes (L2.CX X.prog X.w) X E) (hm : X.mg x = some (.ref f)) (hk : PySem.W.keepIn X.K (.ref f) = true) (hb : BK fd ps n ks perm) (ha : PA X (e :: es) (ta X.K E ma)) (hkw : PK X kws (ta X.K E mk))
    (hall : (backToKw pos (keywordEach kws X.env)).all (·.1.isSome) = true := by rfl) (hks : (backToKw pos (keywordEach kws X.env)).filterMap (·.1) = ks := by rfl)
    (hg : Gl X x := by rfl) (hdb : (x == ("__debug__" : Str)) = false := by decide) (he : starEach (e :: es) X.env = (false, eval e X.env) :: starEach es X.env := by rfl)
    (hpl : ((backTo pos (starEach (e :: es) X.env)).any (·.1) || (backToKw pos (keywordEach kws X.env)).any (·.1.isNone)) = false := by rfl) {j l : Nat} (hj : ps.length = j := by rfl) (hl : ks.length = l := by rfl) :
    PE X (.Call (.Name x p) (e :: es) kws pos) (te X.K E (mAppK j n l perm m ma mk)) := by
  subst hj hl
  refine ⟨fun pins s σ H Q I ⟨ρ, M, env, rl, re, h⟩ => wpAny_Call_Name_kw (ld_glob I hg hm ?_ hdb)⟩
  refine PySem.W.callWith_KW (h₀ := X.base) I.ok.mod.kin hk hall (thn (ha.run pos pins s σ H (fun us H1 => ∃ ρ1 M1 wu, Rl X.K ρ1 M1 H1 ∧ RVs X.K ρ1 H1 wu us ∧ RE X.K ρ1 H1 env σ ∧ Fin X.K ρ1 H1 (PV X.K Q) E ((mk env M1).bind fun ws M2 => if wu.length = n ∧ ws.length = ks.length ∧ (pick' perm (wu ++ ws)).length = ps.length then m (pick' perm (wu ++ ws)) M2 else .no)) I
    (ta_then rl re h fun wu M1 ρ1 H1 vs g1 rl1 re1 rv1 f1 => ⟨ρ1, M1, wu, rl1, rv1, re1, f1⟩)) fun us s1 ⟨vs, H1, I1, r, ρ1, M1, wu, rl1, rv1, re1, f1⟩ => ?_) hpl he
  refine thn (hkw.run pos pins s1 σ H1 (fun zs H2 => ∃ ρ2 M2 ws, Rl X.K ρ2 M2 H2 ∧ RVs X.K ρ2 H2 (wu ++ ws) (vs ++ zs) ∧ wu.length = n ∧ ws.length = ks.length ∧ (pick' perm (wu ++ ws)).length = ps.length ∧ RVs X.K ρ2 H2 ws zs ∧ Fin X.K ρ2 H2 (PV X.K Q) E (m (pick' perm (wu ++ ws)) M2)) I1
    (ta_then rl1 re1 f1 fun ws M2 ρ2 H2 zs g2 rl2 re2 rv2 f2 => by obtain ⟨⟨h0, h1, h2⟩, f2⟩ := pick f2; exact ⟨ρ2, M2, ws, rl2, (RVs.mono g2 wu rv1).append rv2, h0, h1, h2, rv2, f2⟩)) fun zu s2 ⟨zs, H2, I2, rz, ρ2, M2, ws, rl2, rv2, h0, h1, h2, rvz, f2⟩ => ⟨I2.kIn, ?_⟩
  have q0 : us.length = n := by rw [← r.length, ← rv1.length]; exact h0
  have q1 : zu.length = ks.length := by rw [← rz.length, ← rvz.length]; exact h1
  have hbb := hb.to s2 us zu q0 q1
  rw [hks]
  exact callG F hr hgd hx I2 hbb (pick_vals perm (r.append rz)) (by rw [← (pick_rvs perm rv2).length]; exact h2) rl2 (pick_rvs perm rv2) f2
end

/-! ### targets of loops -/
inductive Tg where
  | nm (i : Nat) | tp (is : List Nat)
def setAll {α : Type} (e : List (Option α)) : List Nat → List α → List (Option α)
  | i :: is, w :: ws => setAll (e.set i (some w)) is ws
  | _, _ => e
def Tg.set : Tg → Wv → Ev → Mem → R Ev
  | .nm i, w, env, M => .ok (env.set i (some w)) M
  | .tp is, w, env, M => match sqOf M w with
    | some (.t xs) => if xs.length = is.length then .ok (setAll env is xs) M else .no
    | _ => .no
def Tg.slots : Tg → List Nat
  | .nm i => [i]
  | .tp is => is
/-- what HandS reads of such a target -/
def tgR (K : PySem.W.Frag) : Tg → TG
  | .nm i => gName i
  | .tp is => fun v σ H Q => ∃ a vs, v = .ref a ∧ SqT K H a vs ∧ vs.length = is.length ∧ Q (setAll σ is vs) H
theorem re_all {K : PySem.W.Frag} {ρ : Rn} {H : Hp} : ∀ (is : List Nat) {ws : List Wv} {vs : List V} {env : Ev} {σ : L2.St}, RE K ρ H env σ → RVs K ρ H ws vs → RE K ρ H (setAll env is ws) (setAll σ is vs)
  | [], _, _, _, _, re, _ => re
  | i :: is, [], _, _, _, re, r => by cases r; exact re
  | i :: is, w :: ws, _, _, _, re, ⟨v, vr, e, h, r⟩ => by subst e; exact re_all is (re.set h) r
section
variable {X : Cx} {pos : Pos}
theorem g_nm {i : Nat} {x : Str} (hN : X.N.Nodup) (hi : X.N[i]? = some x := by rfl) (hx : Loc X.env.scope x := by first | exact Or.inl rfl | exact Or.inr rfl) (hf : X.fn x = true ∨ X.env.scope.names.lookup x = some .local := by first | exact .inl rfl | exact .inr rfl) : PG X (.Name x pos) (tgR X.K (.nm i)) := pg_name hN hi hx hf
/-- several names -/
def gAll (is : List Nat) : TGs := fun vs σ H Q => vs.length = is.length ∧ Q (setAll σ is vs) H
theorem PGs.imp {e : List Expr} {t t' : TGs} (h : PGs X e t) (k : ∀ vs σ H Q, t' vs σ H Q → t vs σ H Q) : PGs X e t' := ⟨fun pins s σ H vs us Q I r q => h.run pins s σ H vs us Q I r (k vs σ H Q q)⟩
theorem PG.imp {e : Expr} {t t' : TG} (h : PG X e t) (k : ∀ vs σ H Q, t' vs σ H Q → t vs σ H Q) : PG X e t' := ⟨fun pins s σ H vs us Q I r q => h.run pins s σ H vs us Q I r (k vs σ H Q q)⟩
theorem gs_nil : PGs X [] (gAll []) := PGs.imp pgs_nil fun vs σ H Q ⟨h, q⟩ => ⟨List.length_eq_zero_iff.mp h, by cases vs <;> exact q⟩
theorem gs_cons {i : Nat} {is : List Nat} {e : Expr} {es : List Expr} (h1 : PG X e (tgR X.K (.nm i))) (h2 : PGs X es (gAll is)) (hs : (assignEach (e :: es) X.env).map (·.2) = assign e X.env :: (assignEach es X.env).map (·.2) := by rfl) : PGs X (e :: es) (gAll (i :: is)) :=
  PGs.imp (pgs_cons h1 h2 hs) fun vs σ H Q ⟨h, q⟩ => by
    cases vs with
    | nil => cases h
    | cons v vs => exact ⟨v, vs, rfl, Nat.succ.inj h, q⟩
theorem g_tp {is : List Nat} {es : List Expr} {k : Nat} (hc : X.calm = true) (h : PGs X es (gAll is)) (hn : (assignEach es X.env).length = is.length := by rfl) (hst : (assignEach es X.env).findIdx? (·.1) = none := by rfl) : PG X (.Tuple es k pos) (tgR X.K (.tp is)) :=
  PG.imp (pg_tup hc h hn hst) fun v σ H Q ⟨a, vs, e, h1, h2, q⟩ => ⟨a, vs, e, h1, h2, h2, q⟩
end
theorem tg_in {K : PySem.W.Frag} {E : XK} {T : Tg} {ρ : Rn} {M : Mem} {H : Hp} {env : Ev} {σ : L2.St} {w : Wv} {v : V} {β : Type} {k : Ev → Mem → R β} {P : β → Mem → Rn → Hp → Prop} {Q : L2.St → Hp → Prop} (rl : Rl K ρ M H) (re : RE K ρ H env σ) (rv : RV K ρ H w v) (f : Fin K ρ H P E ((T.set w env M).bind k))
    (q : ∀ env1 σ1, RE K ρ H env1 σ1 → Fin K ρ H P E (k env1 M) → (∀ vs, (∀ i ∈ T.slots, i ∈ vs) → wipe σ1 vs = wipe σ vs) → Q σ1 H) : tgR K T v σ H Q := by
  have ws : ∀ (is : List Nat) (us : List V) (σ : L2.St) (vs : List Nat), (∀ i ∈ is, i ∈ vs) → wipe (setAll σ is us) vs = wipe σ vs := by
    have one : ∀ (vs : List Nat) (σ : L2.St) (i : Nat) (u : V), i ∈ vs → wipe (σ.set i (some u)) vs = wipe σ vs := by
      intro vs
      induction vs with
      | nil => intro σ i u h; cases h
      | cons x xs ih =>
        intro σ i u h
        unfold wipe
        by_cases hx : i ∈ xs
        · rw [ih σ i u hx]
        · have e : i = x := (List.mem_cons.mp h).resolve_right hx
          subst e
          have gen : ∀ (ys : List Nat) (τ : L2.St), (wipe (τ.set i (some u)) ys).set i none = (wipe τ ys).set i none := by
            intro ys
            induction ys with
            | nil => intro τ; simp [wipe]
            | cons y ys ih2 =>
              intro τ
              unfold wipe
              by_cases hy : y = i
              · subst hy; rw [List.set_set, List.set_set]; exact ih2 τ
              · rw [List.set_comm _ _ hy, List.set_comm _ _ hy, ih2 τ]
          exact gen xs σ
    intro is
    induction is with
    | nil => intro us σ vs _; cases us <;> rfl
    | cons i is ih =>
      intro us σ vs h
      cases us with
      | nil => rfl
      | cons u us =>
        show wipe (setAll (σ.set i (some u)) is us) vs = _
        rw [ih us _ vs fun j hj => h j (List.mem_cons_of_mem _ hj), one vs σ i u (h i List.mem_cons_self)]
  cases T with
  | nm i => exact q _ _ (re.set rv) f fun vs h => ws [i] [v] σ vs h
  | tp is =>
    have f : Fin K ρ H P E ((match sqOf M w with | some (.t xs) => (if xs.length = is.length then R.ok (setAll env is xs) M else .no) | _ => .no : R Ev).bind k) := f
    cases e : sqOf M w with
    | none => rw [e] at f; exact f.elim
    | some s =>
      cases s with
      | l xs => rw [e] at f; exact f.elim
      | t xs =>
        rw [e] at f
        have f : Fin K ρ H P E ((if xs.length = is.length then R.ok (setAll env is xs) M else .no : R Ev).bind k) := f
        by_cases hl : xs.length = is.length
        · rw [if_pos hl] at f
          obtain ⟨a, vs, rfl, h1, h2⟩ := sq_t_of e rv
          exact ⟨a, vs, rfl, h1, by rw [← h2.length]; exact hl, q _ _ (re_all is re h2) f fun vs' h => ws is vs σ vs' h⟩
        · rw [if_neg hl] at f; exact f.elim

/-! ### what loops walk -/
/-- the iterator J gives just ws, whatever else happens -/
structure ItOk (K : PySem.W.Frag) (J : It) (ws : List Wv) (ρ : Rn) (H : Hp) : Prop where
  go : ∀ ρ' H', Mv ρ H ρ' H' → ∀ i, i < ws.length → J.go i H'
  yld : ∀ ρ' H', Mv ρ H ρ' H' → ∀ (i : Nat) x H2 w, ws[i]? = some w → J.yld i H' x H2 → Gr ρ' H' ρ' H2 ∧ (∀ M, Rl K ρ' M H' → Rl K ρ' M H2) ∧ RV K ρ' H2 w x
  stop : ∀ ρ' H', Mv ρ H ρ' H' → J.stop ws.length H'
abbrev Mi' := Ev → Mem → R (List Wv)
def ti (K : PySem.W.Frag) (E : XK) (m : Mi') : TI := fun σ H R => ∃ ρ M env, Rl K ρ M H ∧ RE K ρ H env σ ∧ Fin K ρ H (fun ws _ ρ' H' => ∀ J, ItOk K J ws ρ' H' → R J H') E (m env M)
theorem PI.imp {X : Cx} {tg e : Expr} {t t' : TI} (h : PI X tg e t) (k : ∀ σ H R, t' σ H R → t σ H R) : PI X tg e t' := ⟨fun pins s σ H R I q => h.run pins s σ H R I (k σ H R q)⟩
section
variable {X : Cx} {E : XK} {tg l a b : Expr} {ml ma mb : Me} {p pos : Pos}
/-- a list or tuple that nobody changes -/
def mSeqI (a : Me) : Mi' := fun env M => (a env M).bind fun w M1 => match w with
  | .lst xs => .ok xs M1
  | .rdl xs => .ok xs M1
  | .tup xs => .ok xs M1
  | _ => .no
def iSeq (K : PySem.W.Frag) (tl : TE) : TI := fun σ H R => tl σ H fun x H1 => ∃ a, x = .ref a ∧ (((∃ xs, SqL K H1 a xs) ∧ R (Itl K a) H1) ∨ ((∃ xs, SqT K H1 a xs) ∧ R (Itt K a) H1))
theorem pi_seq {tl : TE} (hl : PE X l tl) : PI X tg l (iSeq X.K tl) := by
  refine ⟨fun pins s σ H R I h => thn (hl.run pins s σ H _ I h) fun v s1 ⟨x, H1, I1, rx, a, ex, q⟩ => ?_⟩
  subst ex
  cases rx
  have new : ∀ b ∈ [s1.heap.objs.size], FpOk X pins H1 b := fun b hb => by
    rw [List.mem_singleton.mp hb]
    exact I1.fpOk (Nat.le_refl _) (I1.hok.fresh (Nat.le_refl _))
  rcases q with ⟨⟨xs, hq⟩, q⟩ | ⟨⟨xs, hq⟩, q⟩
  · obtain ⟨its, _, pl, _⟩ := I1.list hq
    exact wpAny_pyIter_list pl.isList ⟨_, [s1.heap.objs.size], _, _, H1, rfl, I1.kept (t' := s1.toks) fun b o z => Heap.get?_push_of_some _ z, turn_list a _, ⟨_, Heap.get?_push_size _ rfl, rfl, rfl⟩, new, q⟩
  · obtain ⟨its, _, pl, _⟩ := I1.tuple hq
    exact wpAny_pyIter_tuple pl ⟨_, [s1.heap.objs.size], _, _, H1, rfl, I1.kept (t' := s1.toks) fun b o z => Heap.get?_push_of_some _ z, turn_tuple a _, ⟨_, Heap.get?_push_size _ rfl, rfl, rfl⟩, new, q⟩
theorem it_l {K : PySem.W.Frag} {ρ : Rn} {H : Hp} {a : Addr} {vs : List V} {ws : List Wv} (h : ∀ ρ' H', Mv ρ H ρ' H' → SqL K H' a vs) (r : RVs K ρ H ws vs) : ItOk K (Itl K a) ws ρ H :=
  ⟨fun ρ' H' g i hi => walk_list.goes i H' (by rw [← r.length]; exact hi) (h ρ' H' g), fun ρ' H' g i x H2 w hw y => by
    obtain ⟨rfl, hx⟩ := walk_list.yields i H' x H2 (by rw [← r.length]; exact (List.getElem?_eq_some_iff.mp hw).1) (h ρ' H' g) y
    obtain ⟨v, h1, h2⟩ := (RVs.move g ws r).get hw
    have e : x = v := Option.some.inj (hx.symm.trans h1)
    subst e
    exact ⟨Gr.refl _ _, fun _ z => z, h2⟩, fun ρ' H' g => by rw [r.length]; exact walk_list.stops H' (h ρ' H' g)⟩
theorem it_t {K : PySem.W.Frag} {ρ : Rn} {H : Hp} {a : Addr} {vs : List V} {ws : List Wv} (h : ∀ ρ' H', Mv ρ H ρ' H' → SqT K H' a vs) (r : RVs K ρ H ws vs) : ItOk K (Itt K a) ws ρ H :=
  ⟨fun ρ' H' g i hi => walk_tup.goes i H' (by rw [← r.length]; exact hi) (h ρ' H' g), fun ρ' H' g i x H2 w hw y => by
    obtain ⟨rfl, hx⟩ := walk_tup.yields i H' x H2 (by rw [← r.length]; exact (List.getElem?_eq_some_iff.mp hw).1) (h ρ' H' g) y
    obtain ⟨v, h1, h2⟩ := (RVs.move g ws r).get hw
    have e : x = v := Option.some.inj (hx.symm.trans h1)
    subst e
    exact ⟨Gr.refl _ _, fun _ z => z, h2⟩, fun ρ' H' g => by rw [r.length]; exact walk_tup.stops H' (h ρ' H' g)⟩
theorem i_seq (hl : PE X l (te X.K E ml)) : PI X tg l (ti X.K E (mSeqI ml)) := PI.imp (pi_seq hl) fun σ H R ⟨ρ, M, env, rl, re, f⟩ => te_then rl re f fun w M1 ρ1 H1 v g1 rl1 re1 rv1 f1 => by
  cases w with
  | lst xs =>
    obtain ⟨a, vs, rfl, h, r⟩ := rv1
    exact ⟨a, rfl, .inl ⟨⟨vs, SqL.of h.1⟩, f1.here rl1 _ (it_l (fun ρ' H' g => SqL.of (g.go _ _ h).1) r)⟩⟩
  | rdl xs =>
    obtain ⟨a, vs, rfl, h, r⟩ := rv1
    exact ⟨a, rfl, .inl ⟨⟨vs, sq_l h⟩, f1.here rl1 _ (it_l (fun ρ' H' g => sq_l (h.imp g.rd id)) r)⟩⟩
  | tup xs =>
    obtain ⟨a, vs, rfl, h, r⟩ := rv1
    exact ⟨a, rfl, .inr ⟨⟨vs, sq_t h⟩, f1.here rl1 _ (it_t (fun ρ' H' g => sq_t (h.imp (g.go _ _) id)) r)⟩⟩
  | _ => exact f1.elim
/-- range -/
def rng (lo : Int) (n : Nat) : List Wv := (List.range n).map fun i => Wv.int (lo + (i : Nat))
def mRng1 (a : Me) : Mi' := fun env M => (a env M).bind fun w M1 => match w with
  | .int j => if -1000000 ≤ j ∧ j ≤ 1000000 then .ok (rng 0 j.toNat) M1 else .no
  | _ => .no
def mRng2 (a b : Me) : Mi' := fun env M => (a env M).bind fun u M1 => (b env M1).bind fun w M2 => match u, w with
  | .int i, .int j => if -1000000 ≤ i ∧ i ≤ 1000000 ∧ -1000000 ≤ j ∧ j ≤ 1000000 then .ok (rng i (j - i).toNat) M2 else .no
  | _, _ => .no
theorem it_r {K : PySem.W.Frag} {ρ : Rn} {H : Hp} {lo : Int} {n : Nat} : ItOk K (Itr lo n) (rng lo n) ρ H := by
  have hl : (rng lo n).length = n := by simp [rng]
  refine ⟨fun ρ' H' g i hi => by rw [hl] at hi; exact hi, fun ρ' H' g i x H2 w hw y => ?_, fun ρ' H' g => by rw [hl]; exact Nat.le_refl _⟩
  obtain ⟨rfl, rfl⟩ := y
  have e : Wv.int (lo + (i : Nat)) = w := by
    unfold rng at hw
    rw [List.getElem?_map] at hw
    obtain ⟨j, h1, h2⟩ := Option.map_eq_some_iff.mp hw
    obtain ⟨h3, h4⟩ := List.getElem?_eq_some_iff.mp h1
    rw [List.getElem_range] at h4
    subst h4
    exact h2
  subst e
  exact ⟨Gr.refl _ _, fun _ z => z, rfl⟩
theorem i_rng1 (hm : X.mg "range" = none) (ha : PE X a (te X.K E ma)) (hg : Gl X "range" := by rfl) (hs : starEach [a] X.env = [(false, eval a X.env)] := by rfl) : PI X tg (.Call (.Name "range" p) [a] [] pos) (ti X.K E (mRng1 ma)) :=
  PI.imp (pi_range1 hg hm (pa_cons ha pa_nil hs) hs) fun σ H R ⟨ρ, M, env, rl, re, f⟩ => te_then rl re f fun w M1 ρ1 H1 v g1 rl1 re1 rv1 f1 => by
    cases w with
    | int j =>
      obtain ⟨h0, f1⟩ := pick f1
      cases rv1
      exact ⟨j, rfl, by omega, by omega, f1.here rl1 _ it_r⟩
    | _ => exact f1.elim
theorem i_rng2 (hm : X.mg "range" = none) (ha : PE X a (te X.K E ma)) (hb : PE X b (te X.K E mb)) (hg : Gl X "range" := by rfl) (hs : starEach [a, b] X.env = [(false, eval a X.env), (false, eval b X.env)] := by rfl) (hs2 : starEach [b] X.env = [(false, eval b X.env)] := by rfl) : PI X tg (.Call (.Name "range" p) [a, b] [] pos) (ti X.K E (mRng2 ma mb)) :=
  PI.imp (pi_range2 hg hm (pa_cons ha (pa_cons hb pa_nil hs2) (hs.trans (by rw [hs2]))) hs hs2) fun σ H R ⟨ρ, M, env, rl, re, f⟩ => te_then rl re f fun u M1 ρ1 H1 x g1 rl1 re1 rv1 f1 => te_then rl1 re1 f1 fun w M2 ρ2 H2 y g2 rl2 re2 rv2 f2 => by
    cases u <;> cases w <;> first | exact f2.elim | skip
    obtain ⟨h0, f2⟩ := pick f2
    cases rv1
    cases rv2
    exact ⟨_, _, rfl, ⟨by omega, by omega, by omega, by omega⟩, f2.here rl2 _ it_r⟩
end

/-! ### for, while -/
def forW (T : Tg) (b : Ms) : List Wv → Ms
  | [], env, M => .ok (.nx env) M
  | w :: ws, env, M => (T.set w env M).bind fun env1 M1 => (b env1 M1).bind fun fl M2 => match fl with
    | .nx env2 => forW T b ws env2 M2
    | .ct env2 => forW T b ws env2 M2
    | .bk env2 => .ok (.nx env2) M2
    | .ret v => .ok (.ret v) M2
def sFor (T : Tg) (m : Mi') (b : Ms) : Ms := fun env M => (m env M).bind fun ws M1 => forW T b ws env M1
def whileW (t : Mt) (b : Ms) : Nat → Ms
  | 0, _, _ => .no
  | n + 1, env, M => (t env M).bind fun c M1 => if c = true then (b env M1).bind fun fl M2 => match fl with
      | .nx env2 => whileW t b n env2 M2
      | .ct env2 => whileW t b n env2 M2
      | .bk env2 => .ok (.nx env2) M2
      | .ret v => .ok (.ret v) M2
    else .ok (.nx env) M1
section
variable {X : Cx} {E : XK} {tg iter c : Expr} {body : List Stmt} {T : Tg} {mi : Mi'} {b : Ms} {t : Mt} {pos : Pos}
theorem s_for (hp : PassesOwn (model X.prog X.w) X.A X.env X.xe) (hc : X.calm = true) (hi : PI X tg iter (ti X.K E mi)) (hg : PG X tg (tgR X.K T)) (hb : PSs X body (ts X.K E b)) (hs : ∀ x, foldedSetIterable iter X.env x = pure x := by intro _; rfl) :
    PS X (.For tg iter body [] pos) (ts X.K E (sFor T mi b)) := PS.imp (ps_for hp hc hi hg hb hs) fun D σ H ⟨ρ, M, env, rl, re, f⟩ => by
  refine ⟨ρ, M, env, rl, re, f.bind.imp fun ws M1 ρ1 H1 g1 rl1 f1 J hJ => ?_⟩
  refine ⟨fun i m σ' H' => m = ws.length - i ∧ i ≤ ws.length ∧ ∃ ρ' M' env', Gr ρ1 H1 ρ' H' ∧ Rl X.K ρ' M' H' ∧ RE X.K ρ' H' env' σ' ∧ Fin X.K ρ' H' (PF X.K D) E (forW T b (ws.drop i) env' M'), ⟨ws.length, by simp, Nat.zero_le _, ρ1, M1, env, Gr.refl _ _, rl1, re.mono g1, f1⟩, ?_⟩
  rintro i m σ' H' ⟨rfl, hi, ρ', M', env', g', rl', re', f'⟩
  by_cases hlt : i < ws.length
  · refine .inr ⟨hJ.go ρ' H' g'.mv i hlt, fun σ2 H2 => ∃ ρ2 M2 env2, Gr ρ1 H1 ρ2 H2 ∧ Rl X.K ρ2 M2 H2 ∧ RE X.K ρ2 H2 env2 σ2 ∧ Fin X.K ρ2 H2 (PF X.K D) E (forW T b (ws.drop (i + 1)) env2 M2), fun σ2 H2 z => ⟨ws.length - (i + 1), by omega, rfl, hlt, z⟩, fun x H2 y => ?_⟩
    obtain ⟨g2, k2, rv2⟩ := hJ.yld ρ' H' g'.mv i x H2 ws[i] (List.getElem?_eq_getElem hlt) y
    rw [List.drop_eq_getElem_cons hlt] at f'
    refine tg_in (k2 M' rl') (re'.mono g2) rv2 (Fin.from g2 f') fun env3 σ3 re3 f3 _ => ?_
    refine ⟨ρ', M', env3, k2 M' rl', re3, f3.bind.imp fun fl M4 ρ4 H4 g4 rl4 f4 => ?_⟩
    cases fl with
    | nx env4 => exact fun σ4 re4 => ⟨ρ4, M4, env4, (g'.trans g2).trans g4, rl4, re4, f4⟩
    | ct env4 => exact fun σ4 re4 => ⟨ρ4, M4, env4, (g'.trans g2).trans g4, rl4, re4, f4⟩
    | bk env4 => exact fun σ4 re4 => f4.here rl4 σ4 re4
    | ret w => exact f4.here rl4
  · have e : i = ws.length := by omega
    subst e
    rw [List.drop_length] at f'
    exact .inl ⟨hJ.stop ρ' H' g'.mv, f'.here rl' σ' re'⟩
theorem s_while (n : Nat) (hp : PassesOwn (model X.prog X.w) X.A X.env X.xe) (hc : PT X c (tt X.K E t)) (hb : PSs X body (ts X.K E b)) : PS X (.While c body [] pos) (ts X.K E (whileW t b n)) := PS.imp (ps_while hp hc hb) fun D σ H h => by
  refine ⟨fun m σ H => ts X.K E (whileW t b m) D σ H, ⟨n, h⟩, fun m σ H ⟨ρ, M, env, rl, re, f⟩ => ?_⟩
  cases m with
  | zero => exact f.elim
  | succ m =>
    refine tt_then rl re f fun c M1 ρ1 H1 g1 rl1 re1 f1 => ?_
    cases c with
    | false => exact f1.here rl1 _ re1
    | true =>
      refine ⟨fun σ' H' => ts X.K E (whileW t b m) D σ' H', fun σ' H' z => ⟨m, Nat.lt_succ_self _, z⟩, ?_⟩
      refine ⟨ρ1, M1, env, rl1, re1, f1.bind.imp fun fl M2 ρ2 H2 g2 rl2 f2 => ?_⟩
      cases fl with
      | nx env2 => exact fun σ2 re2 => ⟨ρ2, M2, env2, rl2, re2, f2⟩
      | ct env2 => exact fun σ2 re2 => ⟨ρ2, M2, env2, rl2, re2, f2⟩
      | bk env2 => exact fun σ2 re2 => f2.here rl2 σ2 re2
      | ret w => exact f2.here rl2
end
end Mi

namespace Mi
open PySem PySem.Spec PyProof.Rows L2

/-! ### comprehensions: the new list is locked while it is made -/
def Rn.lock (ρ : Rn) (D : Addr) : Rn := ⟨ρ.l, D :: ρ.f⟩
section
variable {K : PySem.W.Frag} {ρ ρ' : Rn} {M : Mem} {H H' : Hp} {D : Addr} {o : HO}
theorem RO.move (g : Mv ρ H ρ' H') {a : Addr} (ha : H' a = H a) {b : Ob} (h : RO K ρ H a b) : RO K ρ' H' a b := by
  cases b with
  | lst ws =>
    obtain ⟨vs, h1, h2⟩ := h
    exact ⟨vs, by rw [ha]; exact h1, RVs.move g ws h2⟩
theorem mv_lock (h : H D = none) : Mv ρ H (ρ.lock D) (upd H D o) := ⟨fun a u ⟨h1, h2⟩ => by
  have ne := ne_of_none h1 h
  refine ⟨by rw [upd_ne ne]; exact h1, h2.1, fun z => ?_⟩
  rcases List.mem_cons.mp z with z | z
  · exact ne z
  · exact h2.2 z, fun _ _ h => h⟩
theorem mv_turn (hD : D ∈ ρ.f) : Mv ρ H ρ (upd H D o) := ⟨fun a u ⟨h1, h2⟩ => ⟨by rw [upd_ne (fun z => h2.2 (by rw [z]; exact hD))]; exact h1, h2⟩, fun _ _ h => h⟩
theorem rl_lock (rl : Rl K ρ M H) (h : H D = none) : Rl K (ρ.lock D) M (upd H D o) := by
  refine ⟨rl.nd, rl.len, fun n b e => ?_, fun a ha => ?_⟩
  · obtain ⟨a, h1, h2⟩ := rl.ob n b e
    refine ⟨a, h1, RO.move (mv_lock h) (upd_ne fun z => ?_) h2⟩
    subst z
    exact (rl.out h).1 (List.mem_of_getElem? h1)
  · rcases List.mem_cons.mp ha with z | z
    · subst z
      exact ⟨(rl.out h).1, _, upd_same⟩
    · obtain ⟨h1, u, h2⟩ := rl.fs a z
      exact ⟨h1, u, by rw [upd_ne (ne_of_none h2 h)]; exact h2⟩
theorem rl_turn (rl : Rl K ρ M H) (hD : D ∈ ρ.f) : Rl K ρ M (upd H D o) := by
  refine ⟨rl.nd, rl.len, fun n b e => ?_, fun a ha => ?_⟩
  · obtain ⟨a, h1, h2⟩ := rl.ob n b e
    refine ⟨a, h1, RO.move (mv_turn hD) (upd_ne fun z => ?_) h2⟩
    subst z
    exact (rl.fs a hD).1 (List.mem_of_getElem? h1)
  · obtain ⟨h1, u, h2⟩ := rl.fs a ha
    by_cases z : a = D
    · subst z
      exact ⟨h1, _, upd_same⟩
    · exact ⟨h1, u, by rw [upd_ne z]; exact h2⟩
end
def noX {α : Type} (r : R α) : R α := match r with
  | .ok a M => .ok a M
  | _ => .no
def wipeE (e : Ev) : List Nat → Ev
  | [] => e
  | v :: vs => (wipeE e vs).set v none
theorem re_wipe {K : PySem.W.Frag} {ρ : Rn} {H : Hp} {env : Ev} {σ : L2.St} (r : RE K ρ H env σ) : ∀ vs, RE K ρ H (wipeE env vs) (wipe σ vs)
  | [] => r
  | v :: vs => by
    have ih := re_wipe r vs
    refine ⟨by unfold wipeE wipe; rw [List.length_set, List.length_set]; exact ih.1, fun i w e => ?_⟩
    unfold wipeE at e
    unfold wipe
    by_cases hv : v = i
    · subst hv
      rw [List.getElem?_set] at e
      split at e
      · split at e <;> cases e
      · rename_i q; exact absurd rfl q
    · rw [List.getElem?_set_ne hv] at e ⊢
      exact ih.2 i w e
def lcW (T : Tg) (t : Mt) (e : Me) (env : Ev) : List Wv → List Wv → Mem → R Wv
  | [], acc, M => .ok (.lst acc) M
  | w :: ws, acc, M => (noX (T.set w env M)).bind fun env1 M1 => (noX (t env1 M1)).bind fun c M2 =>
    if c = true then (noX (e env1 M2)).bind fun x M3 => if acc.length < lim then lcW T t e env ws (acc ++ [x]) M3 else .no
    else lcW T t e env ws acc M2
def mLc (vs : List Nat) (T : Tg) (m : Mi') (t : Mt) (e : Me) : Me := fun env M => (m env M).bind fun ws M1 => lcW T t e (wipeE env vs) ws [] M1
def mtYes : Mt := fun _ M => .ok true M
theorem fin_noX {α β : Type} {K : PySem.W.Frag} {ρ ρ' : Rn} {H H' : Hp} {P : β → Mem → Rn → Hp → Prop} {E E' : XK} {r : R α} {k : α → Mem → R β} (h : Fin K ρ H P E ((noX r).bind k)) : Fin K ρ' H' (fun a M _ _ => Fin K ρ H P E (k a M)) E' r := by
  cases r with
  | ok a M => exact fun _ _ _ _ => h
  | exc x M => exact h.elim
  | no => exact h.elim
/-- from a state with the lock to the one without -/
structure Lk (D : Addr) (ρ : Rn) (H : Hp) (ρ' : Rn) (H' : Hp) : Prop where
  f : ρ'.f = D :: ρ.f
  pre : ∃ t, ρ'.l = ρ.l ++ t
  keep : ∀ a o, a ∉ ρ.l → H a = some o → H' a = some o
  new : ∀ a, a ∈ ρ'.l → a ∈ ρ.l ∨ H a = none
theorem Lk.on {D : Addr} {ρ ρ1 ρ2 : Rn} {H H1 H2 : Hp} (a : Lk D ρ H ρ1 H1) (b : Gr ρ1 H1 ρ2 H2) : Lk D ρ H ρ2 H2 := by
  have hl : ∀ x o, x ∉ ρ.l → H x = some o → x ∉ ρ1.l := fun x o h e z => (a.new x z).elim h fun q => by rw [e] at q; cases q
  refine ⟨b.same.trans a.f, ?_, fun x o h e => b.keep x o (hl x o h e) (a.keep x o h e), fun x h => ?_⟩
  · obtain ⟨t, e1⟩ := a.pre
    obtain ⟨u, e2⟩ := b.pre
    exact ⟨t ++ u, by rw [e2, e1, List.append_assoc]⟩
  · rcases b.new x h with q | q
    · exact a.new x q
    · by_cases hx : x ∈ ρ.l
      · exact .inl hx
      · refine .inr ?_
        cases e : H x with
        | none => rfl
        | some o => rw [a.keep x o hx e] at q; cases q
theorem Lk.turn {D : Addr} {ρ ρ1 : Rn} {H H1 : Hp} {o : HO} (hD : H D = none) (a : Lk D ρ H ρ1 H1) : Lk D ρ H ρ1 (upd H1 D o) :=
  ⟨a.f, a.pre, fun x u h e => by rw [upd_ne (ne_of_none e hD)]; exact a.keep x u h e, a.new⟩
theorem Lk.mv {D : Addr} {ρ ρ1 : Rn} {H H1 : Hp} (hD : H D = none) (a : Lk D ρ H ρ1 H1) : Mv ρ H ρ1 H1 := by
  refine ⟨fun x u ⟨h1, h2⟩ => ⟨a.keep x u h2.1 h1, fun z => ?_, fun z => ?_⟩, fun n x h => ?_⟩
  · rcases a.new x z with q | q
    · exact h2.1 q
    · rw [h1] at q; cases q
  · rw [a.f] at z
    rcases List.mem_cons.mp z with q | q
    · rw [q, hD] at h1; cases h1
    · exact h2.2 q
  · obtain ⟨t, e⟩ := a.pre
    rw [e, List.getElem?_append_left (List.getElem?_eq_some_iff.mp h).1]
    exact h
theorem Lk.off {D : Addr} {ρ ρ1 : Rn} {H H1 : Hp} (a : Lk D ρ H ρ1 H1) : Gr ρ H ⟨ρ1.l, ρ.f⟩ H1 := ⟨a.pre, rfl, a.keep, a.new⟩
section
variable {X : Cx} {E : XK} {elt tg iter : Expr} {ifs : List Expr} {scope : Scope} {own : List (Str × Nat)} {pos spos : Pos} {T : Tg} {mi : Mi'} {mt : Mt} {me : Me} {vs : List Nat}
theorem lc_in {K : PySem.W.Frag} {σ : L2.St} {H : Hp} {Q : VK} (hT : ∀ i ∈ T.slots, i ∈ vs) (h : te K E (mLc vs T mi mt me) σ H Q) : tLc (ti K E mi) (tgR K T) (tt K E0 mt) (te K E0 me) vs σ H Q := by
  obtain ⟨ρ, M, env, rl, re, f⟩ := h
  refine ⟨ρ, M, env, rl, re, f.bind.imp fun ws M1 ρ1 H1 g1 rl1 f1 J hJ D hD => ?_⟩
  refine ⟨fun i m H' => m = ws.length - i ∧ i ≤ ws.length ∧ ∃ ρ' M' acc us, Lk D ρ1 H1 ρ' H' ∧ Rl K ρ' M' H' ∧ H' D = some (.lst us) ∧ RVs K ρ' H' acc us ∧ RE K ρ' H' (wipeE env vs) (wipe σ vs) ∧ Fin K ρ1 H1 (PV K Q) E (lcW T mt me (wipeE env vs) (ws.drop i) acc M'),
    ⟨ws.length, by simp, Nat.zero_le _, ρ1.lock D, M1, [], [], ⟨rfl, ⟨[], by simp [Rn.lock]⟩, fun a o _ e => by rw [upd_ne (ne_of_none e hD)]; exact e, fun a z => .inl z⟩, rl_lock rl1 hD, upd_same, rfl, (re_wipe (re.mono g1) vs).move (mv_lock hD), f1⟩, ?_⟩
  rintro i m H' ⟨rfl, hi, ρ', M', acc, us, lk, rl', hu, rv', re', f'⟩
  have hDf : D ∈ ρ'.f := by rw [lk.f]; exact List.mem_cons_self
  by_cases hlt : i < ws.length
  · refine .inr ⟨hJ.go ρ' H' (lk.mv hD) i hlt, fun H2 => ∃ ρ2 M2 acc us, Lk D ρ1 H1 ρ2 H2 ∧ Rl K ρ2 M2 H2 ∧ H2 D = some (.lst us) ∧ RVs K ρ2 H2 acc us ∧ RE K ρ2 H2 (wipeE env vs) (wipe σ vs) ∧ Fin K ρ1 H1 (PV K Q) E (lcW T mt me (wipeE env vs) (ws.drop (i + 1)) acc M2),
      fun H2 z => ⟨ws.length - (i + 1), by omega, rfl, hlt, z⟩, fun x H2 y => ?_⟩
    obtain ⟨g2, k2, rv2⟩ := hJ.yld ρ' H' (lk.mv hD) i x H2 ws[i] (List.getElem?_eq_getElem hlt) y
    rw [List.drop_eq_getElem_cons hlt] at f'
    have wi : wipe (wipe σ vs) vs = wipe σ vs := by
      have one : ∀ (xs : List Nat) (τ : L2.St) (i : Nat), i ∈ xs → (wipe τ xs).set i none = wipe τ xs := by
        intro xs
        induction xs with
        | nil => intro τ i h; cases h
        | cons x xs ih =>
          intro τ i h
          unfold wipe
          by_cases hx : i = x
          · subst hx; rw [List.set_set]
          · rw [List.set_comm _ _ (Ne.symm hx), ih τ i ((List.mem_cons.mp h).resolve_left hx)]
      have sub : ∀ (xs : List Nat), (∀ i ∈ xs, i ∈ vs) → wipe (wipe σ vs) xs = wipe σ vs := by
        intro xs
        induction xs with
        | nil => intro _; rfl
        | cons x xs ih =>
          intro h
          show (wipe (wipe σ vs) xs).set x none = _
          rw [ih fun j hj => h j (List.mem_cons_of_mem _ hj)]
          exact one vs σ x (h x List.mem_cons_self)
      exact sub vs fun _ h => h
    refine tg_in (E := E0) (β := Ev) (P := fun env1 M2 _ _ => Fin K ρ1 H1 (PV K Q) E ((noX (mt env1 M2)).bind fun c M2 => if c = true then (noX (me env1 M2)).bind fun x M3 => if acc.length < lim then lcW T mt me (wipeE env vs) (ws.drop (i + 1)) (acc ++ [x]) M3 else .no else lcW T mt me (wipeE env vs) (ws.drop (i + 1)) acc M2)) (k := fun e M => .ok e M)
      (k2 M' rl') (re'.mono g2) rv2 ?_ fun env3 σ3 re3 f3 hw => ?_
    · have z := fin_noX (ρ' := ρ') (H' := H2) (E' := E0) f'
      have f' : Fin K ρ1 H1 (PV K Q) E ((noX (T.set ws[i] (wipeE env vs) M')).bind fun env1 M1 => (noX (mt env1 M1)).bind fun c M2 => if c = true then (noX (me env1 M2)).bind fun x M3 => if acc.length < lim then lcW T mt me (wipeE env vs) (ws.drop (i + 1)) (acc ++ [x]) M3 else .no else lcW T mt me (wipeE env vs) (ws.drop (i + 1)) acc M2) := f'
      cases q : T.set ws[i] (wipeE env vs) M' with
      | ok a M => rw [q] at z; exact fun ρ3 H3 g3 rl3 => z ρ3 H3 g3 rl3
      | exc a M => rw [q] at f'; exact f'.elim
      | no => rw [q] at f'; exact f'.elim
    have f3 := f3.here (k2 M' rl')
    refine ⟨(hw vs hT).trans wi, ρ', M', env3, k2 M' rl', re3, (fin_noX f3).imp fun c M4 ρ4 H4 g4 rl4 f4 => ?_⟩
    have gg := g2.trans g4
    have lk4 := lk.on gg
    have hu4 : H4 D = some (.lst us) := gg.keep D _ (rl'.fs D hDf).1 hu
    have rv4 := RVs.mono gg acc rv'
    have re4 := re'.mono gg
    cases c with
    | false => exact ⟨ρ4, M4, acc, us, lk4, rl4, hu4, rv4, re4, f4⟩
    | true =>
      have f4 : Fin K ρ1 H1 (PV K Q) E ((noX (me env3 M4)).bind fun x M3 => if acc.length < lim then lcW T mt me (wipeE env vs) (ws.drop (i + 1)) (acc ++ [x]) M3 else .no) := f4
      refine ⟨ρ4, M4, env3, rl4, re3.mono g4, (fin_noX f4).imp fun y M5 ρ5 H5 g5 rl5 f5 v rv5 => ?_⟩
      obtain ⟨h0, f5⟩ := pick f5
      have hDf4 : D ∈ ρ4.f := by rw [lk4.f]; exact List.mem_cons_self
      have hDf5 : D ∈ ρ5.f := by rw [g5.same]; exact hDf4
      have hu5 : H5 D = some (.lst us) := g5.keep D _ (rl4.fs D hDf4).1 hu4
      refine ⟨us, hu5, by rw [← rv4.length]; exact lim_lt h0, ρ5, M5, acc ++ [y], us ++ [v], (lk4.on g5).turn hD, rl_turn rl5 hDf5, upd_same, ?_, (re4.mono g5).move (mv_turn hDf5), f5⟩
      exact RVs.move (mv_turn hDf5) _ ((RVs.mono g5 acc rv4).append ⟨v, [], rfl, rv5, rfl⟩)
  · have e : i = ws.length := by omega
    subst e
    rw [List.drop_length] at f'
    refine .inl ⟨hJ.stop ρ' H' (lk.mv hD), ?_⟩
    have off : Mv ρ' H' ⟨ρ'.l, ρ1.f⟩ H' := ⟨fun a u ⟨h1, h2⟩ => ⟨h1, h2.1, fun z => h2.2 (by rw [lk.f]; exact List.mem_cons_of_mem _ z)⟩, fun _ _ h => h⟩
    have rl2 : Rl K ⟨ρ'.l, ρ1.f⟩ M' H' := by
      refine ⟨rl'.nd, rl'.len, fun n b e => ?_, fun a ha => rl'.fs a (by rw [lk.f]; exact List.mem_cons_of_mem _ ha)⟩
      obtain ⟨a, h1, h2⟩ := rl'.ob n b e
      exact ⟨a, h1, RO.move off rfl h2⟩
    exact f' ⟨ρ'.l, ρ1.f⟩ H' lk.off rl2 _ ⟨D, us, rfl, ⟨hu, (rl'.fs D hDf).1, (rl1.out hD).2⟩, RVs.move off acc rv'⟩
theorem e_lc (hc : X.calm = true) (hN : X.N.Nodup) (hi : PI X tg iter (ti X.K E mi)) (ok : BlkOk X.N X.env.scope scope own) (hT : ∀ i ∈ T.slots, i ∈ vs)
    (hg : ∀ (s : Shared) (H : Hp) (C : Addr) (cl : List (Str × Addr)) (fp : List Addr), PG (X.blk s H scope (compEnvC scope cl C X.env) fp) tg (tgR X.K T)) (ht : ∀ (s : Shared) (H : Hp) (C : Addr) (cl : List (Str × Addr)) (fp : List Addr), PTs (X.blk s H scope (compEnvC scope cl C X.env) fp) ifs (tt X.K E0 mt))
    (he : ∀ (s : Shared) (H : Hp) (C : Addr) (cl : List (Str × Addr)) (fp : List Addr), PE (X.blk s H scope (compEnvC scope cl C X.env) fp) elt (te X.K E0 me)) (hs : ∀ x, foldedSetIterable iter X.env x = pure x := by intro _; rfl) (hv : own.map (·.2) = vs := by rfl) :
    PE X (.ListComp elt [⟨tg, iter, ifs, 0⟩] scope pos) (te X.K E (mLc vs T mi mt me)) := by
  subst hv
  exact PE.imp (pe_lc hc hN hi ok hg ht he hs) fun _ _ _ h => lc_in hT h
theorem s_setLc {i : Nat} {y : Str} {py : Pos} (hc : X.calm = true) (hN : X.N.Nodup) (hsw : swapsWith (.ListComp elt [⟨tg, iter, ifs, 0⟩] scope pos) (some (.Name y py)) spos.line X.env = pure true) (hi : PI X tg iter (ti X.K E mi)) (ok : BlkOk X.N X.env.scope scope own) (hT : ∀ i ∈ T.slots, i ∈ vs)
    (hg : ∀ (s : Shared) (H : Hp) (C : Addr) (cl : List (Str × Addr)) (fp : List Addr), PG (X.blk s H scope (compEnvC scope cl C X.env) fp) tg (tgR X.K T)) (ht : ∀ (s : Shared) (H : Hp) (C : Addr) (cl : List (Str × Addr)) (fp : List Addr), PTs (X.blk s H scope (compEnvC scope cl C X.env) fp) ifs (tt X.K E0 mt))
    (he : ∀ (s : Shared) (H : Hp) (C : Addr) (cl : List (Str × Addr)) (fp : List Addr), PE (X.blk s H scope (compEnvC scope cl C X.env) fp) elt (te X.K E0 me)) (hs : ∀ x, foldedSetIterable iter X.env x = pure x := by intro _; rfl)
    (hy : X.N[i]? = some y := by rfl) (hyl : X.env.scope.names.lookup y = some .local := by rfl) (hv : own.map (·.2) = vs := by rfl) :
    PS X (.Assign [.Name y py] (.ListComp elt [⟨tg, iter, ifs, 0⟩] scope pos) spos) (ts X.K E (sSet i (mLc vs T mi mt me))) := by
  subst hv
  refine PS.imp (ps_setLc hc hN hy hyl hsw hi ok hg ht he hs) fun D σ H ⟨ρ, M, env, rl, re, f⟩ => ?_
  refine lc_in (mi := mi) (mt := mt) (me := me) hT (te_then (m := mLc (own.map (·.2)) T mi mt me) rl re f fun w M1 ρ1 H1 v g1 rl1 re1 rv1 f1 => f1.here rl1 _ (re1.set rv1))
theorem ts_nil : PTs X [] (tt X.K E mtYes) := ⟨fun pins s σ H Q I ⟨ρ, M, env, rl, re, f⟩ => pts_nil.run pins s σ H Q I (f.here rl)⟩
theorem ts_one {c : Expr} (h : PT X c (tt X.K E mt)) : PTs X [c] (tt X.K E mt) := pts_one h
end
end Mi

namespace Mi
open PySem PySem.Spec PyProof.Rows L2

/-! ### the law's end -/
theorem rvs_ints {K : PySem.W.Frag} {ρ : Rn} {H : Hp} : ∀ ns : List Int, RVs K ρ H (ns.map Wv.int) (ns.map V.int)
  | [] => rfl
  | n :: ns => ⟨.int n, _, rfl, rfl, rvs_ints ns⟩
theorem law_in {P : Program} {w : World} {K : PySem.W.Frag} {mg mb : Str → Option Value} {k : Nat} {fa a : Addr} {fd : FuncData} {x : Str} {m : List Wv → Mem → R Wv} {s : Shared} {vs : List Value} {ns : List Int}
    (kin : K.In s.heap) (hmg : s.heap.Ns mainGlobals mg) (hmb : s.heap.Ns builtinsNs mb) (boot : ∀ y : Str, y ≠ "__name__" → mb y = bootBuiltins y) (noL : s.heap.NoLimit) (noG : s.gens = #[])
    (at_a : s.heap.get? a = some { cls := .type "list", data := .seq vs.toArray }) (hin : IntsAre vs ns) (few : ns.length ≤ sizeLine) (room : Room k callerA)
    (F : ∀ base : Heap, K.In base → base.Ns mainGlobals mg → FnG P w K mg base k fa fd [x] m) (bind : ∀ (s' : Shared) (u : Value), BindsTo s' fd ⟨[u], []⟩ [(x, u)]) (res : ∃ M, m [.rdl (ns.map Wv.int)] [] = .ok (.bl true) M) :
    codeAny (model P w) callerA (.call (.ref fa) ⟨[.ref a], []⟩) (fun r s' => r = .ok (.ret (.bool true)) ∧ OldK s.heap s'.heap ∧ s'.os = s.os ∧ AllBare s'.gens) s := by
  obtain ⟨M, res⟩ := res
  have rel := vals_ints hin
  -- what is known of the heap: the script, if the module has it not
  let H : Hp := fun b => if b = a ∧ (K.lookup a).isNone = true then some (.frz { cls := .type "list", data := .seq vs.toArray } (.lst (ns.map V.int))) else none
  have onlyA : ∀ {b u}, H b = some u → b = a ∧ (K.lookup a).isNone = true ∧ u = .frz { cls := .type "list", data := .seq vs.toArray } (.lst (ns.map V.int)) := by
    intro b u e
    by_cases hb : b = a ∧ (K.lookup a).isNone = true
    · have e : (if b = a ∧ (K.lookup a).isNone = true then some (HO.frz { cls := .type "list", data := .seq vs.toArray } (.lst (ns.map V.int))) else none) = some u := e
      rw [if_pos hb] at e
      exact ⟨hb.1, hb.2, (Option.some.inj e).symm⟩
    · have e : (if b = a ∧ (K.lookup a).isNone = true then some (HO.frz { cls := .type "list", data := .seq vs.toArray } (.lst (ns.map V.int))) else none) = some u := e
      rw [if_neg hb] at e
      cases e
  have hok : HOk P w H s.heap := by
    intro b u e
    obtain ⟨rfl, _, rfl⟩ := onlyA e
    exact ⟨at_a, by rw [List.length_map]; exact few, vs, _, rel, at_a⟩
  have below : ∀ {b o}, s.heap.get? b = some o → H b = none → (hidT s.heap H).get? b = some o := fun e n => hidT_get e n
  have ns_below : ∀ {b} {f : Str → Option Value}, s.heap.Ns b f → (hidT s.heap H).Ns b f := by
    rintro b f ⟨o, es, ep, e, d, r⟩
    refine ⟨o, es, ep, below e ?_, d, r⟩
    cases q : H b with
    | none => rfl
    | some u =>
      obtain ⟨rfl, _, _⟩ := onlyA q
      rw [at_a] at e
      cases e
      cases d
  have kin' : K.In (hidT s.heap H) := by
    intro b o e
    refine below (kin b o e) ?_
    cases q : H b with
    | none => rfl
    | some u =>
      obtain ⟨rfl, z, _⟩ := onlyA q
      rw [e] at z
      cases z
  obtain ⟨mc, lim1, lim2⟩ := noL
  have e0 : Env0 P w K mg (hidT s.heap H) callerA [] s H := {
    frames := rfl
    mod := ⟨kin', ns_below hmg, ⟨mb, ns_below hmb, boot⟩, ⟨mc, ns_below lim1, lim2⟩⟩
    bs := fun b o e => of_hidT e
    bsz := Nat.le_of_eq (hidT_size _ _)
    funs := trivial
    frf := fun b hb => by cases hb
    hok := hok
    bare := .of_eq noG }
  have rl : Rl K ⟨[], []⟩ [] H := ⟨List.nodup_nil, rfl, fun n o e => by simp at e, fun a ha => by cases ha⟩
  have rv : RVs K ⟨[], []⟩ H [.rdl (ns.map Wv.int)] [.ref a] := by
    refine ⟨.ref a, [], rfl, ⟨a, ns.map V.int, rfl, ?_, rvs_ints ns⟩, rfl⟩
    cases q : K.lookup a with
    | none => exact .inl ⟨.inr ⟨_, if_pos ⟨rfl, by rw [q]; rfl⟩⟩, by simp [Rn.no]⟩
    | some o =>
      have e := kin a o q
      rw [at_a] at e
      cases e
      exact .inr ⟨_, vs.toArray, _, q, rfl, rfl, rfl, by rw [List.size_toArray, hin.length]; exact few, by simpa using rel⟩
  refine codeAny_mono ((F _ kin' (ns_below hmg)).go callerA [] s H ⟨[.ref a], []⟩ [.ref a] [.ref a] _ ⟨[], []⟩ [] (fun v _ => v = .bl true) (fun _ _ _ => False) room rfl e0 (bind s (.ref a)) (.cons rfl .nil) rfl rl rv ?_) fun r s' h => ?_
  · rw [res]
    exact fun ρ' H' _ _ v rv => rv
  · cases r with
    | error e =>
      obtain ⟨_, _, _, _, _, _, _, _, _, _, _, _, z⟩ := h
      exact z.elim
    | ok fl =>
      cases fl with
      | ret u =>
        obtain ⟨v, H', os, bare, un, hok', rv', q⟩ := h
        have q : v = .bl true := q
        subst q
        cases rv'
        refine ⟨rfl, OldK.of_keep fun b o e => ?_, os, bare⟩
        cases hb : H b with
        | none => exact un.keep b o e hb (fun z => by cases z) (fun z => by cases z)
        | some u =>
          obtain ⟨rfl, _, rfl⟩ := onlyA hb
          obtain ⟨e1, _⟩ := hok' b _ (un.frzs b _ _ hb)
          rw [at_a] at e
          cases e
          exact e1
      | next => exact h.elim
      | brk => exact h.elim
      | cont => exact h.elim
theorem walkG {l : PySem.W.OpenLaw} {n k : Nat} {q : Program} {loose : List Str} {XP : (Str → Option Value) → Heap → Prop} {YP : World → Heap → Prop} {d : DefRec} {K : Params → PySem.W.Frag} {x : Str} (hn : l.most = some n) (hn2 : n ≤ sizeLine) (hdf : d.params.defaults = []) (room : Room k callerA)
    (hY : ∀ (w : World) (h : Heap), YP w h → (K w.params).In h)
    (F : ∀ (w : World) (mg : Str → Option Value) (fa : Addr) (h : Heap), (K w.params).In h → h.Ns mainGlobals mg → mg d.name = some (.ref fa) →
      ∃ (fd : FuncData) (m : List Wv → Mem → R Wv), (∀ (s : Shared) (u : Value), BindsTo s fd ⟨[u], []⟩ [(x, u)]) ∧ (∀ base : Heap, (K w.params).In base → base.Ns mainGlobals mg → FnG l.prog w (K w.params) mg base k fa fd [x] m) ∧
        ∀ ns : List Int, ns.length ≤ n → (∀ z ∈ ns, Builtin.Int.intBits z ≤ 1048576) → ∃ M, m [.rdl (ns.map Wv.int)] [] = .ok (.bl true) M) :
    PySem.W.WalkO q loose XP YP l.row.toRowW d [] (fun f vs => PySem.call f vs) := by
  refine Att.attach_callB hn hdf fun w s₀ s₁ mg mb fa o pm cd doc a vs ns G Y ho hd hcd hmg hobj hints hlen hbits hg => ?_
  obtain ⟨fd, m, hb, hF, hm⟩ := F w mg fa _ (hY w _ Y) G.T.g hmg
  exact law_in (hY w _ Y) G.T.g G.T.b G.T.builtins G.T.nolimit hg hobj hints (Nat.le_trans hlen hn2) room hF hb (hm ns hlen hbits)
end Mi

namespace Mi
open PySem PySem.Spec PyProof.Rows L2

/-! ### in, of flat values -/
def flatW : Wv → Bool
  | .non => true | .bl _ => true | .int _ => true | .str _ => true
  | _ => false
def eqF : Wv → Wv → Bool
  | .non, .non => true
  | .bl a, .bl b => a == b
  | .bl a, .int b => (if a then 1 else 0) == b
  | .int a, .bl b => a == (if b then 1 else 0)
  | .int a, .int b => a == b
  | .str a, .str b => a == b
  | _, _ => false
def inW (neg : Bool) (x y : Wv) (M : Mem) : R Bool := match sqOf M y with
  | some s => if flatW x && s.xs.all flatW then .ok (neg ^^ s.xs.any fun z => eqF z x) M else .no
  | none => .no
section
variable {K : PySem.W.Frag} {ρ : Rn} {H : Hp}
theorem flat_v {w : Wv} {v : V} (h : flatW w = true) (r : RV K ρ H w v) : flatV v = true ∧ (∀ {w' v'}, flatW w' = true → RV K ρ H w' v' → eqV v v' = eqF w w') := by
  cases w <;> first | cases h | skip
  all_goals (cases r; refine ⟨rfl, fun {w' v'} h' r' => ?_⟩; cases w' <;> first | cases h' | skip)
  all_goals (cases r'; rfl)
theorem flats_v : ∀ {ws : List Wv} {vs : List V}, ws.all flatW = true → RVs K ρ H ws vs → vs.all flatV = true ∧ ∀ {w v}, flatW w = true → RV K ρ H w v → inV v vs = ws.any fun z => eqF z w
  | [], _, _, r => by cases r; exact ⟨rfl, fun _ _ => rfl⟩
  | x :: xs, _, h, ⟨u, ur, e, r1, r2⟩ => by
    subst e
    rw [List.all_cons, Bool.and_eq_true] at h
    obtain ⟨h1, h2⟩ := flats_v h.2 r2
    obtain ⟨h3, h4⟩ := flat_v h.1 r1
    refine ⟨by rw [List.all_cons, h3, h1]; rfl, fun {w v} hw rw' => ?_⟩
    show (eqV u v || inV v ur) = _
    rw [List.any_cons, h4 hw rw', h2 hw rw']
end
section
variable {X : Cx} {E : XK}
theorem in_in {K : PySem.W.Frag} {neg : Bool} {x y : V} {H : Hp} {Q : VK} (h : rb K E (inW neg) x y H Q) : rIn K neg x y H Q := by
  obtain ⟨ρ, M, wx, wy, rl, rx, ry, h⟩ := h
  unfold inW at h
  cases q : sqOf M wy with
  | none => rw [q] at h; exact h.elim
  | some s =>
    rw [q] at h
    obtain ⟨h0, h⟩ := pick h
    rw [Bool.and_eq_true] at h0
    obtain ⟨a, vs, e, h1, h2⟩ : ∃ a vs, y = .ref a ∧ (SqL K H a vs ∨ SqT K H a vs) ∧ RVs K ρ H s.xs vs := by
      cases s with
      | l xs => obtain ⟨a, vs, e, h1, h2⟩ := sq_l_of rl q ry; exact ⟨a, vs, e, .inl h1, h2⟩
      | t xs => obtain ⟨a, vs, e, h1, h2⟩ := sq_t_of q ry; exact ⟨a, vs, e, .inr h1, h2⟩
    obtain ⟨h3, h4⟩ := flats_v h0.2 h2
    refine ⟨a, vs, e, h1, (flat_v h0.1 rx).1, h3, ?_⟩
    rw [h4 h0.1 rx]
    have z := h.here rl
    cases neg <;> simpa [PB] using z
theorem o_in (hu : X.A.units + 64 < cLine) : OpR X (compareOp .In) (rb X.K E (inW false)) := OpR.imp op_in_seq fun _ _ _ _ h => in_in h
theorem o_ni (hu : X.A.units + 64 < cLine) : OpR X (compareOp .NotIn) (rb X.K E (inW true)) := OpR.imp op_notIn_seq fun _ _ _ _ h => in_in h
end

/-! ### dicts of constants -/
def mDct (kws : List (Key × Wv)) : Me := fun _ M => .ok (.dct (kws.map (·.1)) (kws.map (·.2))) M
structure PDc (X : Cx) (pos : Pos) (keys : List (Option Expr)) (values : List Expr) (kws : List (Key × Wv)) : Prop where
  ex : ∃ kvs : List (Key × V), PPs X pos keys values (kvs.map fun kv => (tC (kV kv.1), tC kv.2)) ∧ kvs.map (·.1) = kws.map (·.1) ∧ ∀ ρ H, RVs X.K ρ H (kws.map (·.2)) (kvs.map (·.2))
section
variable {X : Cx} {E : XK} {pos : Pos} {keys : List (Option Expr)} {values : List Expr} {kws : List (Key × Wv)} {k v : Expr} {key : Key} {w : Wv} {u : V}
theorem p_nil : PDc X pos [] [] [] := ⟨[], pps_nil, rfl, fun _ _ => rfl⟩
theorem p_cons (hk : PE X k (tC (kV key))) (hv : PE X v (tC u)) (r : ∀ ρ H, RV X.K ρ H w u) (h : PDc X pos keys values kws) : PDc X pos (some k :: keys) (v :: values) ((key, w) :: kws) := by
  obtain ⟨kvs, h1, h2, h3⟩ := h.ex
  exact ⟨(key, u) :: kvs, pps_cons hk hv h1, by rw [List.map_cons, List.map_cons, h2], fun ρ H => ⟨u, _, rfl, r ρ H, h3 ρ H⟩⟩
theorem pairs_c {σ : L2.St} {H : Hp} : ∀ {kvs : List (Key × V)} {Q : List (V × V) → Hp → Prop}, Q (kvs.map fun kv => (kV kv.1, kv.2)) H → tPairs (kvs.map fun kv => (tC (kV kv.1), tC kv.2)) σ H Q
  | [], _, h => h
  | kv :: kvs, Q, h => pairs_c (kvs := kvs) (Q := fun r H1 => Q ((kV kv.1, kv.2) :: r) H1) h
theorem merge_new : ∀ {kvs acc : List (Key × V)}, ((acc ++ kvs).map (·.1)).Nodup → mergeK acc kvs = acc ++ kvs
  | [], acc, _ => by simp [mergeK]
  | (k, v) :: kvs, acc, h => by
    have e : putK acc k v = acc ++ [(k, v)] := by
      have nk : (acc.any fun kv => decide (kv.1 = k)) = false := by
        rw [List.any_eq_false]
        intro kv hkv z
        rw [List.map_append, List.map_cons, List.nodup_append] at h
        exact h.2.2 k (by rw [← of_decide_eq_true z]; exact List.mem_map_of_mem hkv) k List.mem_cons_self rfl
      unfold putK
      rw [nk, if_neg Bool.false_ne_true]
    show mergeK (putK acc k v) kvs = _
    rw [e, merge_new (by rw [List.append_assoc]; exact h), List.append_assoc]
    rfl
theorem e_dct (h : PDc X pos keys values kws) (nd : (kws.map (·.1)).Nodup := by decide) (hk : kws.length ≤ 15 := by decide) (h15 : keys.length ≤ 15 := by decide) (hall : keys.all (·.isSome) = true := by rfl) (hl : keys.length = values.length := by rfl) (h0 : keys ≠ [] := by exact fun z => by cases z) : PE X (.Dict keys values pos) (te X.K E (mDct kws)) := by
  obtain ⟨kvs, h1, h2, h3⟩ := h.ex
  have hlen : kvs.length ≤ 15 := by
    have e := congrArg List.length h2
    rw [List.length_map, List.length_map] at e
    omega
  refine PE.imp (pe_disp h1 hall hl h0 h15) fun σ H Q ⟨ρ, M, env, rl, re, f⟩ p hp => pairs_c ⟨upd_same, kvs, rfl, hlen, ?_⟩
  rw [upd_upd, merge_new (by simpa [h2] using nd)]
  exact f ρ _ (Gr.fresh hp) (rl.upd hp) _ ⟨p, kvs, rfl, ⟨upd_same, rl.out hp⟩, h2, h3 ρ _⟩
theorem e_dct0 : PE X (.Dict [] [] pos) (te X.K E (mDct [])) := PE.imp pe_dnewK fun σ H Q ⟨ρ, M, env, rl, re, f⟩ p hp => f ρ _ (Gr.fresh hp) (rl.upd hp) _ ⟨p, [], rfl, ⟨upd_same, rl.out hp⟩, rfl, rfl⟩
end
end Mi

namespace Mi
open PySem PySem.Spec PyProof.Rows L2
/-! ### running mirrors: each turn by a row; what waits is named, no lambda stands in the goal -/
theorem noX_ok {α : Type} (a : α) (M : Mem) : noX (R.ok a M) = R.ok a M := rfl
section
variable (env : Ev) (M : Mem) (a b c : Me) (x y z : Wv) (t u : Mt) (s1 s2 : Ms) (ma mb : Ma) (ws us : List Wv)
theorem x_var (i : Nat) : mVar i env M = match env[i]? with | some (some w) => .ok w M | _ => .no := rfl
theorem x_c (w : Wv) : mC w env M = .ok w M := rfl
theorem x_dct (k) : mDct k env M = .ok (.dct (k.map (·.1)) (k.map (·.2))) M := rfl
theorem x_maN : maN env M = .ok [] M := rfl
theorem x_oN : moN env M = .ok none M := rfl
theorem x_nil : sNil env M = .ok (.nx env) M := rfl
theorem x_retN : sRetN env M = .ok (.ret .non) M := rfl
theorem x_brk : sBrk env M = .ok (.bk env) M := rfl
theorem x_cnt : sCnt env M = .ok (.ct env) M := rfl
theorem x_yes : mtYes env M = .ok true M := rfl
theorem x_tnm (i : Nat) (w : Wv) : Tg.set (.nm i) w env M = .ok (env.set i (some w)) M := rfl
def kBin2 (f : Wv → Wv → Mem → R Wv) (x : Wv) (r : R Wv) : R Wv := r.bind fun y M => f x y M
theorem kBin2_ok (f : Wv → Wv → Mem → R Wv) (x : Wv) (y : Wv) : kBin2 f x (.ok y M) = f x y M := (rfl)
def kBin1 (f : Wv → Wv → Mem → R Wv) (b : Me) (env : Ev) (r : R Wv) : R Wv := r.bind fun x M => kBin2 f x (b env M)
theorem kBin1_ok (f : Wv → Wv → Mem → R Wv) (b : Me) (env : Ev) (x : Wv) : kBin1 f b env (.ok x M) = kBin2 f x (b env M) := (rfl)
theorem x_bin (f) : mBin f a b env M = kBin1 f b env (a env M) := rfl
def kUn (f : Wv → Mem → R Wv) (r : R Wv) : R Wv := r.bind fun x M => f x M
theorem kUn_ok (f : Wv → Mem → R Wv) (x : Wv) : kUn f (.ok x M) = f x M := (rfl)
theorem x_un (f) : mUn f a env M = kUn f (a env M) := rfl
def kCons2 (x : Wv) (r : R (List Wv)) : R (List Wv) := r.bind fun xs M => R.ok (x :: xs) M
theorem kCons2_ok (x : Wv) (xs : (List Wv)) : kCons2 x (.ok xs M) = R.ok (x :: xs) M := (rfl)
def kCons1 (ma : Ma) (env : Ev) (r : R Wv) : R (List Wv) := r.bind fun x M => kCons2 x (ma env M)
theorem kCons1_ok (ma : Ma) (env : Ev) (x : Wv) : kCons1 ma env (.ok x M) = kCons2 x (ma env M) := (rfl)
theorem x_maC : maC a ma env M = kCons1 ma env (a env M) := rfl
def kTup  (r : R (List Wv)) : R Wv := r.bind fun ws M => if ws.length ≤ lim then R.ok (.tup ws) M else .no
theorem kTup_ok  (ws : (List Wv)) : kTup  (.ok ws M) = if ws.length ≤ lim then R.ok (.tup ws) M else .no := (rfl)
theorem x_tup : mTup ma env M = kTup (ma env M) := rfl
def kLst  (r : R (List Wv)) : R Wv := r.bind fun ws M => if ws.length ≤ lim then R.ok (.lst ws) M else .no
theorem kLst_ok  (ws : (List Wv)) : kLst  (.ok ws M) = if ws.length ≤ lim then R.ok (.lst ws) M else .no := (rfl)
theorem x_lst : mLst ma env M = kLst (ma env M) := rfl
def kNew  (r : R (List Wv)) : R Wv := r.bind fun ws M => if ws.length ≤ lim then R.ok (.ref M.length) (M ++ [.lst ws]) else .no
theorem kNew_ok  (ws : (List Wv)) : kNew  (.ok ws M) = if ws.length ≤ lim then R.ok (.ref M.length) (M ++ [.lst ws]) else .no := (rfl)
theorem x_new : mNew ma env M = kNew (ma env M) := rfl
def kCall (f : List Wv → Mem → R Wv) (r : R (List Wv)) : R Wv := r.bind fun ws M => f ws M
theorem kCall_ok (f : List Wv → Mem → R Wv) (ws : (List Wv)) : kCall f (.ok ws M) = f ws M := (rfl)
theorem x_call (f) : mCall f ma env M = kCall f (ma env M) := rfl
def kApp (n : Nat) (f : List Wv → Mem → R Wv) (r : R (List Wv)) : R Wv := r.bind fun ws M => if ws.length = n then f ws M else .no
theorem kApp_ok (n : Nat) (f : List Wv → Mem → R Wv) (ws : (List Wv)) : kApp n f (.ok ws M) = if ws.length = n then f ws M else .no := (rfl)
theorem x_app (n) (f) : mApp n f ma env M = kApp n f (ma env M) := rfl
def kAppK2 (n j l : Nat) (p : List Nat) (f : List Wv → Mem → R Wv) (us : List Wv) (r : R (List Wv)) : R Wv := r.bind fun ws M => if us.length = j ∧ ws.length = l ∧ (pick' p (us ++ ws)).length = n then f (pick' p (us ++ ws)) M else .no
theorem kAppK2_ok (n j l : Nat) (p : List Nat) (f : List Wv → Mem → R Wv) (us : List Wv) (ws : (List Wv)) : kAppK2 n j l p f us (.ok ws M) = if us.length = j ∧ ws.length = l ∧ (pick' p (us ++ ws)).length = n then f (pick' p (us ++ ws)) M else .no := (rfl)
def kAppK1 (n j l : Nat) (p : List Nat) (f : List Wv → Mem → R Wv) (mb : Ma) (env : Ev) (r : R (List Wv)) : R Wv := r.bind fun us M => kAppK2 n j l p f us (mb env M)
theorem kAppK1_ok (n j l : Nat) (p : List Nat) (f : List Wv → Mem → R Wv) (mb : Ma) (env : Ev) (us : (List Wv)) : kAppK1 n j l p f mb env (.ok us M) = kAppK2 n j l p f us (mb env M) := (rfl)
theorem x_appK (n j l) (p) (f) : mAppK n j l p f ma mb env M = kAppK1 n j l p f mb env (ma env M) := rfl
def kBl  (r : R Bool) : R Wv := r.bind fun q M => R.ok (.bl q) M
theorem kBl_ok  (q : Bool) : kBl  (.ok q M) = R.ok (.bl q) M := (rfl)
def kCmp2 (f : Wv → Wv → Mem → R Bool) (x : Wv) (r : R Wv) : R Bool := r.bind fun y M => f x y M
theorem kCmp2_ok (f : Wv → Wv → Mem → R Bool) (x : Wv) (y : Wv) : kCmp2 f x (.ok y M) = f x y M := (rfl)
def kCmp1 (f : Wv → Wv → Mem → R Bool) (b : Me) (env : Ev) (r : R Wv) : R Bool := r.bind fun x M => kCmp2 f x (b env M)
theorem kCmp1_ok (f : Wv → Wv → Mem → R Bool) (b : Me) (env : Ev) (x : Wv) : kCmp1 f b env (.ok x M) = kCmp2 f x (b env M) := (rfl)
theorem x_tcmp (f) : mtCmp f a b env M = kCmp1 f b env (a env M) := rfl
theorem x_cmp (f) : mCmp f a b env M = kBl (kCmp1 f b env (a env M)) := by
  unfold mCmp kBl kCmp1
  cases a env M with
  | ok x M1 =>
    show (b env M1).bind _ = (kCmp2 f x (b env M1)).bind _
    unfold kCmp2
    cases b env M1 <;> rfl
  | _ => rfl
def kTe  (r : R Wv) : R Bool := r.bind fun x M => asT x M
theorem kTe_ok  (x : Wv) : kTe  (.ok x M) = asT x M := (rfl)
theorem x_te : mtE a env M = kTe (a env M) := rfl
def kTnot  (r : R Bool) : R Bool := r.bind fun q M => R.ok (!q) M
theorem kTnot_ok  (q : Bool) : kTnot  (.ok q M) = R.ok (!q) M := (rfl)
theorem x_tnot : mtNot t env M = kTnot (t env M) := rfl
def kTand (u : Mt) (env : Ev) (r : R Bool) : R Bool := r.bind fun q M => if q = true then u env M else R.ok false M
theorem kTand_t (u : Mt) (env : Ev) : kTand u env (.ok true M) = u env M := (rfl)
theorem kTand_f (u : Mt) (env : Ev) : kTand u env (.ok false M) = R.ok false M := (rfl)
theorem x_tand : mtAnd t u env M = kTand u env (t env M) := rfl
def kTor (u : Mt) (env : Ev) (r : R Bool) : R Bool := r.bind fun q M => if q = true then R.ok true M else u env M
theorem kTor_t (u : Mt) (env : Ev) : kTor u env (.ok true M) = R.ok true M := (rfl)
theorem kTor_f (u : Mt) (env : Ev) : kTor u env (.ok false M) = u env M := (rfl)
theorem x_tor : mtOr t u env M = kTor u env (t env M) := rfl
def kAnd2 (b : Me) (env : Ev) (w : Wv) (r : R Bool) : R Wv := r.bind fun q M => if q = true then b env M else R.ok w M
theorem kAnd2_t (b : Me) (env : Ev) (w : Wv) : kAnd2 b env w (.ok true M) = b env M := (rfl)
theorem kAnd2_f (b : Me) (env : Ev) (w : Wv) : kAnd2 b env w (.ok false M) = R.ok w M := (rfl)
def kAnd1 (b : Me) (env : Ev) (r : R Wv) : R Wv := r.bind fun w M => kAnd2 b env w (asT w M)
theorem kAnd1_ok (b : Me) (env : Ev) (w : Wv) : kAnd1 b env (.ok w M) = kAnd2 b env w (asT w M) := (rfl)
theorem x_and : mAnd a b env M = kAnd1 b env (a env M) := rfl
def kOr2 (b : Me) (env : Ev) (w : Wv) (r : R Bool) : R Wv := r.bind fun q M => if q = true then R.ok w M else b env M
theorem kOr2_t (b : Me) (env : Ev) (w : Wv) : kOr2 b env w (.ok true M) = R.ok w M := (rfl)
theorem kOr2_f (b : Me) (env : Ev) (w : Wv) : kOr2 b env w (.ok false M) = b env M := (rfl)
def kOr1 (b : Me) (env : Ev) (r : R Wv) : R Wv := r.bind fun w M => kOr2 b env w (asT w M)
theorem kOr1_ok (b : Me) (env : Ev) (w : Wv) : kOr1 b env (.ok w M) = kOr2 b env w (asT w M) := (rfl)
theorem x_or : mOr a b env M = kOr1 b env (a env M) := rfl
def kNot2  (r : R Bool) : R Wv := r.bind fun q M => R.ok (.bl (!q)) M
theorem kNot2_ok  (q : Bool) : kNot2  (.ok q M) = R.ok (.bl (!q)) M := (rfl)
def kNot1  (r : R Wv) : R Wv := r.bind fun w M => kNot2 (asT w M)
theorem kNot1_ok  (w : Wv) : kNot1  (.ok w M) = kNot2 (asT w M) := (rfl)
theorem x_not : mNot a env M = kNot1 (a env M) := rfl
def kIf (a b : Me) (env : Ev) (r : R Bool) : R Wv := r.bind fun q M => if q = true then a env M else b env M
theorem kIf_t (a b : Me) (env : Ev) : kIf a b env (.ok true M) = a env M := (rfl)
theorem kIf_f (a b : Me) (env : Ev) : kIf a b env (.ok false M) = b env M := (rfl)
theorem x_if : mIf t a b env M = kIf a b env (t env M) := rfl
def kOS  (r : R Wv) : R (Option Int) := r.bind fun w M => match w with | .int i => R.ok (some i) M | _ => .no
theorem kOS_ok  (w : Wv) : kOS  (.ok w M) = match w with | .int i => R.ok (some i) M | _ => .no := (rfl)
theorem x_oS : moS a env M = kOS (a env M) := rfl
def kSl3 (x : Wv) (l : Option Int) (r : R (Option Int)) : R Wv := r.bind fun v M => match sqOf M x with | some (.l xs) => R.ok (.lst (cutW xs l v)) M | _ => .no
theorem kSl3_ok (x : Wv) (l : Option Int) (v : (Option Int)) : kSl3 x l (.ok v M) = match sqOf M x with | some (.l xs) => R.ok (.lst (cutW xs l v)) M | _ => .no := (rfl)
def kSl2 (x : Wv) (h : Mo) (env : Ev) (r : R (Option Int)) : R Wv := r.bind fun l M => kSl3 x l (h env M)
theorem kSl2_ok (x : Wv) (h : Mo) (env : Ev) (l : (Option Int)) : kSl2 x h env (.ok l M) = kSl3 x l (h env M) := (rfl)
def kSl1 (l h : Mo) (env : Ev) (r : R Wv) : R Wv := r.bind fun x M => kSl2 x h env (l env M)
theorem kSl1_ok (l h : Mo) (env : Ev) (x : Wv) : kSl1 l h env (.ok x M) = kSl2 x h env (l env M) := (rfl)
theorem x_sl (l h : Mo) : mSl a l h env M = kSl1 l h env (a env M) := rfl
def kSeq (s : Ms) (r : R Fl) : R Fl := r.bind fun fl M => andThen fl s M
theorem kSeq_ok (s : Ms) (fl : Fl) : kSeq s (.ok fl M) = andThen fl s M := (rfl)
theorem x_seq : sSeq s1 s2 env M = kSeq s2 (s1 env M) := rfl
theorem x_an (k : Ms) : andThen (.nx env) k M = k env M := rfl
theorem x_ar (w) (k : Ms) : andThen (.ret w) k M = .ok (.ret w) M := rfl
theorem x_ab (k : Ms) : andThen (.bk env) k M = .ok (.bk env) M := rfl
theorem x_ac (k : Ms) : andThen (.ct env) k M = .ok (.ct env) M := rfl
def kSet (i : Nat) (env : Ev) (r : R Wv) : R Fl := r.bind fun w M => R.ok (.nx (env.set i (some w))) M
theorem kSet_ok (i : Nat) (env : Ev) (w : Wv) : kSet i env (.ok w M) = R.ok (.nx (env.set i (some w))) M := (rfl)
theorem x_set (i) : sSet i a env M = kSet i env (a env M) := rfl
def kRet  (r : R Wv) : R Fl := r.bind fun w M => R.ok (.ret w) M
theorem kRet_ok  (w : Wv) : kRet  (.ok w M) = R.ok (.ret w) M := (rfl)
theorem x_ret : sRet a env M = kRet (a env M) := rfl
def kSif (s1 s2 : Ms) (env : Ev) (r : R Bool) : R Fl := r.bind fun q M => if q = true then s1 env M else s2 env M
theorem kSif_t (s1 s2 : Ms) (env : Ev) : kSif s1 s2 env (.ok true M) = s1 env M := (rfl)
theorem kSif_f (s1 s2 : Ms) (env : Ev) : kSif s1 s2 env (.ok false M) = s2 env M := (rfl)
theorem x_sif : sIf t s1 s2 env M = kSif s1 s2 env (t env M) := rfl
def kExp (env : Ev) (r : R Wv) : R Fl := r.bind fun w M => R.ok (.nx env) M
theorem kExp_ok (env : Ev) (w : Wv) : kExp env (.ok w M) = R.ok (.nx env) M := (rfl)
theorem x_exp : sExp a env M = kExp env (a env M) := rfl
def kPut4 (env : Ev) (r : R Unit) : R Fl := r.bind fun q M => R.ok (.nx env) M
theorem kPut4_ok (env : Ev) (q : Unit) : kPut4 env (.ok q M) = R.ok (.nx env) M := (rfl)
def kPut3 (env : Ev) (w o : Wv) (r : R Wv) : R Fl := r.bind fun i M => kPut4 env (setW o i w M)
theorem kPut3_ok (env : Ev) (w o : Wv) (i : Wv) : kPut3 env w o (.ok i M) = kPut4 env (setW o i w M) := (rfl)
def kPut2 (c : Me) (env : Ev) (w : Wv) (r : R Wv) : R Fl := r.bind fun o M => kPut3 env w o (c env M)
theorem kPut2_ok (c : Me) (env : Ev) (w : Wv) (o : Wv) : kPut2 c env w (.ok o M) = kPut3 env w o (c env M) := (rfl)
def kPut1 (b c : Me) (env : Ev) (r : R Wv) : R Fl := r.bind fun w M => kPut2 c env w (b env M)
theorem kPut1_ok (b c : Me) (env : Ev) (w : Wv) : kPut1 b c env (.ok w M) = kPut2 c env w (b env M) := (rfl)
theorem x_put : sPut a b c env M = kPut1 b c env (a env M) := rfl
def kPar2 (i j : Nat) (env : Ev) (r : R (List Wv)) : R Fl := r.bind fun ws M => match ws with | [p, q] => R.ok (.nx ((env.set i (some p)).set j (some q))) M | _ => .no
theorem kPar2_ok (i j : Nat) (env : Ev) (ws : (List Wv)) : kPar2 i j env (.ok ws M) = match ws with | [p, q] => R.ok (.nx ((env.set i (some p)).set j (some q))) M | _ => .no := (rfl)
theorem x_par2 (i j) : sPar2 i j ma env M = kPar2 i j env (ma env M) := rfl
def kPar3 (i j l : Nat) (env : Ev) (r : R (List Wv)) : R Fl := r.bind fun ws M => match ws with | [p, q, r] => R.ok (.nx (((env.set i (some p)).set j (some q)).set l (some r))) M | _ => .no
theorem kPar3_ok (i j l : Nat) (env : Ev) (ws : (List Wv)) : kPar3 i j l env (.ok ws M) = match ws with | [p, q, r] => R.ok (.nx (((env.set i (some p)).set j (some q)).set l (some r))) M | _ => .no := (rfl)
theorem x_par3 (i j l) : sPar3 i j l ma env M = kPar3 i j l env (ma env M) := rfl
def kFor (T : Tg) (s : Ms) (env : Ev) (r : R (List Wv)) : R Fl := r.bind fun ws M => forW T s ws env M
theorem kFor_ok (T : Tg) (s : Ms) (env : Ev) (ws : (List Wv)) : kFor T s env (.ok ws M) = forW T s ws env M := (rfl)
theorem x_for (T) (m : Mi') : sFor T m s1 env M = kFor T s1 env (m env M) := rfl
def kLc (vs : List Nat) (T : Tg) (t : Mt) (a : Me) (env : Ev) (r : R (List Wv)) : R Wv := r.bind fun ws M => lcW T t a (wipeE env vs) ws [] M
theorem kLc_ok (vs : List Nat) (T : Tg) (t : Mt) (a : Me) (env : Ev) (ws : (List Wv)) : kLc vs T t a env (.ok ws M) = lcW T t a (wipeE env vs) ws [] M := (rfl)
theorem x_lc (vs T) (m : Mi') : mLc vs T m t a env M = kLc vs T t a env (m env M) := rfl
def kFn  (r : R Fl) : R Wv := r.bind fun fl M => match fl with | .nx _ => R.ok .non M | .ret w => R.ok w M | _ => .no
theorem kFn_ok  (fl : Fl) : kFn  (.ok fl M) = match fl with | .nx _ => R.ok .non M | .ret w => R.ok w M | _ => .no := (rfl)
theorem x_fn (n) (ws : List Wv) : mFn n s1 ws M = kFn (s1 (evStart n ws) M) := rfl
def kSeqI  (r : R Wv) : R (List Wv) := r.bind fun w M => match w with | .lst xs => R.ok xs M | .rdl xs => R.ok xs M | .tup xs => R.ok xs M | _ => .no
theorem kSeqI_ok  (w : Wv) : kSeqI  (.ok w M) = match w with | .lst xs => R.ok xs M | .rdl xs => R.ok xs M | .tup xs => R.ok xs M | _ => .no := (rfl)
theorem x_seqI : mSeqI a env M = kSeqI (a env M) := rfl
def kRng1  (r : R Wv) : R (List Wv) := r.bind fun w M => match w with | .int j => if -1000000 ≤ j ∧ j ≤ 1000000 then R.ok (rng 0 j.toNat) M else .no | _ => .no
theorem kRng1_ok  (w : Wv) : kRng1  (.ok w M) = match w with | .int j => if -1000000 ≤ j ∧ j ≤ 1000000 then R.ok (rng 0 j.toNat) M else .no | _ => .no := (rfl)
theorem x_rng1 : mRng1 a env M = kRng1 (a env M) := rfl
theorem x_lc0 (T acc) : lcW T t a env [] acc M = .ok (.lst acc) M := rfl
def kLc4 (T : Tg) (t : Mt) (e : Me) (env : Ev) (ws acc : List Wv) (r : R Wv) : R Wv := r.bind fun x M => if acc.length < lim then lcW T t e env ws (acc ++ [x]) M else .no
theorem kLc4_ok (T : Tg) (t : Mt) (e : Me) (env : Ev) (ws acc : List Wv) (x : Wv) : kLc4 T t e env ws acc (.ok x M) = if acc.length < lim then lcW T t e env ws (acc ++ [x]) M else .no := (rfl)
def kLc3 (T : Tg) (t : Mt) (e : Me) (env env1 : Ev) (ws acc : List Wv) (r : R Bool) : R Wv := r.bind fun q M => if q = true then kLc4 T t e env ws acc (noX (e env1 M)) else lcW T t e env ws acc M
theorem kLc3_t (T : Tg) (t : Mt) (e : Me) (env env1 : Ev) (ws acc : List Wv) : kLc3 T t e env env1 ws acc (.ok true M) = kLc4 T t e env ws acc (noX (e env1 M)) := (rfl)
theorem kLc3_f (T : Tg) (t : Mt) (e : Me) (env env1 : Ev) (ws acc : List Wv) : kLc3 T t e env env1 ws acc (.ok false M) = lcW T t e env ws acc M := (rfl)
def kLc2 (T : Tg) (t : Mt) (e : Me) (env : Ev) (ws acc : List Wv) (r : R Ev) : R Wv := r.bind fun env1 M => kLc3 T t e env env1 ws acc (noX (t env1 M))
theorem kLc2_ok (T : Tg) (t : Mt) (e : Me) (env env1 : Ev) (ws acc : List Wv) : kLc2 T t e env ws acc (.ok env1 M) = kLc3 T t e env env1 ws acc (noX (t env1 M)) := (rfl)
theorem x_lc1 (T : Tg) (w acc) : lcW T t a env (w :: ws) acc M = kLc2 T t a env ws acc (noX (T.set w env M)) := by
  unfold kLc2
  rw [lcW]
  cases noX (T.set w env M) with
  | ok env1 M1 => rfl
  | _ => rfl
def kFor3 (T : Tg) (b : Ms) (ws : List Wv) (r : R Fl) : R Fl := r.bind fun fl M => match fl with
  | .nx env2 => forW T b ws env2 M
  | .ct env2 => forW T b ws env2 M
  | .bk env2 => .ok (.nx env2) M
  | .ret v => .ok (.ret v) M
theorem kFor3_n (T : Tg) (b : Ms) (ws : List Wv) : kFor3 T b ws (.ok (.nx env) M) = forW T b ws env M := (rfl)
theorem kFor3_c (T : Tg) (b : Ms) (ws : List Wv) : kFor3 T b ws (.ok (.ct env) M) = forW T b ws env M := (rfl)
theorem kFor3_b (T : Tg) (b : Ms) (ws : List Wv) : kFor3 T b ws (.ok (.bk env) M) = .ok (.nx env) M := (rfl)
theorem kFor3_r (T : Tg) (b : Ms) (ws : List Wv) (v) : kFor3 T b ws (.ok (.ret v) M) = .ok (.ret v) M := (rfl)
def kFor2 (T : Tg) (b : Ms) (ws : List Wv) (r : R Ev) : R Fl := r.bind fun env1 M => kFor3 T b ws (b env1 M)
theorem kFor2_ok (T : Tg) (b : Ms) (ws : List Wv) : kFor2 T b ws (.ok env M) = kFor3 T b ws (b env M) := (rfl)
theorem x_for0 (T) : forW T s1 [] env M = .ok (.nx env) M := rfl
theorem x_for1 (T : Tg) (w) : forW T s1 (w :: ws) env M = kFor2 T s1 ws (T.set w env M) := by
  unfold kFor2
  rw [forW]
  cases T.set w env M with
  | ok env1 M1 => rfl
  | _ => rfl
end
theorem un1_x (f : Wv → Mem → R Wv) (x : Wv) (M : Mem) : un1 f [x] M = f x M := rfl
theorem lim_is : lim = 100000 := rfl
theorem asT_bl (q : Bool) (M : Mem) : asT (.bl q) M = .ok q M := rfl
/-- one turn of a comprehension after another: its items by a plain function -/
theorem lc_map {T : Tg} {e : Me} {env : Ev} {f : Wv → Wv} {M : Mem} : ∀ {ws acc : List Wv}, (∀ w ∈ ws, (T.set w env M).bind (fun env1 M1 => e env1 M1) = .ok (f w) M) → acc.length + ws.length ≤ lim → lcW T mtYes e env ws acc M = .ok (.lst (acc ++ ws.map f)) M
  | [], acc, _, _ => by simp [lcW]
  | w :: ws, acc, h, hl => by
    have h0 := h w List.mem_cons_self
    rw [x_lc1]
    cases q : T.set w env M with
    | no => rw [q] at h0; cases h0
    | exc x M1 => rw [q] at h0; cases h0
    | ok env1 M1 =>
      rw [q] at h0
      have h0 : e env1 M1 = .ok (f w) M := h0
      simp only [List.length_cons] at hl
      rw [noX_ok, kLc2_ok, x_yes, noX_ok, kLc3_t, h0, noX_ok, kLc4_ok, if_pos (by omega), lc_map (fun w hw => h w (List.mem_cons_of_mem _ hw)) (by simp; omega)]
      simp
end Mi

namespace Mi
open PySem PySem.Spec PyProof.Rows L2
/-! ### operators on known kinds -/
section
variable (M : Mem) (i j : Int) (x : Wv)
theorem zv_add : addW (.int i) (.int j) M = .ok (.int (i + j)) M := rfl
theorem zv_sub : subW (.int i) (.int j) M = .ok (.int (i - j)) M := rfl
theorem zv_neg : negW (.int i) M = .ok (.int (-i)) M := rfl
theorem zv_mul : mulW (.int i) (.int j) M = if mulOk i j then .ok (.int (i * j)) M else .no := rfl
theorem zv_div : divW (.int i) (.int j) M = if 0 < j ∧ j < 1073741824 then .ok (.int (i / j)) M else .no := rfl
theorem zv_mod : modW (.int i) (.int j) M = if 0 < j then .ok (.int (i % j)) M else .no := rfl
theorem zv_pow : powW (.int i) (.int j) M = if 0 ≤ j ∧ j ≤ 1000000 ∧ i.natAbs < 2 ^ 64 then .ok (.int (i ^ j.toNat)) M else .no := rfl
theorem zv_cmp (p) : cmpW p (.int i) (.int j) M = .ok (p i j) M := rfl
theorem zv_isN (q) : isNW q x .non M = .ok (q ^^ isNonW x) M := rfl
theorem zv_isB (q b) : isBlW q x (.bl b) M = .ok (q ^^ blIs b x) M := rfl
theorem zv_int : int1 (.int i) M = .ok (.int i) M := rfl
theorem zv_intb (b) : int1 (.bl b) M = .ok (.int (if b then 1 else 0)) M := rfl
theorem zv_abs : abs1 (.int i) M = .ok (.int (if i < 0 then -i else i)) M := rfl
theorem zv_lenl (xs) : len1 (.lst xs) M = .ok (.int xs.length) M := rfl
theorem zv_lent (xs) : len1 (.tup xs) M = .ok (.int xs.length) M := rfl
theorem zv_is {ts : List Mi.Ty} {v : Wv} {t : Mi.Ty} (h : tyOf M v = some t) : isW ts v M = .ok (.bl (ts.any t.sub)) M := by unfold isW; rw [h]
theorem zv_ixl (xs) : ixW (.lst xs) (.int i) M = match atI xs i with | some w => .ok w M | none => .no := rfl
theorem zv_ixr {n : Nat} {xs} (h : M[n]? = some (.lst xs)) : ixW (.ref n) (.int i) M = match atI xs i with | some w => .ok w M | none => .no := by
  show (match (match M[n]? with | some (Ob.lst xs) => some (Sq.l xs) | _ => none) with | some s => (match atI s.xs i with | some w => R.ok w M | none => .no) | none => .no) = _
  rw [h] <;> rfl
theorem zv_put {n : Nat} {xs} {k : Nat} (h : M[n]? = some (.lst xs)) (hj : ixN xs.length i = some k) : setW (.ref n) (.int i) x M = .ok () (M.set n (.lst (xs.set k x))) := by
  show (match M[n]? with | some (Ob.lst xs) => (match ixN xs.length i with | some j => R.ok () (M.set n (.lst (xs.set j x))) | none => .no) | _ => .no) = _
  rw [h]
  show (match ixN xs.length i with | some j => R.ok () (M.set n (.lst (xs.set j x))) | none => .no) = _
  rw [hj]
end
local macro_rules | `(tactic| walk_at "ev") => `(tactic| (try simp only [noX_ok, x_var, x_c, x_dct, x_maN, x_oN, x_nil, x_retN, x_brk, x_cnt, x_yes, x_tnm, kBin2_ok, kBin1_ok, x_bin, kUn_ok, x_un, kCons2_ok, kCons1_ok, x_maC, kTup_ok, x_tup, kLst_ok, x_lst, kNew_ok, x_new, kCall_ok, x_call, kApp_ok, x_app, kAppK2_ok, kAppK1_ok, x_appK, kBl_ok, kCmp2_ok, kCmp1_ok, x_tcmp, x_cmp, kTe_ok, x_te, kTnot_ok, x_tnot, kTand_t, kTand_f, x_tand, kTor_t, kTor_f, x_tor, kAnd2_t, kAnd2_f, kAnd1_ok, x_and, kOr2_t, kOr2_f, kOr1_ok, x_or, kNot2_ok, kNot1_ok, x_not, kIf_t, kIf_f, x_if, kOS_ok, x_oS, kSl3_ok, kSl2_ok, kSl1_ok, x_sl, kSeq_ok, x_seq, x_an, x_ar, x_ab, x_ac, kSet_ok, x_set, kRet_ok, x_ret, kSif_t, kSif_f, x_sif, kExp_ok, x_exp, kPut4_ok, kPut3_ok, kPut2_ok, kPut1_ok, x_put, kPar2_ok, x_par2, kPar3_ok, x_par3, kFor_ok, x_for, kLc_ok, x_lc, kFn_ok, x_fn, kSeqI_ok, x_seqI, kRng1_ok, x_rng1, x_lc0, kLc4_ok, kLc3_t, kLc3_f, kLc2_ok, x_lc1, kFor3_n, kFor3_c, kFor3_b, kFor3_r, kFor2_ok, un1_x, asT_bl,
  evStart, wipeE, List.map_cons, List.map_nil, List.length_cons, List.length_nil, List.getElem?_cons_zero, List.getElem?_cons_succ, List.getElem?_nil, List.set_cons_zero, List.set_cons_succ, List.set_nil, List.replicate, List.cons_append, List.nil_append, Nat.reduceAdd, Nat.reduceSub, Nat.zero_add, Nat.reduceLeDiff,
  Bool.false_eq_true, if_true, if_false, reduceIte, Bool.not_true, Bool.not_false, lim_is, List.any_cons, List.any_nil, Ty.sub, Bool.or_false, Bool.or_true, Bool.false_or, Bool.true_or, Bool.false_xor, Bool.true_xor, Bool.xor_false, Bool.xor_true,
  zv_add, zv_sub, zv_neg, zv_mul, zv_div, zv_mod, zv_pow, zv_cmp, zv_isN, zv_isB, zv_int, zv_intb, zv_abs, zv_lenl, zv_lent, zv_ixl, isNonW]))

/-! ### what draws: the three helpers that every law here has, over their own numbers -/
def tellM (A B P C Q D Z S : Int) : Ms := sSeq (sSet 5 (mBin modW (mCall intW (maC (mBin powW (mBin addW (mBin addW (mBin modW (mCall intW (maC (mVar 4) (maN))) (mC (.int P))) (mBin mulW (mC (.int C)) (mVar 3))) (mC (.int B))) (mC (.int 5))) (maN))) (mC (.int Q)))) (sSeq (sSet 5 (mBin modW (mCall intW (maC (mBin powW (mBin addW (mBin addW (mBin mulW (mVar 5) (mBin addW (mBin mulW (mC (.int 2)) (mVar 3)) (mC (.int D)))) (mBin mulW (mBin mulW (mC (.int A)) (mVar 3)) (mVar 3))) (mC (.int C))) (mC (.int 3))) (maN))) (mC (.int Z)))) (sRet (mBin modW (mCall intW (maC (mBin divW (mVar 5) (mC (.int S))) (maN))) (mVar 1))))
def tellR (A B P C Q D Z S : Int) : Ms := sSeq (sIf (mtAnd (mtCmp ltW (mVar 3) (mCall lenW (maC (mBin ixW (mVar 0) (mC (.int 0))) (maN)))) (mtCmp geW (mCall absW (maC (mVar 4) (maN))) (mBin powW (mC (.int 10)) (mC (.int 18))))) (sSeq (sSet 2 (mBin addW (mBin mulW (mC (.int 2)) (mBin subW (mCall absW (maC (mVar 4) (maN))) (mBin powW (mC (.int 10)) (mC (.int 18))))) (mCall intW (maC (mCmp ltW (mVar 4) (mC (.int 0))) (maN))))) (sSeq (sPut (mBin divW (mVar 2) (mVar 1)) (mVar 0) (mC (.int 2))) (sRet (mBin modW (mCall intW (maC (mVar 2) (maN))) (mVar 1))))) (sNil)) (tellM A B P C Q D Z S)
def tellG (A B P C Q D Z S : Int) : List Wv → Mem → R Wv := mFn 6 (sSeq (sIf (mtCmp gtW (mBin ixW (mVar 0) (mC (.int 2))) (mC (.int 0))) (sSeq (sSet 2 (mCall intW (maC (mBin ixW (mVar 0) (mC (.int 2))) (maN)))) (sSeq (sPut (mBin divW (mVar 2) (mVar 1)) (mVar 0) (mC (.int 2))) (sRet (mBin modW (mCall intW (maC (mVar 2) (maN))) (mVar 1))))) (sNil)) (sSeq (sSet 3 (mBin ixW (mVar 0) (mC (.int 1)))) (sSeq (sPut (mBin addW (mVar 3) (mC (.int 1))) (mVar 0) (mC (.int 1))) (sSeq (sSet 4 (mBin addW (mBin mulW (mC (.int A)) (mVar 3)) (mC (.int B)))) (sSeq (sIf (mtCmp (eqW true) (mBin ixW (mVar 0) (mC (.int 0))) (mLst (maN))) (sSet 4 (mBin ixW (mBin ixW (mVar 0) (mC (.int 0))) (mBin modW (mCall intW (maC (mVar 3) (maN))) (mCall lenW (maC (mBin ixW (mVar 0) (mC (.int 0))) (maN)))))) (sNil)) (tellR A B P C Q D Z S))))))
def pawG (N : Int) : List Wv → Mem → R Wv := mFn 2 (sRet (mNew (maC (mLc [1] (.nm 1) (mSeqI (mSl (mVar 0) (moN) (moS (mC (.int N))))) (mtYes) (mCall intW (maC (mVar 1) (maN)))) (maC (mC (.int 0)) (maC (mC (.int 0)) (maN))))))
def pickG (f : List Wv → Mem → R Wv) : List Wv → Mem → R Wv := mFn 2 (sRet (mBin ixW (mVar 1) (mApp 2 f (maC (mVar 0) (maC (mCall lenW (maC (mVar 1) (maN))) (maN))))))
/-- what draws: its cells, how many were begun, what is left of a great one -/
def pawO (cs : List Int) (t r : Int) : Ob := .lst [.lst (cs.map .int), .int t, .int r]
theorem at0 {α : Type} (a b c : α) : atI [a, b, c] 0 = some a := rfl
theorem at1 {α : Type} (a b c : α) : atI [a, b, c] 1 = some b := rfl
theorem at2 {α : Type} (a b c : α) : atI [a, b, c] 2 = some c := rfl
theorem mulOk_l {i j : Int} (h : i.natAbs < 2 ^ 64) : mulOk i j = true := by unfold mulOk; rw [decide_eq_true h]; rfl
theorem mulOk_r {i j : Int} (h : j.natAbs < 2 ^ 64) : mulOk i j = true := by unfold mulOk; rw [decide_eq_true h, Bool.or_true]; rfl
theorem toDs_ints : ∀ cs : List Int, toDs (cs.map Wv.int) = some (cs.map PyData.int)
  | [] => rfl
  | c :: cs => by
    show (match toD (.int c), toDs (cs.map Wv.int) with | some d, some ds => some (d :: ds) | _, _ => none) = _
    rw [toDs_ints cs]
    rfl
theorem ints_shaped (cs : List Int) : SeqAt.shaped (.list (cs.map PyData.int)) = true := by
  have h1 : ∀ cs : List Int, PyData.canLayAll0 (cs.map PyData.int) = true := by
    intro cs
    induction cs with
    | nil => simp [PyData.canLayAll0]
    | cons c cs ih => simp [PyData.canLayAll0, PyData.canLay0, ih]
  have h2 : ∀ cs : List Int, PyData.depthAll (cs.map PyData.int) = 0 := by
    intro cs
    induction cs with
    | nil => simp [PyData.depthAll]
    | cons c cs ih => simp [PyData.depthAll, PyData.depth, ih]
  unfold SeqAt.shaped
  simp [PyData.canLay0, PyData.depth, h1, h2]
theorem zv_ne_nil (cs : List Int) (M : Mem) : eqW true (.lst (cs.map .int)) (.lst []) M = .ok (!cs.isEmpty) M := by
  have e1 : toDM M (.lst (cs.map .int)) = some (.list (cs.map PyData.int)) := by
    show (toDs (cs.map Wv.int)).map PyData.list = _
    rw [toDs_ints]; rfl
  have e2 : toDM M (.lst []) = some (.list []) := rfl
  unfold eqW
  rw [e1, e2]
  show (if (SeqAt.shaped (.list (cs.map PyData.int)) && SeqAt.shaped (.list [])) = true then _ else _) = _
  rw [ints_shaped, show SeqAt.shaped (.list []) = true from ints_shaped [], Bool.and_self, if_pos rfl]
  cases cs <;> simp [PyData.eqv, PyData.eqvAll]
theorem at_mod {cs : List Int} (h : cs ≠ []) (t : Int) : ∃ c, c ∈ cs ∧ atI (cs.map Wv.int) (t % (cs.length : Int)) = some (.int c) := by
  have hl : 0 < cs.length := List.length_pos_iff.mpr h
  have h1 := Int.emod_nonneg t (show (cs.length : Int) ≠ 0 by omega)
  have h2 := Int.emod_lt_of_pos t (show (0 : Int) < (cs.length : Int) by omega)
  obtain ⟨j, hj⟩ : ∃ j : Nat, t % (cs.length : Int) = (j : Int) := ⟨(t % (cs.length : Int)).toNat, by omega⟩
  rw [hj] at h2 ⊢
  have hlt : j < cs.length := by omega
  exact ⟨cs[j], List.getElem_mem hlt, atI_nat (by rw [List.getElem?_map, List.getElem?_eq_getElem hlt]; rfl)⟩
structure Nums (A B P C Q D Z S : Int) : Prop where
  a0 : 0 ≤ A
  a : A < 1000000
  b0 : 0 ≤ B
  b : B < 1000000
  p0 : 0 < P
  p : P < 4294967296
  c0 : 0 ≤ C
  c : C < 1000000
  q0 : 0 < Q
  q : Q < 4294967296
  d0 : 0 ≤ D
  d : D < 1000000
  z0 : 0 < Z
  s0 : 0 < S
  s : S < 1073741824
theorem set_get {M : Mem} {n : Nat} {o u : Ob} (h : M[n]? = some o) : (M.set n u)[n]? = some u := by
  rw [List.getElem?_set_self (List.getElem?_eq_some_iff.mp h).1]
theorem tell_rest {A B P C Q D Z S : Int} (K : Nums A B P C Q D Z S) {M : Mem} {n : Nat} {cs : List Int} {t r m c : Int} (h : M[n]? = some (pawO cs (t + 1) r)) (hm : 0 < m) (hm2 : m < 1073741824) (ht : 0 ≤ t) (ht2 : t ≤ 1000000) (hc : cs.length ≤ 1000) :
    ∃ k r', 0 ≤ k ∧ k < m ∧ kFn (tellR A B P C Q D Z S [some (.ref n), some (.int m), none, some (.int t), some (.int c), none] M) = .ok (.int k) (M.set n (pawO cs (t + 1) r')) := by
  have hlen : (cs.map Wv.int).length = cs.length := List.length_map ..
  have hA := K.a0
  have hA2 := K.a
  have hB := K.b0
  have hB2 := K.b
  have hC := K.c0
  have hC2 := K.c
  have hP := K.p0
  have hP2 := K.p
  have hQ := K.q0
  have hQ2 := K.q
  have hD := K.d0
  have hD2 := K.d
  have hZ := K.z0
  have hS := K.s0
  have hS2 := K.s
  have self : M.set n (pawO cs (t + 1) r) = M := by
    obtain ⟨h1, h2⟩ := List.getElem?_eq_some_iff.mp h
    rw [← h2, List.set_getElem_self]
  unfold tellR
  walk_at "ev"
  rw [zv_ixr _ 0 h, at0]
  walk_at "ev"
  rw [hlen]
  -- the mixed one
  have mix : ∃ k r', 0 ≤ k ∧ k < m ∧ kFn (tellM A B P C Q D Z S [some (.ref n), some (.int m), none, some (.int t), some (.int c), none] M) = .ok (.int k) (M.set n (pawO cs (t + 1) r')) := by
    unfold tellM
    walk_at "ev"
    rw [if_pos hP]
    walk_at "ev"
    rw [if_pos (mulOk_l (by omega))]
    walk_at "ev"
    have e1 := Int.emod_nonneg c (show P ≠ 0 by omega)
    have e2 := Int.emod_lt_of_pos c hP
    have e3 : 0 ≤ C * t := Int.mul_nonneg hC ht
    have e4 : C * t ≤ 1000000 * 1000000 := Int.mul_le_mul (by omega) ht2 ht (by omega)
    rw [if_pos (show (0 : Int) ≤ 5 ∧ (5 : Int) ≤ 1000000 ∧ (c % P + C * t + B).natAbs < 2 ^ 64 by omega)]
    walk_at "ev"
    rw [if_pos hQ]
    walk_at "ev"
    generalize hx : (c % P + C * t + B) ^ Int.toNat 5 % Q = x
    have x1 : 0 ≤ x := by rw [← hx]; exact Int.emod_nonneg _ (by omega)
    have x2 : x < 4294967296 := by rw [← hx]; exact Int.lt_trans (Int.emod_lt_of_pos _ hQ) hQ2
    have f1 : 0 ≤ A * t := Int.mul_nonneg hA ht
    have f2 : A * t ≤ 1000000 * 1000000 := Int.mul_le_mul (by omega) ht2 ht (by omega)
    have f3 : 0 ≤ A * t * t := Int.mul_nonneg f1 ht
    have f4 : A * t * t ≤ 1000000 * 1000000 * 1000000 := Int.mul_le_mul f2 ht2 ht (by omega)
    have f5 : 0 ≤ x * (2 * t + D) := Int.mul_nonneg x1 (by omega)
    have f6 : x * (2 * t + D) ≤ 4294967296 * 3000000 := Int.mul_le_mul (by omega) (by omega) (by omega) (by omega)
    rw [if_pos (mulOk_l (show (2 : Int).natAbs < 2 ^ 64 by decide))]
    walk_at "ev"
    rw [if_pos (mulOk_l (show x.natAbs < 2 ^ 64 by omega))]
    walk_at "ev"
    rw [if_pos (mulOk_l (show A.natAbs < 2 ^ 64 by omega))]
    walk_at "ev"
    rw [if_pos (mulOk_l (show (A * t).natAbs < 2 ^ 64 by omega))]
    walk_at "ev"
    rw [if_pos (show (0 : Int) ≤ 3 ∧ (3 : Int) ≤ 1000000 ∧ (x * (2 * t + D) + A * t * t + C).natAbs < 2 ^ 64 by omega)]
    walk_at "ev"
    rw [if_pos hZ]
    walk_at "ev"
    rw [if_pos ⟨hS, hS2⟩]
    walk_at "ev"
    rw [if_pos (show 0 < m from hm)]
    walk_at "ev"
    exact ⟨_, r, Int.emod_nonneg _ (by omega), Int.emod_lt_of_pos _ hm, by rw [self]⟩
  cases h1 : decide (t < (cs.length : Int)) with
  | false =>
    walk_at "ev"
    exact mix
  | true =>
    walk_at "ev"
    rw [if_pos (show (0 : Int) ≤ 18 ∧ (18 : Int) ≤ 1000000 ∧ (10 : Int).natAbs < 2 ^ 64 by decide)]
    walk_at "ev"
    generalize (if c < 0 then -c else c) = d
    generalize (10 : Int) ^ Int.toNat 18 = e
    cases h2 : decide (e ≤ d) with
    | false =>
      walk_at "ev"
      exact mix
    | true =>
      walk_at "ev"
      rw [if_pos (show (0 : Int) ≤ 18 ∧ (18 : Int) ≤ 1000000 ∧ (10 : Int).natAbs < 2 ^ 64 by decide)]
      walk_at "ev"
      rw [if_pos (mulOk_l (show (2 : Int).natAbs < 2 ^ 64 by decide))]
      walk_at "ev"
      rw [if_pos (show 0 < m ∧ m < 1073741824 from ⟨hm, hm2⟩)]
      walk_at "ev"
      rw [zv_put _ 2 _ (k := 2) h rfl]
      walk_at "ev"
      rw [if_pos (show 0 < m from hm)]
      walk_at "ev"
      exact ⟨_, _, Int.emod_nonneg _ (by omega), Int.emod_lt_of_pos _ hm, rfl⟩
theorem tell_ok {A B P C Q D Z S : Int} (K : Nums A B P C Q D Z S) {M : Mem} {n : Nat} {cs : List Int} {t r m : Int} (h : M[n]? = some (pawO cs t r)) (hm : 0 < m) (hm2 : m < 1073741824) (ht : 0 ≤ t) (ht2 : t ≤ 1000000) (hc : cs.length ≤ 1000) :
    ∃ k t' r', 0 ≤ k ∧ k < m ∧ t ≤ t' ∧ t' ≤ t + 1 ∧ tellG A B P C Q D Z S [.ref n, .int m] M = .ok (.int k) (M.set n (pawO cs t' r')) := by
  have hlen : (cs.map Wv.int).length = cs.length := List.length_map ..
  unfold tellG
  walk_at "ev"
  rw [zv_ixr M 2 h, at2]
  walk_at "ev"
  cases hr : decide (0 < r) with
  | true =>
    walk_at "ev"
    rw [zv_ixr M 2 h, at2]
    walk_at "ev"
    rw [if_pos (show 0 < m ∧ m < 1073741824 from ⟨hm, hm2⟩)]
    walk_at "ev"
    rw [zv_put M 2 _ (k := 2) h rfl]
    walk_at "ev"
    rw [if_pos (show 0 < m from hm)]
    walk_at "ev"
    exact ⟨r % m, t, r / m, Int.emod_nonneg _ (by omega), Int.emod_lt_of_pos _ hm, Int.le_refl _, by omega, rfl⟩
  | false =>
    have hA := K.a0
    have hA2 := K.a
    have hB := K.b0
    have hB2 := K.b
    have hC := K.c0
    have hC2 := K.c
    have hP := K.p0
    have hP2 := K.p
    have hQ := K.q0
    have hQ2 := K.q
    have hD := K.d0
    have hD2 := K.d
    have hZ := K.z0
    have hS := K.s0
    have hS2 := K.s
    have h2 : (M.set n (pawO cs (t + 1) r))[n]? = some (pawO cs (t + 1) r) := set_get h
    walk_at "ev"
    rw [zv_ixr M 1 h, at1]
    walk_at "ev"
    rw [zv_put M 1 _ (k := 1) h rfl]
    walk_at "ev"
    rw [if_pos (mulOk_l (by omega))]
    walk_at "ev"
    rw [show (Ob.lst [.lst (cs.map .int), .int (t + 1), .int r]) = pawO cs (t + 1) r from rfl]
    rw [zv_ixr _ 0 h2, at0]
    walk_at "ev"
    rw [zv_ne_nil]
    have rest := fun c => tell_rest (c := c) K (set_get (u := pawO cs (t + 1) r) h) hm hm2 ht ht2 hc
    cases hcs : cs.isEmpty with
    | true =>
      walk_at "ev"
      obtain ⟨k, r', h5, h6, h7⟩ := rest (A * t + B)
      exact ⟨k, t + 1, r', h5, h6, by omega, by omega, by rw [h7, List.set_set]⟩
    | false =>
      obtain ⟨c, h3, h4⟩ := at_mod (cs := cs) (by intro z; rw [z] at hcs; cases hcs) t
      have hl : (0 : Int) < ((cs.map Wv.int).length : Int) := by
        rw [hlen]
        cases cs with
        | nil => cases hcs
        | cons c cs => simp only [List.length_cons]; omega
      walk_at "ev"
      rw [zv_ixr _ 0 h2, at0]
      walk_at "ev"
      rw [zv_ixr _ 0 h2, at0]
      walk_at "ev"
      rw [if_pos hl]
      walk_at "ev"
      rw [hlen, h4]
      walk_at "ev"
      obtain ⟨k, r', h5, h6, h7⟩ := rest c
      exact ⟨k, t + 1, r', h5, h6, by omega, by omega, by rw [h7, List.set_set]⟩

theorem cut_take (xs : List Wv) (N : Nat) : cutW xs none (some (N : Int)) = xs.take N := by
  unfold cutW
  rw [HT.sIx_none, HT.sIx_nat, List.drop_zero, Nat.sub_zero]
  rcases Nat.le_total N xs.length with h | h
  · rw [Nat.min_eq_left h]
  · rw [Nat.min_eq_right h, List.take_length, List.take_of_length_le h]
theorem paw_ok (N : Nat) (ns : List Int) (M : Mem) (hN : N ≤ 1000) : pawG (N : Int) [.rdl (ns.map .int)] M = .ok (.ref M.length) (M ++ [pawO (ns.take N) 0 0]) := by
  have hl : ((ns.map Wv.int).take N).length ≤ 1000 := by rw [List.length_take]; omega
  unfold pawG
  walk_at "ev"
  rw [show sqOf M (.rdl (ns.map Wv.int)) = some (.l (ns.map Wv.int)) from rfl]
  walk_at "ev"
  rw [cut_take]
  walk_at "ev"
  rw [lc_map (f := fun w => w) (fun w hw => ?_) (by rw [lim_is]; simp only [List.length_nil]; omega)]
  · walk_at "ev"
    rw [List.map_id', ← List.map_take]
    rfl
  · obtain ⟨i, _, rfl⟩ := List.mem_map.mp (List.mem_of_mem_take hw)
    rfl
theorem pick_ok {A B P C Q D Z S : Int} (K : Nums A B P C Q D Z S) {M : Mem} {n : Nat} {cs : List Int} {t r : Int} {ws : List Wv} (h : M[n]? = some (pawO cs t r)) (hw : 0 < ws.length) (hw2 : ws.length ≤ 100000) (ht : 0 ≤ t) (ht2 : t ≤ 1000000) (hc : cs.length ≤ 1000) :
    ∃ w t' r', w ∈ ws ∧ t ≤ t' ∧ t' ≤ t + 1 ∧ pickG (tellG A B P C Q D Z S) [.ref n, .lst ws] M = .ok w (M.set n (pawO cs t' r')) := by
  obtain ⟨k, t', r', h1, h2, h3, h4, h5⟩ := tell_ok K (m := (ws.length : Int)) h (by omega) (by omega) ht ht2 hc
  obtain ⟨j, rfl⟩ : ∃ j : Nat, k = (j : Int) := ⟨k.toNat, by omega⟩
  have hlt : j < ws.length := by omega
  refine ⟨ws[j], t', r', List.getElem_mem hlt, h3, h4, ?_⟩
  unfold pickG
  walk_at "ev"
  rw [h5]
  walk_at "ev"
  rw [atI_nat (List.getElem?_eq_getElem hlt)]
  walk_at "ev"
end Mi

namespace Law
open PySem PySem.Spec PyProof.Rows L2 Mi
abbrev sAt (i : Nat) : Stmt := PySem.Challenge.pw_fourstones_k02_what_any_value_is.main.body.getD i (.Pass ⟨0, 0, 0, 0⟩)
abbrev s_law_is_integer : Stmt := sAt 11
abbrev s_law_paw : Stmt := sAt 7
abbrev s_law_tell : Stmt := sAt 8
abbrev s_law_pick : Stmt := sAt 9
abbrev s_law_value : Stmt := sAt 10
abbrev s_is_integer : Stmt := sAt 2
abbrev s_is_within : Stmt := sAt 3
abbrev s_is_cell : Stmt := sAt 4
abbrev s_is_side : Stmt := sAt 5
abbrev s_law : Stmt := sAt 12
def m_law_is_integer : List Wv → Mem → R Wv := mFn 1 (sRet (mAnd (mUn (isW [.int]) (mVar 0)) (mAnd (mCmp (isBlW true) (mVar 0) (mC (.bl true))) (mCmp (isBlW true) (mVar 0) (mC (.bl false))))))
def m_law_paw : List Wv → Mem → R Wv := mFn 2 (sRet (mNew (maC (mLc [1] (.nm 1) (mSeqI (mSl (mVar 0) (moN) (moS (mC (.int 52))))) (mtYes) (mCall intW (maC (mVar 1) (maN)))) (maC (mC (.int 0)) (maC (mC (.int 0)) (maN))))))
def m_law_tell : List Wv → Mem → R Wv := mFn 6 (sSeq (sIf (mtCmp gtW (mBin ixW (mVar 0) (mC (.int 2))) (mC (.int 0))) (sSeq (sSet 2 (mCall intW (maC (mBin ixW (mVar 0) (mC (.int 2))) (maN)))) (sSeq (sPut (mBin divW (mVar 2) (mVar 1)) (mVar 0) (mC (.int 2))) (sRet (mBin modW (mCall intW (maC (mVar 2) (maN))) (mVar 1))))) (sNil)) (sSeq (sSet 3 (mBin ixW (mVar 0) (mC (.int 1)))) (sSeq (sPut (mBin addW (mVar 3) (mC (.int 1))) (mVar 0) (mC (.int 1))) (sSeq (sSet 4 (mBin addW (mBin mulW (mC (.int 607809)) (mVar 3)) (mC (.int 125629)))) (sSeq (sIf (mtCmp (eqW true) (mBin ixW (mVar 0) (mC (.int 0))) (mLst (maN))) (sSet 4 (mBin ixW (mBin ixW (mVar 0) (mC (.int 0))) (mBin modW (mCall intW (maC (mVar 3) (maN))) (mCall lenW (maC (mBin ixW (mVar 0) (mC (.int 0))) (maN)))))) (sNil)) (sSeq (sIf (mtAnd (mtCmp ltW (mVar 3) (mCall lenW (maC (mBin ixW (mVar 0) (mC (.int 0))) (maN)))) (mtCmp geW (mCall absW (maC (mVar 4) (maN))) (mBin powW (mC (.int 10)) (mC (.int 18))))) (sSeq (sSet 2 (mBin addW (mBin mulW (mC (.int 2)) (mBin subW (mCall absW (maC (mVar 4) (maN))) (mBin powW (mC (.int 10)) (mC (.int 18))))) (mCall intW (maC (mCmp ltW (mVar 4) (mC (.int 0))) (maN))))) (sSeq (sPut (mBin divW (mVar 2) (mVar 1)) (mVar 0) (mC (.int 2))) (sRet (mBin modW (mCall intW (maC (mVar 2) (maN))) (mVar 1))))) (sNil)) (sSeq (sSet 5 (mBin modW (mCall intW (maC (mBin powW (mBin addW (mBin addW (mBin modW (mCall intW (maC (mVar 4) (maN))) (mC (.int 2147483543))) (mBin mulW (mC (.int 461041)) (mVar 3))) (mC (.int 125629))) (mC (.int 5))) (maN))) (mC (.int 2147483497)))) (sSeq (sSet 5 (mBin modW (mCall intW (maC (mBin powW (mBin addW (mBin addW (mBin mulW (mVar 5) (mBin addW (mBin mulW (mC (.int 2)) (mVar 3)) (mC (.int 42875)))) (mBin mulW (mBin mulW (mC (.int 607809)) (mVar 3)) (mVar 3))) (mC (.int 461041))) (mC (.int 3))) (maN))) (mC (.int 2147483489)))) (sRet (mBin modW (mCall intW (maC (mBin divW (mVar 5) (mC (.int 16))) (maN))) (mVar 1)))))))))))
def m_law_pick : List Wv → Mem → R Wv := mFn 2 (sRet (mBin ixW (mVar 1) (mApp 2 m_law_tell (maC (mVar 0) (maC (mCall lenW (maC (mVar 1) (maN))) (maN))))))
def m_law_value : List Wv → Mem → R Wv := mFn 2 (sSeq (sSet 1 (mLst (maC (mC (.int 0)) (maC (mC (.int 1)) (maC (mC (.int 2)) (maC (mC (.int 3)) (maC (mC (.int 4)) (maC (mUn negW (mC (.int 1))) (maC (mBin powW (mC (.int 10)) (mC (.int 6))) (maC (mBin addW (mBin powW (mC (.int 10)) (mC (.int 6))) (mC (.int 1))) (maC (mUn negW (mBin powW (mC (.int 10)) (mC (.int 6)))) (maC (mBin subW (mUn negW (mBin powW (mC (.int 10)) (mC (.int 6)))) (mC (.int 1))) (maC (mBin powW (mC (.int 10)) (mC (.int 40))) (maC (mC (.bl true)) (maC (mC (.bl false)) (maC (mC .non) (maC (mC (.str "3")) (maC (mC (.str "")) (maC (mTup (maC (mC (.int 2)) (maN))) (maC (mLst (maN)) (maC (mDct []) (maC (mTup (maC (mC (.int 1)) (maN))) (maN))))))))))))))))))))))) (sRet (mApp 2 m_law_pick (maC (mVar 0) (maC (mBin addW (mVar 1) (mLst (maC (mBin subW (mApp 2 m_law_tell (maC (mVar 0) (maC (mC (.int 9)) (maN)))) (mC (.int 4))) (maC (mLst (maC (mC (.int 3)) (maN))) (maC (mTup (maC (mC (.int 0)) (maC (mC (.int 0)) (maN)))) (maN)))))) (maN))))))
def m_is_integer : List Wv → Mem → R Wv := mFn 1 (sRet (mAnd (mUn (isW [.int]) (mVar 0)) (mNot (mUn (isW [.bl]) (mVar 0)))))
def m_is_within : List Wv → Mem → R Wv := mFn 3 (sSeq (sIf (mtNot (mtE (mApp 1 m_is_integer (maC (mVar 0) (maN))))) (sRet (mC (.bl false))) (sNil)) (sRet (mAnd (mOr (mCmp (isNW false) (mVar 1) (mC .non)) (mCmp leW (mVar 1) (mVar 0))) (mOr (mCmp (isNW false) (mVar 2) (mC .non)) (mCmp leW (mVar 0) (mVar 2))))))
def m_is_cell : List Wv → Mem → R Wv := mFn 2 (sSeq (sIf (mtOr (mtNot (mtE (mUn (isW [.lst, .tup]) (mVar 0)))) (mtCmp (eqW true) (mCall lenW (maC (mVar 0) (maN))) (mC (.int 2)))) (sRet (mC (.bl false))) (sNil)) (sRet (mCall (allW false) (maC (mLc [1] (.nm 1) (mSeqI (mVar 0)) (mtYes) (mApp 3 m_is_within (maC (mVar 1) (maC (mUn negW (mC (.int 1000000))) (maC (mC (.int 1000000)) (maN)))))) (maN)))))
def m_is_side : List Wv → Mem → R Wv := mFn 1 (sRet (mApp 3 m_is_within (maC (mVar 0) (maC (mC (.int 0)) (maC (mC (.int 3)) (maN))))))
def m_law : List Wv → Mem → R Wv := mFn 13 (sSeq (sSet 1 (mApp 1 m_law_paw (maC (mVar 0) (maN)))) (sSeq (sFor (.nm 2) (mRng1 (mC (.int 8))) (sSeq (sPar3 3 4 5 (maC (mApp 1 m_law_value (maC (mVar 1) (maN))) (maC (mApp 2 m_law_pick (maC (mVar 1) (maC (mLst (maC (mC .non) (maC (mC (.int 0)) (maC (mUn negW (mC (.int 3))) (maC (mBin powW (mC (.int 10)) (mC (.int 6))) (maN)))))) (maN)))) (maC (mApp 2 m_law_pick (maC (mVar 1) (maC (mLst (maC (mC .non) (maC (mC (.int 3)) (maC (mC (.int 0)) (maC (mBin powW (mC (.int 10)) (mC (.int 6))) (maC (mBin powW (mC (.int 10)) (mC (.int 40))) (maN))))))) (maN)))) (maN))))) (sSeq (sSet 6 (mApp 1 m_law_is_integer (maC (mVar 3) (maN)))) (sSeq (sIf (mtCmp (eqW true) (mCall reprW (maC (mLst (maC (mApp 1 m_is_integer (maC (mVar 3) (maN))) (maC (mAppK 1 0 1 [0] m_is_integer maN (maC (mVar 3) (maN))) (maN)))) (maN))) (mCall reprW (maC (mLst (maC (mVar 6) (maC (mVar 6) (maN)))) (maN)))) (sRet (mC (.bl false))) (sNil)) (sSeq (sSet 7 (mAnd (mVar 6) (mAnd (mOr (mCmp (isNW false) (mVar 4) (mC .non)) (mCmp geW (mVar 3) (mVar 4))) (mOr (mCmp (isNW false) (mVar 5) (mC .non)) (mCmp leW (mVar 3) (mVar 5)))))) (sSeq (sIf (mtCmp (eqW true) (mCall reprW (maC (mLst (maC (mApp 3 m_is_within (maC (mVar 3) (maC (mVar 4) (maC (mVar 5) (maN))))) (maC (mAppK 3 0 3 [2, 1, 0] m_is_within maN (maC (mVar 5) (maC (mVar 4) (maC (mVar 3) (maN))))) (maN)))) (maN))) (mCall reprW (maC (mLst (maC (mVar 7) (maC (mVar 7) (maN)))) (maN)))) (sRet (mC (.bl false))) (sNil)) (sSeq (sIf (mtCmp (eqW true) (mCall reprW (maC (mLst (maC (mApp 1 m_is_side (maC (mVar 3) (maN))) (maC (mAppK 1 0 1 [0] m_is_side maN (maC (mVar 3) (maN))) (maN)))) (maN))) (mCall reprW (maC (mBin mulW (mLst (maC (mAnd (mVar 6) (mCmp (inW false) (mVar 3) (mTup (maC (mC (.int 0)) (maC (mC (.int 1)) (maC (mC (.int 2)) (maC (mC (.int 3)) (maN)))))))) (maN))) (mC (.int 2))) (maN)))) (sRet (mC (.bl false))) (sNil)) (sSeq (sPar2 8 9 (maC (mApp 1 m_law_value (maC (mVar 1) (maN))) (maC (mApp 1 m_law_value (maC (mVar 1) (maN))) (maN)))) (sSeq (sSet 10 (mLc [11] (.nm 11) (mSeqI (mTup (maC (mVar 3) (maC (mVar 8) (maN))))) (mtAnd (mtE (mApp 1 m_law_is_integer (maC (mVar 11) (maN)))) (mtCmp leW (mCall absW (maC (mVar 11) (maN))) (mBin powW (mC (.int 10)) (mC (.int 6))))) (mVar 11))) (sSeq (sIf (mtCmp (eqW true) (mCall reprW (maC (mLst (maC (mApp 1 m_is_cell (maC (mLst (maC (mVar 3) (maC (mVar 8) (maN)))) (maN))) (maC (mApp 1 m_is_cell (maC (mTup (maC (mVar 3) (maC (mVar 8) (maN)))) (maN))) (maN)))) (maN))) (mCall reprW (maC (mBin mulW (mLst (maC (mCmp (eqW false) (mCall lenW (maC (mVar 10) (maN))) (mC (.int 2))) (maN))) (mC (.int 2))) (maN)))) (sRet (mC (.bl false))) (sNil)) (sSeq (sSet 12 (mApp 2 m_law_pick (maC (mVar 1) (maC (mLst (maC (mLst (maC (mVar 3) (maN))) (maC (mLst (maC (mVar 3) (maC (mVar 8) (maC (mVar 9) (maN))))) (maC (mVar 3) (maC (mC (.str "12")) (maC (mDct [(.inl 1, .int 1), (.inl 2, .int 1)]) (maC (mC .non) (maC (mTup (maN)) (maC (mTup (maC (mTup (maC (mC (.int 1)) (maC (mC (.int 2)) (maN)))) (maN))) (maN)))))))))) (maN))))) (sSeq (sSet 7 (mAnd (mUn (isW [.lst, .tup]) (mVar 12)) (mAnd (mCmp (eqW false) (mCall lenW (maC (mVar 12) (maN))) (mC (.int 2))) (mCmp (eqW false) (mLc [11] (.nm 11) (mSeqI (mVar 12)) (mtOr (mtNot (mtE (mApp 1 m_law_is_integer (maC (mVar 11) (maN))))) (mtCmp gtW (mCall absW (maC (mVar 11) (maN))) (mBin powW (mC (.int 10)) (mC (.int 6))))) (mVar 11)) (mLst (maN)))))) (sIf (mtCmp (eqW true) (mCall reprW (maC (mApp 1 m_is_cell (maC (mVar 12) (maN))) (maN))) (mCall reprW (maC (mVar 7) (maN)))) (sRet (mC (.bl false))) (sNil)))))))))))))) (sRet (mC (.bl true)))))
abbrev N_law_is_integer : List Str := ["_law_value_here"]
theorem sc_law_is_integer : FnScope ["_law_value_here"] ["_law_value_here"] (defScope s_law_is_integer) := ⟨rfl, rfl, rfl, by decide +kernel, rfl, by decide +kernel, by decide +kernel⟩
abbrev N_law_paw : List Str := ["_law_script", "_law_cell"]
theorem sc_law_paw : FnScope ["_law_script", "_law_cell"] ["_law_script"] (defScope s_law_paw) := ⟨rfl, rfl, rfl, by decide +kernel, rfl, by decide +kernel, by decide +kernel⟩
abbrev N_law_tell : List Str := ["_law_paw_here", "_law_many", "_law_rest", "_law_turn", "_law_cell", "_law_mixed"]
theorem sc_law_tell : FnScope ["_law_paw_here", "_law_many", "_law_rest", "_law_turn", "_law_cell", "_law_mixed"] ["_law_paw_here", "_law_many"] (defScope s_law_tell) := ⟨rfl, rfl, rfl, by decide +kernel, rfl, by decide +kernel, by decide +kernel⟩
abbrev N_law_pick : List Str := ["_law_paw_here", "_law_some"]
theorem sc_law_pick : FnScope ["_law_paw_here", "_law_some"] ["_law_paw_here", "_law_some"] (defScope s_law_pick) := ⟨rfl, rfl, rfl, by decide +kernel, rfl, by decide +kernel, by decide +kernel⟩
abbrev N_law_value : List Str := ["_law_paw_here", "_law_some"]
theorem sc_law_value : FnScope ["_law_paw_here", "_law_some"] ["_law_paw_here"] (defScope s_law_value) := ⟨rfl, rfl, rfl, by decide +kernel, rfl, by decide +kernel, by decide +kernel⟩
abbrev N_is_integer : List Str := ["value"]
theorem sc_is_integer : FnScope ["value"] ["value"] (defScope s_is_integer) := ⟨rfl, rfl, rfl, by decide +kernel, rfl, by decide +kernel, by decide +kernel⟩
abbrev N_is_within : List Str := ["value", "least", "most"]
theorem sc_is_within : FnScope ["value", "least", "most"] ["value", "least", "most"] (defScope s_is_within) := ⟨rfl, rfl, rfl, by decide +kernel, rfl, by decide +kernel, by decide +kernel⟩
abbrev N_is_cell : List Str := ["value", "each"]
theorem sc_is_cell : FnScope ["value", "each"] ["value"] (defScope s_is_cell) := ⟨rfl, rfl, rfl, by decide +kernel, rfl, by decide +kernel, by decide +kernel⟩
abbrev N_is_side : List Str := ["value"]
theorem sc_is_side : FnScope ["value"] ["value"] (defScope s_is_side) := ⟨rfl, rfl, rfl, by decide +kernel, rfl, by decide +kernel, by decide +kernel⟩
abbrev N_law : List Str := ["_law_script", "_law_paw_here", "_law_turn", "_law_value_here", "_law_least", "_law_most", "_law_is_so", "_law_due", "_law_other", "_law_third", "_law_places", "_law_each", "_law_odd"]
theorem sc_law : FnScope ["_law_script", "_law_paw_here", "_law_turn", "_law_value_here", "_law_least", "_law_most", "_law_is_so", "_law_due", "_law_other", "_law_third", "_law_places", "_law_each", "_law_odd"] ["_law_script"] (defScope s_law) := ⟨rfl, rfl, rfl, by decide +kernel, rfl, by decide +kernel, by decide +kernel⟩
structure Txt (K : PySem.W.Frag) (mg : Str → Option Value) where
  a_law_is_integer : Addr
  fd_law_is_integer : FuncData
  F_law_is_integer : Fun K "_law_is_integer" "_law_is_integer" s_law_is_integer a_law_is_integer fd_law_is_integer
  g_law_is_integer : mg "_law_is_integer" = some (.ref a_law_is_integer)
  b_law_is_integer : Binds K fd_law_is_integer ["_law_value_here"] []
  a_law_paw : Addr
  fd_law_paw : FuncData
  F_law_paw : Fun K "_law_paw" "_law_paw" s_law_paw a_law_paw fd_law_paw
  g_law_paw : mg "_law_paw" = some (.ref a_law_paw)
  b_law_paw : Binds K fd_law_paw ["_law_script"] []
  a_law_tell : Addr
  fd_law_tell : FuncData
  F_law_tell : Fun K "_law_tell" "_law_tell" s_law_tell a_law_tell fd_law_tell
  g_law_tell : mg "_law_tell" = some (.ref a_law_tell)
  b_law_tell : Binds K fd_law_tell ["_law_paw_here", "_law_many"] []
  a_law_pick : Addr
  fd_law_pick : FuncData
  F_law_pick : Fun K "_law_pick" "_law_pick" s_law_pick a_law_pick fd_law_pick
  g_law_pick : mg "_law_pick" = some (.ref a_law_pick)
  b_law_pick : Binds K fd_law_pick ["_law_paw_here", "_law_some"] []
  a_law_value : Addr
  fd_law_value : FuncData
  F_law_value : Fun K "_law_value" "_law_value" s_law_value a_law_value fd_law_value
  g_law_value : mg "_law_value" = some (.ref a_law_value)
  b_law_value : Binds K fd_law_value ["_law_paw_here"] []
  a_is_integer : Addr
  fd_is_integer : FuncData
  F_is_integer : Fun K "is_integer" "is_integer" s_is_integer a_is_integer fd_is_integer
  g_is_integer : mg "is_integer" = some (.ref a_is_integer)
  b_is_integer : Binds K fd_is_integer ["value"] []
  a_is_within : Addr
  fd_is_within : FuncData
  F_is_within : Fun K "is_within" "is_within" s_is_within a_is_within fd_is_within
  g_is_within : mg "is_within" = some (.ref a_is_within)
  b_is_within : Binds K fd_is_within ["value", "least", "most"] []
  a_is_cell : Addr
  fd_is_cell : FuncData
  F_is_cell : Fun K "is_cell" "is_cell" s_is_cell a_is_cell fd_is_cell
  g_is_cell : mg "is_cell" = some (.ref a_is_cell)
  b_is_cell : Binds K fd_is_cell ["value"] []
  a_is_side : Addr
  fd_is_side : FuncData
  F_is_side : Fun K "is_side" "is_side" s_is_side a_is_side fd_is_side
  g_is_side : mg "is_side" = some (.ref a_is_side)
  b_is_side : Binds K fd_is_side ["value"] []
  a_law : Addr
  fd_law : FuncData
  F_law : Fun K "law" "law" s_law a_law fd_law
  g_law : mg "law" = some (.ref a_law)
  b_law : Binds K fd_law ["_law_script"] []
  c_MOST_PLACE : ∃ t, mg "MOST_PLACE" = some (.int 1000000 t)
  n_abs : mg "abs" = none
  n_all : mg "all" = none
  n_bool : mg "bool" = none
  n_int : mg "int" = none
  n_isinstance : mg "isinstance" = none
  n_len : mg "len" = none
  n_list : mg "list" = none
  n_range : mg "range" = none
  n_repr : mg "repr" = none
  n_tuple : mg "tuple" = none
theorem kb_is_integer_0_value {K : PySem.W.Frag} {f : Addr} {fd : FuncData} (F : Fun K "is_integer" "is_integer" s_is_integer f fd) : BK fd ["value"] 0 ["value"] [0] := .of F fun _ _ _ _ _ _ us ws h1 h2 => match us, ws, h1, h2 with | [], [_], _, _ => rfl
theorem kb_is_side_0_value {K : PySem.W.Frag} {f : Addr} {fd : FuncData} (F : Fun K "is_side" "is_side" s_is_side f fd) : BK fd ["value"] 0 ["value"] [0] := .of F fun _ _ _ _ _ _ us ws h1 h2 => match us, ws, h1, h2 with | [], [_], _, _ => rfl
theorem kb_is_within_0_most_least_value {K : PySem.W.Frag} {f : Addr} {fd : FuncData} (F : Fun K "is_within" "is_within" s_is_within f fd) : BK fd ["value", "least", "most"] 0 ["most", "least", "value"] [2, 1, 0] := .of F fun _ _ _ _ _ _ us ws h1 h2 => match us, ws, h1, h2 with | [], [_, _, _], _, _ => rfl
section
variable {P : Program} {w : World} {K : PySem.W.Frag} {mg : Str → Option Value} {base : Heap}
theorem ok_law_is_integer (T : Txt K mg)  : FnG P w K mg base 1 T.a_law_is_integer T.fd_law_is_integer ["_law_value_here"] m_law_is_integer := by
  refine FnG.of T.F_law_is_integer sc_law_is_integer fun cdv A outer s H E hr hgd hx => ?_
  exact s_one (s_ret (e_and (e_is T.n_isinstance (e_var (pv 0)) (isTy rfl T.n_int PyProof.Rows.boot_int)) (e_and (e_cmp o_notBl (e_var (pv 0)) (e_bl)) (e_one (e_cmp o_notBl (e_var (pv 0)) (e_bl))))))
theorem ok_law_paw (T : Txt K mg)  : FnG P w K mg base 1 T.a_law_paw T.fd_law_paw ["_law_script"] m_law_paw := by
  refine FnG.of T.F_law_paw sc_law_paw fun cdv A outer s H E hr hgd hx => ?_
  exact s_one (s_ret (e_new (a_cons (e_lc rfl sc_law_paw.nd (i_seq (e_sl (e_var (pv 0)) (o_none) (o_some (e_int)))) (blkOk_by (N := N_law_paw) (sc := (defScope s_law_paw)) (own := [("_law_cell", 1)]) (by decide +kernel)) (by decide) (fun _ _ _ _ _ => g_nm sc_law_paw.nd) (fun _ _ _ _ _ => ts_nil) (fun _ _ _ _ _ => e_ty c_int T.n_int PyProof.Rows.boot_int (a_cons (e_var (pv 1)) (a_nil)))) (a_cons (e_int) (a_cons (e_int) (a_nil))))))
theorem ok_law_tell (T : Txt K mg)  : FnG P w K mg base 1 T.a_law_tell T.fd_law_tell ["_law_paw_here", "_law_many"] m_law_tell := by
  refine FnG.of T.F_law_tell sc_law_tell fun cdv A outer s H E hr hgd hx => ?_
  exact s_cons (s_if (t_cmp o_gt (e_ix (e_var (pv 0)) (e_int)) (e_int)) (s_cons (s_set sc_law_tell.nd (e_ty c_int T.n_int PyProof.Rows.boot_int (a_cons (e_ix (e_var (pv 0)) (e_int)) (a_nil)))) (s_cons (s_put (e_bin o_div (e_var (pv 2)) (e_var (pv 1))) (e_var (pv 0)) (e_int)) (s_one (s_ret (e_bin o_mod (e_ty c_int T.n_int PyProof.Rows.boot_int (a_cons (e_var (pv 2)) (a_nil))) (e_var (pv 1))))))) (s_nil)) (s_cons (s_set sc_law_tell.nd (e_ix (e_var (pv 0)) (e_int))) (s_cons (s_put (e_bin o_add (e_var (pv 3)) (e_int)) (e_var (pv 0)) (e_int)) (s_cons (s_set sc_law_tell.nd (e_bin o_add (e_bin o_mul (e_int) (e_var (pv 3))) (e_int))) (s_cons (s_if (t_cmp (o_ne hr.units) (e_ix (e_var (pv 0)) (e_int)) (e_lst (a_nil))) (s_one (s_set sc_law_tell.nd (e_ix (e_ix (e_var (pv 0)) (e_int)) (e_bin o_mod (e_ty c_int T.n_int PyProof.Rows.boot_int (a_cons (e_var (pv 3)) (a_nil))) (e_bi c_len T.n_len PySem.boot_len (a_cons (e_ix (e_var (pv 0)) (e_int)) (a_nil))))))) (s_nil)) (s_cons (s_if (t_w (w_and (t_cmp o_lt (e_var (pv 3)) (e_bi c_len T.n_len PySem.boot_len (a_cons (e_ix (e_var (pv 0)) (e_int)) (a_nil)))) (w_one (t_cmp o_ge (e_bi c_abs T.n_abs PyProof.Rows.boot_abs (a_cons (e_var (pv 4)) (a_nil))) (e_bin o_pow (e_int) (e_int))) (.inl rfl)))) (s_cons (s_set sc_law_tell.nd (e_bin o_add (e_bin o_mul (e_int) (e_bin o_sub (e_bi c_abs T.n_abs PyProof.Rows.boot_abs (a_cons (e_var (pv 4)) (a_nil))) (e_bin o_pow (e_int) (e_int)))) (e_ty c_int T.n_int PyProof.Rows.boot_int (a_cons (e_cmp o_lt (e_var (pv 4)) (e_int)) (a_nil))))) (s_cons (s_put (e_bin o_div (e_var (pv 2)) (e_var (pv 1))) (e_var (pv 0)) (e_int)) (s_one (s_ret (e_bin o_mod (e_ty c_int T.n_int PyProof.Rows.boot_int (a_cons (e_var (pv 2)) (a_nil))) (e_var (pv 1))))))) (s_nil)) (s_cons (s_set sc_law_tell.nd (e_bin o_mod (e_ty c_int T.n_int PyProof.Rows.boot_int (a_cons (e_bin o_pow (e_bin o_add (e_bin o_add (e_bin o_mod (e_ty c_int T.n_int PyProof.Rows.boot_int (a_cons (e_var (pv 4)) (a_nil))) (e_int)) (e_bin o_mul (e_int) (e_var (pv 3)))) (e_int)) (e_int)) (a_nil))) (e_int))) (s_cons (s_set sc_law_tell.nd (e_bin o_mod (e_ty c_int T.n_int PyProof.Rows.boot_int (a_cons (e_bin o_pow (e_bin o_add (e_bin o_add (e_bin o_mul (e_var (pv 5)) (e_bin o_add (e_bin o_mul (e_int) (e_var (pv 3))) (e_int))) (e_bin o_mul (e_bin o_mul (e_int) (e_var (pv 3))) (e_var (pv 3)))) (e_int)) (e_int)) (a_nil))) (e_int))) (s_one (s_ret (e_bin o_mod (e_ty c_int T.n_int PyProof.Rows.boot_int (a_cons (e_bin o_div (e_var (pv 5)) (e_int)) (a_nil))) (e_var (pv 1))))))))))))
theorem ok_law_pick (T : Txt K mg) (G_law_tell : FnG P w K mg base 1 T.a_law_tell T.fd_law_tell ["_law_paw_here", "_law_many"] m_law_tell) : FnG P w K mg base 2 T.a_law_pick T.fd_law_pick ["_law_paw_here", "_law_some"] m_law_pick := by
  refine FnG.of T.F_law_pick sc_law_pick fun cdv A outer s H E hr hgd hx => ?_
  exact s_one (s_ret (e_ix (e_var (pv 1)) (e_call (G_law_tell.up (by decide)) hr hgd hx T.g_law_tell T.F_law_tell.kp T.b_law_tell (a_cons (e_var (pv 0)) (a_cons (e_bi c_len T.n_len PySem.boot_len (a_cons (e_var (pv 1)) (a_nil))) (a_nil))))))
theorem ok_law_value (T : Txt K mg) (G_law_pick : FnG P w K mg base 2 T.a_law_pick T.fd_law_pick ["_law_paw_here", "_law_some"] m_law_pick) (G_law_tell : FnG P w K mg base 1 T.a_law_tell T.fd_law_tell ["_law_paw_here", "_law_many"] m_law_tell) : FnG P w K mg base 3 T.a_law_value T.fd_law_value ["_law_paw_here"] m_law_value := by
  refine FnG.of T.F_law_value sc_law_value fun cdv A outer s H E hr hgd hx => ?_
  exact s_cons (s_set sc_law_value.nd (e_lst (a_cons (e_int) (a_cons (e_int) (a_cons (e_int) (a_cons (e_int) (a_cons (e_int) (a_cons (e_un o_neg (e_int)) (a_cons (e_bin o_pow (e_int) (e_int)) (a_cons (e_bin o_add (e_bin o_pow (e_int) (e_int)) (e_int)) (a_cons (e_un o_neg (e_bin o_pow (e_int) (e_int))) (a_cons (e_bin o_sub (e_un o_neg (e_bin o_pow (e_int) (e_int))) (e_int)) (a_cons (e_bin o_pow (e_int) (e_int)) (a_cons (e_bl) (a_cons (e_bl) (a_cons (e_non) (a_cons (e_str) (a_cons (e_str) (a_cons (e_tup (a_cons (e_int) (a_nil))) (a_cons (e_lst (a_nil)) (a_cons (e_dct0) (a_cons (e_tup (a_cons (e_int) (a_nil))) (a_nil))))))))))))))))))))))) (s_one (s_ret (e_call (G_law_pick.up (by decide)) hr hgd hx T.g_law_pick T.F_law_pick.kp T.b_law_pick (a_cons (e_var (pv 0)) (a_cons (e_bin o_add (e_var (pv 1)) (e_lst (a_cons (e_bin o_sub (e_call (G_law_tell.up (by decide)) hr hgd hx T.g_law_tell T.F_law_tell.kp T.b_law_tell (a_cons (e_var (pv 0)) (a_cons (e_int) (a_nil)))) (e_int)) (a_cons (e_lst (a_cons (e_int) (a_nil))) (a_cons (e_tup (a_cons (e_int) (a_cons (e_int) (a_nil)))) (a_nil)))))) (a_nil))))))
theorem ok_is_integer (T : Txt K mg)  : FnG P w K mg base 1 T.a_is_integer T.fd_is_integer ["value"] m_is_integer := by
  refine FnG.of T.F_is_integer sc_is_integer fun cdv A outer s H E hr hgd hx => ?_
  exact s_one (s_ret (e_and (e_is T.n_isinstance (e_var (pv 0)) (isTy rfl T.n_int PyProof.Rows.boot_int)) (e_one (e_not (e_is T.n_isinstance (e_var (pv 0)) (isTy rfl T.n_bool PyProof.Rows.boot_bool))))))
theorem ok_is_within (T : Txt K mg) (G_is_integer : FnG P w K mg base 1 T.a_is_integer T.fd_is_integer ["value"] m_is_integer) : FnG P w K mg base 2 T.a_is_within T.fd_is_within ["value", "least", "most"] m_is_within := by
  refine FnG.of T.F_is_within sc_is_within fun cdv A outer s H E hr hgd hx => ?_
  exact s_cons (s_if (t_not (t_val (e_call (G_is_integer.up (by decide)) hr hgd hx T.g_is_integer T.F_is_integer.kp T.b_is_integer (a_cons (e_var (pv 0)) (a_nil))))) (s_one (s_ret (e_bl))) (s_nil)) (s_one (s_ret (e_and (e_or (e_cmp o_isN (e_var (pv 1)) (e_non)) (e_one (e_cmp o_le (e_var (pv 1)) (e_var (pv 0))))) (e_one (e_or (e_cmp o_isN (e_var (pv 2)) (e_non)) (e_one (e_cmp o_le (e_var (pv 0)) (e_var (pv 2)))))))))
theorem ok_is_cell (T : Txt K mg) (G_is_within : FnG P w K mg base 2 T.a_is_within T.fd_is_within ["value", "least", "most"] m_is_within) : FnG P w K mg base 3 T.a_is_cell T.fd_is_cell ["value"] m_is_cell := by
  refine FnG.of T.F_is_cell sc_is_cell fun cdv A outer s H E hr hgd hx => ?_
  exact s_cons (s_if (t_w (w_or (t_not (t_val (e_ist T.n_isinstance (e_var (pv 0)) (.cons (isTy (t := .lst) rfl T.n_list PyProof.Rows.boot_list) (.cons (isTy (t := .tup) rfl T.n_tuple PyProof.Rows.boot_tuple) (.nil)))))) (w_one (t_cmp (o_ne hr.units) (e_bi c_len T.n_len PySem.boot_len (a_cons (e_var (pv 0)) (a_nil))) (e_int)) (.inr rfl)))) (s_one (s_ret (e_bl))) (s_nil)) (s_one (s_ret (e_bi (c_all rfl) T.n_all PyProof.Rows.boot_all (a_cons (e_lc rfl sc_is_cell.nd (i_seq (e_var (pv 0))) (blkOk_by (N := N_is_cell) (sc := (defScope s_is_cell)) (own := [("each", 1)]) (by decide +kernel)) (by decide) (fun _ _ _ _ _ => g_nm sc_is_cell.nd) (fun _ _ _ _ _ => ts_nil) (fun _ _ _ _ _ => e_call (G_is_within.up (by decide)) hr hgd passL T.g_is_within T.F_is_within.kp T.b_is_within (a_cons (e_var (pv 1)) (a_cons (e_un o_neg (e_gint T.c_MOST_PLACE)) (a_cons (e_gint T.c_MOST_PLACE) (a_nil)))))) (a_nil)))))
theorem ok_is_side (T : Txt K mg) (G_is_within : FnG P w K mg base 2 T.a_is_within T.fd_is_within ["value", "least", "most"] m_is_within) : FnG P w K mg base 3 T.a_is_side T.fd_is_side ["value"] m_is_side := by
  refine FnG.of T.F_is_side sc_is_side fun cdv A outer s H E hr hgd hx => ?_
  exact s_one (s_ret (e_call (G_is_within.up (by decide)) hr hgd hx T.g_is_within T.F_is_within.kp T.b_is_within (a_cons (e_var (pv 0)) (a_cons (e_int) (a_cons (e_int) (a_nil))))))
theorem ok_law (T : Txt K mg) (G_law_is_integer : FnG P w K mg base 1 T.a_law_is_integer T.fd_law_is_integer ["_law_value_here"] m_law_is_integer) (G_law_paw : FnG P w K mg base 1 T.a_law_paw T.fd_law_paw ["_law_script"] m_law_paw) (G_law_pick : FnG P w K mg base 2 T.a_law_pick T.fd_law_pick ["_law_paw_here", "_law_some"] m_law_pick) (G_law_value : FnG P w K mg base 3 T.a_law_value T.fd_law_value ["_law_paw_here"] m_law_value) (G_is_cell : FnG P w K mg base 3 T.a_is_cell T.fd_is_cell ["value"] m_is_cell) (G_is_integer : FnG P w K mg base 1 T.a_is_integer T.fd_is_integer ["value"] m_is_integer) (G_is_side : FnG P w K mg base 3 T.a_is_side T.fd_is_side ["value"] m_is_side) (G_is_within : FnG P w K mg base 2 T.a_is_within T.fd_is_within ["value", "least", "most"] m_is_within) : FnG P w K mg base 4 T.a_law T.fd_law ["_law_script"] m_law := by
  refine FnG.of T.F_law sc_law fun cdv A outer s H E hr hgd hx => ?_
  exact s_cons (s_set sc_law.nd (e_call (G_law_paw.up (by decide)) hr hgd hx T.g_law_paw T.F_law_paw.kp T.b_law_paw (a_cons (e_var (pv 0)) (a_nil)))) (s_cons (s_for (passes_of rfl) rfl (i_rng1 T.n_range (e_int)) (g_nm sc_law.nd) (s_cons (s_par3 rfl sc_law.nd (a_cons (e_call (G_law_value.up (by decide)) hr hgd hx T.g_law_value T.F_law_value.kp T.b_law_value (a_cons (e_var (pv 1)) (a_nil))) (a_cons (e_call (G_law_pick.up (by decide)) hr hgd hx T.g_law_pick T.F_law_pick.kp T.b_law_pick (a_cons (e_var (pv 1)) (a_cons (e_lst (a_cons (e_non) (a_cons (e_int) (a_cons (e_un o_neg (e_int)) (a_cons (e_bin o_pow (e_int) (e_int)) (a_nil)))))) (a_nil)))) (a_cons (e_call (G_law_pick.up (by decide)) hr hgd hx T.g_law_pick T.F_law_pick.kp T.b_law_pick (a_cons (e_var (pv 1)) (a_cons (e_lst (a_cons (e_non) (a_cons (e_int) (a_cons (e_int) (a_cons (e_bin o_pow (e_int) (e_int)) (a_cons (e_bin o_pow (e_int) (e_int)) (a_nil))))))) (a_nil)))) (a_nil))))) (s_cons (s_set sc_law.nd (e_call (G_law_is_integer.up (by decide)) hr hgd hx T.g_law_is_integer T.F_law_is_integer.kp T.b_law_is_integer (a_cons (e_var (pv 3)) (a_nil)))) (s_cons (s_if (t_cmp (o_ne hr.units) (e_bi (c_repr hgd hr.units) T.n_repr PyProof.Rows.boot_repr (a_cons (e_lst (a_cons (e_call (G_is_integer.up (by decide)) hr hgd hx T.g_is_integer T.F_is_integer.kp T.b_is_integer (a_cons (e_var (pv 3)) (a_nil))) (a_cons (e_callK0 (G_is_integer.up (by decide)) hr hgd hx T.g_is_integer T.F_is_integer.kp (kb_is_integer_0_value T.F_is_integer) (k_cons (e_var (pv 3)) (k_nil))) (a_nil)))) (a_nil))) (e_bi (c_repr hgd hr.units) T.n_repr PyProof.Rows.boot_repr (a_cons (e_lst (a_cons (e_var (pv 6)) (a_cons (e_var (pv 6)) (a_nil)))) (a_nil)))) (s_one (s_ret (e_bl))) (s_nil)) (s_cons (s_set sc_law.nd (e_and (e_var (pv 6)) (e_and (e_or (e_cmp o_isN (e_var (pv 4)) (e_non)) (e_one (e_cmp o_ge (e_var (pv 3)) (e_var (pv 4))))) (e_one (e_or (e_cmp o_isN (e_var (pv 5)) (e_non)) (e_one (e_cmp o_le (e_var (pv 3)) (e_var (pv 5))))))))) (s_cons (s_if (t_cmp (o_ne hr.units) (e_bi (c_repr hgd hr.units) T.n_repr PyProof.Rows.boot_repr (a_cons (e_lst (a_cons (e_call (G_is_within.up (by decide)) hr hgd hx T.g_is_within T.F_is_within.kp T.b_is_within (a_cons (e_var (pv 3)) (a_cons (e_var (pv 4)) (a_cons (e_var (pv 5)) (a_nil))))) (a_cons (e_callK0 (G_is_within.up (by decide)) hr hgd hx T.g_is_within T.F_is_within.kp (kb_is_within_0_most_least_value T.F_is_within) (k_cons (e_var (pv 5)) (k_cons (e_var (pv 4)) (k_cons (e_var (pv 3)) (k_nil))))) (a_nil)))) (a_nil))) (e_bi (c_repr hgd hr.units) T.n_repr PyProof.Rows.boot_repr (a_cons (e_lst (a_cons (e_var (pv 7)) (a_cons (e_var (pv 7)) (a_nil)))) (a_nil)))) (s_one (s_ret (e_bl))) (s_nil)) (s_cons (s_if (t_cmp (o_ne hr.units) (e_bi (c_repr hgd hr.units) T.n_repr PyProof.Rows.boot_repr (a_cons (e_lst (a_cons (e_call (G_is_side.up (by decide)) hr hgd hx T.g_is_side T.F_is_side.kp T.b_is_side (a_cons (e_var (pv 3)) (a_nil))) (a_cons (e_callK0 (G_is_side.up (by decide)) hr hgd hx T.g_is_side T.F_is_side.kp (kb_is_side_0_value T.F_is_side) (k_cons (e_var (pv 3)) (k_nil))) (a_nil)))) (a_nil))) (e_bi (c_repr hgd hr.units) T.n_repr PyProof.Rows.boot_repr (a_cons (e_bin o_mul (e_lst (a_cons (e_and (e_var (pv 6)) (e_one (e_cmp (o_in hr.units) (e_var (pv 3)) (e_tup (a_cons (e_int) (a_cons (e_int) (a_cons (e_int) (a_cons (e_int) (a_nil))))))))) (a_nil))) (e_int)) (a_nil)))) (s_one (s_ret (e_bl))) (s_nil)) (s_cons (s_par2 rfl sc_law.nd (a_cons (e_call (G_law_value.up (by decide)) hr hgd hx T.g_law_value T.F_law_value.kp T.b_law_value (a_cons (e_var (pv 1)) (a_nil))) (a_cons (e_call (G_law_value.up (by decide)) hr hgd hx T.g_law_value T.F_law_value.kp T.b_law_value (a_cons (e_var (pv 1)) (a_nil))) (a_nil)))) (s_cons (s_setLc (i := 10) rfl sc_law.nd (sw_true rfl rfl rfl (by decide +kernel)) (i_seq (e_tup (a_cons (e_var (pv 3)) (a_cons (e_var (pv 8)) (a_nil))))) (blkOk_by (N := N_law) (sc := (defScope s_law)) (own := [("_law_each", 11)]) (by decide +kernel)) (by decide) (fun _ _ _ _ _ => g_nm sc_law.nd) (fun _ _ _ _ _ => ts_one (t_w (w_and (t_val (e_call (G_law_is_integer.up (by decide)) hr hgd passL T.g_law_is_integer T.F_law_is_integer.kp T.b_law_is_integer (a_cons (e_var (pv 11)) (a_nil)))) (w_one (t_cmp o_le (e_bi c_abs T.n_abs PyProof.Rows.boot_abs (a_cons (e_var (pv 11)) (a_nil))) (e_bin o_pow (e_int) (e_int))) (.inl rfl))))) (fun _ _ _ _ _ => e_var (pv 11))) (s_cons (s_if (t_cmp (o_ne hr.units) (e_bi (c_repr hgd hr.units) T.n_repr PyProof.Rows.boot_repr (a_cons (e_lst (a_cons (e_call (G_is_cell.up (by decide)) hr hgd hx T.g_is_cell T.F_is_cell.kp T.b_is_cell (a_cons (e_lst (a_cons (e_var (pv 3)) (a_cons (e_var (pv 8)) (a_nil)))) (a_nil))) (a_cons (e_call (G_is_cell.up (by decide)) hr hgd hx T.g_is_cell T.F_is_cell.kp T.b_is_cell (a_cons (e_tup (a_cons (e_var (pv 3)) (a_cons (e_var (pv 8)) (a_nil)))) (a_nil))) (a_nil)))) (a_nil))) (e_bi (c_repr hgd hr.units) T.n_repr PyProof.Rows.boot_repr (a_cons (e_bin o_mul (e_lst (a_cons (e_cmp (o_eq hr.units) (e_bi c_len T.n_len PySem.boot_len (a_cons (e_var (pv 10)) (a_nil))) (e_int)) (a_nil))) (e_int)) (a_nil)))) (s_one (s_ret (e_bl))) (s_nil)) (s_cons (s_set sc_law.nd (e_call (G_law_pick.up (by decide)) hr hgd hx T.g_law_pick T.F_law_pick.kp T.b_law_pick (a_cons (e_var (pv 1)) (a_cons (e_lst (a_cons (e_lst (a_cons (e_var (pv 3)) (a_nil))) (a_cons (e_lst (a_cons (e_var (pv 3)) (a_cons (e_var (pv 8)) (a_cons (e_var (pv 9)) (a_nil))))) (a_cons (e_var (pv 3)) (a_cons (e_str) (a_cons (e_dct (p_cons (key := .inl 1) (w := .int 1) pe_int pe_int (fun _ _ => rfl) (p_cons (key := .inl 2) (w := .int 1) pe_int pe_int (fun _ _ => rfl) (p_nil)))) (a_cons (e_non) (a_cons (e_tup (a_nil)) (a_cons (e_tup (a_cons (e_tup (a_cons (e_int) (a_cons (e_int) (a_nil)))) (a_nil))) (a_nil)))))))))) (a_nil))))) (s_cons (s_set sc_law.nd (e_and (e_ist T.n_isinstance (e_var (pv 12)) (.cons (isTy (t := .lst) rfl T.n_list PyProof.Rows.boot_list) (.cons (isTy (t := .tup) rfl T.n_tuple PyProof.Rows.boot_tuple) (.nil)))) (e_and (e_cmp (o_eq hr.units) (e_bi c_len T.n_len PySem.boot_len (a_cons (e_var (pv 12)) (a_nil))) (e_int)) (e_one (e_cmp (o_eq hr.units) (e_lc rfl sc_law.nd (i_seq (e_var (pv 12))) (blkOk_by (N := N_law) (sc := (defScope s_law)) (own := [("_law_each", 11)]) (by decide +kernel)) (by decide) (fun _ _ _ _ _ => g_nm sc_law.nd) (fun _ _ _ _ _ => ts_one (t_w (w_or (t_not (t_val (e_call (G_law_is_integer.up (by decide)) hr hgd passL T.g_law_is_integer T.F_law_is_integer.kp T.b_law_is_integer (a_cons (e_var (pv 11)) (a_nil))))) (w_one (t_cmp o_gt (e_bi c_abs T.n_abs PyProof.Rows.boot_abs (a_cons (e_var (pv 11)) (a_nil))) (e_bin o_pow (e_int) (e_int))) (.inr rfl))))) (fun _ _ _ _ _ => e_var (pv 11))) (e_lst (a_nil))))))) (s_one (s_if (t_cmp (o_ne hr.units) (e_bi (c_repr hgd hr.units) T.n_repr PyProof.Rows.boot_repr (a_cons (e_call (G_is_cell.up (by decide)) hr hgd hx T.g_is_cell T.F_is_cell.kp T.b_is_cell (a_cons (e_var (pv 12)) (a_nil))) (a_nil))) (e_bi (c_repr hgd hr.units) T.n_repr PyProof.Rows.boot_repr (a_cons (e_var (pv 7)) (a_nil)))) (s_one (s_ret (e_bl))) (s_nil))))))))))))))) (s_one (s_ret (e_bl))))
theorem ok_all (T : Txt K mg) : FnG P w K mg base 4 T.a_law T.fd_law ["_law_script"] m_law := by
  have G_law_is_integer : FnG P w K mg base 1 T.a_law_is_integer T.fd_law_is_integer ["_law_value_here"] m_law_is_integer := ok_law_is_integer T 
  have G_law_paw : FnG P w K mg base 1 T.a_law_paw T.fd_law_paw ["_law_script"] m_law_paw := ok_law_paw T 
  have G_law_tell : FnG P w K mg base 1 T.a_law_tell T.fd_law_tell ["_law_paw_here", "_law_many"] m_law_tell := ok_law_tell T 
  have G_law_pick : FnG P w K mg base 2 T.a_law_pick T.fd_law_pick ["_law_paw_here", "_law_some"] m_law_pick := ok_law_pick T G_law_tell
  have G_law_value : FnG P w K mg base 3 T.a_law_value T.fd_law_value ["_law_paw_here"] m_law_value := ok_law_value T G_law_pick G_law_tell
  have G_is_integer : FnG P w K mg base 1 T.a_is_integer T.fd_is_integer ["value"] m_is_integer := ok_is_integer T 
  have G_is_within : FnG P w K mg base 2 T.a_is_within T.fd_is_within ["value", "least", "most"] m_is_within := ok_is_within T G_is_integer
  have G_is_cell : FnG P w K mg base 3 T.a_is_cell T.fd_is_cell ["value"] m_is_cell := ok_is_cell T G_is_within
  have G_is_side : FnG P w K mg base 3 T.a_is_side T.fd_is_side ["value"] m_is_side := ok_is_side T G_is_within
  exact ok_law T G_law_is_integer G_law_paw G_law_pick G_law_value G_is_cell G_is_integer G_is_side G_is_within
end
theorem all_mk {l : PySem.W.OpenLaw} {w : World} {K : PySem.W.Frag} {h : Heap} {mg : Str → Option Value} {fa f0 f1 f2 f3 f4 f5 f6 f7 f8 f9 : Addr} (X : K.In h) (G : h.Ns mainGlobals mg) (hfa : mg "law" = some (.ref fa))
    {od0 od1 od2 od3 od4 od5 od6 od7 od8 od9 an0 an1 an2 an3 an4 an5 an6 an7 an8 an9 : Option Addr} {sl0 sl1 sl2 sl3 sl4 sl5 sl6 sl7 sl8 sl9 : Array (Option Value)} {oc0 oc1 oc2 oc3 oc4 oc5 oc6 oc7 oc8 oc9 kV0 kV1 kV2 kV3 kV4 kV5 kV6 kV7 kV8 kV9 dc0 dc1 dc2 dc3 dc4 dc5 dc6 dc7 dc8 dc9 pm0 pm1 pm2 pm3 pm4 pm5 pm6 pm7 pm8 pm9 cd0 cd1 cd2 cd3 cd4 cd5 cd6 cd7 cd8 cd9 ct0 ct1 ct2 ct3 ct4 ct5 ct6 ct7 ct8 ct9 : Value} {t_MOST_PLACE : Tok}
    (a_law_is_integer : PySem.W.nsIn K mainGlobals "_law_is_integer" = some (some (.ref f0)))
    (l_law_is_integer : K.lookup f0 = some ⟨oc0, od0, .func (PySem.W.fnOf "_law_is_integer" "_law_is_integer" (defArgs s_law_is_integer) (defBody s_law_is_integer) (defScope s_law_is_integer) .none kV0 dc0 pm0 an0 cd0 ct0), sl0⟩)
    (d_law_is_integer : PySem.W.codeIn K cd0 "_law_is_integer" = true)
    (k_law_is_integer : PySem.W.keepIn K (.ref f0) = true)
    (a_law_paw : PySem.W.nsIn K mainGlobals "_law_paw" = some (some (.ref f1)))
    (l_law_paw : K.lookup f1 = some ⟨oc1, od1, .func (PySem.W.fnOf "_law_paw" "_law_paw" (defArgs s_law_paw) (defBody s_law_paw) (defScope s_law_paw) .none kV1 dc1 pm1 an1 cd1 ct1), sl1⟩)
    (d_law_paw : PySem.W.codeIn K cd1 "_law_paw" = true)
    (k_law_paw : PySem.W.keepIn K (.ref f1) = true)
    (a_law_tell : PySem.W.nsIn K mainGlobals "_law_tell" = some (some (.ref f2)))
    (l_law_tell : K.lookup f2 = some ⟨oc2, od2, .func (PySem.W.fnOf "_law_tell" "_law_tell" (defArgs s_law_tell) (defBody s_law_tell) (defScope s_law_tell) .none kV2 dc2 pm2 an2 cd2 ct2), sl2⟩)
    (d_law_tell : PySem.W.codeIn K cd2 "_law_tell" = true)
    (k_law_tell : PySem.W.keepIn K (.ref f2) = true)
    (a_law_pick : PySem.W.nsIn K mainGlobals "_law_pick" = some (some (.ref f3)))
    (l_law_pick : K.lookup f3 = some ⟨oc3, od3, .func (PySem.W.fnOf "_law_pick" "_law_pick" (defArgs s_law_pick) (defBody s_law_pick) (defScope s_law_pick) .none kV3 dc3 pm3 an3 cd3 ct3), sl3⟩)
    (d_law_pick : PySem.W.codeIn K cd3 "_law_pick" = true)
    (k_law_pick : PySem.W.keepIn K (.ref f3) = true)
    (a_law_value : PySem.W.nsIn K mainGlobals "_law_value" = some (some (.ref f4)))
    (l_law_value : K.lookup f4 = some ⟨oc4, od4, .func (PySem.W.fnOf "_law_value" "_law_value" (defArgs s_law_value) (defBody s_law_value) (defScope s_law_value) .none kV4 dc4 pm4 an4 cd4 ct4), sl4⟩)
    (d_law_value : PySem.W.codeIn K cd4 "_law_value" = true)
    (k_law_value : PySem.W.keepIn K (.ref f4) = true)
    (a_is_integer : PySem.W.nsIn K mainGlobals "is_integer" = some (some (.ref f5)))
    (l_is_integer : K.lookup f5 = some ⟨oc5, od5, .func (PySem.W.fnOf "is_integer" "is_integer" (defArgs s_is_integer) (defBody s_is_integer) (defScope s_is_integer) .none kV5 dc5 pm5 an5 cd5 ct5), sl5⟩)
    (d_is_integer : PySem.W.codeIn K cd5 "is_integer" = true)
    (k_is_integer : PySem.W.keepIn K (.ref f5) = true)
    (a_is_within : PySem.W.nsIn K mainGlobals "is_within" = some (some (.ref f6)))
    (l_is_within : K.lookup f6 = some ⟨oc6, od6, .func (PySem.W.fnOf "is_within" "is_within" (defArgs s_is_within) (defBody s_is_within) (defScope s_is_within) .none kV6 dc6 pm6 an6 cd6 ct6), sl6⟩)
    (d_is_within : PySem.W.codeIn K cd6 "is_within" = true)
    (k_is_within : PySem.W.keepIn K (.ref f6) = true)
    (a_is_cell : PySem.W.nsIn K mainGlobals "is_cell" = some (some (.ref f7)))
    (l_is_cell : K.lookup f7 = some ⟨oc7, od7, .func (PySem.W.fnOf "is_cell" "is_cell" (defArgs s_is_cell) (defBody s_is_cell) (defScope s_is_cell) .none kV7 dc7 pm7 an7 cd7 ct7), sl7⟩)
    (d_is_cell : PySem.W.codeIn K cd7 "is_cell" = true)
    (k_is_cell : PySem.W.keepIn K (.ref f7) = true)
    (a_is_side : PySem.W.nsIn K mainGlobals "is_side" = some (some (.ref f8)))
    (l_is_side : K.lookup f8 = some ⟨oc8, od8, .func (PySem.W.fnOf "is_side" "is_side" (defArgs s_is_side) (defBody s_is_side) (defScope s_is_side) .none kV8 dc8 pm8 an8 cd8 ct8), sl8⟩)
    (d_is_side : PySem.W.codeIn K cd8 "is_side" = true)
    (k_is_side : PySem.W.keepIn K (.ref f8) = true)
    (a_law : PySem.W.nsIn K mainGlobals "law" = some (some (.ref f9)))
    (l_law : K.lookup f9 = some ⟨oc9, od9, .func (PySem.W.fnOf "law" "law" (defArgs s_law) (defBody s_law) (defScope s_law) .none kV9 dc9 pm9 an9 cd9 ct9), sl9⟩)
    (d_law : PySem.W.codeIn K cd9 "law" = true)
    (k_law : PySem.W.keepIn K (.ref f9) = true)
    (c_MOST_PLACE : PySem.W.nsIn K mainGlobals "MOST_PLACE" = some (some (.int 1000000 t_MOST_PLACE)))
    (n_abs : PySem.W.nsIn K mainGlobals "abs" = some none)
    (n_all : PySem.W.nsIn K mainGlobals "all" = some none)
    (n_bool : PySem.W.nsIn K mainGlobals "bool" = some none)
    (n_int : PySem.W.nsIn K mainGlobals "int" = some none)
    (n_isinstance : PySem.W.nsIn K mainGlobals "isinstance" = some none)
    (n_len : PySem.W.nsIn K mainGlobals "len" = some none)
    (n_list : PySem.W.nsIn K mainGlobals "list" = some none)
    (n_range : PySem.W.nsIn K mainGlobals "range" = some none)
    (n_repr : PySem.W.nsIn K mainGlobals "repr" = some none)
    (n_tuple : PySem.W.nsIn K mainGlobals "tuple" = some none)
    (res : ∀ ns : List Int, ns.length ≤ 63 → (∀ z ∈ ns, Builtin.Int.intBits z ≤ 1048576) → ∃ M, m_law [.rdl (ns.map Wv.int)] [] = .ok (.bl true) M) :
    ∃ (fd : FuncData) (m : List Wv → Mem → R Wv), (∀ (s : Shared) (u : Value), BindsTo s fd ⟨[u], []⟩ [("_law_script", u)]) ∧ (∀ base : Heap, K.In base → base.Ns mainGlobals mg → FnG l.prog w K mg base 4 fa fd ["_law_script"] m) ∧
      ∀ ns : List Int, ns.length ≤ 63 → (∀ z ∈ ns, Builtin.Int.intBits z ≤ 1048576) → ∃ M, m [.rdl (ns.map Wv.int)] [] = .ok (.bl true) M := by
  have e := hfa.symm.trans (PySem.W.mg_of X G a_law)
  cases e
  have F0 := fun_mk (st := s_law_is_integer) l_law_is_integer d_law_is_integer k_law_is_integer
  have F1 := fun_mk (st := s_law_paw) l_law_paw d_law_paw k_law_paw
  have F2 := fun_mk (st := s_law_tell) l_law_tell d_law_tell k_law_tell
  have F3 := fun_mk (st := s_law_pick) l_law_pick d_law_pick k_law_pick
  have F4 := fun_mk (st := s_law_value) l_law_value d_law_value k_law_value
  have F5 := fun_mk (st := s_is_integer) l_is_integer d_is_integer k_is_integer
  have F6 := fun_mk (st := s_is_within) l_is_within d_is_within k_is_within
  have F7 := fun_mk (st := s_is_cell) l_is_cell d_is_cell k_is_cell
  have F8 := fun_mk (st := s_is_side) l_is_side d_is_side k_is_side
  have F9 := fun_mk (st := s_law) l_law d_law k_law
  exact ⟨PySem.W.fnOf "law" "law" (defArgs s_law) (defBody s_law) (defScope s_law) .none kV9 dc9 pm9 an9 cd9 ct9, m_law, fun s v => .of_eq rfl, fun base _ _ => ok_all ⟨
    f0,
    _,
    F0,
    (PySem.W.mg_of X G a_law_is_integer),
    (F0.binds (ps := ["_law_value_here"]) fun _ _ _ _ _ _ us hl => match us, hl with | [_], _ => rfl),
    f1,
    _,
    F1,
    (PySem.W.mg_of X G a_law_paw),
    (F1.binds (ps := ["_law_script"]) fun _ _ _ _ _ _ us hl => match us, hl with | [_], _ => rfl),
    f2,
    _,
    F2,
    (PySem.W.mg_of X G a_law_tell),
    (F2.binds (ps := ["_law_paw_here", "_law_many"]) fun _ _ _ _ _ _ us hl => match us, hl with | [_, _], _ => rfl),
    f3,
    _,
    F3,
    (PySem.W.mg_of X G a_law_pick),
    (F3.binds (ps := ["_law_paw_here", "_law_some"]) fun _ _ _ _ _ _ us hl => match us, hl with | [_, _], _ => rfl),
    f4,
    _,
    F4,
    (PySem.W.mg_of X G a_law_value),
    (F4.binds (ps := ["_law_paw_here"]) fun _ _ _ _ _ _ us hl => match us, hl with | [_], _ => rfl),
    f5,
    _,
    F5,
    (PySem.W.mg_of X G a_is_integer),
    (F5.binds (ps := ["value"]) fun _ _ _ _ _ _ us hl => match us, hl with | [_], _ => rfl),
    f6,
    _,
    F6,
    (PySem.W.mg_of X G a_is_within),
    (F6.binds (ps := ["value", "least", "most"]) fun _ _ _ _ _ _ us hl => match us, hl with | [_, _, _], _ => rfl),
    f7,
    _,
    F7,
    (PySem.W.mg_of X G a_is_cell),
    (F7.binds (ps := ["value"]) fun _ _ _ _ _ _ us hl => match us, hl with | [_], _ => rfl),
    f8,
    _,
    F8,
    (PySem.W.mg_of X G a_is_side),
    (F8.binds (ps := ["value"]) fun _ _ _ _ _ _ us hl => match us, hl with | [_], _ => rfl),
    fa,
    _,
    F9,
    (PySem.W.mg_of X G a_law),
    (F9.binds (ps := ["_law_script"]) fun _ _ _ _ _ _ us hl => match us, hl with | [_], _ => rfl),
    ⟨_, PySem.W.mg_of X G c_MOST_PLACE⟩,
    (PySem.W.mg_none_of X G n_abs),
    (PySem.W.mg_none_of X G n_all),
    (PySem.W.mg_none_of X G n_bool),
    (PySem.W.mg_none_of X G n_int),
    (PySem.W.mg_none_of X G n_isinstance),
    (PySem.W.mg_none_of X G n_len),
    (PySem.W.mg_none_of X G n_list),
    (PySem.W.mg_none_of X G n_range),
    (PySem.W.mg_none_of X G n_repr),
    (PySem.W.mg_none_of X G n_tuple)⟩, res⟩
end Law

namespace Law
open PySem PySem.Spec PyProof.Rows L2 Mi
local macro_rules | `(tactic| walk_at "ev") => `(tactic| (try simp only [noX_ok, x_var, x_c, x_dct, x_maN, x_oN, x_nil, x_retN, x_brk, x_cnt, x_yes, x_tnm, kBin2_ok, kBin1_ok, x_bin, kUn_ok, x_un, kCons2_ok, kCons1_ok, x_maC, kTup_ok, x_tup, kLst_ok, x_lst, kNew_ok, x_new, kCall_ok, x_call, kApp_ok, x_app, kAppK2_ok, kAppK1_ok, x_appK, kBl_ok, kCmp2_ok, kCmp1_ok, x_tcmp, x_cmp, kTe_ok, x_te, kTnot_ok, x_tnot, kTand_t, kTand_f, x_tand, kTor_t, kTor_f, x_tor, kAnd2_t, kAnd2_f, kAnd1_ok, x_and, kOr2_t, kOr2_f, kOr1_ok, x_or, kNot2_ok, kNot1_ok, x_not, kIf_t, kIf_f, x_if, kOS_ok, x_oS, kSl3_ok, kSl2_ok, kSl1_ok, x_sl, kSeq_ok, x_seq, x_an, x_ar, x_ab, x_ac, kSet_ok, x_set, kRet_ok, x_ret, kSif_t, kSif_f, x_sif, kExp_ok, x_exp, kPut4_ok, kPut3_ok, kPut2_ok, kPut1_ok, x_put, kPar2_ok, x_par2, kPar3_ok, x_par3, kFor_ok, x_for, kLc_ok, x_lc, kFn_ok, x_fn, kSeqI_ok, x_seqI, kRng1_ok, x_rng1, x_lc0, kLc4_ok, kLc3_t, kLc3_f, kLc2_ok, x_lc1, kFor3_n, kFor3_c, kFor3_b, kFor3_r, kFor2_ok, un1_x, asT_bl,
  evStart, wipeE, List.map_cons, List.map_nil, List.length_cons, List.length_nil, List.getElem?_cons_zero, List.getElem?_cons_succ, List.getElem?_nil, List.set_cons_zero, List.set_cons_succ, List.set_nil, List.replicate, List.cons_append, List.nil_append, Nat.reduceAdd, Nat.reduceSub, Nat.zero_add, Nat.reduceLeDiff,
  Bool.false_eq_true, if_true, if_false, reduceIte, Bool.not_true, Bool.not_false, lim_is, List.any_cons, List.any_nil, Ty.sub, Bool.or_false, Bool.or_true, Bool.false_or, Bool.true_or, Bool.false_xor, Bool.true_xor, Bool.xor_false, Bool.xor_true,
  zv_add, zv_sub, zv_neg, zv_mul, zv_div, zv_mod, zv_pow, zv_cmp, zv_isN, zv_isB, zv_int, zv_intb, zv_abs, zv_lenl, zv_lent, zv_ixl, isNonW]))
def isI : Wv → Bool
  | .int _ => true
  | _ => false
theorem kind {v : Wv} {M : Mem} {t : Mi.Ty} (h : tyOf M v = some t) : (∃ i, v = .int i ∧ t = .int) ∨ (∃ b, v = .bl b ∧ t = .bl) ∨ (isI v = false ∧ t.sub .int = false ∧ t.sub .bl = false) := by
  cases v with
  | int i => cases h; exact .inl ⟨i, rfl, rfl⟩
  | bl b => cases h; exact .inr (.inl ⟨b, rfl, rfl⟩)
  | adr a => cases h
  | rdl a => cases h
  | ty a => cases h
  | ref n =>
    refine .inr (.inr ⟨rfl, ?_⟩)
    have h : (match M[n]? with | some (Ob.lst _) => some Mi.Ty.lst | _ => none) = some t := h
    split at h
    · cases h; exact ⟨rfl, rfl⟩
    · cases h
  | _ => cases h; exact .inr (.inr ⟨rfl, rfl, rfl⟩)
theorem r_is_integer {v : Wv} {M : Mem} {t : Mi.Ty} (h : tyOf M v = some t) : m_is_integer [v] M = .ok (.bl (isI v)) M := by
  unfold m_is_integer
  walk_at "ev"
  rw [zv_is M h]
  rcases kind h with ⟨i, rfl, rfl⟩ | ⟨b, rfl, rfl⟩ | ⟨h1, h2, h3⟩
  · walk_at "ev"
    rw [zv_is M h]
    walk_at "ev"
    rfl
  · walk_at "ev"
    rw [zv_is M h]
    walk_at "ev"
    rfl
  · rw [List.any_cons, List.any_nil, h2, h1]
    walk_at "ev"
theorem r_law_is_integer {v : Wv} {M : Mem} {t : Mi.Ty} (h : tyOf M v = some t) : m_law_is_integer [v] M = .ok (.bl (isI v)) M := by
  unfold m_law_is_integer
  walk_at "ev"
  rw [zv_is M h]
  rcases kind h with ⟨i, rfl, rfl⟩ | ⟨b, rfl, rfl⟩ | ⟨h1, h2, h3⟩
  · walk_at "ev"
    simp only [blIs]
    walk_at "ev"
    rfl
  · cases b <;> (walk_at "ev"; try simp only [blIs]; walk_at "ev"; try rfl)
  · rw [List.any_cons, List.any_nil, h2, h1]
    walk_at "ev"

def oi : Option Int → Wv
  | none => .non
  | some i => .int i
def wth (v : Wv) (l m : Option Int) : Bool := match v with
  | .int i => (match l with | none => true | some a => decide (a ≤ i)) && (match m with | none => true | some b => decide (i ≤ b))
  | _ => false
theorem wth_no {v : Wv} {l m : Option Int} (h : isI v = false) : wth v l m = false := by cases v <;> first | rfl | cases h
theorem r_is_within {v : Wv} {M : Mem} {t : Mi.Ty} {l m : Option Int} (h : tyOf M v = some t) : m_is_within [v, oi l, oi m] M = .ok (.bl (wth v l m)) M := by
  unfold m_is_within
  walk_at "ev"
  rw [r_is_integer h]
  walk_at "ev"
  cases hi : isI v with
  | false => rw [wth_no hi]; walk_at "ev"
  | true =>
    cases v <;> first | cases hi | skip
    rename_i i
    walk_at "ev"
    cases l with
    | none =>
      simp only [oi]
      walk_at "ev"
      cases m with
      | none => simp only [oi]; walk_at "ev"; rfl
      | some b => simp only [oi]; walk_at "ev"; simp only [wth, Bool.true_and]
    | some a =>
      simp only [oi]
      walk_at "ev"
      cases hd : decide (a ≤ i) with
      | false => walk_at "ev"; simp only [wth, hd, Bool.false_and]
      | true =>
        walk_at "ev"
        cases m with
        | none => simp only [oi]; walk_at "ev"; simp only [wth, hd, Bool.and_true]
        | some b => simp only [oi]; walk_at "ev"; simp only [wth, hd, Bool.true_and]
theorem r_is_side {v : Wv} {M : Mem} {t : Mi.Ty} (h : tyOf M v = some t) : m_is_side [v] M = .ok (.bl (wth v (some 0) (some 3))) M := by
  unfold m_is_side
  walk_at "ev"
  rw [show ([v, Wv.int 0, Wv.int 3] : List Wv) = [v, oi (some 0), oi (some 3)] from rfl, r_is_within h]
  walk_at "ev"

theorem nums : Nums 607809 125629 2147483543 461041 2147483497 42875 2147483489 16 := ⟨by decide, by decide, by decide, by decide, by decide, by decide, by decide, by decide, by decide, by decide, by decide, by decide, by decide, by decide, by decide⟩
theorem tell_is : m_law_tell = tellG 607809 125629 2147483543 461041 2147483497 42875 2147483489 16 := rfl
theorem pick_is : m_law_pick = pickG m_law_tell := rfl
theorem paw_is : m_law_paw = pawG (52 : Nat) := rfl
theorem r_paw (ns : List Int) : m_law_paw [.rdl (ns.map .int)] [] = .ok (.ref 0) [pawO (ns.take 52) 0 0] := by
  rw [paw_is, paw_ok 52 ns [] (by decide)]
  rfl
theorem r_tell {cs : List Int} {t r m : Int} (hm : 0 < m) (hm2 : m < 1073741824) (ht : 0 ≤ t) (ht2 : t ≤ 1000000) (hc : cs.length ≤ 1000) :
    ∃ k t' r', 0 ≤ k ∧ k < m ∧ t ≤ t' ∧ t' ≤ t + 1 ∧ m_law_tell [.ref 0, .int m] [pawO cs t r] = .ok (.int k) [pawO cs t' r'] := by
  obtain ⟨k, t', r', h1, h2, h3, h4, h5⟩ := tell_ok nums (M := [pawO cs t r]) (n := 0) rfl hm hm2 ht ht2 hc
  exact ⟨k, t', r', h1, h2, h3, h4, by rw [tell_is, h5]; rfl⟩
theorem r_pick {cs : List Int} {t r : Int} {ws : List Wv} (hw : 0 < ws.length) (hw2 : ws.length ≤ 100000) (ht : 0 ≤ t) (ht2 : t ≤ 1000000) (hc : cs.length ≤ 1000) :
    ∃ w t' r', w ∈ ws ∧ t ≤ t' ∧ t' ≤ t + 1 ∧ m_law_pick [.ref 0, .lst ws] [pawO cs t r] = .ok w [pawO cs t' r'] := by
  obtain ⟨w, t', r', h1, h2, h3, h4⟩ := pick_ok nums (M := [pawO cs t r]) (n := 0) rfl hw hw2 ht ht2 hc
  exact ⟨w, t', r', h1, h2, h3, by rw [pick_is, tell_is, h4]; rfl⟩
/-- what may be drawn -/
inductive Vd : Wv → Prop
  | i (i : Int) : Vd (.int i)
  | b (b : Bool) : Vd (.bl b)
  | n : Vd .non
  | s (x : Str) : Vd (.str x)
  | t1 (a : Int) : Vd (.tup [.int a])
  | l0 : Vd (.lst [])
  | d0 : Vd (.dct [] [])
  | l1 (a : Int) : Vd (.lst [.int a])
  | t2 : Vd (.tup [.int 0, .int 0])
theorem zv_addl (xs ys : List Wv) (M : Mem) : addW (.lst xs) (.lst ys) M = if xs.length + ys.length ≤ lim then .ok (.lst (xs ++ ys)) M else .no := rfl
theorem zv_pow10 (k : Int) (M : Mem) (h : 0 ≤ k ∧ k ≤ 1000000) : powW (.int 10) (.int k) M = .ok (.int (10 ^ k.toNat)) M := if_pos ⟨h.1, h.2, by decide⟩
theorem r_value {cs : List Int} {t r : Int} (ht : 0 ≤ t) (ht2 : t ≤ 999990) (hc : cs.length ≤ 1000) :
    ∃ v t' r', Vd v ∧ t ≤ t' ∧ t' ≤ t + 2 ∧ m_law_value [.ref 0] [pawO cs t r] = .ok v [pawO cs t' r'] := by
  have c1 : (0 : Int) ≤ 6 ∧ (6 : Int) ≤ 1000000 ∧ (10 : Int).natAbs < 2 ^ 64 := by decide
  have c2 : (0 : Int) ≤ 40 ∧ (40 : Int) ≤ 1000000 ∧ (10 : Int).natAbs < 2 ^ 64 := by decide
  unfold m_law_value
  repeat (walk_at "ev"; simp only [if_pos c1, if_pos c2])
  walk_at "ev"
  obtain ⟨k, t1, r1, _, _, h3, h4, h5⟩ := r_tell (cs := cs) (t := t) (r := r) (m := 9) (by decide) (by decide) ht (by omega) hc
  rw [h5]
  walk_at "ev"
  rw [zv_addl]
  walk_at "ev"
  obtain ⟨w, t2, r2, hm, h6, h7, h8⟩ := r_pick (cs := cs) (t := t1) (r := r1) (ws := [Wv.int 0, Wv.int 1, Wv.int 2, Wv.int 3, Wv.int 4, Wv.int (-1), Wv.int (10 ^ Int.toNat 6), Wv.int (10 ^ Int.toNat 6 + 1), Wv.int (-10 ^ Int.toNat 6), Wv.int (-10 ^ Int.toNat 6 - 1), Wv.int (10 ^ Int.toNat 40), Wv.bl true, Wv.bl false, Wv.non, Wv.str (Str.ofString "3"), Wv.str (Str.ofString ""), Wv.tup [Wv.int 2], Wv.lst [], Wv.dct [] [], Wv.tup [Wv.int 1], Wv.int (k - 4), Wv.lst [Wv.int 3], Wv.tup [Wv.int 0, Wv.int 0]]) (by simp) (by simp) (by omega) (by omega) hc
  refine ⟨w, t2, r2, ?_, by omega, by omega, by rw [h8]; walk_at "ev"⟩
  simp only [List.mem_cons, List.not_mem_nil, or_false] at hm
  rcases hm with rfl | rfl | rfl | rfl | rfl | rfl | rfl | rfl | rfl | rfl | rfl | rfl | rfl | rfl | rfl | rfl | rfl | rfl | rfl | rfl | rfl | rfl | rfl <;> constructor
/-! ### kinds of what is drawn -/
def Nice (v : Wv) : Prop := ∀ M : Mem, ∃ t, tyOf M v = some t
theorem Vd.nice {v : Wv} (h : Vd v) : Nice v := by intro M; cases h <;> exact ⟨_, rfl⟩
def seqOf : Wv → Option (List Wv)
  | .lst xs => some xs
  | .tup xs => some xs
  | _ => none
def cOk (w : Wv) : Bool := wth w (some (-1000000)) (some 1000000)
def cellB (v : Wv) : Bool := match seqOf v with
  | some xs => decide (xs.length = 2) && xs.all cOk
  | none => false
def nref : Wv → Bool
  | .ref _ => false
  | .rdl _ => false
  | .adr _ => false
  | .ty _ => false
  | _ => true
theorem shaped_int (i : Int) : SeqAt.shaped (.int i) = true := by simp [SeqAt.shaped, PyData.canLay0, PyData.depth]
theorem zv_nei (i j : Int) (M : Mem) : eqW true (.int i) (.int j) M = .ok (!(i == j)) M := by
  show (if (SeqAt.shaped (.int i) && SeqAt.shaped (.int j)) = true then R.ok (true ^^ PyData.eqv (.int i) (.int j)) M else .no) = _
  rw [shaped_int, shaped_int]
  simp [PyData.eqv]
theorem zv_eqi (i j : Int) (M : Mem) : eqW false (.int i) (.int j) M = .ok (i == j) M := by
  show (if (SeqAt.shaped (.int i) && SeqAt.shaped (.int j)) = true then R.ok (false ^^ PyData.eqv (.int i) (.int j)) M else .no) = _
  rw [shaped_int, shaped_int]
  simp [PyData.eqv]
theorem zv_rr (x : Str) (h : PyData.strOk x = true) (M : Mem) : eqW true (.str x) (.str x) M = .ok false M := by
  show (if (SeqAt.shaped (.str x) && SeqAt.shaped (.str x)) = true then R.ok (true ^^ PyData.eqv (.str x) (.str x)) M else .no) = _
  rw [show SeqAt.shaped (.str x) = true from by simp [SeqAt.shaped, PyData.canLay0, PyData.depth, h]]
  simp [PyData.eqv]
theorem zv_rr2 (a b : Bool) (M : Mem) : eqW true (.str (PyData.shown (.list [.bool a, .bool b]))) (.str (PyData.shown (.list [.bool a, .bool b]))) M = .ok false M :=
  zv_rr _ (by cases a <;> cases b <;> decide +kernel) M
theorem zv_rr1 (a : Bool) (M : Mem) : eqW true (.str (PyData.shown (.bool a))) (.str (PyData.shown (.bool a))) M = .ok false M :=
  zv_rr _ (by cases a <;> decide +kernel) M
theorem zv_eqnil {xs : List Wv} (hs : xs ≠ [] → ∀ d, toDM [] (.lst xs) = some d → SeqAt.shaped d = true) (M : Mem) : eqW false (.lst xs) (.lst []) M = .ok (xs.isEmpty) M := by
  have e2 : toDM M (.lst []) = some (.list []) := rfl
  cases xs with
  | nil => rfl
  | cons x xs =>
    unfold eqW
    cases q : toDM M (.lst (x :: xs)) with
    | none => rfl
    | some d =>
      rw [e2]
      show (if (SeqAt.shaped d && SeqAt.shaped (.list [])) = true then R.ok (false ^^ PyData.eqv d (.list [])) M else .no) = _
      rw [hs (by simp) d q, show SeqAt.shaped (.list []) = true from ints_shaped []]
      obtain ⟨ds, e3, rfl⟩ := Option.map_eq_some_iff.mp (show (toDs (x :: xs)).map PyData.list = some d from q)
      have e4 : ds ≠ [] := by
        rintro rfl
        have e5 : (match toD x, toDs xs with | some d, some ds => some (d :: ds) | _, _ => none) = some [] := e3
        split at e5 <;> cases e5
      cases ds with
      | nil => exact absurd rfl e4
      | cons d ds => simp [PyData.eqv, PyData.eqvAll]
theorem zv_rep2 (a b : Bool) (M : Mem) : repr1 (.lst [.bl a, .bl b]) M = .ok (.str (PyData.shown (.list [.bool a, .bool b]))) M := by
  cases a <;> cases b <;> rfl
theorem zv_rep1 (a : Bool) (M : Mem) : repr1 (.bl a) M = .ok (.str (PyData.shown (.bool a))) M := by
  cases a <;> rfl
theorem zv_two (x : Wv) (M : Mem) : mulW (.lst [x]) (.int 2) M = .ok (.lst [x, x]) M := rfl
theorem zv_all (xs : List Wv) (f : Wv → Bool) (M : Mem) : onSq (all1 false) (.lst (xs.map fun w => Wv.bl (f w))) M = .ok (.bl (xs.all f)) M := by
  have h : ∀ xs : List Wv, bools (xs.map fun w => .bl (f w)) = some (xs.map f) := by
    intro xs
    induction xs with
    | nil => rfl
    | cons x xs ih =>
      show (bools (xs.map fun w => Wv.bl (f w))).map (f x :: ·) = _
      rw [ih]
      rfl
  show (match bools (xs.map fun w => Wv.bl (f w)) with | some bs => R.ok (Wv.bl (if false = true then bs.any id else bs.all id)) M | none => .no) = _
  rw [h]
  simp [List.all_map]
theorem r_is_cell {v : Wv} {M : Mem} (h : ∃ t, tyOf M v = some t) (hn : nref v = true) (hx : ∀ xs, seqOf v = some xs → xs.length ≤ 1000 ∧ ∀ w ∈ xs, ∃ t, tyOf M w = some t) : m_is_cell [v] M = .ok (.bl (cellB v)) M := by
  obtain ⟨t, h⟩ := h
  have go : ∀ xs, (v = .lst xs ∨ v = .tup xs) → m_is_cell [v] M = .ok (.bl (cellB v)) M := by
    intro xs hv
    have e4 : cellB v = (decide (xs.length = 2) && xs.all cOk) := by rcases hv with rfl | rfl <;> rfl
    obtain ⟨hl, hy⟩ := hx xs (by rcases hv with rfl | rfl <;> rfl)
    have e2 : [Ty.lst, Ty.tup].any t.sub = true := by rcases hv with rfl | rfl <;> (cases h; rfl)
    rw [e4]
    unfold m_is_cell
    rcases hv with rfl | rfl
    all_goals
      walk_at "ev"
      rw [zv_is M h, e2]
      walk_at "ev"
      rw [zv_nei]
      by_cases h2 : xs.length = 2
      · rw [h2]
        rw [show (!(((2 : Nat) : Int) == 2)) = false from rfl]
        walk_at "ev"
        rw [lc_map (f := fun w => .bl (cOk w)) (fun w hw => ?_) (by rw [lim_is]; simp only [List.length_nil]; omega)]
        · walk_at "ev"
          rw [zv_all]
          walk_at "ev"
          rw [show decide True = true from rfl, Bool.true_and]
        · obtain ⟨t, ht⟩ := hy w hw
          exact r_is_within (l := some (-1000000)) (m := some 1000000) ht
      · rw [show (!((xs.length : Int) == 2)) = true from by simp; omega]
        walk_at "ev"
        rw [decide_eq_false h2, Bool.false_and]
  cases v with
  | lst xs => exact go xs (.inl rfl)
  | tup xs => exact go xs (.inr rfl)
  | ref n => cases hn
  | rdl n => cases hn
  | adr n => cases hn
  | ty n => cases hn
  | _ =>
    unfold m_is_cell
    walk_at "ev"
    rw [zv_is M h]
    cases h
    walk_at "ev"
    rfl
def t10 : Mt := (mtAnd (mtE (mApp 1 m_law_is_integer (maC (mVar 11) (maN)))) (mtCmp leW (mCall absW (maC (mVar 11) (maN))) (mBin powW (mC (.int 10)) (mC (.int 6)))))
def t12 : Mt := (mtOr (mtNot (mtE (mApp 1 m_law_is_integer (maC (mVar 11) (maN))))) (mtCmp gtW (mCall absW (maC (mVar 11) (maN))) (mBin powW (mC (.int 10)) (mC (.int 6)))))
def x7 : Me := (mAnd (mVar 6) (mAnd (mOr (mCmp (isNW false) (mVar 4) (mC .non)) (mCmp geW (mVar 3) (mVar 4))) (mOr (mCmp (isNW false) (mVar 5) (mC .non)) (mCmp leW (mVar 3) (mVar 5)))))
def x8 : Me := (mAnd (mVar 6) (mCmp (inW false) (mVar 3) (mTup (maC (mC (.int 0)) (maC (mC (.int 1)) (maC (mC (.int 2)) (maC (mC (.int 3)) (maN))))))))
def x10 : Me := (mLc [11] (.nm 11) (mSeqI (mTup (maC (mVar 3) (maC (mVar 8) (maN))))) t10 (mVar 11))
def x12 : Me := (mAnd (mUn (isW [.lst, .tup]) (mVar 12)) (mAnd (mCmp (eqW false) (mCall lenW (maC (mVar 12) (maN))) (mC (.int 2))) (mCmp (eqW false) (mLc [11] (.nm 11) (mSeqI (mVar 12)) t12 (mVar 11)) (mLst (maN)))))
def y1 : Mt := (mtCmp (eqW true) (mCall reprW (maC (mLst (maC (mApp 1 m_is_integer (maC (mVar 3) (maN))) (maC (mAppK 1 0 1 [0] m_is_integer maN (maC (mVar 3) (maN))) (maN)))) (maN))) (mCall reprW (maC (mLst (maC (mVar 6) (maC (mVar 6) (maN)))) (maN))))
def y2 : Mt := (mtCmp (eqW true) (mCall reprW (maC (mLst (maC (mApp 3 m_is_within (maC (mVar 3) (maC (mVar 4) (maC (mVar 5) (maN))))) (maC (mAppK 3 0 3 [2, 1, 0] m_is_within maN (maC (mVar 5) (maC (mVar 4) (maC (mVar 3) (maN))))) (maN)))) (maN))) (mCall reprW (maC (mLst (maC (mVar 7) (maC (mVar 7) (maN)))) (maN))))
def y3 : Mt := (mtCmp (eqW true) (mCall reprW (maC (mLst (maC (mApp 1 m_is_side (maC (mVar 3) (maN))) (maC (mAppK 1 0 1 [0] m_is_side maN (maC (mVar 3) (maN))) (maN)))) (maN))) (mCall reprW (maC (mBin mulW (mLst (maC x8 (maN))) (mC (.int 2))) (maN))))
def y4 : Mt := (mtCmp (eqW true) (mCall reprW (maC (mLst (maC (mApp 1 m_is_cell (maC (mLst (maC (mVar 3) (maC (mVar 8) (maN)))) (maN))) (maC (mApp 1 m_is_cell (maC (mTup (maC (mVar 3) (maC (mVar 8) (maN)))) (maN))) (maN)))) (maN))) (mCall reprW (maC (mBin mulW (mLst (maC (mCmp (eqW false) (mCall lenW (maC (mVar 10) (maN))) (mC (.int 2))) (maN))) (mC (.int 2))) (maN))))
def y5 : Mt := (mtCmp (eqW true) (mCall reprW (maC (mApp 1 m_is_cell (maC (mVar 12) (maN))) (maN))) (mCall reprW (maC (mVar 7) (maN))))
def y0 : Me := (mLst (maC (mLst (maC (mVar 3) (maN))) (maC (mLst (maC (mVar 3) (maC (mVar 8) (maC (mVar 9) (maN))))) (maC (mVar 3) (maC (mC (.str "12")) (maC (mDct [(.inl 1, .int 1), (.inl 2, .int 1)]) (maC (mC .non) (maC (mTup (maN)) (maC (mTup (maC (mTup (maC (mC (.int 1)) (maC (mC (.int 2)) (maN)))) (maN))) (maN))))))))))
def xB : Ms := (sSeq (sPar3 3 4 5 (maC (mApp 1 m_law_value (maC (mVar 1) (maN))) (maC (mApp 2 m_law_pick (maC (mVar 1) (maC (mLst (maC (mC .non) (maC (mC (.int 0)) (maC (mUn negW (mC (.int 3))) (maC (mBin powW (mC (.int 10)) (mC (.int 6))) (maN)))))) (maN)))) (maC (mApp 2 m_law_pick (maC (mVar 1) (maC (mLst (maC (mC .non) (maC (mC (.int 3)) (maC (mC (.int 0)) (maC (mBin powW (mC (.int 10)) (mC (.int 6))) (maC (mBin powW (mC (.int 10)) (mC (.int 40))) (maN))))))) (maN)))) (maN))))) (sSeq (sSet 6 (mApp 1 m_law_is_integer (maC (mVar 3) (maN)))) (sSeq (sIf y1 (sRet (mC (.bl false))) (sNil)) (sSeq (sSet 7 x7) (sSeq (sIf y2 (sRet (mC (.bl false))) (sNil)) (sSeq (sIf y3 (sRet (mC (.bl false))) (sNil)) (sSeq (sPar2 8 9 (maC (mApp 1 m_law_value (maC (mVar 1) (maN))) (maC (mApp 1 m_law_value (maC (mVar 1) (maN))) (maN)))) (sSeq (sSet 10 x10) (sSeq (sIf y4 (sRet (mC (.bl false))) (sNil)) (sSeq (sSet 12 (mApp 2 m_law_pick (maC (mVar 1) (maC y0 (maN))))) (sSeq (sSet 7 x12) (sIf y5 (sRet (mC (.bl false))) (sNil)))))))))))))
theorem law_is : m_law = mFn 13 (sSeq (sSet 1 (mApp 1 m_law_paw (maC (mVar 0) (maN)))) (sSeq (sFor (.nm 2) (mRng1 (mC (.int 8))) xB) (sRet (mC (.bl true))))) := rfl
section
variable {M : Mem} {a0 a1 a2 a3 a4 a5 a6 a7 a8 a9 a10 a11 a12 : Option Wv} {x y v : Wv} {l m : Option Int}
theorem r_x7 : x7 [a0, a1, a2, some x, some (oi l), some (oi m), some (.bl (isI x)), a7, a8, a9, a10, a11, a12] M = .ok (.bl (wth x l m)) M := by
  unfold x7
  cases hi : isI x with
  | false => rw [wth_no hi]; walk_at "ev"
  | true =>
    cases x <;> first | cases hi | skip
    rename_i i
    walk_at "ev"
    cases l with
    | none =>
      simp only [oi]
      walk_at "ev"
      cases m with
      | none => simp only [oi]; walk_at "ev"; rfl
      | some b => simp only [oi]; walk_at "ev"; simp only [wth, Bool.true_and]
    | some a =>
      simp only [oi]
      walk_at "ev"
      cases hd : decide (a ≤ i) with
      | false => walk_at "ev"; simp only [wth, hd, Bool.false_and]
      | true =>
        walk_at "ev"
        cases m with
        | none => simp only [oi]; walk_at "ev"; simp only [wth, hd, Bool.and_true]
        | some b => simp only [oi]; walk_at "ev"; simp only [wth, hd, Bool.true_and]
theorem r_x8 : x8 [a0, a1, a2, some x, a4, a5, some (.bl (isI x)), a7, a8, a9, a10, a11, a12] M = .ok (.bl (wth x (some 0) (some 3))) M := by
  unfold x8
  cases hi : isI x with
  | false => rw [wth_no hi]; walk_at "ev"
  | true =>
    cases x <;> first | cases hi | skip
    rename_i i
    walk_at "ev"
    show R.ok (Wv.bl (false ^^ ((0 : Int) == i || ((1 : Int) == i || ((2 : Int) == i || ((3 : Int) == i || false)))))) M = _
    rw [show wth (.int i) (some 0) (some 3) = (decide (0 ≤ i) && decide (i ≤ 3)) from rfl]
    congr 2
    rw [Bool.eq_iff_iff]
    simp
    omega
theorem c6 : (0 : Int) ≤ 6 ∧ (6 : Int) ≤ 1000000 ∧ (10 : Int).natAbs < 2 ^ 64 := by decide
theorem abs_in (i : Int) : decide ((if i < 0 then -i else i) ≤ 10 ^ Int.toNat 6) = wth (.int i) (some (-1000000)) (some 1000000) := by
  show _ = (decide (-1000000 ≤ i) && decide (i ≤ 1000000))
  rw [Bool.eq_iff_iff, show (10 : Int) ^ Int.toNat 6 = 1000000 from by decide]
  simp
  split <;> omega
theorem abs_out (i : Int) : decide (10 ^ Int.toNat 6 < (if i < 0 then -i else i)) = !wth (.int i) (some (-1000000)) (some 1000000) := by
  show _ = !(decide (-1000000 ≤ i) && decide (i ≤ 1000000))
  rw [Bool.eq_iff_iff, show (10 : Int) ^ Int.toNat 6 = 1000000 from by decide]
  simp
  split <;> omega
theorem r_t10 (h : ∃ t, tyOf M y = some t) : t10 [a0, a1, a2, a3, a4, a5, a6, a7, a8, a9, a10, some y, a12] M = .ok (cOk y) M := by
  obtain ⟨t, h⟩ := h
  unfold t10
  walk_at "ev"
  rw [r_law_is_integer h]
  cases hi : isI y with
  | false => rw [show cOk y = false from wth_no hi]; walk_at "ev"
  | true =>
    cases y <;> first | cases hi | skip
    rename_i i
    walk_at "ev"
    rw [if_pos c6]
    walk_at "ev"
    exact congrArg (fun b => R.ok b M) (abs_in i)
theorem r_t12 (h : ∃ t, tyOf M y = some t) : t12 [a0, a1, a2, a3, a4, a5, a6, a7, a8, a9, a10, some y, a12] M = .ok (!cOk y) M := by
  obtain ⟨t, h⟩ := h
  unfold t12
  walk_at "ev"
  rw [r_law_is_integer h]
  cases hi : isI y with
  | false => rw [show cOk y = false from wth_no hi]; walk_at "ev"
  | true =>
    cases y <;> first | cases hi | skip
    rename_i i
    walk_at "ev"
    rw [if_pos c6]
    walk_at "ev"
    exact congrArg (fun b => R.ok b M) (abs_out i)
end
theorem lc_filt {t : Mt} {e : Me} {T : Tg} {env : Ev} {M : Mem} {p : Wv → Bool} {g : Wv → Ev} (hg : ∀ w, T.set w env M = .ok (g w) M) (he : ∀ w, e (g w) M = .ok w M) : ∀ {ws acc : List Wv}, (∀ w ∈ ws, t (g w) M = .ok (p w) M) → acc.length + ws.length ≤ lim →
    lcW T t e env ws acc M = .ok (.lst (acc ++ ws.filter p)) M
  | [], acc, _, _ => by simp [lcW]
  | w :: ws, acc, h, hl => by
    simp only [List.length_cons] at hl
    rw [x_lc1, hg, noX_ok, kLc2_ok, h w List.mem_cons_self, noX_ok]
    cases q : p w with
    | false => rw [kLc3_f, lc_filt hg he (fun w hw => h w (List.mem_cons_of_mem _ hw)) (by omega), List.filter_cons_of_neg (by rw [q]; simp)]
    | true => rw [kLc3_t, he, noX_ok, kLc4_ok, if_pos (by omega), lc_filt hg he (fun w hw => h w (List.mem_cons_of_mem _ hw)) (by simp; omega), List.filter_cons_of_pos (by rw [q])]; simp
section
variable {M : Mem} {a0 a1 a2 a3 a4 a5 a6 a7 a8 a9 a10 a11 a12 : Option Wv} {x y v : Wv} {l m : Option Int}
theorem r_x10 (hx : ∃ t, tyOf M x = some t) (hy : ∃ t, tyOf M y = some t) : x10 [a0, a1, a2, some x, a4, a5, a6, a7, some y, a9, a10, a11, a12] M = .ok (.lst ([x, y].filter cOk)) M := by
  unfold x10
  walk_at "ev"
  rw [r_t10 hx]
  cases h1 : cOk x with
  | false =>
    walk_at "ev"
    rw [r_t10 hy]
    cases h2 : cOk y <;> (walk_at "ev"; simp [List.filter, h1, h2])
  | true =>
    walk_at "ev"
    rw [r_t10 hy]
    cases h2 : cOk y <;> (walk_at "ev"; simp [List.filter, h1, h2])
theorem x10_len (x y : Wv) : ((([x, y].filter cOk).length : Int) == 2) = cellB (.lst [x, y]) := by
  unfold cellB
  cases h1 : cOk x <;> cases h2 : cOk y <;> simp [List.filter, seqOf, h1, h2]
theorem r_x12 (h : ∃ t, tyOf M v = some t) (hn : nref v = true) (hx : ∀ xs, seqOf v = some xs → xs.length = 2 → ∀ w ∈ xs, (∃ t, tyOf M w = some t) ∧ cOk w = true) :
    x12 [a0, a1, a2, a3, a4, a5, a6, a7, a8, a9, a10, a11, some v] M = .ok (.bl (cellB v)) M := by
  obtain ⟨t, h⟩ := h
  have go : ∀ xs, (v = .lst xs ∨ v = .tup xs) → x12 [a0, a1, a2, a3, a4, a5, a6, a7, a8, a9, a10, a11, some v] M = .ok (.bl (cellB v)) M := by
    intro xs hv
    have e4 : cellB v = (decide (xs.length = 2) && xs.all cOk) := by rcases hv with rfl | rfl <;> rfl
    have hy := hx xs (by rcases hv with rfl | rfl <;> rfl)
    have e2 : [Ty.lst, Ty.tup].any t.sub = true := by rcases hv with rfl | rfl <;> (cases h; rfl)
    rw [e4]
    unfold x12
    rcases hv with rfl | rfl
    all_goals
      walk_at "ev"
      rw [zv_is M h, e2]
      walk_at "ev"
      rw [zv_eqi]
      by_cases h2 : xs.length = 2
      · rw [h2]
        rw [show (((2 : Nat) : Int) == 2) = true from rfl]
        have hy := hy h2
        walk_at "ev"
        rw [lc_filt (p := fun w => !cOk w) (g := fun w => [a0, a1, a2, a3, a4, a5, a6, a7, a8, a9, a10, some w, some _]) (fun w => rfl) (fun w => rfl) (fun w hw => r_t12 (hy w hw).1) (by rw [lim_is]; simp only [List.length_nil]; omega)]
        have e5 : (xs.filter fun w => !cOk w) = [] := List.filter_eq_nil_iff.mpr fun w hw => by rw [(hy w hw).2]; simp
        rw [List.nil_append, e5]
        walk_at "ev"
        rw [show eqW false (.lst []) (.lst []) M = .ok true M from rfl]
        walk_at "ev"
        rw [show xs.all cOk = true from List.all_eq_true.mpr fun w hw => (hy w hw).2]
        rfl
      · rw [show ((xs.length : Int) == 2) = false from by simp; omega]
        walk_at "ev"
        rw [decide_eq_false h2, Bool.false_and]
  cases v with
  | lst xs => exact go xs (.inl rfl)
  | tup xs => exact go xs (.inr rfl)
  | ref n => cases hn
  | rdl n => cases hn
  | adr n => cases hn
  | ty n => cases hn
  | _ =>
    unfold x12
    walk_at "ev"
    rw [zv_is M h]
    cases h
    walk_at "ev"
    rfl
end
theorem Vd.nref {v : Wv} (h : Vd v) : nref v = true := by cases h <;> rfl
theorem Vd.seq {v : Wv} (h : Vd v) (xs : List Wv) (e : seqOf v = some xs) : xs.length ≤ 2 ∧ ∀ w ∈ xs, ∃ i, w = .int i := by
  cases h <;> first | (cases e; done) | (cases e; simp)
def pows : Prop := True
theorem c40 : (0 : Int) ≤ 40 ∧ (40 : Int) ≤ 1000000 ∧ (10 : Int).natAbs < 2 ^ 64 := by decide
theorem pk1 (x : Wv) : pick' [0] [x] = [x] := rfl
theorem pk3 (x y z : Wv) : pick' [2, 1, 0] [z, y, x] = [x, y, z] := rfl
theorem if_true3 {α : Type} (a b : α) : (if True ∧ True ∧ True then a else b) = a := if_pos ⟨trivial, trivial, trivial⟩
section
variable {M : Mem} {a0 a1 a2 a3 a4 a5 a6 a7 a8 a9 a10 a11 a12 : Option Wv} {x y v : Wv} {l m : Option Int}
theorem r_y1 (h : ∃ t, tyOf M x = some t) : y1 [a0, a1, a2, some x, a4, a5, some (.bl (isI x)), a7, a8, a9, a10, a11, a12] M = .ok false M := by
  obtain ⟨t, h⟩ := h
  unfold y1
  walk_at "ev"
  rw [r_is_integer h]
  walk_at "ev"
  rw [pk1, List.length_cons, List.length_nil, if_pos ⟨trivial, trivial, rfl⟩, r_is_integer h]
  walk_at "ev"
  rw [zv_rep2]
  walk_at "ev"
  rw [zv_rep2]
  walk_at "ev"
  rw [zv_rr2]
theorem r_y2 (h : ∃ t, tyOf M x = some t) : y2 [a0, a1, a2, some x, some (oi l), some (oi m), a6, some (.bl (wth x l m)), a8, a9, a10, a11, a12] M = .ok false M := by
  obtain ⟨t, h⟩ := h
  unfold y2
  walk_at "ev"
  rw [r_is_within h]
  walk_at "ev"
  rw [pk3, List.length_cons, List.length_cons, List.length_cons, List.length_nil, if_pos ⟨trivial, trivial, rfl⟩, r_is_within h]
  walk_at "ev"
  rw [zv_rep2]
  walk_at "ev"
  rw [zv_rep2]
  walk_at "ev"
  rw [zv_rr2]
theorem r_y3 (h : ∃ t, tyOf M x = some t) : y3 [a0, a1, a2, some x, a4, a5, some (.bl (isI x)), a7, a8, a9, a10, a11, a12] M = .ok false M := by
  obtain ⟨t, h⟩ := h
  unfold y3
  walk_at "ev"
  rw [r_is_side h]
  walk_at "ev"
  rw [pk1, List.length_cons, List.length_nil, if_pos ⟨trivial, trivial, rfl⟩, r_is_side h]
  walk_at "ev"
  rw [zv_rep2]
  walk_at "ev"
  rw [r_x8]
  walk_at "ev"
  rw [zv_two]
  walk_at "ev"
  rw [zv_rep2]
  walk_at "ev"
  rw [zv_rr2]
theorem pair_cell (hx : ∃ t, tyOf M x = some t) (hy : ∃ t, tyOf M y = some t) : m_is_cell [.lst [x, y]] M = .ok (.bl (cellB (.lst [x, y]))) M ∧ m_is_cell [.tup [x, y]] M = .ok (.bl (cellB (.lst [x, y]))) M := by
  have go : ∀ w ∈ [x, y], ∃ t, tyOf M w = some t := by
    intro w hw
    simp only [List.mem_cons, List.not_mem_nil, or_false] at hw
    rcases hw with rfl | rfl
    · exact hx
    · exact hy
  exact ⟨r_is_cell ⟨_, rfl⟩ rfl (fun xs e => by cases e; exact ⟨by simp, go⟩), r_is_cell ⟨_, rfl⟩ rfl (fun xs e => by cases e; exact ⟨by simp, go⟩)⟩
theorem r_y4 (hx : ∃ t, tyOf M x = some t) (hy : ∃ t, tyOf M y = some t) : y4 [a0, a1, a2, some x, a4, a5, a6, a7, some y, a9, some (.lst ([x, y].filter cOk)), a11, a12] M = .ok false M := by
  unfold y4
  walk_at "ev"
  rw [(pair_cell hx hy).1]
  walk_at "ev"
  rw [(pair_cell hx hy).2]
  walk_at "ev"
  rw [zv_rep2]
  walk_at "ev"
  rw [zv_eqi, x10_len]
  walk_at "ev"
  rw [zv_two]
  walk_at "ev"
  rw [zv_rep2]
  walk_at "ev"
  rw [zv_rr2]
theorem r_y5 (h : m_is_cell [v] M = .ok (.bl (cellB v)) M) : y5 [a0, a1, a2, a3, a4, a5, a6, some (.bl (cellB v)), a8, a9, a10, a11, some v] M = .ok false M := by
  unfold y5
  walk_at "ev"
  rw [h]
  walk_at "ev"
  rw [zv_rep1]
  walk_at "ev"
  rw [zv_rep1]
  walk_at "ev"
  rw [zv_rr1]
theorem r_y0 : y0 [a0, a1, a2, some x, a4, a5, a6, a7, some y, some v, a10, a11, a12] M = .ok (.lst [.lst [x], .lst [x, y, v], x, .str "12", .dct [.inl 1, .inl 2] [.int 1, .int 1], .non, .tup [], .tup [.tup [.int 1, .int 2]]]) M := by
  unfold y0
  walk_at "ev"
end
end Law

namespace Law
open PySem PySem.Spec PyProof.Rows L2 Mi
local macro_rules | `(tactic| walk_at "ev") => `(tactic| (try simp only [noX_ok, x_var, x_c, x_dct, x_maN, x_oN, x_nil, x_retN, x_brk, x_cnt, x_yes, x_tnm, kBin2_ok, kBin1_ok, x_bin, kUn_ok, x_un, kCons2_ok, kCons1_ok, x_maC, kTup_ok, x_tup, kLst_ok, x_lst, kNew_ok, x_new, kCall_ok, x_call, kApp_ok, x_app, kAppK2_ok, kAppK1_ok, x_appK, kBl_ok, kCmp2_ok, kCmp1_ok, x_tcmp, x_cmp, kTe_ok, x_te, kTnot_ok, x_tnot, kTand_t, kTand_f, x_tand, kTor_t, kTor_f, x_tor, kAnd2_t, kAnd2_f, kAnd1_ok, x_and, kOr2_t, kOr2_f, kOr1_ok, x_or, kNot2_ok, kNot1_ok, x_not, kIf_t, kIf_f, x_if, kOS_ok, x_oS, kSl3_ok, kSl2_ok, kSl1_ok, x_sl, kSeq_ok, x_seq, x_an, x_ar, x_ab, x_ac, kSet_ok, x_set, kRet_ok, x_ret, kSif_t, kSif_f, x_sif, kExp_ok, x_exp, kPut4_ok, kPut3_ok, kPut2_ok, kPut1_ok, x_put, kPar2_ok, x_par2, kPar3_ok, x_par3, kFor_ok, x_for, kLc_ok, x_lc, kFn_ok, x_fn, kSeqI_ok, x_seqI, kRng1_ok, x_rng1, x_lc0, kLc4_ok, kLc3_t, kLc3_f, kLc2_ok, x_lc1, kFor3_n, kFor3_c, kFor3_b, kFor3_r, kFor2_ok, un1_x, asT_bl,
  evStart, wipeE, List.map_cons, List.map_nil, List.length_cons, List.length_nil, List.getElem?_cons_zero, List.getElem?_cons_succ, List.getElem?_nil, List.set_cons_zero, List.set_cons_succ, List.set_nil, List.replicate, List.cons_append, List.nil_append, Nat.reduceAdd, Nat.reduceSub, Nat.zero_add, Nat.reduceLeDiff,
  Bool.false_eq_true, if_true, if_false, reduceIte, Bool.not_true, Bool.not_false, lim_is, List.any_cons, List.any_nil, Ty.sub, Bool.or_false, Bool.or_true, Bool.false_or, Bool.true_or, Bool.false_xor, Bool.true_xor, Bool.xor_false, Bool.xor_true,
  zv_add, zv_sub, zv_neg, zv_mul, zv_div, zv_mod, zv_pow, zv_cmp, zv_isN, zv_isB, zv_int, zv_intb, zv_abs, zv_lenl, zv_lent, zv_ixl, isNonW]))
/-- one turn of the loop -/
theorem r_turn {cs : List Int} {t r : Int} (ht : 0 ≤ t) (ht2 : t ≤ 999900) (hc : cs.length ≤ 1000) (a0 a2 a3 a4 a5 a6 a7 a8 a9 a10 a11 a12 : Option Wv) :
    ∃ a2' a3' a4' a5' a6' a7' a8' a9' a10' a11' a12' t' r', t ≤ t' ∧ t' ≤ t + 12 ∧ xB [a0, some (.ref 0), a2, a3, a4, a5, a6, a7, a8, a9, a10, a11, a12] [pawO cs t r] = .ok (.nx [a0, some (.ref 0), a2', a3', a4', a5', a6', a7', a8', a9', a10', a11', a12']) [pawO cs t' r'] := by
  unfold xB
  obtain ⟨x, t1, r1, vx, h1, h2, h3⟩ := r_value (cs := cs) (t := t) (r := r) ht (by omega) hc
  walk_at "ev"
  rw [h3]
  repeat (walk_at "ev"; simp only [if_pos c6, if_pos c40])
  walk_at "ev"
  obtain ⟨lw, t2, r2, hl, h4, h5, h6⟩ := r_pick (cs := cs) (t := t1) (r := r1) (ws := [.non, .int 0, .int (-3), .int (10 ^ Int.toNat 6)]) (by simp) (by simp) (by omega) (by omega) hc
  obtain ⟨l, rfl⟩ : ∃ l, lw = oi l := by
    simp only [List.mem_cons, List.not_mem_nil, or_false] at hl
    rcases hl with rfl | rfl | rfl | rfl
    · exact ⟨none, rfl⟩
    all_goals exact ⟨some _, rfl⟩
  rw [h6]
  repeat (walk_at "ev"; simp only [if_pos c6, if_pos c40])
  walk_at "ev"
  clear hl h3 h6
  generalize hq : ((10 : Int) ^ Int.toNat 40) = q
  obtain ⟨mw, t3, r3, hm, h7, h8, h9⟩ := r_pick (cs := cs) (t := t2) (r := r2) (ws := [.non, .int 3, .int 0, .int (10 ^ Int.toNat 6), .int q]) (by simp) (by simp) (by omega) (by omega) hc
  obtain ⟨m, rfl⟩ : ∃ m, mw = oi m := by
    simp only [List.mem_cons, List.not_mem_nil, or_false] at hm
    rcases hm with rfl | rfl | rfl | rfl | rfl
    · exact ⟨none, rfl⟩
    all_goals exact ⟨some _, rfl⟩
  rw [h9]
  clear hm h9 hq
  have ex := vx.nice
  walk_at "ev"
  obtain ⟨tx, etx⟩ := ex [pawO cs t3 r3]
  rw [r_law_is_integer etx]
  walk_at "ev"
  rw [r_y1 (ex _)]
  walk_at "ev"
  rw [r_x7]
  walk_at "ev"
  rw [r_y2 (ex _)]
  walk_at "ev"
  rw [r_y3 (ex _)]
  walk_at "ev"
  obtain ⟨y, t4, r4, vy, g1, g2, g3⟩ := r_value (cs := cs) (t := t3) (r := r3) (by omega) (by omega) hc
  rw [g3]
  walk_at "ev"
  obtain ⟨z, t5, r5, vz, g4, g5, g6⟩ := r_value (cs := cs) (t := t4) (r := r4) (by omega) (by omega) hc
  rw [g6]
  walk_at "ev"
  have ey := vy.nice
  have ez := vz.nice
  rw [r_x10 (ex _) (ey _)]
  walk_at "ev"
  rw [r_y4 (ex _) (ey _)]
  walk_at "ev"
  rw [r_y0]
  walk_at "ev"
  obtain ⟨v, t6, r6, hv, g7, g8, g9⟩ := r_pick (cs := cs) (t := t5) (r := r5) (ws := [.lst [x], .lst [x, y, z], x, .str "12", .dct [.inl 1, .inl 2] [.int 1, .int 1], .non, .tup [], .tup [.tup [.int 1, .int 2]]]) (by simp) (by simp) (by omega) (by omega) hc
  rw [g9]
  walk_at "ev"
  have p1 : Nice v ∧ nref v = true ∧ ∀ xs, seqOf v = some xs → xs.length ≤ 3 ∧ ∀ w ∈ xs, Nice w ∧ (xs.length = 2 → cOk w = true) := by
    simp only [List.mem_cons, List.not_mem_nil, or_false] at hv
    have nc : ∀ i : Int, Nice (.int i) := fun i M => ⟨_, rfl⟩
    rcases hv with rfl | rfl | rfl | rfl | rfl | rfl | rfl | rfl
    · refine ⟨fun M => ⟨_, rfl⟩, rfl, fun xs e => ?_⟩
      cases e
      refine ⟨by simp, fun w hw => ?_⟩
      simp only [List.mem_cons, List.not_mem_nil, or_false] at hw
      subst hw
      exact ⟨ex, fun h => by simp at h⟩
    · refine ⟨fun M => ⟨_, rfl⟩, rfl, fun xs e => ?_⟩
      cases e
      refine ⟨by simp, fun w hw => ?_⟩
      simp only [List.mem_cons, List.not_mem_nil, or_false] at hw
      exact ⟨by rcases hw with rfl | rfl | rfl <;> assumption, fun h => by simp at h⟩
    · refine ⟨ex, vx.nref, fun xs e => ?_⟩
      cases vx <;> cases e
      all_goals refine ⟨by simp, fun w hw => ?_⟩
      all_goals simp only [List.mem_cons, List.not_mem_nil, or_false] at hw
      all_goals first | (subst hw; exact ⟨nc _, fun h => by simp at h⟩) | (rcases hw with rfl | rfl <;> exact ⟨nc _, fun h => rfl⟩)
    · exact ⟨fun M => ⟨_, rfl⟩, rfl, fun xs e => by cases e⟩
    · exact ⟨fun M => ⟨_, rfl⟩, rfl, fun xs e => by cases e⟩
    · exact ⟨fun M => ⟨_, rfl⟩, rfl, fun xs e => by cases e⟩
    · exact ⟨fun M => ⟨_, rfl⟩, rfl, fun xs e => by cases e; exact ⟨by simp, fun w hw => by cases hw⟩⟩
    · refine ⟨fun M => ⟨_, rfl⟩, rfl, fun xs e => ?_⟩
      cases e
      refine ⟨by simp, fun w hw => ?_⟩
      simp only [List.mem_cons, List.not_mem_nil, or_false] at hw
      subst hw
      exact ⟨fun M => ⟨_, rfl⟩, fun h => by simp at h⟩
  clear hv g9
  obtain ⟨p1, p2, p3⟩ := p1
  rw [r_x12 (p1 _) p2 fun xs e h2 w hw => ⟨((p3 xs e).2 w hw).1 _, ((p3 xs e).2 w hw).2 h2⟩]
  walk_at "ev"
  rw [r_y5 (r_is_cell (p1 _) p2 fun xs e => ⟨by have := (p3 xs e).1; omega, fun w hw => ((p3 xs e).2 w hw).1 _⟩)]
  walk_at "ev"
  exact ⟨_, _, _, _, _, _, _, _, _, _, _, t6, r6, by omega, by omega, rfl⟩
theorem r_turns : ∀ (ws : List Wv) {cs : List Int} {t r : Int} (a0 a2 a3 a4 a5 a6 a7 a8 a9 a10 a11 a12 : Option Wv), 0 ≤ t → t + 12 * ws.length ≤ 999900 → cs.length ≤ 1000 →
    ∃ env M, forW (.nm 2) xB ws [a0, some (.ref 0), a2, a3, a4, a5, a6, a7, a8, a9, a10, a11, a12] [pawO cs t r] = .ok (.nx env) M
  | [], _, _, _, _, _, _, _, _, _, _, _, _, _, _, _, _, _, _ => ⟨_, _, rfl⟩
  | w :: ws, cs, t, r, a0, a2, a3, a4, a5, a6, a7, a8, a9, a10, a11, a12, ht, ht2, hc => by
    simp only [List.length_cons] at ht2
    obtain ⟨b2, b3, b4, b5, b6, b7, b8, b9, b10, b11, b12, t', r', h1, h2, h3⟩ := r_turn (t := t) (r := r) ht (by omega) hc a0 (some w) a3 a4 a5 a6 a7 a8 a9 a10 a11 a12
    obtain ⟨env, M, h⟩ := r_turns ws (cs := cs) (t := t') (r := r') a0 b2 b3 b4 b5 b6 b7 b8 b9 b10 b11 b12 (by omega) (by omega) hc
    refine ⟨env, M, ?_⟩
    rw [x_for1, show Tg.set (.nm 2) w [a0, some (.ref 0), a2, a3, a4, a5, a6, a7, a8, a9, a10, a11, a12] [pawO cs t r] = .ok [a0, some (.ref 0), some w, a3, a4, a5, a6, a7, a8, a9, a10, a11, a12] [pawO cs t r] from rfl, kFor2_ok, h3, kFor3_n, h]
theorem holds (ns : List Int) : ∃ M, m_law [.rdl (ns.map Wv.int)] [] = .ok (.bl true) M := by
  rw [law_is]
  walk_at "ev"
  rw [r_paw]
  walk_at "ev"
  rw [if_pos (by decide)]
  walk_at "ev"
  obtain ⟨env, M, h⟩ := r_turns (rng 0 (Int.toNat 8)) (cs := ns.take 52) (t := 0) (r := 0) (some (.rdl (ns.map .int))) none none none none none none none none none none none (by decide) (by decide) (by rw [List.length_take]; omega)
  rw [h]
  walk_at "ev"
  exact ⟨M, rfl⟩
end Law

open PySem PySem.W PyProof.Rows in
set_option maxRecDepth 100000 in
set_option maxHeartbeats 0 in
theorem PySem.Challenge.cw_fourstones_k02_what_any_value_is_holds : PySem.Challenge.rw_fourstones_k02_what_any_value_is.Holds := by
  w_on; o_law; k_head; (case hw => w_witness2)
  k_fill
  refine Mi.walkG (l := PySem.Challenge.rw_fourstones_k02_what_any_value_is) (n := 63) (k := 4) (x := "_law_script") rfl (by decide) rfl ⟨rfl, by decide, by decide⟩ (fun w h Y => PySem.W.kIn_of Y) ?F
  case F =>
    intro w mg fa h KX G hmg
    refine' Law.all_mk KX G hmg ?a_law_is_integer ?l_law_is_integer ?d_law_is_integer ?k_law_is_integer ?a_law_paw ?l_law_paw ?d_law_paw ?k_law_paw ?a_law_tell ?l_law_tell ?d_law_tell ?k_law_tell ?a_law_pick ?l_law_pick ?d_law_pick ?k_law_pick ?a_law_value ?l_law_value ?d_law_value ?k_law_value ?a_is_integer ?l_is_integer ?d_is_integer ?k_is_integer ?a_is_within ?l_is_within ?d_is_within ?k_is_within ?a_is_cell ?l_is_cell ?d_is_cell ?k_is_cell ?a_is_side ?l_is_side ?d_is_side ?k_is_side ?a_law ?l_law ?d_law ?k_law ?c_MOST_PLACE ?n_abs ?n_all ?n_bool ?n_int ?n_isinstance ?n_len ?n_list ?n_range ?n_repr ?n_tuple (fun ns h1 h2 => Law.holds ns)
    (case a_law_is_integer => k_is)
    (case l_law_is_integer => k_is)
    (case d_law_is_integer => k_is)
    (case k_law_is_integer => k_is)
    (case a_law_paw => k_is)
    (case l_law_paw => k_is)
    (case d_law_paw => k_is)
    (case k_law_paw => k_is)
    (case a_law_tell => k_is)
    (case l_law_tell => k_is)
    (case d_law_tell => k_is)
    (case k_law_tell => k_is)
    (case a_law_pick => k_is)
    (case l_law_pick => k_is)
    (case d_law_pick => k_is)
    (case k_law_pick => k_is)
    (case a_law_value => k_is)
    (case l_law_value => k_is)
    (case d_law_value => k_is)
    (case k_law_value => k_is)
    (case a_is_integer => k_is)
    (case l_is_integer => k_is)
    (case d_is_integer => k_is)
    (case k_is_integer => k_is)
    (case a_is_within => k_is)
    (case l_is_within => k_is)
    (case d_is_within => k_is)
    (case k_is_within => k_is)
    (case a_is_cell => k_is)
    (case l_is_cell => k_is)
    (case d_is_cell => k_is)
    (case k_is_cell => k_is)
    (case a_is_side => k_is)
    (case l_is_side => k_is)
    (case d_is_side => k_is)
    (case k_is_side => k_is)
    (case a_law => k_is)
    (case l_law => k_is)
    (case d_law => k_is)
    (case k_law => k_is)
    (case c_MOST_PLACE => k_is)
    (case n_abs => k_is)
    (case n_all => k_is)
    (case n_bool => k_is)
    (case n_int => k_is)
    (case n_isinstance => k_is)
    (case n_len => k_is)
    (case n_list => k_is)
    (case n_range => k_is)
    (case n_repr => k_is)
    (case n_tuple => k_is)
